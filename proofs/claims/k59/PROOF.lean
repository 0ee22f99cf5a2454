import PyProof.Rows.All
import Wide.All
import OpenK.AllK
import Wide.FinOn
import HandS.ForMost
import HandS.ForExc
import HandS.Deep
import HandS.TupAny
import HandS.StrMore
import HandS.Zip
import HandS.Rev
import HandS.RevRange
import HandS.ExcInit
import HandS.Nested
import KE.KExcSuper
import KE.KExcIs
import HandS.ExcField
import HandS.ExcIs
import HandS.TryOnly
import HandS.IsInst
import PySem.Challenge.RW_oneofeach_k59_structures_written_and_rea
set_option Elab.async false
set_option linter.all false
set_option maxRecDepth 100000
namespace OE
open PySem PySem.Spec PyProof.Rows L2

/-! ### pure data -/
inductive D where
  | non | bl (b : Bool) | int (i : Int) | str (s : List Nat)
  | tup (xs : List D) | lst (xs : List D) | dct (ks vs : List D) | obj (n : Nat)
  | scr (ns : List Int)

abbrev mkS (s : List Nat) : Str := ⟨s.toArray⟩
abbrev LINE : Nat := 16777216
theorem line_eq : (sizeLine : Nat) = LINE := sizeLine_eq

/-- ghost: which lists and dicts are frozen; where the objects stand -/
structure Gh where
  F : Addr → Prop
  ι : List Addr
def Gh.add (G : Gh) (p : Addr) : Gh := { G with F := fun a => G.F a ∨ a = p }
def Gh.put (G : Gh) (p : Addr) : Gh := { G with ι := G.ι ++ [p] }

def keyK : D → Option Key
  | .int i => some (.inl i)
  | .str s => some (.inr (mkS s))
  | _ => none
def keysK : List D → Option (List Key)
  | [] => some []
  | d :: ds => match keyK d, keysK ds with | some k, some ks => some (k :: ks) | _, _ => none
/-- a key that is a flat tuple -/
def keyT : D → Option (List Key)
  | .tup ds => keysK ds
  | _ => none
def keysT : List D → Option (List (List Key))
  | [] => some []
  | d :: ds => match keyT d, keysT ds with | some k, some ks => some (k :: ks) | _, _ => none

section
variable (K : PySem.W.Frag) (G : Gh) (H : Hp)
mutual
def Is : D → V → Prop
  | .non => fun v => v = .non
  | .bl b => fun v => v = .bl b
  | .int i => fun v => v = .int i
  | .str s => fun v => v = .str (mkS s)
  | .tup ds => fun v => ∃ a xs, v = .ref a ∧ SqT K H a xs ∧ IsAll ds xs
  | .lst ds => fun v => ∃ a xs, v = .ref a ∧ G.F a ∧ H a = some (.lst xs) ∧ IsAll ds xs
  | .scr ns => fun v => ∃ a, v = .ref a ∧ ((∃ o, H a = some (.frz o (.lst (ns.map V.int)))) ∨ SqL K (fun _ => none) a (ns.map V.int))
  | .dct ks vs => fun v => ∃ a ws, v = .ref a ∧ G.F a ∧ IsAll vs ws ∧
      ((∃ kk, keysK ks = some kk ∧ kk.length = ws.length ∧ kk.Nodup ∧ H a = some (.dK (kk.zip ws))) ∨ (∃ kk, keysT ks = some kk ∧ kk.length = ws.length ∧ kk.Nodup ∧ H a = some (.dT (kk.zip ws))))
  | .obj n => fun v => ∃ a, v = .ref a ∧ G.ι[n]? = some a
def IsAll : List D → List V → Prop
  | [] => fun xs => xs = []
  | d :: ds => fun xs => ∃ x r, xs = x :: r ∧ Is d x ∧ IsAll ds r
end
end

section
variable {K : PySem.W.Frag} {G G' G1 G2 : Gh} {H H' H1 H2 : Hp}

theorem IsAll.length : ∀ {ds : List D} {xs : List V}, IsAll K G H ds xs → ds.length = xs.length
  | [], _, h => by simp only [IsAll] at h; subst h; rfl
  | d :: ds, xs, h => by
    simp only [IsAll] at h
    obtain ⟨x, r, rfl, _, h2⟩ := h
    simp [IsAll.length h2]
theorem IsAll.get : ∀ {ds : List D} {xs : List V} {i : Nat} {d : D}, IsAll K G H ds xs → ds[i]? = some d → ∃ x, xs[i]? = some x ∧ Is K G H d x
  | [], _, _, _, _, e => by simp at e
  | c :: ds, xs, i, d, h, e => by
    simp only [IsAll] at h
    obtain ⟨x, r, rfl, h1, h2⟩ := h
    cases i with
    | zero => simp at e; subst e; exact ⟨x, rfl, h1⟩
    | succ i => obtain ⟨y, q, z⟩ := IsAll.get h2 (by simpa using e); exact ⟨y, by simpa using q, z⟩
theorem IsAll.get' : ∀ {ds : List D} {xs : List V} {i : Nat} {x : V}, IsAll K G H ds xs → xs[i]? = some x → ∃ d, ds[i]? = some d ∧ Is K G H d x
  | [], _, _, _, h, e => by simp only [IsAll] at h; subst h; simp at e
  | c :: ds, xs, i, d, h, e => by
    simp only [IsAll] at h
    obtain ⟨x, r, rfl, h1, h2⟩ := h
    cases i with
    | zero => simp at e; subst e; exact ⟨c, rfl, h1⟩
    | succ i => obtain ⟨y, q, z⟩ := IsAll.get' h2 (by simpa using e); exact ⟨y, by simpa using q, z⟩
theorem IsAll.app : ∀ {ds es : List D} {xs ys : List V}, IsAll K G H ds xs → IsAll K G H es ys → IsAll K G H (ds ++ es) (xs ++ ys)
  | [], _, _, _, h, q => by simp only [IsAll] at h; subst h; exact q
  | c :: ds, es, xs, ys, h, q => by
    simp only [IsAll] at h
    obtain ⟨x, r, rfl, h1, h2⟩ := h
    exact ⟨x, r ++ ys, rfl, h1, IsAll.app h2 q⟩
theorem IsAll.nil : IsAll K G H [] [] := rfl
theorem IsAll.cons {d : D} {ds : List D} {x : V} {xs : List V} (h : Is K G H d x) (t : IsAll K G H ds xs) : IsAll K G H (d :: ds) (x :: xs) := ⟨x, xs, rfl, h, t⟩
theorem IsAll.one {d : D} {x : V} (h : Is K G H d x) : IsAll K G H [d] [x] := .cons h .nil
theorem IsAll.take : ∀ {ds : List D} {xs : List V} (n : Nat), IsAll K G H ds xs → IsAll K G H (ds.take n) (xs.take n)
  | [], _, _, h => by simp only [IsAll] at h; subst h; simp [IsAll]
  | c :: ds, xs, 0, h => by simp [IsAll]
  | c :: ds, xs, n + 1, h => by
    simp only [IsAll] at h
    obtain ⟨x, r, rfl, h1, h2⟩ := h
    exact ⟨x, r.take n, rfl, h1, IsAll.take n h2⟩
theorem IsAll.drop : ∀ {ds : List D} {xs : List V} (n : Nat), IsAll K G H ds xs → IsAll K G H (ds.drop n) (xs.drop n)
  | [], _, _, h => by simp only [IsAll] at h; subst h; simp [IsAll]
  | c :: ds, xs, 0, h => h
  | c :: ds, xs, n + 1, h => by
    simp only [IsAll] at h
    obtain ⟨x, r, rfl, h1, h2⟩ := h
    exact IsAll.drop n h2
theorem IsAll.rev : ∀ {ds : List D} {xs : List V}, IsAll K G H ds xs → IsAll K G H ds.reverse xs.reverse
  | [], _, h => by simp only [IsAll] at h; subst h; rfl
  | c :: ds, xs, h => by
    simp only [IsAll] at h
    obtain ⟨x, r, rfl, h1, h2⟩ := h
    rw [List.reverse_cons, List.reverse_cons]
    exact (IsAll.rev h2).app (.one h1)

/-- what is frozen stays -/
structure Kp (G : Gh) (H : Hp) (G' : Gh) (H' : Hp) : Prop where
  f : ∀ a, G.F a → G'.F a
  ι : ∀ (n : Nat) (a : Addr), G.ι[n]? = some a → G'.ι[n]? = some a
  o : ∀ a o, G.F a → H a = some o → H' a = some o
  t : ∀ a xs, H a = some (.tup xs) → H' a = some (.tup xs)
  z : ∀ a o u, H a = some (.frz o u) → H' a = some (.frz o u)
theorem Kp.refl : Kp G H G H := ⟨fun _ h => h, fun _ _ h => h, fun _ _ _ h => h, fun _ _ h => h, fun _ _ _ h => h⟩
theorem Kp.trans (a : Kp G H G1 H1) (b : Kp G1 H1 G2 H2) : Kp G H G2 H2 :=
  ⟨fun x h => b.f x (a.f x h), fun n x h => b.ι n x (a.ι n x h), fun x o h e => b.o x o (a.f x h) (a.o x o h e), fun x xs h => b.t x xs (a.t x xs h), fun x o u h => b.z x o u (a.z x o u h)⟩
theorem Kp.sqT {a : Addr} {xs : List V} (k : Kp G H G' H') (h : SqT K H a xs) : SqT K H' a xs := by
  rcases h with (h | ⟨o, h⟩) | h
  · exact .inl (.inl (k.t _ _ h))
  · exact .inl (.inr ⟨o, k.z _ _ _ h⟩)
  · exact .inr h

mutual
theorem Is.mono (k : Kp G H G' H') : ∀ {d : D} {v : V}, Is K G H d v → Is K G' H' d v
  | .non, _, h => h
  | .bl _, _, h => h
  | .int _, _, h => h
  | .str _, _, h => h
  | .tup ds, v, h => by
    simp only [Is] at h ⊢
    obtain ⟨a, xs, rfl, h1, h2⟩ := h
    exact ⟨a, xs, rfl, k.sqT h1, IsAll.mono k h2⟩
  | .lst ds, v, h => by
    simp only [Is] at h ⊢
    obtain ⟨a, xs, rfl, h1, h3, h2⟩ := h
    exact ⟨a, xs, rfl, k.f _ h1, k.o _ _ h1 h3, IsAll.mono k h2⟩
  | .scr ns, v, h => by
    simp only [Is] at h ⊢
    obtain ⟨a, rfl, h1⟩ := h
    refine ⟨a, rfl, ?_⟩
    rcases h1 with ⟨o, h1⟩ | h1
    · exact .inl ⟨o, k.z _ _ _ h1⟩
    · exact .inr h1
  | .dct ks vs, v, h => by
    simp only [Is] at h ⊢
    obtain ⟨a, ws, rfl, h1, h2, h3⟩ := h
    refine ⟨a, ws, rfl, k.f _ h1, IsAll.mono k h2, ?_⟩
    rcases h3 with ⟨kk, e, l, nd, h3⟩ | ⟨kk, e, l, nd, h3⟩
    · exact .inl ⟨kk, e, l, nd, k.o _ _ h1 h3⟩
    · exact .inr ⟨kk, e, l, nd, k.o _ _ h1 h3⟩
  | .obj n, v, h => by
    simp only [Is] at h ⊢
    obtain ⟨a, rfl, h1⟩ := h
    exact ⟨a, rfl, k.ι _ _ h1⟩
theorem IsAll.mono (k : Kp G H G' H') : ∀ {ds : List D} {xs : List V}, IsAll K G H ds xs → IsAll K G' H' ds xs
  | [], _, h => h
  | c :: ds, xs, h => by
    simp only [IsAll] at h ⊢
    obtain ⟨x, r, rfl, h1, h2⟩ := h
    exact ⟨x, r, rfl, Is.mono k h1, IsAll.mono k h2⟩
end

/-! ### the store of objects -/
inductive Ob where
  | ins (c : Str) (fs : List (Str × D))
  | box (d : D)
abbrev Store := List Ob

/-- an unfrozen list or dict at a -/
def Raw (K : PySem.W.Frag) (G : Gh) (H : Hp) (a : Addr) : D → Prop
  | .lst ds => ∃ xs, H a = some (.lst xs) ∧ IsAll K G H ds xs
  | .dct ks vs => ∃ ws, IsAll K G H vs ws ∧
      ((∃ kk, keysK ks = some kk ∧ kk.length = ws.length ∧ kk.Nodup ∧ H a = some (.dK (kk.zip ws))) ∨ (∃ kk, keysT ks = some kk ∧ kk.length = ws.length ∧ kk.Nodup ∧ H a = some (.dT (kk.zip ws))))
  | _ => False
/-- the fields of an instance -/
def FAll (K : PySem.W.Frag) (G : Gh) (H : Hp) : List (Str × D) → List (Str × V) → Prop
  | [], ws => ws = []
  | (f, d) :: r, ws => ∃ v r', ws = (f, v) :: r' ∧ Is K G H d v ∧ FAll K G H r r'
theorem FAll.mono (k : Kp G H G' H') : ∀ {fs : List (Str × D)} {ws : List (Str × V)}, FAll K G H fs ws → FAll K G' H' fs ws
  | [], _, h => h
  | (f, d) :: r, ws, h => by
    obtain ⟨v, r', rfl, h1, h2⟩ := h
    exact ⟨v, r', rfl, h1.mono k, FAll.mono k h2⟩
theorem FAll.length : ∀ {fs : List (Str × D)} {ws : List (Str × V)}, FAll K G H fs ws → fs.length = ws.length
  | [], _, h => by subst h; rfl
  | (f, d) :: r, ws, h => by
    obtain ⟨v, r', rfl, h1, h2⟩ := h
    simp [FAll.length h2]
theorem FAll.look {g : Str} : ∀ {fs : List (Str × D)} {ws : List (Str × V)} {d : D}, FAll K G H fs ws → fs.lookup g = some d → ∃ v, ws.lookup g = some v ∧ Is K G H d v
  | [], _, _, _, e => by simp at e
  | (f, d) :: r, ws, d', h, e => by
    obtain ⟨v, r', rfl, h1, h2⟩ := h
    rw [List.lookup_cons] at e ⊢
    cases q : g == f with
    | true => rw [q] at e; cases e; exact ⟨v, rfl, h1⟩
    | false => rw [q] at e; exact FAll.look h2 e
theorem FAll.none {g : Str} : ∀ {fs : List (Str × D)} {ws : List (Str × V)}, FAll K G H fs ws → fs.lookup g = none → ws.lookup g = none
  | [], _, h, _ => by subst h; rfl
  | (f, d) :: r, ws, h, e => by
    obtain ⟨v, r', rfl, h1, h2⟩ := h
    rw [List.lookup_cons] at e ⊢
    cases q : g == f with
    | true => rw [q] at e; cases e
    | false => rw [q] at e; exact FAll.none h2 e
def ObAt (K : PySem.W.Frag) (mg : Str → Option Value) (G : Gh) (H : Hp) (a : Addr) : Ob → Prop
  | .ins c fs => ∃ C dx ws, mg c = some (.ref C) ∧ H a = some (.ins C dx ws) ∧ FAll K G H fs ws
  | .box d => Raw K G H a d
structure Wf (K : PySem.W.Frag) (mg : Str → Option Value) (G : Gh) (Ω : Store) (H : Hp) : Prop where
  len : G.ι.length = Ω.length
  nd : G.ι.Nodup
  dj : ∀ a, G.F a → a ∉ G.ι
  tr : ∀ a, G.F a → ∃ o, H a = some o
  ob : ∀ (n : Nat) (a : Addr) (o : Ob), G.ι[n]? = some a → Ω[n]? = some o → ObAt K mg G H a o
variable {mg : Str → Option Value} {Ω Ω' : Store}

theorem Raw.mono {a : Addr} {d : D} (k : Kp G H G' H') (e : ∀ o, H a = some o → H' a = some o) (h : Raw K G H a d) : Raw K G' H' a d := by
  cases d with
  | lst ds => obtain ⟨xs, h1, h2⟩ := h; exact ⟨xs, e _ h1, h2.mono k⟩
  | dct ks vs =>
    obtain ⟨ws, h2, h3⟩ := h
    refine ⟨ws, h2.mono k, ?_⟩
    rcases h3 with ⟨kk, h⟩ | ⟨kk, h⟩
    · exact .inl ⟨kk, h.1, h.2.1, h.2.2.1, e _ h.2.2.2⟩
    · exact .inr ⟨kk, h.1, h.2.1, h.2.2.1, e _ h.2.2.2⟩
  | _ => exact h
theorem ObAt.mono {a : Addr} {o : Ob} (k : Kp G H G' H') (e : ∀ o, H a = some o → H' a = some o) (h : ObAt K mg G H a o) : ObAt K mg G' H' a o := by
  cases o with
  | ins c fs => obtain ⟨C, dx, vs, h1, h2, h3⟩ := h; exact ⟨C, dx, vs, h1, e _ h2, FAll.mono k h3⟩
  | box d => exact Raw.mono k e h
theorem Raw.mut {a : Addr} {d : D} (h : Raw K G H a d) : ∃ o, H a = some o ∧ Mut (some o) := by
  cases d with
  | lst ds => obtain ⟨xs, h1, h2⟩ := h; exact ⟨_, h1, trivial⟩
  | dct ks vs =>
    obtain ⟨ws, h2, h3⟩ := h
    rcases h3 with ⟨kk, h⟩ | ⟨kk, h⟩
    · exact ⟨_, h.2.2.2, trivial⟩
    · exact ⟨_, h.2.2.2, trivial⟩
  | _ => exact h.elim
theorem ObAt.mut {a : Addr} {o : Ob} (h : ObAt K mg G H a o) : ∃ o, H a = some o ∧ Mut (some o) := by
  cases o with
  | ins c fs => obtain ⟨C, dx, vs, h1, h2, h3⟩ := h; exact ⟨_, h2, trivial⟩
  | box d => exact Raw.mut h
theorem Wf.mut (w : Wf K mg G Ω H) {a : Addr} (h : a ∈ G.ι) : ∃ o, H a = some o ∧ Mut (some o) := by
  obtain ⟨n, hn⟩ := List.mem_iff_getElem?.mp h
  have hl : n < Ω.length := by rw [← w.len]; exact (List.getElem?_eq_some_iff.mp hn).1
  exact (w.ob n a _ hn (List.getElem?_eq_getElem hl)).mut

/-- what an expression or a call does to the heap -/
structure Evo (G : Gh) (H : Hp) (G' : Gh) (H' : Hp) : Prop where
  f : ∀ a, G.F a → G'.F a
  ι : ∃ more, G'.ι = G.ι ++ more
  k : ∀ a o, H a = some o → a ∉ G.ι → H' a = some o
  nf : ∀ a, G'.F a → G.F a ∨ H a = none
  nι : ∀ a, a ∈ G'.ι → a ∈ G.ι ∨ H a = none
  th : ∀ a, H a ≠ none → H' a ≠ none
theorem Evo.refl : Evo G H G H := ⟨fun _ h => h, ⟨[], by simp⟩, fun _ _ h _ => h, fun _ h => .inl h, fun _ h => .inl h, fun _ h => h⟩
theorem Evo.trans (a : Evo G H G1 H1) (b : Evo G1 H1 G2 H2) : Evo G H G2 H2 := by
  refine ⟨fun x h => b.f x (a.f x h), ?_, fun x o h n => ?_, fun x h => ?_, fun x h => ?_, fun x h => b.th x (a.th x h)⟩
  · obtain ⟨m, e⟩ := a.ι
    obtain ⟨m', e'⟩ := b.ι
    exact ⟨m ++ m', by rw [e', e, List.append_assoc]⟩
  · have h1 := a.k x o h n
    refine b.k x o h1 fun z => ?_
    rcases a.nι x z with z | z
    · exact n z
    · rw [z] at h; cases h
  · rcases b.nf x h with h | h
    · exact a.nf x h
    · refine .inr ?_
      cases e : H x with
      | none => rfl
      | some o => exact absurd h (a.th x (by rw [e]; simp))
  · rcases b.nι x h with h | h
    · exact a.nι x h
    · refine .inr ?_
      cases e : H x with
      | none => rfl
      | some o => exact absurd h (a.th x (by rw [e]; simp))
theorem Evo.kp (w : Wf K mg G Ω H) (e : Evo G H G' H') : Kp G H G' H' := by
  refine ⟨e.f, fun n a h => ?_, fun a o hf h => e.k a o h (w.dj a hf), fun a xs h => e.k a _ h fun z => ?_, fun a o u h => e.k a _ h fun z => ?_⟩
  · obtain ⟨m, q⟩ := e.ι
    rw [q, List.getElem?_append_left (List.getElem?_eq_some_iff.mp h).1]; exact h
  · obtain ⟨o, h1, h2⟩ := w.mut z
    rw [h] at h1; cases h1; exact h2
  · obtain ⟨o', h1, h2⟩ := w.mut z
    rw [h] at h1; cases h1; exact h2
end
end OE
namespace OE
open PySem PySem.Spec PyProof.Rows L2

/-! ### the small language -/
inductive BO where
  | add | sub | mul | fdiv | mod | pow | eq | ne | lt | le | gt | ge | is_ | isnt | in_ | nin
  deriving DecidableEq
/-- built-in functions -/
inductive Bi where
  | len | int_ | str_ | list_ | tuple_ | sum_ | all_ | any_ | isT (t : String) | isC (c : Str) | listR | tupR | max_ | min_ | sorted_
  deriving DecidableEq
/-- methods of built-in types -/
inductive Bm where
  | join | split | starts | starts2 | index
  deriving DecidableEq
inductive Tgt where
  | nm (i : Nat) | tp (is : List Nat)
  deriving DecidableEq
inductive IR where
  | lit (d : D) | var (i : Nat) | bor (i : Nat) | con (x : Str)
  | nil | cons (e r : IR) | tup (a : IR) | lst (a : IR)
  | op (o : BO) (a b : IR) | chain (o o' : BO) (a b c : IR) | and (a b : IR) | or (a b : IR) | not (a : IR) | neg (a : IR) | tru (a : IR) | ite (c a b : IR)
  | idx (a b : IR) | sl (a lo hi : IR) | nop
  | call (f : Str) (a : IR) | make (c : Str) (a : IR) | meth (o : IR) (c m : Str) (a : IR) | bi (b : Bi) (a : IR) | bm (m : Bm) (o a : IR)
  | fld (o : IR) (f : Str) | xf (i : Nat) (f : Str) | xis (i : Nat) (c : Str)
  | lc (t : Tgt) (own : List Nat) (it c e : IR) | lc2 (t : Tgt) (own : List Nat) (it c : IR) (t' : Tgt) (own' : List Nat) (it' c' e : IR)
  | iv (e : IR) | irng1 (a : IR) | irng2 (a b : IR) | ien (e : IR) | izip (a b : IR)
inductive IS where
  | pass | brk | cont | seq (a b : IS) | asg (t : Tgt) (e : IR) | own (i : Nat) (e : IR) | aug (i : Nat) (o : BO) (e : IR)
  | app (i : Nat) (e : IR) | ext (i : Nat) (e : IR)
  | fset (o : IR) (f : Str) (e : IR) | faug (o : IR) (f : Str) (op : BO) (e : IR)
  | ex (e : IR) | ret (e : IR) | retN | raise (c : Str) (e : IR) | ite (c : IR) (a b : IS) | wh (c : IR) (b : IS) | for_ (t : Tgt) (it : IR) (b : IS)
  | fz (is : List Nat) | try_ (b : IS) (c : Str) (i : Option Nat) (h : IS)

/-! ### values -/
mutual
def toPy : D → PyData
  | .non => .none
  | .bl b => .bool b
  | .int i => .int i
  | .str s => .str (mkS s)
  | .tup ds => .tuple (toPys ds)
  | .lst ds => .list (toPys ds)
  | .dct _ _ => .dict []
  | .obj _ => .dict []
  | .scr _ => .dict []
def toPys : List D → List PyData
  | [] => []
  | d :: ds => toPy d :: toPys ds
end
def eqOk (d : D) : Prop := SeqAt.shaped (toPy d) = true
def eqD (x y : D) : Bool := PyData.eqv (toPy x) (toPy y)

def intsOf : List D → Option (List Int)
  | [] => some []
  | .int i :: r => (intsOf r).map (i :: ·)
  | _ => none
def blsOf : List D → Option (List Bool)
  | [] => some []
  | .bl i :: r => (blsOf r).map (i :: ·)
  | _ => none
def strsOf : List D → Option (List (List Nat))
  | [] => some []
  | .str i :: r => (strsOf r).map (i :: ·)
  | _ => none
def isNon : D → Bool
  | .non => true
  | _ => false
/-- a two-place operation: what is asked, then what follows -/
def wBop : BO → D → D → (D → Prop) → Prop
  | .add, .int i, .int j, Q => Q (.int (i + j))
  | .add, .str s, .str t, Q => s.length + t.length ≤ LINE ∧ Q (.str (s ++ t))
  | .add, .tup s, .tup t, Q => s.length + t.length ≤ LINE ∧ Q (.tup (s ++ t))
  | .add, .lst s, .lst t, Q => s.length + t.length ≤ LINE ∧ Q (.lst (s ++ t))
  | .sub, .int i, .int j, Q => Q (.int (i - j))
  | .mul, .int i, .int j, Q => CMul i j ∧ Q (.int (i * j))
  | .fdiv, .int i, .int j, Q => CDiv i j ∧ Q (.int (i / j))
  | .mod, .int i, .int j, Q => 0 < j ∧ Q (.int (i % j))
  | .pow, .int i, .int j, Q => CPow i j ∧ Q (.int (i ^ j.toNat))
  | .eq, .int i, .int j, Q => Q (.bl (decide (i = j)))
  | .eq, .str i, .str j, Q => Q (.bl (decide (i = j)))
  | .eq, .bl i, .bl j, Q => Q (.bl (decide (i = j)))
  | .eq, x, y, Q => eqOk x ∧ eqOk y ∧ Q (.bl (eqD x y))
  | .ne, .int i, .int j, Q => Q (.bl (!decide (i = j)))
  | .ne, .str i, .str j, Q => Q (.bl (!decide (i = j)))
  | .ne, .bl i, .bl j, Q => Q (.bl (!decide (i = j)))
  | .ne, x, y, Q => eqOk x ∧ eqOk y ∧ Q (.bl (!eqD x y))
  | .lt, .int i, .int j, Q => Q (.bl (decide (i < j)))
  | .le, .int i, .int j, Q => Q (.bl (decide (i ≤ j)))
  | .gt, .int i, .int j, Q => Q (.bl (decide (j < i)))
  | .ge, .int i, .int j, Q => Q (.bl (decide (j ≤ i)))
  | .is_, x, .non, Q => Q (.bl (isNon x))
  | .isnt, x, .non, Q => Q (.bl (!isNon x))
  | .in_, .str [c], .str t, Q => Q (.bl (decide (c ∈ t)))
  | .nin, .str [c], .str t, Q => Q (.bl (!decide (c ∈ t)))
  | .in_, .str s, .tup ys, Q => ∃ ts, strsOf ys = some ts ∧ Q (.bl (decide (s ∈ ts)))
  | .nin, .str s, .tup ys, Q => ∃ ts, strsOf ys = some ts ∧ Q (.bl (!decide (s ∈ ts)))
  | .in_, .str s, .lst ys, Q => ∃ ts, strsOf ys = some ts ∧ Q (.bl (decide (s ∈ ts)))
  | .nin, .str s, .lst ys, Q => ∃ ts, strsOf ys = some ts ∧ Q (.bl (!decide (s ∈ ts)))
  | .in_, .int s, .tup ys, Q => ∃ ts, intsOf ys = some ts ∧ Q (.bl (decide (s ∈ ts)))
  | .nin, .int s, .tup ys, Q => ∃ ts, intsOf ys = some ts ∧ Q (.bl (!decide (s ∈ ts)))
  | .in_, .int s, .lst ys, Q => ∃ ts, intsOf ys = some ts ∧ Q (.bl (decide (s ∈ ts)))
  | .nin, .int s, .lst ys, Q => ∃ ts, intsOf ys = some ts ∧ Q (.bl (!decide (s ∈ ts)))
  | .in_, x, .lst ys, Q => eqOk x ∧ eqOk (.lst ys) ∧ Q (.bl (ys.any fun z => eqD z x))
  | .nin, x, .lst ys, Q => eqOk x ∧ eqOk (.lst ys) ∧ Q (.bl (!ys.any fun z => eqD z x))
  | _, _, _, _ => False
/-- name op= e -/
def wAug : BO → D → D → (D → Prop) → Prop
  | .add, .int i, .int j, Q => Q (.int (i + j))
  | .sub, .int i, .int j, Q => Q (.int (i - j))
  | .mul, .int i, .int j, Q => CMul i j ∧ Q (.int (i * j))
  | _, _, _, _ => False
/-- truth -/
def wTru : D → (Bool → Prop) → Prop
  | .bl b, Q => Q b
  | .int i, Q => Q (i != 0)
  | .str s, Q => s.length ≤ LINE ∧ Q (!s.isEmpty)
  | .tup s, Q => Q (!s.isEmpty)
  | .lst s, Q => Q (!s.isEmpty)
  | .non, Q => Q false
  | _, _ => False
def wIdx : D → D → (D → Prop) → Prop
  | .str s, .int i, Q => s.length ≤ LINE ∧ ∃ c, atI s i = some c ∧ Q (.str [c])
  | .tup s, .int i, Q => ∃ c, atI s i = some c ∧ Q c
  | .lst s, .int i, Q => ∃ c, atI s i = some c ∧ Q c
  | .scr s, .int i, Q => ∃ c, atI s i = some c ∧ Q (.int c)
  | _, _, _ => False
def isNop : IR → Bool
  | .nop => true
  | _ => false
/-- a bound of a slice -/
def partOf (c : IR) (d : D) : Option (Option Int) := if isNop c = true then some none else match d with | .int i => some (some i) | _ => none
def cutD {α : Type} (xs : List α) (lo hi : Option Int) : List α := (xs.drop (HT.sIx xs.length 0 lo)).take (HT.sIx xs.length xs.length hi - HT.sIx xs.length 0 lo)
def wSl (x : D) (lo hi : Option Int) (Q : D → Prop) : Prop := match x with
  | .str s => s.length ≤ LINE ∧ Q (.str (cutD s lo hi))
  | .tup s => Q (.tup (cutD s lo hi))
  | .lst s => Q (.lst (cutD s lo hi))
  | _ => False
/-- what a for walks -/
def items : D → Option (List D)
  | .lst ds => some ds
  | .tup ds => some ds
  | .str s => some (s.map fun c => .str [c])
  | .scr ns => some (ns.map .int)
  | _ => none
def rangeD (i j : Int) : List D := (List.range (j - i).toNat).map fun k => .int (i + (k : Nat))
def tyName : D → Option String
  | .non => some "NoneType" | .bl _ => some "bool" | .int _ => some "int" | .str _ => some "str" | .tup _ => some "tuple" | .lst _ => some "list" | _ => none
/-- is T or a class above -/
def isTy (t : String) : D → Option Bool
  | .obj _ => none
  | .dct _ _ => none
  | .scr _ => none
  | .bl _ => some (t == "bool" || t == "int")
  | d => some (tyName d == some t)
def wBi (Ω : Store) : Bi → List D → (D → Prop) → Prop
  | .len, [.str s], Q => s.length ≤ LINE ∧ Q (.int s.length)
  | .len, [.tup s], Q => Q (.int s.length)
  | .len, [.lst s], Q => Q (.int s.length)
  | .len, [.scr s], Q => Q (.int s.length)
  | .int_, [.int i], Q => Q (.int i)
  | .int_, [.str s], Q => NumText.AllDigits s ∧ s ≠ [] ∧ s.length ≤ 640 ∧ Q (.int (NumText.digitsVal s : Nat))
  | .str_, [.int i], Q => (0 ≤ i ∧ i < 10 ^ 200) ∧ Q (.str (TL.numL i.toNat))
  | .list_, [.lst s], Q => Q (.lst s)
  | .list_, [.tup s], Q => Q (.lst s)
  | .tuple_, [.lst s], Q => Q (.tup s)
  | .tuple_, [.tup s], Q => Q (.tup s)
  | .all_, [.lst s], Q => ∃ bs, blsOf s = some bs ∧ Q (.bl (bs.all id))
  | .any_, [.lst s], Q => ∃ bs, blsOf s = some bs ∧ Q (.bl (bs.any id))
  | .sum_, [.lst s], Q => ∃ bs, intsOf s = some bs ∧ Q (.int bs.sum)
  | .isT t, [d], Q => ∃ b, isTy t d = some b ∧ Q (.bl b)
  | .isC c, [.obj n], Q => (∃ fs, Ω[n]? = some (.ins c fs)) ∧ Q (.bl true)
  | .listR, [.int i, .int j], Q => (-(2 ^ 62) ≤ i ∧ i < 2 ^ 62 ∧ -(2 ^ 62) ≤ j ∧ j < 2 ^ 62 ∧ j - i ≤ LINE) ∧ Q (.lst (rangeD i j))
  | .tupR, [.int i, .int j], Q => (-(2 ^ 62) ≤ i ∧ i < 2 ^ 62 ∧ -(2 ^ 62) ≤ j ∧ j < 2 ^ 62 ∧ j - i ≤ LINE) ∧ Q (.tup (rangeD i j))
  | _, _, _ => False
/-- s cut at each c -/
def splitC (c : Nat) : List Nat → List (List Nat)
  | [] => [[]]
  | x :: xs => if x = c then [] :: splitC c xs else match splitC c xs with | h :: t => (x :: h) :: t | [] => [[x]]
def putD (f : Str) (v : D) : List (Str × D) → List (Str × D)
  | [] => [(f, v)]
  | (g, w) :: r => if g = f then (g, v) :: r else (g, w) :: putD f v r
def wBm : Bm → D → List D → (D → Prop) → Prop
  | .join, .str s, [.lst ds], Q => ∃ ts, strsOf ds = some ts ∧ (ts.map List.length).sum + ts.length * s.length ≤ LINE ∧ Q (.str (TL.joinL s ts))
  | .join, .str s, [.tup ds], Q => ∃ ts, strsOf ds = some ts ∧ (ts.map List.length).sum + ts.length * s.length ≤ LINE ∧ Q (.str (TL.joinL s ts))
  | .split, .str s, [.str [c]], Q => c < 256 ∧ s.length + 2 ≤ LINE ∧ Q (.lst ((splitC c s).map .str))
  | .starts, .str s, [.str t], Q => Q (.bl (t.isPrefixOf s))
  | .starts2, .str s, [.str t, .int i], Q => (0 ≤ i ∧ i ≤ s.length) ∧ Q (.bl (t.isPrefixOf (s.drop i.toNat)))
  | _, _, _, _ => False

/-! ### promises -/
abbrev QD := D → Store → Prop
abbrev XD := Str → D → Store → Prop
abbrev Spec := List D → Store → QD → XD → Prop
structure Ent where
  k : Nat
  n : Nat
  S : Spec
structure Tab where
  fn : Str → Option Ent
  me : Str → Str → Option Ent
  ini : Str → Option Ent
  con : Str → Option D
  exf : Str → Option Str
  xm : Str → D → Prop
  sub : Str → Str → Option Bool
  fl : Str → Str → Bool

inductive Sl where
  | un | val (d : D) | own (d : D) | exc (c : Str) (d : D)
abbrev Env := List Sl

def setN (ρ : Env) (i : Nat) (s : Sl) : Env := ρ.set i s
def wipeE (ρ : Env) : List Nat → Env
  | [] => ρ
  | v :: vs => (wipeE ρ vs).set v .un
def fzE (ρ : Env) : List Nat → Env
  | [] => ρ
  | v :: vs => (fzE ρ vs).set v (match (fzE ρ vs)[v]? with | some (.own d) => .val d | some s => s | none => .un)
/-- a target takes a value -/
def bindE : Tgt → D → Env → Option Env
  | .nm i, d, ρ => some (ρ.set i (.val d))
  | .tp is, .tup ds, ρ => if is.length = ds.length then some ((is.zip ds).foldl (fun ρ p => ρ.set p.1 (.val p.2)) ρ) else none
  | _, _, _ => none

/-- the items one after the other; acc: what is made so far -/
def wLoop (step : D → List D → Store → (List D → Store → Prop) → Prop) : List D → List D → Store → (List D → Store → Prop) → Prop
  | [], acc, Ω, Q => Q acc Ω
  | d :: ds, acc, Ω, Q => step d acc Ω fun acc' Ω' => wLoop step ds acc' Ω' Q

section
variable (T : Tab)
def wE : IR → (Str → D → Env → Store → Prop) → Env → Store → QD → Prop
  | .lit d, _, _, Ω, Q => Q d Ω
  | .var i, _, ρ, Ω, Q => ∃ d, ρ[i]? = some (.val d) ∧ Q d Ω
  | .bor i, _, ρ, Ω, Q => ∃ d, (ρ[i]? = some (.val d) ∨ ρ[i]? = some (.own d)) ∧ Q d Ω
  | .con x, _, _, Ω, Q => ∃ d, T.con x = some d ∧ Q d Ω
  | .nil, _, _, Ω, Q => Q (.tup []) Ω
  | .cons e r, E, ρ, Ω, Q => wE e E ρ Ω fun d Ω1 => wE r E ρ Ω1 fun ds Ω2 => ∃ l, ds = .tup l ∧ Q (.tup (d :: l)) Ω2
  | .tup a, E, ρ, Ω, Q => wE a E ρ Ω fun ds Ω1 => ∃ l, ds = .tup l ∧ l.length ≤ LINE ∧ Q (.tup l) Ω1
  | .lst a, E, ρ, Ω, Q => wE a E ρ Ω fun ds Ω1 => ∃ l, ds = .tup l ∧ l.length ≤ LINE ∧ Q (.lst l) Ω1
  | .op o a b, E, ρ, Ω, Q => wE a E ρ Ω fun x Ω1 => wE b E ρ Ω1 fun y Ω2 => wBop o x y fun z => Q z Ω2
  | .chain o o' a b c, E, ρ, Ω, Q => wE a E ρ Ω fun x Ω1 => wE b E ρ Ω1 fun y Ω2 => wBop o x y fun z => ∃ k, z = .bl k ∧ if k = true then wE c E ρ Ω2 fun w Ω3 => wBop o' y w fun u => Q u Ω3 else Q (.bl false) Ω2
  | .and a b, E, ρ, Ω, Q => wE a E ρ Ω fun x Ω1 => ∃ k, x = .bl k ∧ if k = true then wE b E ρ Ω1 Q else Q (.bl false) Ω1
  | .or a b, E, ρ, Ω, Q => wE a E ρ Ω fun x Ω1 => ∃ k, x = .bl k ∧ if k = true then Q (.bl true) Ω1 else wE b E ρ Ω1 Q
  | .not a, E, ρ, Ω, Q => wE a E ρ Ω fun x Ω1 => ∃ k, x = .bl k ∧ Q (.bl (!k)) Ω1
  | .neg a, E, ρ, Ω, Q => wE a E ρ Ω fun x Ω1 => ∃ k, x = .int k ∧ Q (.int (-k)) Ω1
  | .tru a, E, ρ, Ω, Q => wE a E ρ Ω fun x Ω1 => wTru x fun k => Q (.bl k) Ω1
  | .ite c a b, E, ρ, Ω, Q => wE c E ρ Ω fun x Ω1 => ∃ k, x = .bl k ∧ if k = true then wE a E ρ Ω1 Q else wE b E ρ Ω1 Q
  | .idx a b, E, ρ, Ω, Q => wE a E ρ Ω fun x Ω1 => wE b E ρ Ω1 fun y Ω2 => wIdx x y fun z => Q z Ω2
  | .sl a lo hi, E, ρ, Ω, Q => wE a E ρ Ω fun x Ω1 => wE lo E ρ Ω1 fun l Ω2 => ∃ i, partOf lo l = some i ∧ wE hi E ρ Ω2 fun h Ω3 => ∃ j, partOf hi h = some j ∧ wSl x i j fun z => Q z Ω3
  | .nop, _, _, Ω, Q => Q .non Ω
  | .call f a, E, ρ, Ω, Q => wE a E ρ Ω fun ds Ω1 => ∃ l en, ds = .tup l ∧ T.fn f = some en ∧ l.length = en.n ∧ en.S l Ω1 Q (fun x d Ω' => E x d ρ Ω')
  | .make c a, E, ρ, Ω, Q => wE a E ρ Ω fun ds Ω1 => ∃ l en, ds = .tup l ∧ T.ini c = some en ∧ l.length + 1 = en.n ∧ en.S (.obj Ω1.length :: l) (Ω1 ++ [.ins c []]) (fun d Ω2 => d = .non ∧ Q (.obj Ω1.length) Ω2) (fun x d Ω' => E x d ρ Ω')
  | .meth o c m a, E, ρ, Ω, Q => wE o E ρ Ω fun x Ω1 => ∃ n fs, x = .obj n ∧ Ω1[n]? = some (.ins c fs) ∧ fs.lookup m = none ∧ wE a E ρ Ω1 fun ds Ω2 => ∃ l en, ds = .tup l ∧ T.me c m = some en ∧ l.length + 1 = en.n ∧
      en.S (.obj n :: l) Ω2 Q (fun x d Ω' => E x d ρ Ω')
  | .bi b a, E, ρ, Ω, Q => wE a E ρ Ω fun ds Ω1 => ∃ l, ds = .tup l ∧ wBi Ω1 b l fun z => Q z Ω1
  | .bm m o a, E, ρ, Ω, Q => wE o E ρ Ω fun x Ω1 => (∃ s, x = .str s) ∧ wE a E ρ Ω1 fun ds Ω2 => ∃ l, ds = .tup l ∧ wBm m x l fun z => Q z Ω2
  | .fld o f, E, ρ, Ω, Q => wE o E ρ Ω fun x Ω1 => ∃ n c fs d, x = .obj n ∧ Ω1[n]? = some (.ins c fs) ∧ T.fl c f = true ∧ fs.lookup f = some d ∧ Q d Ω1
  | .xf i f, _, ρ, Ω, Q => ∃ c d, ρ[i]? = some (.exc c d) ∧ T.exf c = some f ∧ Q d Ω
  | .xis i c', _, ρ, Ω, Q => ∃ c d b, ρ[i]? = some (.exc c d) ∧ T.sub c c' = some b ∧ Q (.bl b) Ω
  | .lc t own it c e, E, ρ, Ω, Q => wE it E ρ Ω fun ds Ω1 => ∃ l, ds = .lst l ∧ wLoop (fun d acc Ω2 K => ∃ ρ', bindE t d (wipeE ρ own) = some ρ' ∧ wE c (fun _ _ _ _ => False) ρ' Ω2 fun x Ω3 => ∃ k, x = .bl k ∧
      if k = true then wE e (fun _ _ _ _ => False) ρ' Ω3 fun y Ω4 => acc.length < LINE ∧ K (acc ++ [y]) Ω4 else K acc Ω3) l [] Ω1 fun acc Ω5 => Q (.lst acc) Ω5
  | .lc2 t own it c t' own' it' c' e, E, ρ, Ω, Q => wE it E ρ Ω fun ds Ω1 => ∃ l, ds = .lst l ∧ wLoop (fun d acc Ω2 K => ∃ ρ', bindE t d (wipeE ρ own) = some ρ' ∧ wE c (fun _ _ _ _ => False) ρ' Ω2 fun x Ω3 => ∃ k, x = .bl k ∧
      if k = true then wE it' (fun _ _ _ _ => False) ρ' Ω3 fun ds' Ω4 => ∃ l', ds' = .lst l' ∧ wLoop (fun d acc Ω2 K => ∃ ρ'', bindE t' d (wipeE ρ' own') = some ρ'' ∧ wE c' (fun _ _ _ _ => False) ρ'' Ω2 fun x Ω3 => ∃ k, x = .bl k ∧
        if k = true then wE e (fun _ _ _ _ => False) ρ'' Ω3 fun y Ω4 => acc.length < LINE ∧ K (acc ++ [y]) Ω4 else K acc Ω3) l' acc Ω4 K
      else K acc Ω3) l [] Ω1 fun acc Ω5 => Q (.lst acc) Ω5
  | .iv e, E, ρ, Ω, Q => wE e E ρ Ω fun x Ω1 => ∃ l, items x = some l ∧ Q (.lst l) Ω1
  | .irng1 a, E, ρ, Ω, Q => wE a E ρ Ω fun x Ω1 => ∃ j, x = .int j ∧ (-(2 ^ 62) ≤ j ∧ j < 2 ^ 62) ∧ Q (.lst (rangeD 0 j)) Ω1
  | .irng2 a b, E, ρ, Ω, Q => wE a E ρ Ω fun x Ω1 => wE b E ρ Ω1 fun y Ω2 => ∃ i j, x = .int i ∧ y = .int j ∧ (-(2 ^ 62) ≤ i ∧ i < 2 ^ 62 ∧ -(2 ^ 62) ≤ j ∧ j < 2 ^ 62) ∧ Q (.lst (rangeD i j)) Ω2
  | .ien e, E, ρ, Ω, Q => wE e E ρ Ω fun x Ω1 => ∃ l, x = .lst l ∧ Q (.lst ((List.range l.length).zip l |>.map fun p => .tup [.int (p.1 : Nat), p.2])) Ω1
  | .izip a b, E, ρ, Ω, Q => wE a E ρ Ω fun x Ω1 => wE b E ρ Ω1 fun y Ω2 => ∃ l m, (x = .lst l ∧ y = .lst m ∨ x = .tup l ∧ y = .tup m) ∧ Q (.lst ((l.zip m).map fun p => .tup [p.1, p.2])) Ω2

/-- what is wanted behind a statement -/
structure En where
  nx : Env → Store → Prop
  rt : QD
  bk : Env → Store → Prop
  ct : Env → Store → Prop
  ex : Str → D → Env → Store → Prop

def wFor (step : D → Env → Store → (Env → Store → Prop) → Prop) : List D → Env → Store → (Env → Store → Prop) → Prop
  | [], ρ, Ω, Q => Q ρ Ω
  | d :: ds, ρ, Ω, Q => step d ρ Ω fun ρ' Ω' => wFor step ds ρ' Ω' Q

def exE (i : Option Nat) (c : Str) (d : D) (ρ : Env) : Env := match i with | some i => ρ.set i (.exc c d) | none => ρ
def unX : Sl → Sl
  | .exc _ _ => .un
  | s => s
def unE (i : Option Nat) (ρ : Env) : Env := (match i with | some i => ρ.set i .un | none => ρ).map unX
def unN (i : Option Nat) (N : En) : En := { N with nx := fun ρ Ω => N.nx (unE i ρ) Ω, bk := fun ρ Ω => N.bk (unE i ρ) Ω, ct := fun ρ Ω => N.ct (unE i ρ) Ω, ex := fun _ _ _ _ => False }
def wS : IS → Env → Store → En → Prop
  | .pass, ρ, Ω, N => N.nx ρ Ω
  | .brk, ρ, Ω, N => N.bk ρ Ω
  | .cont, ρ, Ω, N => N.ct ρ Ω
  | .seq a b, ρ, Ω, N => wS a ρ Ω { N with nx := fun ρ' Ω' => wS b ρ' Ω' N }
  | .asg t e, ρ, Ω, N => wE T e N.ex ρ Ω fun d Ω1 => ∃ ρ', bindE t d ρ = some ρ' ∧ N.nx ρ' Ω1
  | .own i e, ρ, Ω, N => wE T e N.ex ρ Ω fun d Ω1 => N.nx (ρ.set i (.own d)) Ω1
  | .aug i o e, ρ, Ω, N => ∃ x, ρ[i]? = some (.val x) ∧ wE T e N.ex ρ Ω fun d Ω1 => wAug o x d fun z => N.nx (ρ.set i (.val z)) Ω1
  | .app i e, ρ, Ω, N => ∃ l, ρ[i]? = some (.own (.lst l)) ∧ wE T e N.ex ρ Ω fun d Ω1 => l.length < LINE ∧ N.nx (ρ.set i (.own (.lst (l ++ [d])))) Ω1
  | .ext i e, ρ, Ω, N => ∃ l, ρ[i]? = some (.own (.lst l)) ∧ wE T e N.ex ρ Ω fun d Ω1 => ∃ m, d = .lst m ∧ l.length + m.length ≤ LINE ∧ N.nx (ρ.set i (.own (.lst (l ++ m)))) Ω1
  | .fset o f e, ρ, Ω, N => wE T e N.ex ρ Ω fun d Ω1 => wE T o N.ex ρ Ω1 fun x Ω2 => ∃ n c fs, x = .obj n ∧ Ω2[n]? = some (.ins c fs) ∧ T.fl c f = true ∧ fs.length < 1000 ∧ N.nx ρ (Ω2.set n (.ins c (putD f d fs)))
  | .faug o f op e, ρ, Ω, N => wE T o N.ex ρ Ω fun x Ω1 => ∃ n c fs y, x = .obj n ∧ Ω1[n]? = some (.ins c fs) ∧ T.fl c f = true ∧ fs.lookup f = some y ∧ wE T e N.ex ρ Ω1 fun d Ω2 => wAug op y d fun z =>
      ∃ fs', Ω2[n]? = some (.ins c fs') ∧ fs'.length < 1000 ∧ N.nx ρ (Ω2.set n (.ins c (putD f z fs')))
  | .ex e, ρ, Ω, N => wE T e N.ex ρ Ω fun _ Ω1 => N.nx ρ Ω1
  | .ret e, ρ, Ω, N => wE T e N.ex ρ Ω N.rt
  | .retN, _, Ω, N => N.rt .non Ω
  | .raise c e, ρ, Ω, N => wE T e N.ex ρ Ω fun d Ω1 => T.xm c d ∧ N.ex c d ρ Ω1
  | .ite c a b, ρ, Ω, N => wE T c N.ex ρ Ω fun x Ω1 => ∃ k, x = .bl k ∧ if k = true then wS a ρ Ω1 N else wS b ρ Ω1 N
  | .wh c b, ρ, Ω, N => ∃ W : Nat → Env → Store → Prop, (∃ m, W m ρ Ω) ∧ ∀ m ρ Ω, W m ρ Ω → wE T c N.ex ρ Ω fun x Ω1 => ∃ k, x = .bl k ∧
      if k = true then wS b ρ Ω1 { N with nx := fun ρ' Ω' => ∃ m', m' < m ∧ W m' ρ' Ω', ct := fun ρ' Ω' => ∃ m', m' < m ∧ W m' ρ' Ω', bk := N.nx } else N.nx ρ Ω1
  | .for_ t it b, ρ, Ω, N => wE T it N.ex ρ Ω fun ds Ω1 => ∃ l, ds = .lst l ∧ wFor (fun d ρ Ω K => ∃ ρ', bindE t d ρ = some ρ' ∧ wS b ρ' Ω { N with nx := K, ct := K, bk := N.nx }) l ρ Ω1 N.nx
  | .fz is, ρ, Ω, N => N.nx (fzE ρ is) Ω
  | .try_ b c i h, ρ, Ω, N => wS b ρ Ω { N with ex := fun x d ρ' Ω' => ∃ k, T.sub x c = some k ∧ (k = true → wS h (exE i x d ρ') Ω' (unN i N)) ∧ (k = false → N.ex x d ρ' Ω') }
end
end OE
namespace OE
open PySem PySem.Spec PyProof.Rows L2

/-- the base of a frame: ghost and heap at its entry, the exception in hand -/
structure Bs where
  G0 : Gh
  H0 : Hp
  xc : Option (Addr × Value × Option Addr)
  Gk : Gh
  Hk : Hp

section
variable {K : PySem.W.Frag} {mg : Str → Option Value} {T : Tab} {B : Bs} {G G' G1 G2 : Gh} {H H' H1 H2 : Hp} {Ω Ω' : Store} {σ σ' : L2.St} {ρ ρ' : Env}

def OwnD (K : PySem.W.Frag) (B : Bs) (G : Gh) (H : Hp) (a : Addr) (d : D) : Prop := ¬ G.F a ∧ a ∉ G.ι ∧ B.H0 a = none ∧ Raw K G H a d
def ExcRel (K : PySem.W.Frag) (mg : Str → Option Value) (T : Tab) (G : Gh) (H : Hp) (x : Str) (d : D) (cls : Value) (dx : Option Addr) : Prop :=
  ∃ C dd v fld, mg x = some (.ref C) ∧ cls = .ref C ∧ dx = some dd ∧ T.exf x = some fld ∧ H dd = some (.xd [(fld, v)]) ∧ Is K G H d v ∧ dd ∉ G.ι ∧ ¬ G.F dd
structure St (K : PySem.W.Frag) (mg : Str → Option Value) (T : Tab) (B : Bs) (σ : L2.St) (H : Hp) (ρ : Env) (Ω : Store) (G : Gh) : Prop where
  wf : Wf K mg G Ω H
  ev : Evo B.G0 B.H0 G H
  len : σ.length = ρ.length
  val : ∀ (i : Nat) (d : D), ρ[i]? = some (.val d) → ∃ v, σ[i]? = some (some v) ∧ Is K G H d v
  own : ∀ (i : Nat) (d : D), ρ[i]? = some (.own d) → ∃ a, σ[i]? = some (some (.ref a)) ∧ OwnD K B G H a d
  ap : ∀ (i j : Nat) (d e : D) (a : Addr), ρ[i]? = some (.own d) → ρ[j]? = some (.own e) → σ[i]? = some (some (.ref a)) → σ[j]? = some (some (.ref a)) → i = j
  exc : ∀ (i : Nat) (c : Str) (d : D), ρ[i]? = some (.exc c d) → ∃ a cls dx, B.xc = some (a, cls, dx) ∧ σ[i]? = some (some (.ref a)) ∧ ExcRel K mg T G H c d cls dx
  kp : Kp B.Gk B.Hk G H

theorem ExcRel.evo {x : Str} {d : D} {cls : Value} {dx : Option Addr} (w : Wf K mg G Ω H) (e : Evo G H G' H') (h : ExcRel K mg T G H x d cls dx) : ExcRel K mg T G' H' x d cls dx := by
  obtain ⟨C, dd, v, fld, h1, h2, h3, h4, h5, h6, h7, h8⟩ := h
  refine ⟨C, dd, v, fld, h1, h2, h3, h4, e.k _ _ h5 h7, h6.mono (e.kp w), fun z => ?_, fun z => ?_⟩
  · rcases e.nι _ z with z | z
    · exact h7 z
    · rw [z] at h5; cases h5
  · rcases e.nf _ z with z | z
    · exact h8 z
    · rw [z] at h5; cases h5
theorem Raw.there {a : Addr} {d : D} (h : Raw K G H a d) : H a ≠ none := by
  obtain ⟨o, e, _⟩ := h.mut
  rw [e]; simp
theorem OwnD.evo {a : Addr} {d : D} (w : Wf K mg G Ω H) (e : Evo G H G' H') (h : OwnD K B G H a d) : OwnD K B G' H' a d := by
  obtain ⟨h1, h2, h3, h4⟩ := h
  refine ⟨fun z => ?_, fun z => ?_, h3, h4.mono (e.kp w) fun o q => e.k _ _ q h2⟩
  · rcases e.nf _ z with z | z
    · exact h1 z
    · exact h4.there z
  · rcases e.nι _ z with z | z
    · exact h2 z
    · exact h4.there z
theorem St.evo (s : St K mg T B σ H ρ Ω G) (e : Evo G H G' H') (w : Wf K mg G' Ω' H') : St K mg T B σ H' ρ Ω' G' := by
  refine ⟨w, s.ev.trans e, s.len, fun i d h => ?_, fun i d h => ?_, s.ap, fun i c d h => ?_, s.kp.trans (e.kp s.wf)⟩
  · obtain ⟨v, h1, h2⟩ := s.val i d h
    exact ⟨v, h1, h2.mono (e.kp s.wf)⟩
  · obtain ⟨a, h1, h2⟩ := s.own i d h
    exact ⟨a, h1, h2.evo s.wf e⟩
  · obtain ⟨a, cls, dx, h1, h2, h3⟩ := s.exc i c d h
    exact ⟨a, cls, dx, h1, h2, h3.evo s.wf e⟩
/-- what was free at the entry's time and is tracked now -/
theorem St.new (s : St K mg T B σ H ρ Ω G) {p : Addr} (h : H p = none) : B.H0 p = none := by
  cases e : B.H0 p with
  | none => rfl
  | some o => exact absurd h (s.ev.th p (by rw [e]; simp))

theorem nd_ix {N : List Addr} (hN : N.Nodup) {i j : Nat} {x : Addr} (a : N[i]? = some x) (b : N[j]? = some x) : i = j := by
  obtain ⟨h1, e1⟩ := List.getElem?_eq_some_iff.mp a
  obtain ⟨h2, e2⟩ := List.getElem?_eq_some_iff.mp b
  exact (List.getElem_inj hN).mp (e1.trans e2.symm)
theorem pne {α : Type} {P : α → Prop} {a b : α} (h : P b) (n : ¬ P a) : b ≠ a := fun z => n (z ▸ h)
theorem pne' {α : Type} {P : α → Prop} {a b : α} (n : ¬ P b) (h : P a) : b ≠ a := fun z => n (z ▸ h)
theorem get_set {α : Type} {l : List α} {i j : Nat} {x y : α} (h : (l.set i x)[j]? = some y) : (j = i ∧ y = x) ∨ (j ≠ i ∧ l[j]? = some y) := by
  by_cases e : i = j
  · subst e
    by_cases hi : i < l.length
    · rw [List.getElem?_set_self hi] at h; cases h; exact .inl ⟨rfl, rfl⟩
    · rw [List.getElem?_eq_none (by simpa using hi)] at h; cases h
  · rw [List.getElem?_set_ne e] at h; exact .inr ⟨fun z => e z.symm, h⟩
theorem St.setv (s : St K mg T B σ H ρ Ω G) {i : Nat} {d : D} {v : V} (h : Is K G H d v) (hi : i < ρ.length) : St K mg T B (σ.set i (some v)) H (ρ.set i (.val d)) Ω G := by
  refine ⟨s.wf, s.ev, by simp [s.len], fun j e q => ?_, fun j e q => ?_, fun j l e f a q1 q2 q3 q4 => ?_, fun j c e q => ?_, s.kp⟩
  · rcases get_set q with ⟨rfl, z⟩ | ⟨n, q⟩
    · cases z; exact ⟨v, by rw [List.getElem?_set_self (by rw [s.len]; exact hi)], h⟩
    · obtain ⟨w, h1, h2⟩ := s.val j e q
      exact ⟨w, by rw [List.getElem?_set_ne (Ne.symm n)]; exact h1, h2⟩
  · rcases get_set q with ⟨rfl, z⟩ | ⟨n, q⟩
    · cases z
    · obtain ⟨w, h1, h2⟩ := s.own j e q
      exact ⟨w, by rw [List.getElem?_set_ne (Ne.symm n)]; exact h1, h2⟩
  · rcases get_set q1 with ⟨_, z⟩ | ⟨n1, q1⟩
    · cases z
    rcases get_set q2 with ⟨_, z⟩ | ⟨n2, q2⟩
    · cases z
    rw [List.getElem?_set_ne (Ne.symm n1)] at q3
    rw [List.getElem?_set_ne (Ne.symm n2)] at q4
    exact s.ap j l e f a q1 q2 q3 q4
  · rcases get_set q with ⟨rfl, z⟩ | ⟨n, q⟩
    · cases z
    · obtain ⟨a, cls, dx, h1, h2, h3⟩ := s.exc j c e q
      exact ⟨a, cls, dx, h1, by rw [List.getElem?_set_ne (Ne.symm n)]; exact h2, h3⟩
/-- slots are forgotten on both sides -/
theorem St.unv (s : St K mg T B σ H ρ Ω G) (i : Nat) (o : Option V) : St K mg T B (σ.set i o) H (ρ.set i .un) Ω G := by
  refine ⟨s.wf, s.ev, by simp [s.len], fun j e q => ?_, fun j e q => ?_, fun j l e f a q1 q2 q3 q4 => ?_, fun j c e q => ?_, s.kp⟩
  · rcases get_set q with ⟨rfl, z⟩ | ⟨n, q⟩
    · cases z
    · obtain ⟨w, h1, h2⟩ := s.val j e q
      exact ⟨w, by rw [List.getElem?_set_ne (Ne.symm n)]; exact h1, h2⟩
  · rcases get_set q with ⟨rfl, z⟩ | ⟨n, q⟩
    · cases z
    · obtain ⟨w, h1, h2⟩ := s.own j e q
      exact ⟨w, by rw [List.getElem?_set_ne (Ne.symm n)]; exact h1, h2⟩
  · rcases get_set q1 with ⟨_, z⟩ | ⟨n1, q1⟩
    · cases z
    rcases get_set q2 with ⟨_, z⟩ | ⟨n2, q2⟩
    · cases z
    rw [List.getElem?_set_ne (Ne.symm n1)] at q3
    rw [List.getElem?_set_ne (Ne.symm n2)] at q4
    exact s.ap j l e f a q1 q2 q3 q4
  · rcases get_set q with ⟨rfl, z⟩ | ⟨n, q⟩
    · cases z
    · obtain ⟨a, cls, dx, h1, h2, h3⟩ := s.exc j c e q
      exact ⟨a, cls, dx, h1, by rw [List.getElem?_set_ne (Ne.symm n)]; exact h2, h3⟩
theorem St.wipe (s : St K mg T B σ H ρ Ω G) : ∀ vs : List Nat, St K mg T B (L2.wipe σ vs) H (wipeE ρ vs) Ω G
  | [] => s
  | v :: vs => (St.wipe s vs).unv v none
theorem St.setx (s : St K mg T B σ H ρ Ω G) {i : Nat} {c : Str} {d : D} {a : Addr} {cls : Value} {dx : Option Addr} (hi : i < ρ.length) (hx : B.xc = some (a, cls, dx)) (h : ExcRel K mg T G H c d cls dx) :
    St K mg T B (σ.set i (some (.ref a))) H (ρ.set i (.exc c d)) Ω G := by
  refine ⟨s.wf, s.ev, by simp [s.len], fun j e q => ?_, fun j e q => ?_, fun j l e f a q1 q2 q3 q4 => ?_, fun j c e q => ?_, s.kp⟩
  · rcases get_set q with ⟨rfl, z⟩ | ⟨n, q⟩
    · cases z
    · obtain ⟨w, h1, h2⟩ := s.val j e q
      exact ⟨w, by rw [List.getElem?_set_ne (Ne.symm n)]; exact h1, h2⟩
  · rcases get_set q with ⟨rfl, z⟩ | ⟨n, q⟩
    · cases z
    · obtain ⟨w, h1, h2⟩ := s.own j e q
      exact ⟨w, by rw [List.getElem?_set_ne (Ne.symm n)]; exact h1, h2⟩
  · rcases get_set q1 with ⟨_, z⟩ | ⟨n1, q1⟩
    · cases z
    rcases get_set q2 with ⟨_, z⟩ | ⟨n2, q2⟩
    · cases z
    rw [List.getElem?_set_ne (Ne.symm n1)] at q3
    rw [List.getElem?_set_ne (Ne.symm n2)] at q4
    exact s.ap j l e f a q1 q2 q3 q4
  · rcases get_set q with ⟨rfl, z⟩ | ⟨n, q⟩
    · cases z
      exact ⟨a, cls, dx, hx, by rw [List.getElem?_set_self (by rw [s.len]; exact hi)], h⟩
    · obtain ⟨a, cls, dx, h1, h2, h3⟩ := s.exc j c e q
      exact ⟨a, cls, dx, h1, by rw [List.getElem?_set_ne (Ne.symm n)]; exact h2, h3⟩
/-- a new unfrozen list or dict is given to a slot -/
theorem St.seto (s : St K mg T B σ H ρ Ω G) {i : Nat} {d : D} {a : Addr} (h : OwnD K B G H a d) (hi : i < ρ.length) (hn : ∀ (j : Nat) (e : D), ρ[j]? = some (.own e) → σ[j]? ≠ some (some (.ref a))) :
    St K mg T B (σ.set i (some (.ref a))) H (ρ.set i (.own d)) Ω G := by
  refine ⟨s.wf, s.ev, by simp [s.len], fun j e q => ?_, fun j e q => ?_, fun j l e f b q1 q2 q3 q4 => ?_, fun j c e q => ?_, s.kp⟩
  · rcases get_set q with ⟨rfl, z⟩ | ⟨n, q⟩
    · cases z
    · obtain ⟨w, h1, h2⟩ := s.val j e q
      exact ⟨w, by rw [List.getElem?_set_ne (Ne.symm n)]; exact h1, h2⟩
  · rcases get_set q with ⟨rfl, z⟩ | ⟨n, q⟩
    · cases z; exact ⟨a, by rw [List.getElem?_set_self (by rw [s.len]; exact hi)], h⟩
    · obtain ⟨w, h1, h2⟩ := s.own j e q
      exact ⟨w, by rw [List.getElem?_set_ne (Ne.symm n)]; exact h1, h2⟩
  · rcases get_set q1 with ⟨rfl, z⟩ | ⟨n1, q1⟩
    · rcases get_set q2 with ⟨rfl, z⟩ | ⟨n2, q2⟩
      · rfl
      · rw [List.getElem?_set_self (by rw [s.len]; exact hi)] at q3
        rw [List.getElem?_set_ne (Ne.symm n2)] at q4
        cases q3
        exact absurd q4 (hn l f q2)
    · rcases get_set q2 with ⟨e2, z⟩ | ⟨n2, q2⟩
      · rw [e2, List.getElem?_set_self (by rw [s.len]; exact hi)] at q4
        rw [List.getElem?_set_ne (Ne.symm n1)] at q3
        cases q4
        exact absurd q3 (hn j e q1)
      · rw [List.getElem?_set_ne (Ne.symm n1)] at q3
        rw [List.getElem?_set_ne (Ne.symm n2)] at q4
        exact s.ap j l e f b q1 q2 q3 q4
  · rcases get_set q with ⟨rfl, z⟩ | ⟨n, q⟩
    · cases z
    · obtain ⟨b, cls, dx, h1, h2, h3⟩ := s.exc j c e q
      exact ⟨b, cls, dx, h1, by rw [List.getElem?_set_ne (Ne.symm n)]; exact h2, h3⟩

/-! ### a new object -/
theorem Evo.new {p : Addr} {o : HO} (h : H p = none) : Evo G H G (upd H p o) :=
  ⟨fun _ h => h, ⟨[], by simp⟩, fun a u e _ => by rw [upd_ne (ne_of_none e h)]; exact e, fun _ h => .inl h, fun _ h => .inl h, fun a e => by
    by_cases q : a = p
    · subst q; rw [upd_same]; simp
    · rw [upd_ne q]; exact e⟩
theorem Evo.newF {p : Addr} {o : HO} (h : H p = none) : Evo G H (G.add p) (upd H p o) := by
  have e := Evo.new (G := G) (o := o) h
  refine ⟨fun _ h => .inl h, e.ι, e.k, fun a q => ?_, e.nι, e.th⟩
  rcases q with q | rfl
  · exact .inl q
  · exact .inr h
theorem Wf.notF (w : Wf K mg G Ω H) {p : Addr} (h : H p = none) : ¬ G.F p := fun z => by
  obtain ⟨o, e⟩ := w.tr p z
  rw [h] at e; cases e
theorem Wf.notι (w : Wf K mg G Ω H) {p : Addr} (h : H p = none) : p ∉ G.ι := fun z => by
  obtain ⟨o, e, _⟩ := w.mut z
  rw [h] at e; cases e
theorem Wf.new (w : Wf K mg G Ω H) {p : Addr} {o : HO} (h : H p = none) : Wf K mg G Ω (upd H p o) := by
  have e := Evo.new (G := G) (o := o) h
  refine ⟨w.len, w.nd, w.dj, fun a f => ?_, fun n a b h1 h2 => ?_⟩
  · obtain ⟨u, q⟩ := w.tr a f
    exact ⟨u, by rw [upd_ne (ne_of_none q h)]; exact q⟩
  · refine (w.ob n a b h1 h2).mono (e.kp w) fun u q => ?_
    rw [upd_ne (ne_of_none q h)]; exact q
theorem Wf.addF (w : Wf K mg G Ω H) {p : Addr} (h : p ∉ G.ι) (t : H p ≠ none) : Wf K mg (G.add p) Ω H := by
  have k : Kp G H (G.add p) H := ⟨fun _ h => .inl h, fun _ _ h => h, fun _ _ _ h => h, fun _ _ h => h, fun _ _ _ h => h⟩
  refine ⟨w.len, w.nd, fun a f => ?_, fun a f => ?_, fun n a b h1 h2 => (w.ob n a b h1 h2).mono k fun _ q => q⟩
  · rcases f with f | rfl
    · exact w.dj a f
    · exact h
  · rcases f with f | rfl
    · exact w.tr a f
    · exact Option.ne_none_iff_exists'.mp t
theorem Wf.newF (w : Wf K mg G Ω H) {p : Addr} {o : HO} (h : H p = none) : Wf K mg (G.add p) Ω (upd H p o) := (w.new h).addF (w.notι h) (by rw [upd_same]; simp)
/-- a raw one is frozen -/
theorem Raw.is {a : Addr} {d : D} (h : Raw K G H a d) : Is K (G.add a) H d (.ref a) := by
  have k : Kp G H (G.add a) H := ⟨fun _ h => .inl h, fun _ _ h => h, fun _ _ _ h => h, fun _ _ h => h, fun _ _ _ h => h⟩
  cases d with
  | lst ds => obtain ⟨xs, h1, h2⟩ := h; simp only [Is]; exact ⟨a, xs, rfl, .inr rfl, h1, h2.mono k⟩
  | dct ks vs => obtain ⟨ws, h1, h2⟩ := h; simp only [Is]; exact ⟨a, ws, rfl, .inr rfl, h1.mono k, h2⟩
  | _ => exact h.elim
theorem St.fz (s : St K mg T B σ H ρ Ω G) {i : Nat} {d : D} (h : ρ[i]? = some (.own d)) : ∃ a, σ[i]? = some (some (.ref a)) ∧ St K mg T B σ H (ρ.set i (.val d)) Ω (G.add a) ∧ Kp G H (G.add a) H := by
  obtain ⟨a, h1, h2, h3, h4, h5⟩ := s.own i d h
  have k : Kp G H (G.add a) H := ⟨fun _ h => .inl h, fun _ _ h => h, fun _ _ _ h => h, fun _ _ h => h, fun _ _ _ h => h⟩
  have hi : i < ρ.length := (List.getElem?_eq_some_iff.mp h).1
  refine ⟨a, h1, ⟨s.wf.addF h3 h5.there, ⟨fun b f => .inl (s.ev.f b f), s.ev.ι, s.ev.k, fun b f => ?_, s.ev.nι, s.ev.th⟩, by simp [s.len], fun j e q => ?_, fun j e q => ?_, fun j l e f b q1 q2 q3 q4 => ?_, fun j c e q => ?_, s.kp.trans k⟩, k⟩
  · rcases f with f | rfl
    · exact s.ev.nf b f
    · exact .inr h4
  · rcases get_set q with ⟨rfl, z⟩ | ⟨n, q⟩
    · cases z; exact ⟨_, h1, h5.is⟩
    · obtain ⟨w, z1, z2⟩ := s.val j e q
      exact ⟨w, z1, z2.mono k⟩
  · rcases get_set q with ⟨rfl, z⟩ | ⟨n, q⟩
    · cases z
    · obtain ⟨b, z1, z2, z3, z4, z5⟩ := s.own j e q
      refine ⟨b, z1, fun f => ?_, z3, z4, z5.mono k fun _ q => q⟩
      rcases f with f | rfl
      · exact z2 f
      · exact n (s.ap j i e d b q h z1 h1)
  · rcases get_set q1 with ⟨_, z⟩ | ⟨n1, q1⟩
    · cases z
    rcases get_set q2 with ⟨_, z⟩ | ⟨n2, q2⟩
    · cases z
    exact s.ap j l e f b q1 q2 q3 q4
  · rcases get_set q with ⟨rfl, z⟩ | ⟨n, q⟩
    · cases z
    · obtain ⟨b, cls, dx, z1, z2, C, dd, v, fld, y1, y2, y3, y4, y5, y6, y7, y8⟩ := s.exc j c e q
      refine ⟨b, cls, dx, z1, z2, C, dd, v, fld, y1, y2, y3, y4, y5, y6.mono k, y7, fun f => ?_⟩
      rcases f with f | rfl
      · exact y8 f
      · obtain ⟨o, m1, m2⟩ := h5.mut
        rw [y5] at m1; cases m1; exact m2
/-- an unfrozen list or dict is changed -/
theorem St.wr (s : St K mg T B σ H ρ Ω G) {i : Nat} {d d' : D} {a : Addr} {o : HO} (h : ρ[i]? = some (.own d)) (ha : σ[i]? = some (some (.ref a))) (new : Kp G H G (upd H a o) → Raw K G (upd H a o) a d') :
    St K mg T B σ (upd H a o) (ρ.set i (.own d')) Ω G ∧ Kp G H G (upd H a o) := by
  obtain ⟨a', h1, h2, h3, h4, h5⟩ := s.own i d h
  rw [ha] at h1; cases h1
  have hi : i < ρ.length := (List.getElem?_eq_some_iff.mp h).1
  obtain ⟨o0, m1, m2⟩ := h5.mut
  have k : Kp G H G (upd H a o) := by
    refine ⟨fun _ h => h, fun _ _ h => h, fun b u f e => ?_, fun b xs e => ?_, fun b u v e => ?_⟩
    · rw [upd_ne (pne f h2)]; exact e
    · rw [upd_ne (fun z => by subst z; rw [e] at m1; cases m1; exact m2)]; exact e
    · rw [upd_ne (fun z => by subst z; rw [e] at m1; cases m1; exact m2)]; exact e
  refine ⟨⟨⟨s.wf.len, s.wf.nd, s.wf.dj, fun b f => ?_, fun n b u q1 q2 => ?_⟩, ⟨s.ev.f, s.ev.ι, fun b u e n => ?_, s.ev.nf, s.ev.nι, fun b e => ?_⟩, by simp [s.len], fun j e q => ?_, fun j e q => ?_, fun j l e f b q1 q2 q3 q4 => ?_, fun j c e q => ?_, s.kp.trans k⟩, k⟩
  · obtain ⟨u, q⟩ := s.wf.tr b f
    exact ⟨u, by rw [upd_ne (pne f h2)]; exact q⟩
  · refine (s.wf.ob n b u q1 q2).mono k fun w q => ?_
    rw [upd_ne (pne (P := fun z => z ∈ G.ι) (List.mem_of_getElem? q1) h3)]; exact q
  · rw [upd_ne (fun z => by subst z; rw [h4] at e; cases e)]; exact s.ev.k b u e n
  · by_cases z : b = a
    · subst z; rw [upd_same]; simp
    · rw [upd_ne z]; exact s.ev.th b e
  · rcases get_set q with ⟨rfl, z⟩ | ⟨n, q⟩
    · cases z
    · obtain ⟨w, z1, z2⟩ := s.val j e q
      exact ⟨w, z1, z2.mono k⟩
  · rcases get_set q with ⟨rfl, z⟩ | ⟨n, q⟩
    · cases z; exact ⟨a, ha, h2, h3, h4, new k⟩
    · obtain ⟨b, z1, z2, z3, z4, z5⟩ := s.own j e q
      refine ⟨b, z1, z2, z3, z4, z5.mono k fun w q' => ?_⟩
      rw [upd_ne (fun z => n (s.ap j i e d a q h (by rw [← z]; exact z1) ha))]; exact q'
  · have hj : ∃ e', ρ[j]? = some (.own e') := by
      rcases get_set q1 with ⟨rfl, z⟩ | ⟨n1, q1⟩
      · exact ⟨d, h⟩
      · exact ⟨e, q1⟩
    have hl : ∃ e', ρ[l]? = some (.own e') := by
      rcases get_set q2 with ⟨rfl, z⟩ | ⟨n1, q2⟩
      · exact ⟨d, h⟩
      · exact ⟨f, q2⟩
    obtain ⟨e1, hj⟩ := hj
    obtain ⟨e2, hl⟩ := hl
    exact s.ap j l e1 e2 b hj hl q3 q4
  · rcases get_set q with ⟨rfl, z⟩ | ⟨n, q⟩
    · cases z
    · obtain ⟨b, cls, dx, z1, z2, C, dd, v, fld, y1, y2, y3, y4, y5, y6, y7, y8⟩ := s.exc j c e q
      refine ⟨b, cls, dx, z1, z2, C, dd, v, fld, y1, y2, y3, y4, ?_, y6.mono k, y7, y8⟩
      rw [upd_ne (fun z => by subst z; rw [y5] at m1; cases m1; exact m2)]; exact y5
/-- an object of the store is changed -/
theorem Wf.wr (w : Wf K mg G Ω H) {n : Nat} {a : Addr} {o : HO} {b : Ob} (ha : G.ι[n]? = some a) (new : Kp G H G (upd H a o) → ObAt K mg G (upd H a o) a b) :
    Wf K mg G (Ω.set n b) (upd H a o) ∧ Evo G H G (upd H a o) := by
  have mem : a ∈ G.ι := List.mem_of_getElem? ha
  have ev : Evo G H G (upd H a o) := ⟨fun _ h => h, ⟨[], by simp⟩, fun x u e n => by rw [upd_ne (pne' (P := fun z => z ∈ G.ι) n mem)]; exact e, fun _ h => .inl h, fun _ h => .inl h, fun x e => by
    by_cases z : x = a
    · subst z; rw [upd_same]; simp
    · rw [upd_ne z]; exact e⟩
  have k := ev.kp w
  refine ⟨⟨by simp [w.len], w.nd, w.dj, fun x f => ?_, fun m x u q1 q2 => ?_⟩, ev⟩
  · obtain ⟨u, q⟩ := w.tr x f
    exact ⟨u, by rw [upd_ne (pne' (P := fun z => z ∈ G.ι) (w.dj x f) mem)]; exact q⟩
  · rcases get_set q2 with ⟨rfl, rfl⟩ | ⟨nm, q2⟩
    · rw [ha] at q1; cases q1; exact new k
    · refine (w.ob m x u q1 q2).mono k fun y q => ?_
      have : x ≠ a := fun z => by
        subst z
        exact nm (nd_ix w.nd q1 ha)
      rw [upd_ne this]; exact q
theorem FAll.put {f : Str} {d : D} {v : V} (h : Is K G H d v) : ∀ {fs : List (Str × D)} {ws : List (Str × V)}, FAll K G H fs ws → FAll K G H (putD f d fs) (putF f v ws)
  | [], ws, q => by subst q; exact ⟨v, [], rfl, h, rfl⟩
  | (g, e) :: r, ws, q => by
    obtain ⟨x, r', rfl, q1, q2⟩ := q
    by_cases z : g = f
    · simp only [putD, putF, z, if_true]
      exact ⟨v, r', rfl, h, q2⟩
    · simp only [putD, putF, if_neg z]
      exact ⟨x, putF f v r', rfl, q1, FAll.put h q2⟩
/-- a new object of the store -/
theorem Wf.make (w : Wf K mg G Ω H) {x dx C : Addr} {c : Str} (hc : mg c = some (.ref C)) (hx : H x = none) (hd : H dx = none) (ne : dx ≠ x) :
    Wf K mg (G.put x) (Ω ++ [.ins c []]) (upd (upd H dx (.own x)) x (.ins C dx [])) ∧ Evo G H (G.put x) (upd (upd H dx (.own x)) x (.ins C dx [])) := by
  have hx' : (upd H dx (.own x)) x = none := by rw [upd_ne ne.symm]; exact hx
  have e0 := (Evo.new (G := G) (o := .own x) hd).trans (Evo.new (o := .ins C dx []) hx')
  have ev : Evo G H (G.put x) (upd (upd H dx (.own x)) x (.ins C dx [])) := by
    refine ⟨e0.f, ⟨[x], rfl⟩, e0.k, e0.nf, fun a h => ?_, e0.th⟩
    rcases List.mem_append.mp h with h | h
    · exact .inl h
    · rw [List.mem_singleton.mp h]; exact .inr hx
  have k := ev.kp w
  refine ⟨⟨by simp [Gh.put, w.len], ?_, fun a f => ?_, fun a f => ?_, fun n a b q1 q2 => ?_⟩, ev⟩
  · rw [show (G.put x).ι = G.ι ++ [x] from rfl, List.nodup_append]
    exact ⟨w.nd, by simp, fun a h b h2 => by rw [List.mem_singleton.mp h2]; exact pne (P := fun z => z ∈ G.ι) h (w.notι hx)⟩
  · show a ∉ G.ι ++ [x]
    rw [List.mem_append, List.mem_singleton]
    rintro (h | rfl)
    · exact w.dj a f h
    · exact w.notF hx f
  · obtain ⟨u, q⟩ := w.tr a f
    exact ⟨u, ev.k a u q (w.dj a f)⟩
  · have q1' : (G.ι ++ [x])[n]? = some a := q1
    by_cases hn : n < G.ι.length
    · rw [List.getElem?_append_left hn] at q1'
      rw [List.getElem?_append_left (by rw [← w.len]; exact hn)] at q2
      have ha : a ∈ G.ι := List.mem_of_getElem? q1'
      refine (w.ob n a b q1' q2).mono k fun o q => ?_
      rw [upd_ne (ne_of_none q hx), upd_ne (ne_of_none q hd)]; exact q
    · have hl := (List.getElem?_eq_some_iff.mp q1').1
      rw [List.length_append, List.length_singleton] at hl
      have e : n = G.ι.length := by omega
      subst e
      rw [List.getElem?_append_right (Nat.le_refl _), Nat.sub_self] at q1'
      rw [w.len, List.getElem?_append_right (Nat.le_refl _), Nat.sub_self] at q2
      cases q1'; cases q2
      exact ⟨C, dx, [], hc, upd_same, rfl⟩
end
end OE
namespace OE
open PySem PySem.Spec PyProof.Rows L2

section
variable {K : PySem.W.Frag} {mg : Str → Option Value} {T : Tab} {B : Bs} {G G' G1 G2 : Gh} {H H' H1 H2 : Hp} {Ω Ω' : Store} {σ σ' : L2.St} {ρ ρ' : Env}
/-- a value that may be an unfrozen list (it is only read) -/
def BIs (K : PySem.W.Frag) (B : Bs) (G : Gh) (H : Hp) (d : D) (v : V) : Prop := Is K G H d v ∨ ∃ a, v = .ref a ∧ OwnD K B G H a d
theorem BIs.evo {d : D} {v : V} (w : Wf K mg G Ω H) (e : Evo G H G' H') (h : BIs K B G H d v) : BIs K B G' H' d v := by
  rcases h with h | ⟨a, rfl, h⟩
  · exact .inl (h.mono (e.kp w))
  · exact .inr ⟨a, rfl, h.evo w e⟩
theorem BIs.int {i : Int} {v : V} (h : BIs K B G H (.int i) v) : v = .int i := by
  rcases h with h | ⟨a, rfl, h⟩
  · simpa only [Is] using h
  · exact h.2.2.2.elim
theorem BIs.bl {i : Bool} {v : V} (h : BIs K B G H (.bl i) v) : v = .bl i := by
  rcases h with h | ⟨a, rfl, h⟩
  · simpa only [Is] using h
  · exact h.2.2.2.elim
theorem BIs.non {v : V} (h : BIs K B G H .non v) : v = .non := by
  rcases h with h | ⟨a, rfl, h⟩
  · simpa only [Is] using h
  · exact h.2.2.2.elim
theorem BIs.str {s : List Nat} {v : V} (h : BIs K B G H (.str s) v) : v = .str (mkS s) := by
  rcases h with h | ⟨a, rfl, h⟩
  · simpa only [Is] using h
  · exact h.2.2.2.elim
theorem BIs.obj {n : Nat} {v : V} (h : BIs K B G H (.obj n) v) : ∃ a, v = .ref a ∧ G.ι[n]? = some a := by
  rcases h with h | ⟨a, rfl, h⟩
  · simpa only [Is] using h
  · exact h.2.2.2.elim
theorem BIs.tup {ds : List D} {v : V} (h : BIs K B G H (.tup ds) v) : ∃ a xs, v = .ref a ∧ SqT K H a xs ∧ IsAll K G H ds xs := by
  rcases h with h | ⟨a, rfl, h⟩
  · simpa only [Is] using h
  · exact h.2.2.2.elim
theorem BIs.lst {ds : List D} {v : V} (h : BIs K B G H (.lst ds) v) : ∃ a xs, v = .ref a ∧ H a = some (.lst xs) ∧ IsAll K G H ds xs := by
  rcases h with h | ⟨a, rfl, h⟩
  · simp only [Is] at h; obtain ⟨a, xs, rfl, _, h1, h2⟩ := h; exact ⟨a, xs, rfl, h1, h2⟩
  · obtain ⟨xs, h1, h2⟩ := h.2.2.2; exact ⟨a, xs, rfl, h1, h2⟩
theorem BIs.scr {ns : List Int} {v : V} (h : BIs K B G H (.scr ns) v) : ∃ a, v = .ref a ∧ SqL K H a (ns.map V.int) := by
  rcases h with h | ⟨a, rfl, h⟩
  · simp only [Is] at h
    obtain ⟨a, rfl, h⟩ := h
    refine ⟨a, rfl, ?_⟩
    rcases h with ⟨o, h⟩ | h
    · exact .inl (.inr ⟨o, h⟩)
    · rcases h with (h | ⟨o, h⟩) | h
      · cases h
      · cases h
      · exact .inr h
  · exact h.2.2.2.elim

/-! ### data for == -/
mutual
theorem Is.dp : ∀ {d : D} {v : V}, (toPy d).canLay0 = true → Is K G H d v → Dp K H v (toPy d)
  | .non, v, _, h => by simp only [Is] at h; subst h; exact .non
  | .bl b, v, _, h => by simp only [Is] at h; subst h; exact .bl b
  | .int b, v, _, h => by simp only [Is] at h; subst h; exact .int b
  | .str b, v, _, h => by simp only [Is] at h; subst h; exact .str _
  | .tup ds, v, c, h => by
    simp only [Is] at h
    obtain ⟨a, xs, rfl, h1, h2⟩ := h
    exact .tup h1 (IsAll.dp (by simpa [toPy, PyData.canLay0] using c) h2)
  | .lst ds, v, c, h => by
    simp only [Is] at h
    obtain ⟨a, xs, rfl, _, h1, h2⟩ := h
    exact .lst (SqL.of h1) (IsAll.dp (by simpa [toPy, PyData.canLay0] using c) h2)
  | .dct _ _, _, c, _ => by simp [toPy, PyData.canLay0] at c
  | .obj _, _, c, _ => by simp [toPy, PyData.canLay0] at c
  | .scr _, _, c, _ => by simp [toPy, PyData.canLay0] at c
theorem IsAll.dp : ∀ {ds : List D} {xs : List V}, PyData.canLayAll0 (toPys ds) = true → IsAll K G H ds xs → DpAll K H xs (toPys ds)
  | [], _, _, h => by simp only [IsAll] at h; subst h; exact .nil
  | d :: ds, _, c, h => by
    simp only [IsAll] at h
    obtain ⟨x, r, rfl, h1, h2⟩ := h
    have c' : (toPy d).canLay0 = true ∧ PyData.canLayAll0 (toPys ds) = true := by simpa [toPys, PyData.canLayAll0] using c
    exact .cons (Is.dp c'.1 h1) (IsAll.dp c'.2 h2)
end
theorem BIs.dp {d : D} {v : V} (c : eqOk d) (h : BIs K B G H d v) : Dp K H v (toPy d) := by
  have c' := SeqAt.canLay_of_shaped c
  rcases h with h | ⟨a, rfl, h⟩
  · exact h.dp c'
  · cases d with
    | lst ds =>
      obtain ⟨xs, h1, h2⟩ := h.2.2.2
      exact .lst (SqL.of h1) (IsAll.dp (by simpa [toPy, PyData.canLay0] using c') h2)
    | dct ks vs => simp [toPy, PyData.canLay0] at c'
    | _ => exact h.2.2.2.elim
theorem toPys_any (x : D) : ∀ ys : List D, (toPys ys).any (fun z => PyData.eqv z (toPy x)) = ys.any fun z => eqD z x
  | [] => rfl
  | y :: ys => by simp only [toPys, List.any_cons, toPys_any x ys, eqD]
theorem strs_vals : ∀ {ds : List D} {ts : List (List Nat)} {xs : List V}, strsOf ds = some ts → IsAll K G H ds xs → xs = ts.map fun t => V.str (mkS t)
  | [], _, _, e, h => by simp only [strsOf, Option.some.injEq] at e; subst e; simp only [IsAll] at h; subst h; rfl
  | .str i :: r, ts, xs, e, h => by
    simp only [strsOf, Option.map_eq_some_iff] at e
    obtain ⟨u, e, rfl⟩ := e
    simp only [IsAll] at h
    obtain ⟨x, r', rfl, h1, h2⟩ := h
    simp only [Is] at h1
    rw [List.map_cons, h1, strs_vals e h2]
  | .non :: _, _, _, e, _ | .bl _ :: _, _, _, e, _ | .int _ :: _, _, _, e, _ | .tup _ :: _, _, _, e, _ | .lst _ :: _, _, _, e, _ | .dct _ _ :: _, _, _, e, _ | .obj _ :: _, _, _, e, _ | .scr _ :: _, _, _, e, _ => by simp [strsOf] at e
theorem ints_vals : ∀ {ds : List D} {ts : List Int} {xs : List V}, intsOf ds = some ts → IsAll K G H ds xs → xs = ts.map V.int
  | [], _, _, e, h => by simp only [intsOf, Option.some.injEq] at e; subst e; simp only [IsAll] at h; subst h; rfl
  | .int i :: r, ts, xs, e, h => by
    simp only [intsOf, Option.map_eq_some_iff] at e
    obtain ⟨u, e, rfl⟩ := e
    simp only [IsAll] at h
    obtain ⟨x, r', rfl, h1, h2⟩ := h
    simp only [Is] at h1
    rw [List.map_cons, h1, ints_vals e h2]
  | .non :: _, _, _, e, _ | .bl _ :: _, _, _, e, _ | .str _ :: _, _, _, e, _ | .tup _ :: _, _, _, e, _ | .lst _ :: _, _, _, e, _ | .dct _ _ :: _, _, _, e, _ | .obj _ :: _, _, _, e, _ | .scr _ :: _, _, _, e, _ => by simp [intsOf] at e
theorem bls_vals : ∀ {ds : List D} {ts : List Bool} {xs : List V}, blsOf ds = some ts → IsAll K G H ds xs → xs = ts.map V.bl
  | [], _, _, e, h => by simp only [blsOf, Option.some.injEq] at e; subst e; simp only [IsAll] at h; subst h; rfl
  | .bl i :: r, ts, xs, e, h => by
    simp only [blsOf, Option.map_eq_some_iff] at e
    obtain ⟨u, e, rfl⟩ := e
    simp only [IsAll] at h
    obtain ⟨x, r', rfl, h1, h2⟩ := h
    simp only [Is] at h1
    rw [List.map_cons, h1, bls_vals e h2]
  | .non :: _, _, _, e, _ | .int _ :: _, _, _, e, _ | .str _ :: _, _, _, e, _ | .tup _ :: _, _, _, e, _ | .lst _ :: _, _, _, e, _ | .dct _ _ :: _, _, _, e, _ | .obj _ :: _, _, _, e, _ | .scr _ :: _, _, _, e, _ => by simp [blsOf] at e
theorem mkS_inj {s t : List Nat} : mkS s = mkS t ↔ s = t := by simp [mkS]
theorem inV_strs (s : List Nat) (ts : List (List Nat)) : inV (.str (mkS s)) (ts.map fun t => V.str (mkS t)) = decide (s ∈ ts) := by
  induction ts with
  | nil => rfl
  | cons t ts ih =>
    have ih' : (ts.map fun t => V.str (mkS t)).any (fun y => eqV y (.str (mkS s))) = decide (s ∈ ts) := ih
    unfold inV
    rw [List.map_cons, List.any_cons, ih']
    have : eqV (.str (mkS t)) (.str (mkS s)) = decide (s = t) := by
      show (mkS t == mkS s) = _
      rw [Bool.eq_iff_iff, beq_iff_eq, decide_eq_true_iff, mkS_inj]
      exact eq_comm
    rw [this, Bool.eq_iff_iff]
    simp
theorem inV_ints (s : Int) (ts : List Int) : inV (.int s) (ts.map V.int) = decide (s ∈ ts) := by
  induction ts with
  | nil => rfl
  | cons t ts ih =>
    have ih' : (ts.map V.int).any (fun y => eqV y (.int s)) = decide (s ∈ ts) := ih
    unfold inV
    rw [List.map_cons, List.any_cons, ih']
    have : eqV (.int t) (.int s) = decide (s = t) := by
      show (t == s) = _
      rw [Bool.eq_iff_iff, beq_iff_eq, decide_eq_true_iff]
      exact eq_comm
    rw [this, Bool.eq_iff_iff]
    simp
theorem flat_strs (ts : List (List Nat)) : (ts.map fun t => V.str (mkS t)).all flatV = true := by simp [flatV]
theorem flat_ints (ts : List Int) : (ts.map V.int).all flatV = true := by simp [flatV]
end

/-! ### operators by data -/
def rOp (X : Cx) (B : Bs) (o : BO) : R2 := fun v u H Q => ∃ x y G Ω Qd, Wf X.K X.mg G Ω H ∧ BIs X.K B G H x v ∧ BIs X.K B G H y u ∧ wBop o x y Qd ∧
  ∀ z G' H' v', Qd z → Evo G H G' H' → Wf X.K X.mg G' Ω H' → Is X.K G' H' z v' → Q v' H'
def fOf : BO → Value → Value → Sem Value
  | .add => binaryOp .Add | .sub => binaryOp .Sub | .mul => binaryOp .Mult | .fdiv => binaryOp .FloorDiv | .mod => binaryOp .Mod | .pow => binaryOp .Pow
  | .eq => compareOp .Eq | .ne => compareOp .NotEq | .lt => compareOp .Lt | .le => compareOp .LtE | .gt => compareOp .Gt | .ge => compareOp .GtE
  | .is_ => compareOp .Is | .isnt => compareOp .IsNot | .in_ => compareOp .In | .nin => compareOp .NotIn
section
variable {X : Cx} {B : Bs}
theorem tup_alloc {G : Gh} {H : Hp} {Ω : Store} {ds : List D} {xs : List V} {p : Addr} (w : Wf X.K X.mg G Ω H) (h : IsAll X.K G H ds xs) (hp : H p = none) :
    Evo G H G (upd H p (.tup xs)) ∧ Wf X.K X.mg G Ω (upd H p (.tup xs)) ∧ Is X.K G (upd H p (.tup xs)) (.tup ds) (.ref p) := by
  have e := Evo.new (G := G) (o := .tup xs) hp
  refine ⟨e, w.new hp, ?_⟩
  simp only [Is]
  exact ⟨p, xs, rfl, SqT.of upd_same, h.mono (e.kp w)⟩
theorem lst_alloc {G : Gh} {H : Hp} {Ω : Store} {ds : List D} {xs : List V} {p : Addr} (w : Wf X.K X.mg G Ω H) (h : IsAll X.K G H ds xs) (hp : H p = none) :
    Evo G H (G.add p) (upd H p (.lst xs)) ∧ Wf X.K X.mg (G.add p) Ω (upd H p (.lst xs)) ∧ Is X.K (G.add p) (upd H p (.lst xs)) (.lst ds) (.ref p) := by
  have e := Evo.newF (G := G) (o := .lst xs) hp
  refine ⟨e, w.newF hp, ?_⟩
  simp only [Is]
  exact ⟨p, xs, rfl, .inr rfl, upd_same, h.mono (e.kp w)⟩
theorem raw_alloc {G : Gh} {H : Hp} {Ω : Store} {ds : List D} {xs : List V} {p : Addr} (w : Wf X.K X.mg G Ω H) (h : IsAll X.K G H ds xs) (hp : H p = none) :
    Evo G H G (upd H p (.lst xs)) ∧ Wf X.K X.mg G Ω (upd H p (.lst xs)) ∧ Raw X.K G (upd H p (.lst xs)) p (.lst ds) := by
  have e := Evo.new (G := G) (o := .lst xs) hp
  exact ⟨e, w.new hp, xs, upd_same, h.mono (e.kp w)⟩
theorem isN_dec {K : PySem.W.Frag} {B : Bs} {G : Gh} {H : Hp} {x : D} {v : V} (h : BIs K B G H x v) : decide (v = V.non) = isNon x := by
  cases x with
  | non => obtain rfl := h.non; rfl
  | bl b => obtain rfl := h.bl; rfl
  | int b => obtain rfl := h.int; rfl
  | str b => obtain rfl := h.str; rfl
  | tup b => obtain ⟨a, xs, rfl, _⟩ := h.tup; rfl
  | lst b => obtain ⟨a, xs, rfl, _⟩ := h.lst; rfl
  | obj b => obtain ⟨a, rfl, _⟩ := h.obj; rfl
  | scr b => obtain ⟨a, rfl, _⟩ := h.scr; rfl
  | dct ks vs =>
    rcases h with h | ⟨a, rfl, h⟩
    · simp only [Is] at h; obtain ⟨a, ws, rfl, _⟩ := h; rfl
    · rfl
theorem isAll_nil {K : PySem.W.Frag} {G : Gh} {H : Hp} {ds : List D} (h : IsAll K G H ds []) : ds = [] := List.length_eq_zero_iff.mp h.length
theorem op_ok (hu : X.A.units + 65 < cLine) (o : BO) : OpR X (fOf o) (rOp X B o) := by
  rintro pins s σ H v u v' u' Q I rv ru ⟨x, y, G, Ω, Qd, w, ix, iy, h, k⟩
  have kk : ∀ z v', Qd z → Is X.K G H z v' → Q v' H := fun z v' q i => k z G H v' q .refl w i
  have kb : ∀ b, Qd (.bl b) → Q (.bl b) H := fun b q => kk _ _ q (by simp only [Is])
  have ki : ∀ b, Qd (.int b) → Q (.int b) H := fun b q => kk _ _ q (by simp only [Is])
  have hu4 : X.A.units + 64 < cLine := by omega
  unfold wBop at h
  split at h
  · obtain rfl := ix.int; obtain rfl := iy.int
    exact op_add pins s σ H _ _ _ _ _ I rv ru ⟨_, _, rfl, rfl, ki _ h⟩
  · obtain rfl := ix.str; obtain rfl := iy.str
    refine op_add_str pins s σ H _ _ _ _ _ I rv ru ⟨_, _, rfl, rfl, ?_, ?_⟩
    · rw [line_eq]; simpa [mkS, Str.length] using h.1
    · refine kk _ _ h.2 ?_
      simp only [Is]
      congr 1
      exact Str.ext' (by simp [mkS, Str.cps_append])
  · obtain ⟨a, xs, rfl, h1, h2⟩ := ix.tup
    obtain ⟨b, ys, rfl, h3, h4⟩ := iy.tup
    refine op_catA pins s σ H _ _ _ _ _ I rv ru ⟨a, b, xs, ys, rfl, rfl, h1, h3, ?_, fun e => ?_, fun n e => ?_, fun n1 n2 p hp => ?_⟩
    · rw [line_eq, ← h2.length, ← h4.length]; exact h.1
    · subst e
      obtain rfl := isAll_nil h2
      refine kk _ _ h.2 ?_
      simp only [Is, List.nil_append]
      exact ⟨b, ys, rfl, h3, h4⟩
    · subst e
      obtain rfl := isAll_nil h4
      refine kk _ _ h.2 ?_
      simp only [Is, List.append_nil]
      exact ⟨a, xs, rfl, h1, h2⟩
    · obtain ⟨e1, e2, e3⟩ := tup_alloc w (h2.app h4) hp
      exact k _ _ _ _ h.2 e1 e2 e3
  · obtain ⟨a, xs, rfl, h1, h2⟩ := ix.lst
    obtain ⟨b, ys, rfl, h3, h4⟩ := iy.lst
    refine op_cat pins s σ H _ _ _ _ _ I rv ru ⟨a, b, xs, ys, rfl, rfl, h1, h3, ?_, fun p hp => ?_⟩
    · rw [line_eq, ← h2.length, ← h4.length]; exact h.1
    · obtain ⟨e1, e2, e3⟩ := lst_alloc w (h2.app h4) hp
      exact k _ _ _ _ h.2 e1 e2 e3
  · obtain rfl := ix.int; obtain rfl := iy.int
    exact op_sub pins s σ H _ _ _ _ _ I rv ru ⟨_, _, rfl, rfl, ki _ h⟩
  · obtain rfl := ix.int; obtain rfl := iy.int
    exact op_mul pins s σ H _ _ _ _ _ I rv ru ⟨_, _, rfl, rfl, h.1, ki _ h.2⟩
  · obtain rfl := ix.int; obtain rfl := iy.int
    exact op_fdiv pins s σ H _ _ _ _ _ I rv ru ⟨_, _, rfl, rfl, h.1, ki _ h.2⟩
  · obtain rfl := ix.int; obtain rfl := iy.int
    exact op_mod pins s σ H _ _ _ _ _ I rv ru ⟨_, _, rfl, rfl, h.1, ki _ h.2⟩
  · obtain rfl := ix.int; obtain rfl := iy.int
    exact op_pow pins s σ H _ _ _ _ _ I rv ru ⟨_, _, rfl, rfl, h.1, ki _ h.2⟩
  -- eq
  · obtain rfl := ix.int; obtain rfl := iy.int
    exact op_eq pins s σ H _ _ _ _ _ I rv ru ⟨rfl, by rw [show decide (V.int _ = V.int _) = _ from decide_eq_decide.mpr ⟨V.int.inj, congrArg _⟩]; exact kb _ h⟩
  · obtain rfl := ix.str; obtain rfl := iy.str
    exact op_eq pins s σ H _ _ _ _ _ I rv ru ⟨rfl, by rw [show decide (V.str _ = V.str _) = _ from decide_eq_decide.mpr ⟨fun e => mkS_inj.mp (V.str.inj e), fun e => by rw [e]⟩]; exact kb _ h⟩
  · obtain rfl := ix.bl; obtain rfl := iy.bl
    exact op_eq pins s σ H _ _ _ _ _ I rv ru ⟨rfl, by rw [show decide (V.bl _ = V.bl _) = _ from decide_eq_decide.mpr ⟨V.bl.inj, congrArg _⟩]; exact kb _ h⟩
  · exact op_eqD hu4 pins s σ H _ _ _ _ _ I rv ru ⟨_, _, ix.dp h.1, iy.dp h.2.1, h.1, h.2.1, kb _ h.2.2⟩
  · obtain rfl := ix.int; obtain rfl := iy.int
    exact op_ne pins s σ H _ _ _ _ _ I rv ru ⟨rfl, by rw [show decide (V.int _ = V.int _) = _ from decide_eq_decide.mpr ⟨V.int.inj, congrArg _⟩]; exact kb _ h⟩
  · obtain rfl := ix.str; obtain rfl := iy.str
    exact op_ne pins s σ H _ _ _ _ _ I rv ru ⟨rfl, by rw [show decide (V.str _ = V.str _) = _ from decide_eq_decide.mpr ⟨fun e => mkS_inj.mp (V.str.inj e), fun e => by rw [e]⟩]; exact kb _ h⟩
  · obtain rfl := ix.bl; obtain rfl := iy.bl
    exact op_ne pins s σ H _ _ _ _ _ I rv ru ⟨rfl, by rw [show decide (V.bl _ = V.bl _) = _ from decide_eq_decide.mpr ⟨V.bl.inj, congrArg _⟩]; exact kb _ h⟩
  · exact op_neD hu4 pins s σ H _ _ _ _ _ I rv ru ⟨_, _, ix.dp h.1, iy.dp h.2.1, h.1, h.2.1, kb _ h.2.2⟩
  · obtain rfl := ix.int; obtain rfl := iy.int
    exact op_lt pins s σ H _ _ _ _ _ I rv ru ⟨_, _, rfl, rfl, kb _ h⟩
  · obtain rfl := ix.int; obtain rfl := iy.int
    exact op_le pins s σ H _ _ _ _ _ I rv ru ⟨_, _, rfl, rfl, kb _ h⟩
  · obtain rfl := ix.int; obtain rfl := iy.int
    exact op_gt pins s σ H _ _ _ _ _ I rv ru ⟨_, _, rfl, rfl, kb _ h⟩
  · obtain rfl := ix.int; obtain rfl := iy.int
    exact op_ge pins s σ H _ _ _ _ _ I rv ru ⟨_, _, rfl, rfl, kb _ h⟩
  -- is None
  · obtain rfl := iy.non
    refine op_isN pins s σ H _ _ _ _ _ I rv ru ⟨rfl, ?_⟩
    rw [isN_dec ix]; exact kb _ h
  · obtain rfl := iy.non
    refine op_notN pins s σ H _ _ _ _ _ I rv ru ⟨rfl, ?_⟩
    rw [isN_dec ix]; exact kb _ h
  -- in
  · obtain rfl := ix.str; obtain rfl := iy.str
    exact op_in_sign pins s σ H _ _ _ _ _ I rv ru ⟨_, _, rfl, rfl, kb _ (by simpa using h)⟩
  · obtain rfl := ix.str; obtain rfl := iy.str
    exact op_notIn_sign pins s σ H _ _ _ _ _ I rv ru ⟨_, _, rfl, rfl, kb _ (by simpa using h)⟩
  · obtain rfl := ix.str
    obtain ⟨b, ys, rfl, h3, h4⟩ := iy.tup
    obtain ⟨ts, e, h⟩ := h
    obtain rfl := strs_vals e h4
    exact op_in_seq pins s σ H _ _ _ _ _ I rv ru ⟨b, _, rfl, .inr h3, rfl, flat_strs ts, by rw [if_neg (by decide), inV_strs]; exact kb _ h⟩
  · obtain rfl := ix.str
    obtain ⟨b, ys, rfl, h3, h4⟩ := iy.tup
    obtain ⟨ts, e, h⟩ := h
    obtain rfl := strs_vals e h4
    exact op_notIn_seq pins s σ H _ _ _ _ _ I rv ru ⟨b, _, rfl, .inr h3, rfl, flat_strs ts, by rw [if_pos rfl, inV_strs]; exact kb _ h⟩
  · obtain rfl := ix.str
    obtain ⟨b, ys, rfl, h3, h4⟩ := iy.lst
    obtain ⟨ts, e, h⟩ := h
    obtain rfl := strs_vals e h4
    exact op_in_seq pins s σ H _ _ _ _ _ I rv ru ⟨b, _, rfl, .inl (SqL.of h3), rfl, flat_strs ts, by rw [if_neg (by decide), inV_strs]; exact kb _ h⟩
  · obtain rfl := ix.str
    obtain ⟨b, ys, rfl, h3, h4⟩ := iy.lst
    obtain ⟨ts, e, h⟩ := h
    obtain rfl := strs_vals e h4
    exact op_notIn_seq pins s σ H _ _ _ _ _ I rv ru ⟨b, _, rfl, .inl (SqL.of h3), rfl, flat_strs ts, by rw [if_pos rfl, inV_strs]; exact kb _ h⟩
  · obtain rfl := ix.int
    obtain ⟨b, ys, rfl, h3, h4⟩ := iy.tup
    obtain ⟨ts, e, h⟩ := h
    obtain rfl := ints_vals e h4
    exact op_in_seq pins s σ H _ _ _ _ _ I rv ru ⟨b, _, rfl, .inr h3, rfl, flat_ints ts, by rw [if_neg (by decide), inV_ints]; exact kb _ h⟩
  · obtain rfl := ix.int
    obtain ⟨b, ys, rfl, h3, h4⟩ := iy.tup
    obtain ⟨ts, e, h⟩ := h
    obtain rfl := ints_vals e h4
    exact op_notIn_seq pins s σ H _ _ _ _ _ I rv ru ⟨b, _, rfl, .inr h3, rfl, flat_ints ts, by rw [if_pos rfl, inV_ints]; exact kb _ h⟩
  · obtain rfl := ix.int
    obtain ⟨b, ys, rfl, h3, h4⟩ := iy.lst
    obtain ⟨ts, e, h⟩ := h
    obtain rfl := ints_vals e h4
    exact op_in_seq pins s σ H _ _ _ _ _ I rv ru ⟨b, _, rfl, .inl (SqL.of h3), rfl, flat_ints ts, by rw [if_neg (by decide), inV_ints]; exact kb _ h⟩
  · obtain rfl := ix.int
    obtain ⟨b, ys, rfl, h3, h4⟩ := iy.lst
    obtain ⟨ts, e, h⟩ := h
    obtain rfl := ints_vals e h4
    exact op_notIn_seq pins s σ H _ _ _ _ _ I rv ru ⟨b, _, rfl, .inl (SqL.of h3), rfl, flat_ints ts, by rw [if_pos rfl, inV_ints]; exact kb _ h⟩
  · rename_i ys _ _ _
    refine op_inD hu pins s σ H _ _ _ _ _ I rv ru ⟨_, toPys _, ix.dp h.1, iy.dp h.2.1, h.1, h.2.1, ?_⟩
    rw [toPys_any]; exact kb _ h.2.2
  · refine op_notInD hu pins s σ H _ _ _ _ _ I rv ru ⟨_, toPys _, ix.dp h.1, iy.dp h.2.1, h.1, h.2.1, ?_⟩
    rw [toPys_any]; exact kb _ h.2.2
  · exact h.elim
end
end OE
namespace OE
open PySem PySem.Spec PyProof.Rows L2
section
variable {X : Cx} {B : Bs}
theorem atI_map {α β : Type} (f : α → β) (xs : List α) (i : Int) : atI (xs.map f) i = (atI xs i).map f := by
  unfold atI
  rw [List.length_map]
  cases ixN xs.length i with
  | none => rfl
  | some j => simp [List.getElem?_map]
theorem atI_is {K : PySem.W.Frag} {G : Gh} {H : Hp} {ds : List D} {xs : List V} {i : Int} {d : D} (h : IsAll K G H ds xs) (e : atI ds i = some d) : ∃ v, atI xs i = some v ∧ Is K G H d v := by
  unfold atI at e ⊢
  rw [← h.length]
  cases q : ixN ds.length i with
  | none => rw [q] at e; cases e
  | some j => rw [q] at e; exact h.get e
/-! ### x[i] -/
def rIdx (X : Cx) (B : Bs) : R2 := fun v u H Q => ∃ x y G Ω Qd, Wf X.K X.mg G Ω H ∧ BIs X.K B G H x v ∧ BIs X.K B G H y u ∧ wIdx x y Qd ∧
  ∀ z G' H' v', Qd z → Evo G H G' H' → Wf X.K X.mg G' Ω H' → Is X.K G' H' z v' → Q v' H'
theorem idx_ok : IxR X (rIdx X B) := by
  rintro ve se pins s σ H v u v' u' Q I rv ru ⟨x, y, G, Ω, Qd, w, ix, iy, h, k⟩ hs
  have kk : ∀ z v', Qd z → Is X.K G H z v' → Q v' H := fun z v' q i => k z G H v' q .refl w i
  unfold wIdx at h
  split at h
  · obtain rfl := ix.str; obtain rfl := iy.int
    obtain ⟨hl, c, e, h⟩ := h
    refine ix_str ve se pins s σ H _ _ _ _ _ I rv ru ⟨_, _, c, rfl, rfl, ?_, ?_, kk _ _ h ?_⟩ hs
    · rw [line_eq]; simpa [mkS, Str.length] using hl
    · simpa [mkS] using e
    · simp only [Is]
  · obtain rfl := iy.int
    obtain ⟨a, xs, rfl, h1, h2⟩ := ix.tup
    obtain ⟨c, e, h⟩ := h
    obtain ⟨z, e', hz⟩ := atI_is h2 e
    exact ix_tup ve se pins s σ H _ _ _ _ _ I rv ru ⟨a, xs, _, z, rfl, rfl, h1, e', kk _ _ h hz⟩ hs
  · obtain rfl := iy.int
    obtain ⟨a, xs, rfl, h1, h2⟩ := ix.lst
    obtain ⟨c, e, h⟩ := h
    obtain ⟨z, e', hz⟩ := atI_is h2 e
    exact ix_list ve se pins s σ H _ _ _ _ _ I rv ru ⟨a, xs, _, z, rfl, rfl, SqL.of h1, e', kk _ _ h hz⟩ hs
  · obtain rfl := iy.int
    obtain ⟨a, rfl, h1⟩ := ix.scr
    obtain ⟨c, e, h⟩ := h
    exact ix_list ve se pins s σ H _ _ _ _ _ I rv ru ⟨a, _, _, .int c, rfl, rfl, h1, by rw [atI_map, e]; rfl, kk _ _ h (by simp only [Is])⟩ hs
  · exact h.elim
/-! ### x[i:j] -/
def rSlc (X : Cx) (B : Bs) : V → Option Int → Option Int → Hp → VK → Prop := fun v lo hi H Q => ∃ x G Ω Qd, Wf X.K X.mg G Ω H ∧ BIs X.K B G H x v ∧ wSl x lo hi Qd ∧
  ∀ z G' H' v', Qd z → Evo G H G' H' → Wf X.K X.mg G' Ω H' → Is X.K G' H' z v' → Q v' H'
theorem cut_is {K : PySem.W.Frag} {G : Gh} {H : Hp} {ds : List D} {xs : List V} (lo hi : Option Int) (h : IsAll K G H ds xs) : IsAll K G H (cutD ds lo hi) (cutV xs lo hi) := by
  unfold cutD cutV
  rw [h.length]
  exact (h.drop _).take _
theorem slc_ok : SlR X (rSlc X B) := by
  rintro pins s σ H v v' vl vu lo hi sl Q I rv hs pl pu ⟨x, G, Ω, Qd, w, ix, h, k⟩
  have kk : ∀ z v', Qd z → Is X.K G H z v' → Q v' H := fun z v' q i => k z G H v' q .refl w i
  unfold wSl at h
  split at h
  · obtain rfl := ix.str
    refine sl_str pins s σ H _ _ _ _ lo hi sl _ I rv hs pl pu ⟨_, rfl, ?_, kk _ _ h.2 ?_⟩
    · rw [line_eq]; simpa [mkS, Str.length] using h.1
    · simp only [Is, cutS, cutD, mkS, Str.length]
      simp
  · obtain ⟨a, xs, rfl, h1, h2⟩ := ix.tup
    refine sl_tupA pins s σ H _ _ _ _ lo hi sl _ I rv hs pl pu ⟨a, xs, rfl, h1, fun e => ?_, fun _ p hp => ?_⟩
    · refine kk _ _ h ?_
      simp only [Is]
      refine ⟨a, xs, rfl, h1, ?_⟩
      have c := cut_is lo hi h2
      unfold cutV at c
      rw [e.1, e.2] at c
      simpa using c
    · obtain ⟨e1, e2, e3⟩ := tup_alloc w (cut_is lo hi h2) hp
      exact k _ _ _ _ h e1 e2 e3
  · obtain ⟨a, xs, rfl, h1, h2⟩ := ix.lst
    refine sl_list pins s σ H _ _ _ _ lo hi sl _ I rv hs pl pu ⟨a, xs, rfl, SqL.of h1, fun p hp => ?_⟩
    obtain ⟨e1, e2, e3⟩ := lst_alloc w (cut_is lo hi h2) hp
    exact k _ _ _ _ h e1 e2 e3
  · exact h.elim
/-! ### truth -/
theorem isEmpty_all {K : PySem.W.Frag} {G : Gh} {H : Hp} {ds : List D} {xs : List V} (h : IsAll K G H ds xs) : (!xs.isEmpty) = !ds.isEmpty := by
  have := h.length
  cases ds <;> cases xs <;> simp_all
theorem tru_is {K : PySem.W.Frag} {G : Gh} {H : Hp} {d : D} {v : V} {Q : Bool → Prop} (e : wTru d Q) (h : BIs K B G H d v) : ∃ b, TruV K v H b ∧ Q b := by
  cases d with
  | bl c => obtain rfl := h.bl; exact ⟨_, rfl, e⟩
  | non => obtain rfl := h.non; exact ⟨_, rfl, e⟩
  | int c => obtain rfl := h.int; exact ⟨_, rfl, e⟩
  | str c =>
    obtain rfl := h.str
    refine ⟨_, ⟨by rw [line_eq]; simpa [mkS, Str.length] using e.1, rfl⟩, ?_⟩
    have : (((mkS c).length : Int) != 0) = !c.isEmpty := by
      cases c with
      | nil => rfl
      | cons x r =>
        have : ((mkS (x :: r)).length : Int) ≠ 0 := by simp [mkS, Str.length]; omega
        simpa using this
    rw [this]; exact e.2
  | tup c => obtain ⟨a, xs, rfl, h1, h2⟩ := h.tup; exact ⟨_, .inr (.inl ⟨xs, h1, rfl⟩), by rw [isEmpty_all h2]; exact e⟩
  | lst c => obtain ⟨a, xs, rfl, h1, h2⟩ := h.lst; exact ⟨_, .inl ⟨xs, SqL.of h1, rfl⟩, by rw [isEmpty_all h2]; exact e⟩
  | _ => exact e.elim

/-! ### built-in functions -/
def BAll (K : PySem.W.Frag) (B : Bs) (G : Gh) (H : Hp) : List D → List V → Prop
  | [] => fun xs => xs = []
  | d :: ds => fun xs => ∃ x r, xs = x :: r ∧ BIs K B G H d x ∧ BAll K B G H ds r
theorem BAll.evo {K : PySem.W.Frag} {mg : Str → Option Value} {G G' : Gh} {H H' : Hp} {Ω : Store} (w : Wf K mg G Ω H) (e : Evo G H G' H') : ∀ {ds : List D} {xs : List V}, BAll K B G H ds xs → BAll K B G' H' ds xs
  | [], _, h => h
  | d :: ds, _, ⟨x, r, e1, h1, h2⟩ => ⟨x, r, e1, h1.evo w e, BAll.evo w e h2⟩
theorem BAll.length {K : PySem.W.Frag} {G : Gh} {H : Hp} : ∀ {ds : List D} {xs : List V}, BAll K B G H ds xs → ds.length = xs.length
  | [], _, h => by subst h; rfl
  | d :: ds, _, ⟨x, r, e1, h1, h2⟩ => by subst e1; simp [BAll.length h2]
theorem IsAll.b {K : PySem.W.Frag} {G : Gh} {H : Hp} : ∀ {ds : List D} {xs : List V}, IsAll K G H ds xs → BAll K B G H ds xs
  | [], _, h => h
  | d :: ds, xs, h => by
    simp only [IsAll] at h
    obtain ⟨x, r, rfl, h1, h2⟩ := h
    exact ⟨x, r, rfl, .inl h1, IsAll.b h2⟩
theorem BAll.one {K : PySem.W.Frag} {G : Gh} {H : Hp} {d : D} {vs : List V} (h : BAll K B G H [d] vs) : ∃ v, vs = [v] ∧ BIs K B G H d v := by
  obtain ⟨x, r, rfl, h1, h2⟩ := h
  obtain rfl := h2
  exact ⟨x, rfl, h1⟩
theorem BAll.two {K : PySem.W.Frag} {G : Gh} {H : Hp} {d e : D} {vs : List V} (h : BAll K B G H [d, e] vs) : ∃ v u, vs = [v, u] ∧ BIs K B G H d v ∧ BIs K B G H e u := by
  obtain ⟨x, r, rfl, h1, h2⟩ := h
  obtain ⟨u, rfl, h3⟩ := BAll.one h2
  exact ⟨x, u, rfl, h1, h3⟩
theorem log_small {i : Int} (h1 : 0 ≤ i) (h2 : i < 10 ^ 200) : i.natAbs.log2 < 1920 := by
  by_cases h : i.natAbs = 0
  · rw [h]; decide
  · rw [Nat.log2_lt h]
    have : i.natAbs < 10 ^ 200 := by
      have e : ((i.natAbs : Nat) : Int) = i := by omega
      have : ((i.natAbs : Nat) : Int) < ((10 ^ 200 : Nat) : Int) := by rw [e]; exact_mod_cast h2
      exact_mod_cast this
    exact Nat.lt_of_lt_of_le this (by decide +kernel)
theorem num_str {i : Int} (h : 0 ≤ i) : (Str.ofString (toString i) : Str) = mkS (TL.numL i.toNat) := by
  have e : ((i.toNat : Nat) : Int) = i := by omega
  have q := TL.tl_num i.toNat
  rw [e] at q
  rw [← q]
def rBi (X : Cx) (B : Bs) (b : Bi) : List V → Hp → VK → Prop := fun vs H Q => ∃ ds G Ω Qd, Wf X.K X.mg G Ω H ∧ BAll X.K B G H ds vs ∧ wBi Ω b ds Qd ∧
  ∀ z G' H' v', Qd z → Evo G H G' H' → Wf X.K X.mg G' Ω H' → Is X.K G' H' z v' → Q v' H'
def bOf : Bi → Option Value
  | .len => some (.builtin "len") | .int_ => some (.type "int") | .str_ => some (.type "str") | .list_ => some (.type "list") | .tuple_ => some (.type "tuple")
  | .all_ => some (.builtin "all") | .any_ => some (.builtin "any") | .sum_ => some (.builtin "sum") | _ => none
theorem bi_ok (hc : X.calm = true) (b : Bi) (f : Value) (hf : bOf b = some f) : CallR X f (rBi X B b) := by
  rintro pins s σ H vs us Q I rv ⟨ds, G, Ω, Qd, w, ix, h, k⟩
  have kk : ∀ z v', Qd z → Is X.K G H z v' → Q v' H := fun z v' q i => k z G H v' q .refl w i
  have kb : ∀ b, Qd (.bl b) → Q (.bl b) H := fun b q => kk _ _ q (by simp only [Is])
  have ki : ∀ b, Qd (.int b) → Q (.int b) H := fun b q => kk _ _ q (by simp only [Is])
  unfold wBi at h
  split at h
  · cases hf
    obtain ⟨v, rfl, h1⟩ := ix.one
    obtain rfl := h1.str
    refine call_len_str pins s σ H _ _ _ I rv ⟨_, rfl, ?_, ?_⟩
    · rw [line_eq]; simpa [mkS, Str.length] using h.1
    · simpa [mkS, Str.length] using ki _ h.2
  · cases hf
    obtain ⟨v, rfl, h1⟩ := ix.one
    obtain ⟨a, xs, rfl, h2, h3⟩ := h1.tup
    exact call_len_seq pins s σ H _ _ _ I rv ⟨a, xs, rfl, .inr h2, by rw [← h3.length]; exact ki _ h⟩
  · cases hf
    obtain ⟨v, rfl, h1⟩ := ix.one
    obtain ⟨a, xs, rfl, h2, h3⟩ := h1.lst
    exact call_len_seq pins s σ H _ _ _ I rv ⟨a, xs, rfl, .inl (SqL.of h2), by rw [← h3.length]; exact ki _ h⟩
  · cases hf
    obtain ⟨v, rfl, h1⟩ := ix.one
    obtain ⟨a, rfl, h2⟩ := h1.scr
    exact call_len_seq pins s σ H _ _ _ I rv ⟨a, _, rfl, .inl h2, by rw [List.length_map]; exact ki _ h⟩
  · cases hf
    obtain ⟨v, rfl, h1⟩ := ix.one
    obtain rfl := h1.int
    exact call_int1 pins s σ H _ _ _ I rv (.inl ⟨_, rfl, ki _ h⟩)
  · cases hf
    obtain ⟨v, rfl, h1⟩ := ix.one
    obtain rfl := h1.str
    refine call_int_str pins s σ H _ _ _ I rv ⟨_, _, rfl, PySem.intText_digits (x := mkS _) h.1 h.2.1 ?_, ?_, ki _ h.2.2.2⟩
    · have := h.2.2.1; simp only [mkS, Str.length, List.size_toArray]; omega
    · simpa [mkS, Str.length] using h.2.2.1
  · cases hf
    obtain ⟨v, rfl, h1⟩ := ix.one
    obtain rfl := h1.int
    obtain ⟨⟨p1, p2⟩, h⟩ := h
    refine call_str_int pins s σ H _ _ _ I rv ⟨_, rfl, log_small p1 p2, kk _ _ h ?_⟩
    simp only [Is]
    congr 1
    exact num_str p1
  · cases hf
    obtain ⟨v, rfl, h1⟩ := ix.one
    obtain ⟨a, xs, rfl, h2, h3⟩ := h1.lst
    refine call_list_of pins s σ H _ _ _ I rv ⟨a, xs, rfl, .inl (SqL.of h2), fun p hp => ?_⟩
    obtain ⟨e1, e2, e3⟩ := lst_alloc w h3 hp
    exact k _ _ _ _ h e1 e2 e3
  · cases hf
    obtain ⟨v, rfl, h1⟩ := ix.one
    obtain ⟨a, xs, rfl, h2, h3⟩ := h1.tup
    refine call_list_of pins s σ H _ _ _ I rv ⟨a, xs, rfl, .inr h2, fun p hp => ?_⟩
    obtain ⟨e1, e2, e3⟩ := lst_alloc w h3 hp
    exact k _ _ _ _ h e1 e2 e3
  · cases hf
    obtain ⟨v, rfl, h1⟩ := ix.one
    obtain ⟨a, xs, rfl, h2, h3⟩ := h1.lst
    refine call_tuple_of pins s σ H _ _ _ I rv ⟨a, xs, rfl, .inl ⟨SqL.of h2, fun p hp => ?_⟩⟩
    obtain ⟨e1, e2, e3⟩ := tup_alloc w h3 hp
    exact k _ _ _ _ h e1 e2 e3
  · cases hf
    obtain ⟨v, rfl, h1⟩ := ix.one
    obtain ⟨a, xs, rfl, h2, h3⟩ := h1.tup
    refine call_tuple_of pins s σ H _ _ _ I rv ⟨a, xs, rfl, .inr ⟨h2, kk _ _ h ?_⟩⟩
    simp only [Is]
    exact ⟨a, xs, rfl, h2, h3⟩
  · cases hf
    obtain ⟨v, rfl, h1⟩ := ix.one
    obtain ⟨a, xs, rfl, h2, h3⟩ := h1.lst
    obtain ⟨bs, e, h⟩ := h
    obtain rfl := bls_vals e h3
    exact cr_all hc pins s σ H _ _ _ I rv ⟨a, bs, rfl, SqL.of h2, kb _ h⟩
  · cases hf
    obtain ⟨v, rfl, h1⟩ := ix.one
    obtain ⟨a, xs, rfl, h2, h3⟩ := h1.lst
    obtain ⟨bs, e, h⟩ := h
    obtain rfl := bls_vals e h3
    exact cr_any hc pins s σ H _ _ _ I rv ⟨a, bs, rfl, SqL.of h2, kb _ h⟩
  · cases hf
    obtain ⟨v, rfl, h1⟩ := ix.one
    obtain ⟨a, xs, rfl, h2, h3⟩ := h1.lst
    obtain ⟨bs, e, h⟩ := h
    obtain rfl := ints_vals e h3
    exact cr_sum hc pins s σ H _ _ _ I rv ⟨a, bs, rfl, SqL.of h2, ki _ h⟩
  · cases hf
  · cases hf
  · cases hf
  · cases hf
  · exact h.elim

/-! ### methods of texts -/
def rBm (X : Cx) (B : Bs) (m : Bm) : V → List V → Hp → VK → Prop := fun v vs H Q => ∃ d ds G Ω Qd, Wf X.K X.mg G Ω H ∧ BIs X.K B G H d v ∧ BAll X.K B G H ds vs ∧ wBm m d ds Qd ∧
  ∀ z G' H' v', Qd z → Evo G H G' H' → Wf X.K X.mg G' Ω H' → Is X.K G' H' z v' → Q v' H'
def mOf : Bm → String
  | .join => "str.join" | .split => "str.split" | .starts => "str.startswith" | .starts2 => "str.startswith" | .index => "list.index"
theorem spl_split (c : Nat) : ∀ (s acc : List Nat), TL.spl [c] 0 acc s = (match splitC c s with | h :: t => (acc ++ h) :: t | [] => [acc])
  | [], acc => by simp [TL.spl, splitC]
  | x :: r, acc => by
    unfold TL.spl splitC
    by_cases h : x = c
    · subst h
      rw [if_pos (by simp [TL.pre]), if_pos rfl]
      show acc :: TL.spl [x] 0 [] r = _
      rw [spl_split x r []]
      cases q : splitC x r with
      | nil => exfalso; revert q; cases r with
        | nil => simp [splitC]
        | cons y r => unfold splitC; split <;> (try split) <;> simp
      | cons a b => simp
    · rw [if_neg (by simp [TL.pre, h]), if_neg h, spl_split c r (acc ++ [x])]
      cases q : splitC c r with
      | nil => simp
      | cons a b => simp
theorem splitC_ne (c : Nat) : ∀ s : List Nat, splitC c s ≠ []
  | [] => by simp [splitC]
  | y :: r => by unfold splitC; split <;> (try split) <;> simp
theorem spl_eq (c : Nat) (s : List Nat) : TL.spl [c] 0 [] s = splitC c s := by
  rw [spl_split]
  cases q : splitC c s with
  | nil => exact absurd q (splitC_ne c s)
  | cons a b => simp
theorem split_eq {c : Nat} (hc : c < 256) (s : List Nat) : Txt.split (mkS s) (mkS [c]) = (splitC c s).map mkS := by
  refine TL.map_tl_inj ?_
  rw [TL.split_spl _ _ (by simp [TL.tl, mkS]) (TL.kind_ok (by simp [mkS, hc]))]
  show TL.spl [c] 0 [] s = _
  rw [spl_eq, List.map_map]
  exact (List.map_id _).symm
theorem join_eq (s : List Nat) (ts : List (List Nat)) : Txt.join (mkS s) (ts.map mkS) = mkS (TL.joinL s ts) := by
  refine TL.ext_tl ?_
  rw [TL.join_eq, TL.tl_join, List.map_map]
  show TL.joinL s (ts.map id) = _
  rw [List.map_id]
theorem pre_take (t s : List Nat) : t.isPrefixOf s = (decide (t.length ≤ s.length) && (s.take t.length == t)) := by
  rw [Bool.eq_iff_iff, List.isPrefixOf_iff_prefix, Bool.and_eq_true, decide_eq_true_iff, beq_iff_eq, List.prefix_iff_eq_take]
  constructor
  · intro h
    exact ⟨by have := congrArg List.length h; rw [List.length_take] at this; omega, h.symm⟩
  · intro h; exact h.2.symm
theorem starts_eq (s t : List Nat) : Txt.startswith (mkS s) (mkS t) = t.isPrefixOf s := by
  rw [pre_take]
  unfold Txt.startswith
  rw [PySem.StrLaws.subAt_eq]
  simp [mkS, Str.length]
theorem starts3_eq (s t : List Nat) {i : Int} (h0 : 0 ≤ i) (h : i ≤ s.length) : Txt.startswith3 (mkS s) (mkS t) i = t.isPrefixOf (s.drop i.toNat) := by
  have e : PySem.fromIndex (mkS s).length i = i.toNat := by
    unfold PySem.fromIndex
    rw [if_neg (by omega)]
    omega
  rw [pre_take]
  unfold Txt.startswith3
  rw [PySem.StrLaws.subAt_eq, e]
  simp only [mkS, Str.length, List.size_toArray, List.length_drop]
  congr 1
  rw [decide_eq_decide]
  omega
theorem bm_ok (m : Bm) (hm : m ≠ .index) : MtR X (mOf m) (rBm X B m) := by
  rintro pins s σ H v vs v' us Q I rv rvs ⟨d, ds, G, Ω, Qd, w, ix, iy, h, k⟩
  have kk : ∀ z v', Qd z → Is X.K G H z v' → Q v' H := fun z v' q i => k z G H v' q .refl w i
  have kb : ∀ b, Qd (.bl b) → Q (.bl b) H := fun b q => kk _ _ q (by simp only [Is])
  have joined : ∀ (t : List Nat) (ts : List (List Nat)), Qd (.str (TL.joinL t ts)) → Q (.str (Txt.join (mkS t) (ts.map mkS))) H := fun t ts q => by
    rw [join_eq]; exact kk _ _ q (by simp only [Is])
  have sums : ∀ (t : List Nat) (ts : List (List Nat)), (ts.map List.length).sum + ts.length * t.length ≤ LINE → ((ts.map mkS).map (·.length)).sum + (ts.map mkS).length * (mkS t).length ≤ 16777216 := fun t ts q => by
    rw [List.map_map, List.length_map]
    exact q
  unfold wBm at h
  split at h
  · obtain rfl := ix.str
    obtain ⟨u, rfl, h1⟩ := iy.one
    obtain ⟨a, xs, rfl, h2, h3⟩ := h1.lst
    obtain ⟨ts, e, hl, h⟩ := h
    obtain rfl := strs_vals e h3
    exact mt_join pins s σ H _ _ _ _ _ I rv rvs ⟨_, a, ts.map mkS, rfl, rfl, .inl (by rw [List.map_map]; exact SqL.of h2), sums _ _ hl, joined _ _ h⟩
  · obtain rfl := ix.str
    obtain ⟨u, rfl, h1⟩ := iy.one
    obtain ⟨a, xs, rfl, h2, h3⟩ := h1.tup
    obtain ⟨ts, e, hl, h⟩ := h
    obtain rfl := strs_vals e h3
    exact mt_join pins s σ H _ _ _ _ _ I rv rvs ⟨_, a, ts.map mkS, rfl, rfl, .inr (by rw [List.map_map]; exact h2), sums _ _ hl, joined _ _ h⟩
  · obtain rfl := ix.str
    obtain ⟨u, rfl, h1⟩ := iy.one
    obtain rfl := h1.str
    obtain ⟨hc, hl, h⟩ := h
    refine mt_split pins s σ H _ _ _ _ _ I rv rvs ⟨_, _, rfl, rfl, rfl, ?_, fun p hp => ?_⟩
    · rw [line_eq]; simpa [mkS, Str.length] using hl
    · rw [split_eq hc, List.map_map]
      have hi : ∀ ts : List (List Nat), IsAll X.K G H (ts.map .str) (ts.map (V.str ∘ mkS)) := fun ts => by
        induction ts with
        | nil => rfl
        | cons t ts ih => exact .cons (by simp only [Is]; rfl) ih
      obtain ⟨e1, e2, e3⟩ := lst_alloc w (hi _) hp
      exact k _ _ _ _ h e1 e2 e3
  · obtain rfl := ix.str
    obtain ⟨u, rfl, h1⟩ := iy.one
    obtain rfl := h1.str
    refine mt_startswith pins s σ H _ _ _ _ _ I rv rvs ⟨_, _, rfl, rfl, ?_⟩
    rw [starts_eq]; exact kb _ h
  · obtain rfl := ix.str
    obtain ⟨u, u2, rfl, h1, h2⟩ := iy.two
    obtain rfl := h1.str; obtain rfl := h2.int
    refine mt_startswith3 pins s σ H _ _ _ _ _ I rv rvs ⟨_, _, _, rfl, rfl, ?_⟩
    rw [starts3_eq _ _ h.1.1 h.1.2]; exact kb _ h.2
  · exact h.elim
end
end OE
namespace OE
open PySem PySem.Spec PyProof.Rows L2

/-! ### promises of defs -/
def spOf (K : PySem.W.Frag) (mg : Str → Option Value) (T : Tab) (n : Nat) (S : Spec) : Sp := fun vs H Q E => ∃ ds G Ω Qd Ed, vs.length = n ∧ Wf K mg G Ω H ∧ IsAll K G H ds vs ∧ S ds Ω Qd Ed ∧
  (∀ d Ω' G' H' v, Qd d Ω' → Evo G H G' H' → Wf K mg G' Ω' H' → Is K G' H' d v → Q v H') ∧
  (∀ x d Ω' G' H' cls dx, Ed x d Ω' → Evo G H G' H' → Wf K mg G' Ω' H' → ExcRel K mg T G' H' x d cls dx → E cls dx H')
/-- a def that keeps its promise -/
structure EntOk (P : Program) (w : World) (K : PySem.W.Frag) (mg : Str → Option Value) (base : Heap) (T : Tab) (f : Addr) (en : Ent) : Prop where
  ok : ∃ fd ps, FnOk P w K mg base (L2.CX P w) en.k f fd ps (spOf K mg T en.n en.S) ∧ Binds K fd ps []
  kp : PySem.W.keepIn K (.ref f) = true
abbrev EF : Str → D → Env → Store → Prop := fun _ _ _ _ => False
def T0 : Tab := ⟨fun _ => none, fun _ _ => none, fun _ => none, fun _ => none, fun _ => none, fun _ _ => False, fun _ _ => none, fun _ _ => false⟩
def spX (K : PySem.W.Frag) (mg : Str → Option Value) (T : Tab) (C : Addr) (fld : Str) (ce : IR) : Sp := fun vs H Q E => ∃ a d v G Ω Qd, vs = [V.ref a, v] ∧ H a = some (exo a C none) ∧ a ∉ G.ι ∧ Wf K mg G Ω H ∧ Is K G H d v ∧ wE T ce EF [.un, .val d, .un] Ω Qd ∧
  ∀ m Ω' G' H', Qd m Ω' → Evo G H G' H' → Wf K mg G' Ω' H' → ∀ dx, H' dx = none → dx ≠ a → Q .non (upd (upd H' dx (exd dx [(fld, v)])) a (exo a C (some dx)))
/-- what a class name stands for -/
def Nm (mg : Str → Option Value) (c : Str) (cv : Value) : Prop := mg c = some cv ∨ (mg c = none ∧ bootBuiltins c = some cv ∧ c ≠ "__name__")
/-- an exception class -/
structure XOk (P : Program) (w : World) (K : PySem.W.Frag) (mg : Str → Option Value) (base : Heap) (k : Nat) (c fld : Str) (xm : D → Prop) : Prop where
  ex : ∃ (C f : Addr) (fd : FuncData) (ps : List Str) (ce : IR) (k0 : Nat), k0 + 1 ≤ k ∧ mg c = some (.ref C) ∧ OexC K C ∧ PySem.W.findIn K (.ref C) "__init__" = some (some (.ref f)) ∧ PySem.W.typeIn K (.ref f) = some (.type "function") ∧
    FnOk P w K mg base (L2.CX P w) k0 f fd ps (spX K mg T0 C fld ce) ∧ Binds K fd ps [] ∧ (∀ d Ω, xm d → wE T0 ce EF [.un, .val d, .un] Ω fun _ Ω' => Ω' = Ω) ∧ XfC K C ∧ PySem.W.findIn K (.ref C) fld = some none ∧ ExcC K C
structure TabOk (P : Program) (w : World) (K : PySem.W.Frag) (mg : Str → Option Value) (base : Heap) (T : Tab) (k : Nat) : Prop where
  fn : ∀ x en, T.fn x = some en → en.k ≤ k ∧ ∃ f, mg x = some (.ref f) ∧ EntOk P w K mg base T f en
  me : ∀ c m en, T.me c m = some en → en.k ≤ k ∧ ∃ C f, mg c = some (.ref C) ∧ Cls K C ∧ Meth K C m f ∧ EntOk P w K mg base T f en
  ini : ∀ c en, T.ini c = some en → en.k + 1 ≤ k ∧ ∃ C f, mg c = some (.ref C) ∧ Mk K C f ∧ EntOk P w K mg base T f en
  exc : ∀ c fld, T.exf c = some fld → XOk P w K mg base k c fld (T.xm c)
  sub : ∀ x c b C cv, T.sub x c = some b → mg x = some (.ref C) → Nm mg c cv → PySem.W.exmOne K (.ref C) cv = some b ∧ PySem.W.kitOne K (.ref C) cv = some b
  con : ∀ x d, T.con x = some d → ∃ v u, mg x = some u ∧ RelV v u ∧ ∀ G H, Is K G H d v
/-- the names of built-ins -/
structure Blt (mg : Str → Option Value) : Prop where
  len : mg "len" = none
  int_ : mg "int" = none
  str_ : mg "str" = none
  list_ : mg "list" = none
  tuple_ : mg "tuple" = none
  all_ : mg "all" = none
  any_ : mg "any" = none
  sum_ : mg "sum" = none
  rng : mg "range" = none
  enum : mg "enumerate" = none
  zip : mg "zip" = none
  isi : mg "isinstance" = none
  bool_ : mg "bool" = none
  ve : mg "ValueError" = none

section
variable {X : Cx} {T : Tab} {B : Bs} {W : WX}
def RI (b : Bool) (K : PySem.W.Frag) (B : Bs) (G : Gh) (H : Hp) (d : D) (v : V) : Prop := if b = true then BIs K B G H d v else Is K G H d v
theorem RI.b {b : Bool} {K : PySem.W.Frag} {G : Gh} {H : Hp} {d : D} {v : V} (h : RI b K B G H d v) : BIs K B G H d v := by
  cases b with
  | true => exact h
  | false => exact .inl h
theorem Is.ri {b : Bool} {K : PySem.W.Frag} {G : Gh} {H : Hp} {d : D} {v : V} (h : Is K G H d v) : RI b K B G H d v := by
  cases b with
  | true => exact .inl h
  | false => exact h
def RAll (b : Bool) (K : PySem.W.Frag) (B : Bs) (G : Gh) (H : Hp) (ds : List D) (vs : List V) : Prop := if b = true then BAll K B G H ds vs else IsAll K G H ds vs
theorem RAll.b {b : Bool} {K : PySem.W.Frag} {G : Gh} {H : Hp} {ds : List D} {vs : List V} (h : RAll b K B G H ds vs) : BAll K B G H ds vs := by
  cases b with
  | true => exact h
  | false => exact IsAll.b h
theorem RI.evo {b : Bool} {K : PySem.W.Frag} {mg : Str → Option Value} {G G' : Gh} {H H' : Hp} {Ω : Store} {d : D} {v : V} (w : Wf K mg G Ω H) (e : Evo G H G' H') (h : RI b K B G H d v) : RI b K B G' H' d v := by
  cases b with
  | true => exact BIs.evo w e h
  | false => exact Is.mono (e.kp w) h

abbrev StX (X : Cx) (T : Tab) (B : Bs) := St X.K X.mg T B
abbrev WfX (X : Cx) := Wf X.K X.mg
/-- what is wished of exceptions is held by the machine's wish -/
def EOk (X : Cx) (T : Tab) (B : Bs) (W : WX) (E : Str → D → Env → Store → Prop) : Prop :=
  ∀ x d ρ Ω G σ H cls dx, E x d ρ Ω → StX X T B σ H ρ Ω G → ExcRel X.K X.mg T G H x d cls dx → W cls dx σ H
/-- the reading of an expression -/
def tE (X : Cx) (T : Tab) (B : Bs) (W : WX) (b : Bool) (c : IR) : TE := fun σ H Q => ∃ ρ Ω G E Qd, StX X T B σ H ρ Ω G ∧ EOk X T B W E ∧ wE T c E ρ Ω Qd ∧
  ∀ d Ω' G' H' v, Qd d Ω' → Evo G H G' H' → WfX X G' Ω' H' → RI b X.K B G' H' d v → Q v H'
def tA (X : Cx) (T : Tab) (B : Bs) (W : WX) (b : Bool) (c : IR) : TA := fun σ H Q => ∃ ρ Ω G E Qd, StX X T B σ H ρ Ω G ∧ EOk X T B W E ∧ wE T c E ρ Ω Qd ∧
  ∀ d Ω' G' H' l vs, Qd d Ω' → d = .tup l → Evo G H G' H' → WfX X G' Ω' H' → RAll b X.K B G' H' l vs → Q vs H'
/-- of one that makes a new list -/
def tF (X : Cx) (T : Tab) (B : Bs) (W : WX) (c : IR) : TE := fun σ H Q => ∃ ρ Ω G E Qd, StX X T B σ H ρ Ω G ∧ EOk X T B W E ∧ wE T c E ρ Ω Qd ∧
  ∀ d Ω' G' H' a, Qd d Ω' → Evo G H G' H' → WfX X G' Ω' H' → H a = none → ¬ G'.F a → a ∉ G'.ι → Raw X.K G' H' a d → Q (.ref a) H'
def tT (X : Cx) (T : Tab) (B : Bs) (W : WX) (c : IR) : TT := fun σ H Q => ∃ ρ Ω G E Qd, StX X T B σ H ρ Ω G ∧ EOk X T B W E ∧ wE T c E ρ Ω Qd ∧
  ∀ d Ω' G' H', Qd d Ω' → Evo G H G' H' → WfX X G' Ω' H' → ∃ k, d = .bl k ∧ Q k H'

theorem PEi {e : Expr} {t t' : TE} (h : PE X e t) (k : ∀ σ H Q, t' σ H Q → t σ H Q) : PE X e t' := ⟨fun pins s σ H Q I q => h.run pins s σ H Q I (k σ H Q q)⟩
theorem PTi {e : Expr} {t t' : TT} (h : PT X e t) (k : ∀ σ H Q, t' σ H Q → t σ H Q) : PT X e t' := ⟨fun pins s σ H Q I q => h.run pins s σ H Q I (k σ H Q q)⟩
theorem PWi {e : Expr} {t t' : TT} (h : PW X e t) (k : ∀ σ H Q, t' σ H Q → t σ H Q) : PW X e t' := ⟨fun wh pins s σ H Q I q => h.run wh pins s σ H Q I (k σ H Q q)⟩
theorem PAi {e : List Expr} {t t' : TA} (h : PA X e t) (k : ∀ σ H Q, t' σ H Q → t σ H Q) : PA X e t' := ⟨fun pos pins s σ H Q I q => h.run pos pins s σ H Q I (k σ H Q q)⟩
theorem PSi {e : Stmt} {t t' : TS} (h : PS X e t) (k : ∀ D σ H, t' D σ H → t D σ H) : PS X e t' := ⟨fun pins s σ H D I q => h.run pins s σ H D I (k D σ H q)⟩
theorem PSsi {e : List Stmt} {t t' : TS} (h : PSs X e t) (k : ∀ D σ H, t' D σ H → t D σ H) : PSs X e t' := ⟨fun pins s σ H D I q => h.run pins s σ H D I (k D σ H q)⟩
theorem PIi {tg e : Expr} {t t' : TI} (h : PI X tg e t) (k : ∀ σ H R, t' σ H R → t σ H R) : PI X tg e t' := ⟨fun pins s σ H R I q => h.run pins s σ H R I (k σ H R q)⟩
theorem PGi {tg : Expr} {t t' : TG} (h : PG X tg t) (k : ∀ v σ H R, t' v σ H R → t v σ H R) : PG X tg t' := ⟨fun pins s σ H v u R I r q => h.run pins s σ H v u R I r (k v σ H R q)⟩

/-- an expression, then more -/
theorem tE.go {b : Bool} {c : IR} {σ : L2.St} {H : Hp} {ρ : Env} {Ω : Store} {G : Gh} {E : Str → D → Env → Store → Prop} {Qd : QD} {Q : VK} (st : StX X T B σ H ρ Ω G) (eo : EOk X T B W E) (h : wE T c E ρ Ω Qd)
    (k : ∀ d Ω' G' H' v, Qd d Ω' → Evo G H G' H' → StX X T B σ H' ρ Ω' G' → RI b X.K B G' H' d v → Q v H') : tE X T B W b c σ H Q :=
  ⟨ρ, Ω, G, E, Qd, st, eo, h, fun d Ω' G' H' v q e w i => k d Ω' G' H' v q e (st.evo e w) i⟩
theorem tA.go {b : Bool} {c : IR} {σ : L2.St} {H : Hp} {ρ : Env} {Ω : Store} {G : Gh} {E : Str → D → Env → Store → Prop} {Qd : QD} {Q : List V → Hp → Prop} (st : StX X T B σ H ρ Ω G) (eo : EOk X T B W E) (h : wE T c E ρ Ω Qd)
    (k : ∀ l Ω' G' H' vs, Qd (.tup l) Ω' → Evo G H G' H' → StX X T B σ H' ρ Ω' G' → RAll b X.K B G' H' l vs → Q vs H') : tA X T B W b c σ H Q :=
  ⟨ρ, Ω, G, E, Qd, st, eo, h, fun d Ω' G' H' l vs q ed e w i => k l Ω' G' H' vs (ed ▸ q) e (st.evo e w) i⟩
theorem tT.go {c : IR} {σ : L2.St} {H : Hp} {ρ : Env} {Ω : Store} {G : Gh} {E : Str → D → Env → Store → Prop} {Qd : QD} {Q : Bool → Hp → Prop} (st : StX X T B σ H ρ Ω G) (eo : EOk X T B W E) (h : wE T c E ρ Ω Qd)
    (k : ∀ d Ω' G' H', Qd d Ω' → Evo G H G' H' → StX X T B σ H' ρ Ω' G' → ∃ k, d = .bl k ∧ Q k H') : tT X T B W c σ H Q :=
  ⟨ρ, Ω, G, E, Qd, st, eo, h, fun d Ω' G' H' q e w => k d Ω' G' H' q e (st.evo e w)⟩

variable {a b c : Expr} {ca cb cc : IR} {pos : Pos}
/-- a frozen reading serves where one may be unfrozen -/
theorem dE_b {e : Expr} {c : IR} (h : PE X e (tE X T B W false c)) (bb : Bool) : PE X e (tE X T B W bb c) := PEi h fun σ H Q ⟨ρ, Ω, G, E, Qd, st, eo, h, k⟩ => ⟨ρ, Ω, G, E, Qd, st, eo, h, fun d Ω' G' H' v q e w i => k d Ω' G' H' v q e w (Is.ri i)⟩
theorem dE_lit {e : Expr} {d : D} {v : V} (h : PE X e (tC v)) (hi : ∀ G H, Is X.K G H d v) (bb : Bool) : PE X e (tE X T B W bb (.lit d)) := PEi h fun σ H Q ⟨ρ, Ω, G, E, Qd, st, eo, h, k⟩ => k d Ω G H v h .refl st.wf (Is.ri (hi G H))
theorem dE_con {e : Expr} {x : Str} {v : V} (h : PE X e (tC v)) (hi : ∀ d, T.con x = some d → ∀ G H, Is X.K G H d v) (bb : Bool) : PE X e (tE X T B W bb (.con x)) :=
  PEi h fun σ H Q ⟨ρ, Ω, G, E, Qd, st, eo, ⟨d, e, h⟩, k⟩ => k d Ω G H v h .refl st.wf (Is.ri (hi d e G H))
theorem dE_var {e : Expr} {i : Nat} (h : PE X e (tVar i)) (bb : Bool) : PE X e (tE X T B W bb (.var i)) := PEi h fun σ H Q ⟨ρ, Ω, G, E, Qd, st, eo, ⟨d, e, h⟩, k⟩ => by
  obtain ⟨v, e1, e2⟩ := st.val i d e
  exact ⟨v, e1, k d Ω G H v h .refl st.wf (Is.ri e2)⟩
theorem dE_bor {e : Expr} {i : Nat} (h : PE X e (tVar i)) : PE X e (tE X T B W true (.bor i)) := PEi h fun σ H Q ⟨ρ, Ω, G, E, Qd, st, eo, ⟨d, e, h⟩, k⟩ => by
  rcases e with e | e
  · obtain ⟨v, e1, e2⟩ := st.val i d e
    exact ⟨v, e1, k d Ω G H v h .refl st.wf (.inl e2)⟩
  · obtain ⟨v, e1, e2⟩ := st.own i d e
    exact ⟨_, e1, k d Ω G H _ h .refl st.wf (.inr ⟨v, rfl, e2⟩)⟩
theorem dA_nil (bb : Bool) : PA X [] (tA X T B W bb .nil) := PAi pa_nil fun σ H Q ⟨ρ, Ω, G, E, Qd, st, eo, h, k⟩ => k _ Ω G H [] [] h rfl .refl st.wf (by cases bb <;> rfl)
theorem starE {e : Expr} (h : ∀ x p, e ≠ .Starred x p) (es : List Expr) (env : PySem.Env) : starEach (e :: es) env = (false, eval e env) :: starEach es env := by
  cases e <;> first | rfl | exact absurd rfl (h _ _)
theorem dA_cons {es : List Expr} (hn : ∀ x p, a ≠ .Starred x p) (bb : Bool) (h1 : PE X a (tE X T B W bb ca)) (h2 : PA X es (tA X T B W bb cb)) : PA X (a :: es) (tA X T B W bb (.cons ca cb)) := by
  refine PAi (pa_cons h1 h2 (starE hn _ _)) fun σ H Q ⟨ρ, Ω, G, E, Qd, st, eo, h, k⟩ => ?_
  refine tE.go st eo h fun d Ω1 G1 H1 v q1 e1 st1 i1 => ?_
  refine tA.go st1 eo q1 fun l Ω2 G2 H2 vs q2 e2 st2 i2 => ?_
  obtain ⟨l', e, q⟩ := q2
  cases e
  refine k _ Ω2 G2 H2 (d :: l) (v :: vs) q rfl (e1.trans e2) st2.wf ?_
  have i1' := RI.evo st1.wf e2 i1
  cases bb with
  | true => exact ⟨v, vs, rfl, i1', i2⟩
  | false => exact IsAll.cons i1' i2
theorem dE_tup {es : List Expr} {k1 : Nat} (h : PA X es (tA X T B W false ca)) (bb : Bool) : PE X (.Tuple es k1 pos) (tE X T B W bb (.tup ca)) := by
  refine PEi (pe_tup h) fun σ H Q ⟨ρ, Ω, G, E, Qd, st, eo, h, k⟩ => ?_
  refine tA.go st eo h fun l Ω1 G1 H1 vs ⟨l', e, hl, q⟩ e1 st1 i1 => ?_
  cases e
  have i1 : IsAll X.K G1 H1 l vs := i1
  refine ⟨by rw [line_eq, ← i1.length]; exact hl, fun p hp => ?_⟩
  obtain ⟨y1, y2, y3⟩ := tup_alloc st1.wf i1 hp
  exact k _ _ _ _ _ q (e1.trans y1) y2 (Is.ri y3)
theorem dF_lst {es : List Expr} (h : PA X es (tA X T B W false ca)) : PE X (.List es pos) (tF X T B W (.lst ca)) := by
  refine PEi (pe_lst h) fun σ H Q ⟨ρ, Ω, G, E, Qd, st, eo, h, k⟩ => ?_
  refine tA.go st eo h fun l Ω1 G1 H1 vs ⟨l', e, hl, q⟩ e1 st1 i1 => ?_
  cases e
  have i1 : IsAll X.K G1 H1 l vs := i1
  refine ⟨by rw [line_eq, ← i1.length]; exact hl, fun p hp => ?_⟩
  obtain ⟨y1, y2, y3⟩ := raw_alloc st1.wf i1 hp
  have hp0 : H p = none := by
    cases q : H p with
    | none => rfl
    | some o => exact absurd hp (e1.th p (by rw [q]; simp))
  exact k _ _ _ _ _ q (e1.trans y1) y2 hp0 (st1.wf.notF hp) (st1.wf.notι hp) y3
/-- what is new may be frozen at once -/
theorem dE_F {e : Expr} {c : IR} (h : PE X e (tF X T B W c)) (bb : Bool) : PE X e (tE X T B W bb c) := by
  refine PEi h fun σ H Q ⟨ρ, Ω, G, E, Qd, st, eo, h, k⟩ => ⟨ρ, Ω, G, E, Qd, st, eo, h, fun d Ω' G' H' a q e w h0 h1 h2 h3 => ?_⟩
  refine k d Ω' (G'.add a) H' (.ref a) q ⟨fun b f => .inl (e.f b f), e.ι, e.k, fun b f => ?_, e.nι, e.th⟩ (w.addF h2 h3.there) (Is.ri h3.is)
  rcases f with f | rfl
  · exact e.nf b f
  · exact .inr h0
theorem dE_op {op : Operator} {o : BO} (ho : binaryOp op = fOf o) (hu : X.A.units + 65 < cLine) (ha : PE X a (tE X T B W true ca)) (hb : PE X b (tE X T B W true cb)) (bb : Bool) : PE X (.BinOp a op b pos) (tE X T B W bb (.op o ca cb)) := by
  refine PEi (pe_op (r := rOp X B o) (by rw [ho]; exact op_ok hu o) ha hb) fun σ H Q ⟨ρ, Ω, G, E, Qd, st, eo, h, k⟩ => ?_
  refine tE.go st eo h fun x Ω1 G1 H1 v q1 e1 st1 i1 => tE.go st1 eo q1 fun y Ω2 G2 H2 u q2 e2 st2 i2 => ?_
  exact ⟨x, y, G2, Ω2, _, st2.wf, RI.evo st1.wf e2 i1, i2, q2, fun z G' H' v' q e w i => k z Ω2 G' H' v' q ((e1.trans e2).trans e) w (Is.ri i)⟩
theorem nomarks {b : Expr} {op : CmpOp} (h : ∀ es k p, b ≠ .Set es k p) : behindInMarks op b = false := by
  cases b <;> first | rfl | exact absurd rfl (h _ _ _)
theorem dE_cmp {op : CmpOp} {o : BO} (ho : compareOp op = fOf o) (hu : X.A.units + 65 < cLine) (hs : ∀ es k p, b ≠ .Set es k p) (ha : PE X a (tE X T B W true ca)) (hb : PE X b (tE X T B W true cb)) (bb : Bool) : PE X (.Compare a [op] [b] pos) (tE X T B W bb (.op o ca cb)) := by
  refine PEi (pe_cmpR (r := rOp X B o) (by rw [ho]; exact op_ok hu o) ha hb (nomarks hs)) fun σ H Q ⟨ρ, Ω, G, E, Qd, st, eo, h, k⟩ => ?_
  refine tE.go st eo h fun x Ω1 G1 H1 v q1 e1 st1 i1 => tE.go st1 eo q1 fun y Ω2 G2 H2 u q2 e2 st2 i2 => ?_
  exact ⟨x, y, G2, Ω2, _, st2.wf, RI.evo st1.wf e2 i1, i2, q2, fun z G' H' v' q e w i => k z Ω2 G' H' v' q ((e1.trans e2).trans e) w (Is.ri i)⟩
theorem is_bl {K : PySem.W.Frag} {G : Gh} {H : Hp} {k : Bool} {v : V} (h : Is K G H (.bl k) v) : v = .bl k := by simpa only [Is] using h
theorem dT_cmp {op : CmpOp} {o : BO} (ho : compareOp op = fOf o) (hu : X.A.units + 65 < cLine) (hs : ∀ es k p, b ≠ .Set es k p) (ha : PE X a (tE X T B W true ca)) (hb : PE X b (tE X T B W true cb)) : PT X (.Compare a [op] [b] pos) (tT X T B W (.op o ca cb)) := by
  refine PTi (pt_cmpR (r := rOp X B o) (by rw [ho]; exact op_ok hu o) ha hb (nomarks hs)) fun σ H Q ⟨ρ, Ω, G, E, Qd, st, eo, h, k⟩ => ?_
  refine tE.go st eo h fun x Ω1 G1 H1 v q1 e1 st1 i1 => tE.go st1 eo q1 fun y Ω2 G2 H2 u q2 e2 st2 i2 => ?_
  refine ⟨x, y, G2, Ω2, _, st2.wf, RI.evo st1.wf e2 i1, i2, q2, fun z G' H' v' q e w i => ?_⟩
  obtain ⟨kk, rfl, hk⟩ := k z Ω2 G' H' q ((e1.trans e2).trans e) w
  exact ⟨kk, is_bl i, hk⟩
theorem chain_go {o o' : BO} {σ : L2.St} {H : Hp} {Q : VK} {ρ : Env} {Ω : Store} {G : Gh} {E : Str → D → Env → Store → Prop} {Qd : QD} (st : StX X T B σ H ρ Ω G) (eo : EOk X T B W E) (h : wE T (.chain o o' ca cb cc) E ρ Ω Qd)
    (k : ∀ d Ω' G' H' v, Qd d Ω' → Evo G H G' H' → StX X T B σ H' ρ Ω' G' → Is X.K G' H' d v → Q v H') :
    tChain (rOp X B o) (rOp X B o') (tE X T B W true ca) (tE X T B W true cb) (tE X T B W true cc) σ H Q := by
  refine tE.go st eo h fun x Ω1 G1 H1 v q1 e1 st1 i1 => tE.go st1 eo q1 fun y Ω2 G2 H2 u q2 e2 st2 i2 => ?_
  refine ⟨x, y, G2, Ω2, _, st2.wf, RI.evo st1.wf e2 i1, i2, q2, fun z G3 H3 v3 q3 e3 w3 i3 => ?_⟩
  obtain ⟨kk, rfl, q3⟩ := q3
  have st3 := st2.evo e3 w3
  refine ⟨kk, is_bl i3, ?_⟩
  cases kk with
  | false => exact k _ Ω2 G3 H3 _ q3 ((e1.trans e2).trans e3) st3 (by simp only [Is])
  | true =>
    refine tE.go st3 eo q3 fun w Ω4 G4 H4 v4 q4 e4 st4 i4 => ?_
    exact ⟨y, w, G4, Ω4, _, st4.wf, RI.evo st3.wf e4 (RI.evo st2.wf e3 i2), i4, q4, fun z G' H' v' q e w i => k z Ω4 G' H' v' q ((((e1.trans e2).trans e3).trans e4).trans e) (st4.evo e w) i⟩
theorem dE_chain {op op' : CmpOp} {o o' : BO} (ho : compareOp op = fOf o) (ho' : compareOp op' = fOf o') (hu : X.A.units + 65 < cLine) (hs : ∀ es k p, c ≠ .Set es k p)
    (ha : PE X a (tE X T B W true ca)) (hb : PE X b (tE X T B W true cb)) (hc : PE X c (tE X T B W true cc)) (bb : Bool) : PE X (.Compare a [op, op'] [b, c] pos) (tE X T B W bb (.chain o o' ca cb cc)) := by
  refine PEi (pe_chain (r := rOp X B o) (r' := rOp X B o') (by rw [ho]; exact op_ok hu o) (by rw [ho']; exact op_ok hu o') ha hb hc (nomarks hs)) fun σ H Q ⟨ρ, Ω, G, E, Qd, st, eo, h, k⟩ => ?_
  exact chain_go st eo h fun d Ω' G' H' v q e st' i => k d Ω' G' H' v q e st'.wf (Is.ri i)
theorem dT_chain {op op' : CmpOp} {o o' : BO} (ho : compareOp op = fOf o) (ho' : compareOp op' = fOf o') (hu : X.A.units + 65 < cLine) (hs : ∀ es k p, c ≠ .Set es k p)
    (ha : PE X a (tE X T B W true ca)) (hb : PE X b (tE X T B W true cb)) (hc : PE X c (tE X T B W true cc)) : PT X (.Compare a [op, op'] [b, c] pos) (tT X T B W (.chain o o' ca cb cc)) := by
  refine PTi (pt_chain (r := rOp X B o) (r' := rOp X B o') (by rw [ho]; exact op_ok hu o) (by rw [ho']; exact op_ok hu o') ha hb hc (nomarks hs)) fun σ H Q ⟨ρ, Ω, G, E, Qd, st, eo, h, k⟩ => ?_
  refine chain_go st eo h fun d Ω' G' H' v q e st' i => ?_
  obtain ⟨kk, rfl, hk⟩ := k d Ω' G' H' q e st'.wf
  exact ⟨kk, is_bl i, hk⟩
/-! ### and, or, not -/
theorem ri_bl {bb : Bool} {K : PySem.W.Frag} {G : Gh} {H : Hp} {k : Bool} {v : V} (h : RI bb K B G H (.bl k) v) : v = .bl k := h.b.bl
theorem dE_and {rest : List Expr} (ha : PE X a (tE X T B W true ca)) (hb : PE X (.BoolOp .And (b :: rest) pos) (tE X T B W false cb)) (bb : Bool) : PE X (.BoolOp .And (a :: b :: rest) pos) (tE X T B W bb (.and ca cb)) := by
  refine PEi (pe_and ha hb) fun σ H Q ⟨ρ, Ω, G, E, Qd, st, eo, h, k⟩ => ?_
  refine tE.go st eo h fun x Ω1 G1 H1 v ⟨kk, ex, q1⟩ e1 st1 i1 => ?_
  subst ex
  refine ⟨kk, ri_bl i1, ?_⟩
  cases kk with
  | false => exact k _ Ω1 G1 H1 _ q1 e1 st1.wf (Is.ri (by simp only [Is]))
  | true => exact tE.go st1 eo q1 fun y Ω2 G2 H2 u q2 e2 st2 i2 => k _ _ _ _ _ q2 (e1.trans e2) st2.wf (Is.ri i2)
theorem dE_or {rest : List Expr} (ha : PE X a (tE X T B W true ca)) (hb : PE X (.BoolOp .Or (b :: rest) pos) (tE X T B W false cb)) (bb : Bool) : PE X (.BoolOp .Or (a :: b :: rest) pos) (tE X T B W bb (.or ca cb)) := by
  refine PEi (pe_or ha hb) fun σ H Q ⟨ρ, Ω, G, E, Qd, st, eo, h, k⟩ => ?_
  refine tE.go st eo h fun x Ω1 G1 H1 v ⟨kk, ex, q1⟩ e1 st1 i1 => ?_
  subst ex
  refine ⟨kk, ri_bl i1, ?_⟩
  cases kk with
  | true => exact k _ Ω1 G1 H1 _ q1 e1 st1.wf (Is.ri (by simp only [Is]))
  | false => exact tE.go st1 eo q1 fun y Ω2 G2 H2 u q2 e2 st2 i2 => k _ _ _ _ _ q2 (e1.trans e2) st2.wf (Is.ri i2)
theorem dE_not (ha : PE X a (tE X T B W true ca)) (bb : Bool) : PE X (.UnaryOp .Not a pos) (tE X T B W bb (.not ca)) := by
  refine PEi (pe_not ha) fun σ H Q ⟨ρ, Ω, G, E, Qd, st, eo, h, k⟩ => ?_
  refine tE.go st eo h fun x Ω1 G1 H1 v ⟨kk, ex, q1⟩ e1 st1 i1 => ?_
  subst ex
  exact ⟨kk, ri_bl i1, k _ Ω1 G1 H1 _ q1 e1 st1.wf (Is.ri (by simp only [Is]))⟩
theorem dE_neg (ha : PE X a (tE X T B W true ca)) (bb : Bool) : PE X (.UnaryOp .USub a pos) (tE X T B W bb (.neg ca)) := by
  refine PEi (pe_un un_neg ha) fun σ H Q ⟨ρ, Ω, G, E, Qd, st, eo, h, k⟩ => ?_
  refine tE.go st eo h fun x Ω1 G1 H1 v ⟨kk, ex, q1⟩ e1 st1 i1 => ?_
  subst ex
  exact ⟨kk, i1.b.int, k _ Ω1 G1 H1 _ q1 e1 st1.wf (Is.ri (by simp only [Is]))⟩
theorem dE_one {op : BoolOp} {bb : Bool} (ha : PE X a (tE X T B W bb ca)) : PE X (.BoolOp op [a] pos) (tE X T B W bb ca) := pe_one ha
theorem dE_ite (hc : PT X c (tT X T B W cc)) (bb : Bool) (ha : PE X a (tE X T B W bb ca)) (hb : PE X b (tE X T B W bb cb)) : PE X (.IfExp c a b pos) (tE X T B W bb (.ite cc ca cb)) := by
  refine PEi (pe_ifExp hc ha hb) fun σ H Q ⟨ρ, Ω, G, E, Qd, st, eo, h, k⟩ => ?_
  refine tT.go st eo h fun x Ω1 G1 H1 ⟨kk, ex, q1⟩ e1 st1 => ⟨kk, ex, ?_⟩
  cases kk with
  | true => exact tE.go st1 eo q1 fun y Ω2 G2 H2 u q2 e2 st2 i2 => k _ _ _ _ _ q2 (e1.trans e2) st2.wf i2
  | false => exact tE.go st1 eo q1 fun y Ω2 G2 H2 u q2 e2 st2 i2 => k _ _ _ _ _ q2 (e1.trans e2) st2.wf i2
/-! tests -/
theorem dT_and {rest : List Expr} (ha : PT X a (tT X T B W ca)) (hb : PW X (.BoolOp .And (b :: rest) pos) (tT X T B W cb)) : PW X (.BoolOp .And (a :: b :: rest) pos) (tT X T B W (.and ca cb)) := by
  refine PWi (pw_and ha hb) fun σ H Q ⟨ρ, Ω, G, E, Qd, st, eo, h, k⟩ => ?_
  refine tT.go st eo h fun x Ω1 G1 H1 ⟨kk, ex, q1⟩ e1 st1 => ⟨kk, ex, ?_⟩
  cases kk with
  | false =>
    obtain ⟨k', e', z⟩ := k _ Ω1 G1 H1 q1 e1 st1.wf
    cases e'; exact z
  | true => exact tT.go st1 eo q1 fun y Ω2 G2 H2 q2 e2 st2 => k _ _ _ _ q2 (e1.trans e2) st2.wf
theorem dT_or {rest : List Expr} (ha : PT X a (tT X T B W ca)) (hb : PW X (.BoolOp .Or (b :: rest) pos) (tT X T B W cb)) : PW X (.BoolOp .Or (a :: b :: rest) pos) (tT X T B W (.or ca cb)) := by
  refine PWi (pw_or ha hb) fun σ H Q ⟨ρ, Ω, G, E, Qd, st, eo, h, k⟩ => ?_
  refine tT.go st eo h fun x Ω1 G1 H1 ⟨kk, ex, q1⟩ e1 st1 => ⟨kk, ex, ?_⟩
  cases kk with
  | true =>
    obtain ⟨k', e', z⟩ := k _ Ω1 G1 H1 q1 e1 st1.wf
    cases e'; exact z
  | false => exact tT.go st1 eo q1 fun y Ω2 G2 H2 q2 e2 st2 => k _ _ _ _ q2 (e1.trans e2) st2.wf
theorem dT_not (ha : PT X a (tT X T B W ca)) : PT X (.UnaryOp .Not a pos) (tT X T B W (.not ca)) := by
  refine PTi (pt_not ha) fun σ H Q ⟨ρ, Ω, G, E, Qd, st, eo, h, k⟩ => ?_
  refine tT.go st eo h fun x Ω1 G1 H1 ⟨kk, ex, q1⟩ e1 st1 => ⟨kk, ex, ?_⟩
  obtain ⟨k', e', z⟩ := k _ Ω1 G1 H1 q1 e1 st1.wf
  cases e'; exact z
/-- a value's truth -/
theorem dT_tru (he : ∀ whole, isTrue a X.env whole = (do let v ← whole; standAt a.pos; holding [v] (truthy v))) (ha : PE X a (tE X T B W true ca)) : PT X a (tT X T B W (.tru ca)) := by
  refine PTi (pt_truth ha he) fun σ H Q ⟨ρ, Ω, G, E, Qd, st, eo, h, k⟩ => ?_
  refine tE.go st eo h fun x Ω1 G1 H1 v q1 e1 st1 i1 => ?_
  obtain ⟨b, tv, q⟩ := tru_is q1 i1.b
  obtain ⟨k', e', z⟩ := k _ Ω1 G1 H1 q e1 st1.wf
  cases e'
  exact ⟨_, tv, z⟩
/-! ### items, slices, fields -/
theorem dE_idx (hs : PlainIx b) (ha : PE X a (tE X T B W true ca)) (hb : PE X b (tE X T B W true cb)) (bb : Bool) : PE X (.Subscript a b pos) (tE X T B W bb (.idx ca cb)) := by
  refine PEi (pe_ix (r := rIdx X B) idx_ok ha hb hs) fun σ H Q ⟨ρ, Ω, G, E, Qd, st, eo, h, k⟩ => ?_
  refine tE.go st eo h fun x Ω1 G1 H1 v q1 e1 st1 i1 => tE.go st1 eo q1 fun y Ω2 G2 H2 u q2 e2 st2 i2 => ?_
  exact ⟨x, y, G2, Ω2, _, st2.wf, i1.b.evo st1.wf e2, i2, q2, fun z G' H' v' q e w i => k z Ω2 G' H' v' q ((e1.trans e2).trans e) w (Is.ri i)⟩
/-- a bound of a slice -/
def tP (X : Cx) (T : Tab) (B : Bs) (W : WX) (c : IR) : TO := fun σ H Q => ∃ ρ Ω G E Qd, StX X T B σ H ρ Ω G ∧ EOk X T B W E ∧ wE T c E ρ Ω Qd ∧
  ∀ d Ω' G' H', Qd d Ω' → Evo G H G' H' → WfX X G' Ω' H' → ∃ i, partOf c d = some i ∧ Q i H'
theorem POi {e : Option Expr} {t t' : TO} (h : PO X e t) (k : ∀ σ H Q, t' σ H Q → t σ H Q) : PO X e t' := ⟨fun pins s σ H Q I q => h.run pins s σ H Q I (k σ H Q q)⟩
theorem dP_none : PO X none (tP X T B W .nop) := POi po_none fun σ H Q ⟨ρ, Ω, G, E, Qd, st, eo, h, k⟩ => by
  obtain ⟨i, e, q⟩ := k .non Ω G H h .refl st.wf
  cases e; exact q
theorem dP_some (hn : isNop ca = false) (ha : PE X a (tE X T B W true ca)) : PO X (some a) (tP X T B W ca) := POi (po_some ha) fun σ H Q ⟨ρ, Ω, G, E, Qd, st, eo, h, k⟩ => by
  refine tE.go st eo h fun x Ω1 G1 H1 v q1 e1 st1 i1 => ?_
  obtain ⟨i, e, q⟩ := k x Ω1 G1 H1 q1 e1 st1.wf
  unfold partOf at e
  rw [if_neg (by rw [hn]; decide)] at e
  split at e
  · cases e; exact ⟨_, i1.b.int, q⟩
  · cases e
theorem dE_sl {lo hi : Option Expr} {cl ch : IR} {p2 : Pos} (ha : PE X a (tE X T B W true ca)) (hl : PO X lo (tP X T B W cl)) (hh : PO X hi (tP X T B W ch)) (bb : Bool) : PE X (.Subscript a (.Slice lo hi none p2) pos) (tE X T B W bb (.sl ca cl ch)) := by
  refine PEi (pe_slice (r := rSlc X B) slc_ok ha hl hh) fun σ H Q ⟨ρ, Ω, G, E, Qd, st, eo, h, k⟩ => ?_
  refine tE.go st eo h fun x Ω1 G1 H1 v q1 e1 st1 i1 => ?_
  refine ⟨ρ, Ω1, G1, E, _, st1, eo, q1, fun l Ω2 G2 H2 ⟨i, ei, q2⟩ e2 w2 => ⟨i, ei, ?_⟩⟩
  have st2 := st1.evo e2 w2
  refine ⟨ρ, Ω2, G2, E, _, st2, eo, q2, fun u Ω3 G3 H3 ⟨j, ej, q3⟩ e3 w3 => ⟨j, ej, ?_⟩⟩
  exact ⟨x, G3, Ω3, _, w3, (i1.b.evo st1.wf e2).evo st2.wf e3, q3, fun z G' H' v' q e w i => k z Ω3 G' H' v' q (((e1.trans e2).trans e3).trans e) w (Is.ri i)⟩
/-! ### fields -/
theorem dE_fld {f : Str} (hno : ∀ c C, X.mg c = some (.ref C) → T.fl c f = true → Cls X.K C ∧ NoAttr X.K C f) (hb : attributeBase a f X.env (eval a X.env) = eval a X.env) (ha : PE X a (tE X T B W true ca)) (bb : Bool) :
    PE X (.Attribute a f pos) (tE X T B W bb (.fld ca f)) := by
  refine PEi (pe_fld ha hb) fun σ H Q ⟨ρ, Ω, G, E, Qd, st, eo, h, k⟩ => ?_
  refine tE.go st eo h fun x Ω1 G1 H1 v ⟨n, c, fs, d, ex, eo, hf, el, q⟩ e1 st1 i1 => ?_
  subst ex
  obtain ⟨a, rfl, ha⟩ := i1.b.obj
  obtain ⟨C, dx, ws, hC, hH, hF⟩ := st1.wf.ob n a _ ha eo
  obtain ⟨v, lv, iv⟩ := hF.look el
  obtain ⟨h1, h2⟩ := hno c C hC hf
  exact ⟨a, C, dx, ws, v, rfl, hH, h1, h2, lv, k _ _ _ _ _ q e1 st1.wf (Is.ri iv)⟩
/-! ### calls -/
theorem ok_exc {X : Cx} {T : Tab} {B : Bs} {W : WX} {E : Str → D → Env → Store → Prop} {ρ : Env} {Ω : Store} {G : Gh} {σ : L2.St} {H : Hp} (st : StX X T B σ H ρ Ω G) (eo : EOk X T B W E) :
    ∀ x d Ω' G' H' cls dx, E x d ρ Ω' → Evo G H G' H' → WfX X G' Ω' H' → ExcRel X.K X.mg T G' H' x d cls dx → W cls dx σ H' :=
  fun x d Ω' G' H' cls dx q e w r => eo x d ρ Ω' G' σ H' cls dx q (st.evo e w) r
theorem dE_call {x : Str} {p : Pos} {es : List Expr} {en : Ent} {k : Nat} (tk : Takes X W) (tab : TabOk X.prog X.w X.K X.mg X.base T k) (hr : Room k X.A) (he : ∃ en, T.fn x = some en) (hg : Gl X x) (hn : ∀ x p, a ≠ .Starred x p)
    (hdb : (x == ("__debug__" : Str)) = false) (hpl : (backTo pos (starEach es X.env)).any (·.1) = false) (ha : PA X (a :: es) (tA X T B W false ca)) (bb : Bool) : PE X (.Call (.Name x p) (a :: es) [] pos) (tE X T B W bb (.call x ca)) := by
  obtain ⟨en, he⟩ := he
  obtain ⟨hk, f, hm, ⟨fd, ps, F, hb⟩, kp⟩ := tab.fn x en he
  refine PEi (pe_callS F (hr.mono hk) hg hm kp hb (E := WE W) (fun σ => passAt tk σ) ha hdb (starE hn _ _) hpl) fun σ H Q ⟨ρ, Ω, G, E, Qd, st, eo, h, k⟩ => ?_
  refine tA.go st eo h fun l Ω1 G1 H1 vs ⟨l', en', e, e', hl, q⟩ e1 st1 i1 => ?_
  cases e
  rw [he] at e'; cases e'
  have i1 : IsAll X.K G1 H1 l vs := i1
  exact ⟨l, G1, Ω1, _, _, by rw [← i1.length]; exact hl, st1.wf, i1, q, fun d Ω' G' H' v q e w i => k d Ω' G' H' v q (e1.trans e) w (Is.ri i), fun x d Ω' G' H' cls dx q e w r => ok_exc st1 eo x d Ω' G' H' cls dx q e w r⟩
end
end OE
namespace OE
open PySem PySem.Spec PyProof.Rows L2
section
variable {X : Cx} {T : Tab} {B : Bs} {W : WX} {a b c o : Expr} {ca cb cc co : IR} {pos apos : Pos}
theorem PEf {e : Expr} {t : TE} (h : ∀ σ H Q, ¬ t σ H Q) : PE X e t := ⟨fun _ _ σ H Q _ q => absurd q (h σ H Q)⟩
/-- the wish of a frame's expressions, whatever the slots -/
theorem run_W {CX : CXT} {k : Nat} {f C : Addr} {fd : FuncData} {ps : List Str} {sp : Sp} {E : L2.St → XK} {pins : List (Addr × Obj)} {σ : L2.St} {H : Hp} {s : Shared} {Q : VK} {us : List Value} {vs : List V} (M : Mk X.K C f)
    (F : FnOk X.prog X.w X.K X.mg X.base CX k f fd ps sp) (hr : Room (k + 1) X.A) (hb : Binds X.K fd ps []) (hx : ∀ H' s' e s'', L2.Inv X pins σ H' s' → CX X.stack H' s' (E σ) e s'' → X.xe e s'') (I : L2.Inv X pins σ H s) (r : Vals vs us)
    (h : ∀ x dx, H x = none → H dx = none → dx ≠ x → sp (.ref x :: vs) (upd (upd H dx (.own x)) x (.ins C dx [])) (fun v H2 => v = .non ∧ Q (.ref x) H2) (E σ)) :
    wpAny (model X.prog X.w) X.A (call (.ref C) us) (EP X pins σ Q) X.xe s := by
  have want := h (s.heap.objs.size + 1) s.heap.objs.size (I.hok.fresh (Nat.le_succ _)) (I.hok.fresh (Nat.le_refl _)) (Nat.ne_of_lt (Nat.lt_succ_self _))
  have J := L2.Inv.made (C := C) I
  have rr : Vals (V.ref (s.heap.objs.size + 1) :: vs) (Value.ref (s.heap.objs.size + 1) :: us) := .cons rfl r
  have len : (Value.ref (s.heap.objs.size + 1) :: us).length = ps.length := by
    rw [← rr.length]; exact F.len _ _ _ _ want
  have bd := hb _ (Value.ref (s.heap.objs.size + 1) :: us) J.kIn (by rw [List.append_nil]; exact len)
  rw [List.append_nil] at bd
  refine wpAny_call (make_map (f := f) I.kIn M.makes M.init (beq_iff_eq.mp M.fn) (codeAny_mono (F.run _ X.stack _ _ ⟨Value.ref (s.heap.objs.size + 1) :: us, []⟩ _ _ _ (E σ) (hr.make C us []) (J.env0.make C us []) bd rr want) fun r s' z => ?_))
  cases r with
  | error e => exact hx _ _ e s' J z
  | ok fl =>
    cases fl with
    | ret u =>
      obtain ⟨v, H', J', rv, ev, q⟩ := J.after z
      subst ev
      exact ⟨rv, V.ref (s.heap.objs.size + 1), H', J', rfl, q⟩
    | next => exact (show False from z).elim
    | brk => exact (show False from z).elim
    | cont => exact (show False from z).elim
theorem x_of {pins : List (Addr × Obj)} {σ : L2.St} (tk : Takes X W) : ∀ H' s' e s'', L2.Inv X pins σ H' s' → L2.CX X.prog X.w X.stack H' s' (WE W σ) e s'' → X.xe e s'' :=
  fun H' s' e s'' I c => tk e s'' (XE.of_call I (fun _ _ _ h => h) c)
/-- C(..) -/
theorem dE_make {x : Str} {p : Pos} {es : List Expr} {k : Nat} (tk : Takes X W) (tab : TabOk X.prog X.w X.K X.mg X.base T k) (hr : Room k X.A) (he : ∃ en, T.ini x = some en) (hg : Gl X x) (hn : ∀ x p, a ≠ .Starred x p)
    (hdb : (x == ("__debug__" : Str)) = false) (hpl : (backTo pos (starEach es X.env)).any (·.1) = false) (ha : PA X (a :: es) (tA X T B W false ca)) (bb : Bool) : PE X (.Call (.Name x p) (a :: es) [] pos) (tE X T B W bb (.make x ca)) := by
  obtain ⟨en, he⟩ := he
  obtain ⟨hk, C, f, hm, M, ⟨fd, ps, F, hb⟩, kp⟩ := tab.ini x en he
  refine ⟨fun pins s σ H Q I ⟨ρ, Ω, G, E, Qd, st, eo, h, k⟩ => ?_⟩
  refine wpAny_Call_Name_kw (ld_glob I hg hm ?_ hdb)
  have rd : tA X T B W false ca σ H (fun vs H1 => ∀ x dx, H1 x = none → H1 dx = none → dx ≠ x → spOf X.K X.mg T en.n en.S (.ref x :: vs) (upd (upd H1 dx (.own x)) x (.ins C dx [])) (fun v H2 => v = .non ∧ Q (.ref x) H2) (WE W σ)) := by
    refine tA.go st eo h fun l Ω1 G1 H1 vs ⟨l', en', e, e', hl, q⟩ e1 st1 i1 => ?_
    cases e
    rw [he] at e'; cases e'
    have i1 : IsAll X.K G1 H1 l vs := i1
    intro y dx hy hd ne
    obtain ⟨w2, e2⟩ := st1.wf.make hm hy hd ne
    have st2 := st1.evo e2 w2
    have iy : Is X.K (G1.put y) (upd (upd H1 dx (.own y)) y (.ins C dx [])) (.obj Ω1.length) (.ref y) := by
      simp only [Is]
      refine ⟨y, rfl, ?_⟩
      show (G1.ι ++ [y])[Ω1.length]? = _
      rw [← st1.wf.len, List.getElem?_append_right (Nat.le_refl _), Nat.sub_self]; rfl
    refine ⟨.obj Ω1.length :: l, G1.put y, Ω1 ++ [.ins x []], _, _, by rw [List.length_cons, ← i1.length]; exact hl, w2, .cons iy (i1.mono (e2.kp st1.wf)), q, fun d Ω' G' H' v ⟨ed, q⟩ e3 w3 i3 => ?_, fun x d Ω' G' H' cls dx q e w r => ok_exc st2 eo x d Ω' G' H' cls dx q e w r⟩
    subst ed
    have : v = .non := by simpa only [Is] using i3
    exact ⟨this, k _ Ω' G' H' _ q ((e1.trans e2).trans e3) w3 (Is.ri (iy.mono (e3.kp w2)))⟩
  refine PySem.W.callWith_K (h₀ := X.base) I.ok.mod.kin M.kp (thn (ha.run pos pins s σ H _ I rd) fun us s1 ⟨vs, H1, I1, r, q⟩ => ⟨I1.kIn, ?_⟩) (starE hn _ _) hpl
  exact run_W (E := WE W) M F (hr.mono hk) hb (x_of tk) I1 r q
theorem dE_make0 {x : Str} {p : Pos} {k : Nat} (tk : Takes X W) (tab : TabOk X.prog X.w X.K X.mg X.base T k) (hr : Room k X.A) (he : ∃ en, T.ini x = some en) (hg : Gl X x)
    (hdb : (x == ("__debug__" : Str)) = false) (bb : Bool) : PE X (.Call (.Name x p) [] [] pos) (tE X T B W bb (.make x .nil)) := by
  obtain ⟨en, he⟩ := he
  obtain ⟨hk, C, f, hm, M, ⟨fd, ps, F, hb⟩, kp⟩ := tab.ini x en he
  refine ⟨fun pins s σ H Q I ⟨ρ, Ω, G, E, Qd, st, eo, h, k⟩ => ?_⟩
  refine wpAny_Call_Name_kw (ld_glob I hg hm ?_ hdb)
  refine PySem.W.callWith_K0 I.kIn M.kp (run_W (us := []) (vs := []) (E := WE W) M F (hr.mono hk) hb (x_of tk) I .nil fun y dx hy hd ne => ?_)
  obtain ⟨l', en', e, e', hl, q⟩ := h
  cases e
  rw [he] at e'; cases e'
  obtain ⟨w2, e2⟩ := st.wf.make hm hy hd ne
  have st2 := st.evo e2 w2
  have iy : Is X.K (G.put y) (upd (upd H dx (.own y)) y (.ins C dx [])) (.obj Ω.length) (.ref y) := by
    simp only [Is]
    refine ⟨y, rfl, ?_⟩
    show (G.ι ++ [y])[Ω.length]? = _
    rw [← st.wf.len, List.getElem?_append_right (Nat.le_refl _), Nat.sub_self]; rfl
  refine ⟨[.obj Ω.length], G.put y, Ω ++ [.ins x []], _, _, hl, w2, .one iy, q, fun d Ω' G' H' v ⟨ed, q⟩ e3 w3 i3 => ?_, fun x d Ω' G' H' cls dx q e w r => ok_exc st2 eo x d Ω' G' H' cls dx q e w r⟩
  subst ed
  have : v = .non := by simpa only [Is] using i3
  exact ⟨this, k _ Ω' G' H' _ q (e2.trans e3) w3 (Is.ri (iy.mono (e3.kp w2)))⟩
/-! ### methods -/
theorem meth_go {C f n : Addr} {m cn : Str} {en : Ent} {σ : L2.St} {H : Hp} {Q : VK} {ρ : Env} {Ω : Store} {G : Gh} {E : Str → D → Env → Store → Prop} {Qd : QD} {nn : Nat} {fs : List (Str × D)} {bb : Bool}
    (he : T.me cn m = some en) (st : StX X T B σ H ρ Ω G) (eo : EOk X T B W E) {a : Addr} (ha : G.ι[nn]? = some a) {l : List D} {vs : List V} (i1 : IsAll X.K G H l vs) (hl : l.length + 1 = en.n)
    (q : en.S (.obj nn :: l) Ω Qd (fun x d Ω' => E x d ρ Ω')) (k : ∀ d Ω' G' H' v, Qd d Ω' → Evo G H G' H' → WfX X G' Ω' H' → RI bb X.K B G' H' d v → Q v H') :
    spOf X.K X.mg T en.n en.S (.ref a :: vs) H Q (WE W σ) := by
  have iy : Is X.K G H (.obj nn) (.ref a) := by simp only [Is]; exact ⟨a, rfl, ha⟩
  exact ⟨.obj nn :: l, G, Ω, _, _, by rw [List.length_cons, ← i1.length]; exact hl, st.wf, .cons iy i1, q, fun d Ω' G' H' v q e w i => k d Ω' G' H' v q e w (Is.ri i), fun x d Ω' G' H' cls dx q e w r => ok_exc st eo x d Ω' G' H' cls dx q e w r⟩
theorem dE_meth {m cn : Str} {es : List Expr} {k : Nat} {pl : Sem Bool} (tk : Takes X W) (tab : TabOk X.prog X.w X.K X.mg X.base T k) (hr : Room k X.A) (he : ∃ en, T.me cn m = some en) (hn : ∀ x p, a ≠ .Starred x p)
    (hpl : (backTo pos (starEach es X.env)).any (·.1) = false)
    (ht : eval (.Call (.Attribute o m apos) (a :: es) [] pos) X.env = (do
      let ov ← eval o X.env
      standAt apos.atName
      let (f, first) ← holding [ov] (getMethod ov m pl)
      callWith pos f first (backTo pos (starEach (a :: es) X.env)) (backToKw pos (keywordEach [] X.env))))
    (ho : PE X o (tE X T B W true co)) (ha : PA X (a :: es) (tA X T B W false ca)) (bb : Bool) : PE X (.Call (.Attribute o m apos) (a :: es) [] pos) (tE X T B W bb (.meth co cn m ca)) := by
  obtain ⟨en, he⟩ := he
  obtain ⟨hk, C, f, hC, hcls, hm, ⟨fd, ps, F, hb⟩, kp⟩ := tab.me cn m en he
  refine ⟨fun pins s σ H Q I ⟨ρ, Ω, G, E, Qd, st, eo, h, k⟩ => ?_⟩
  have rd : tE X T B W true co σ H (fun x H1 => ∃ y dx ws, x = .ref y ∧ H1 y = some (.ins C dx ws) ∧ ws.lookup m = none ∧ tA X T B W false ca σ H1 (fun vs H2 => spOf X.K X.mg T en.n en.S (.ref y :: vs) H2 Q (WE W σ))) := by
    refine tE.go st eo h fun x Ω1 G1 H1 v ⟨n, fs, ex, eO, hf, q⟩ e1 st1 i1 => ?_
    subst ex
    obtain ⟨y, rfl, hy⟩ := i1.b.obj
    obtain ⟨C', dx, ws, hC', hH, hF⟩ := st1.wf.ob n y _ hy eO
    rw [hC] at hC'; cases hC'
    refine ⟨y, dx, ws, rfl, hH, hF.none hf, tA.go st1 eo q fun l Ω2 G2 H2 vs ⟨l', en', e, e', hl, q2⟩ e2 st2 i2 => ?_⟩
    cases e
    rw [he] at e'; cases e'
    have hy2 : G2.ι[n]? = some y := (e2.kp st1.wf).ι n y hy
    exact meth_go (n := y) (C := C) (f := f) (fs := fs) he st2 eo hy2 i2 hl q2 fun d Ω' G' H' v q e w i => k d Ω' G' H' v q ((e1.trans e2).trans e) w i
  refine PySem.W.methodCall_KW (pl := pl) (thn (ho.run pins s σ H _ I rd) fun u s1 ⟨x, H1, I1, rx, y, dx, ws, ex, ey, l, q⟩ => ?_) ht
  subst ex
  obtain rfl : u = Value.ref y := rx
  refine getmeth_ok I1 ey hcls hm l ?_
  refine PySem.W.callWith_K (first := [.ref y]) (h₀ := X.base) I.ok.mod.kin hm.kp (thn (ha.run pos pins s1 σ H1 _ I1 q) fun us s2 ⟨vs, H2, I2, r, q2⟩ => ⟨I2.kIn, ?_⟩) (starE hn _ _) hpl
  exact run_fnS (us := .ref y :: us) (vs := .ref y :: vs) (E := WE W) F (hr.mono hk) hb (passAt tk σ) I2 (.cons rfl r) q2
theorem dE_meth0 {m cn : Str} {k : Nat} {pl : Sem Bool} (tk : Takes X W) (tab : TabOk X.prog X.w X.K X.mg X.base T k) (hr : Room k X.A) (he : ∃ en, T.me cn m = some en)
    (ht : eval (.Call (.Attribute o m apos) [] [] pos) X.env = (do
      let ov ← eval o X.env
      standAt apos.atName
      let (f, first) ← holding [ov] (getMethod ov m pl)
      callWith pos f first (backTo pos (starEach [] X.env)) (backToKw pos (keywordEach [] X.env))))
    (ho : PE X o (tE X T B W true co)) (bb : Bool) : PE X (.Call (.Attribute o m apos) [] [] pos) (tE X T B W bb (.meth co cn m .nil)) := by
  obtain ⟨en, he⟩ := he
  obtain ⟨hk, C, f, hC, hcls, hm, ⟨fd, ps, F, hb⟩, kp⟩ := tab.me cn m en he
  refine ⟨fun pins s σ H Q I ⟨ρ, Ω, G, E, Qd, st, eo, h, k⟩ => ?_⟩
  have rd : tE X T B W true co σ H (fun x H1 => ∃ y dx ws, x = .ref y ∧ H1 y = some (.ins C dx ws) ∧ ws.lookup m = none ∧ spOf X.K X.mg T en.n en.S [.ref y] H1 Q (WE W σ)) := by
    refine tE.go st eo h fun x Ω1 G1 H1 v ⟨n, fs, ex, eO, hf, q⟩ e1 st1 i1 => ?_
    subst ex
    obtain ⟨y, rfl, hy⟩ := i1.b.obj
    obtain ⟨C', dx, ws, hC', hH, hF⟩ := st1.wf.ob n y _ hy eO
    rw [hC] at hC'; cases hC'
    obtain ⟨l', en', e, e', hl, q2⟩ := q
    cases e
    rw [he] at e'; cases e'
    exact ⟨y, dx, ws, rfl, hH, hF.none hf, meth_go (n := y) (C := C) (f := f) (fs := fs) he st1 eo hy (l := []) (vs := []) .nil hl q2 fun d Ω' G' H' v q e w i => k d Ω' G' H' v q (e1.trans e) w i⟩
  refine PySem.W.methodCall_KW (pl := pl) (thn (ho.run pins s σ H _ I rd) fun u s1 ⟨x, H1, I1, rx, y, dx, ws, ex, ey, l, q⟩ => ?_) ht
  subst ex
  obtain rfl : u = Value.ref y := rx
  refine getmeth_ok I1 ey hcls hm l ?_
  exact PySem.W.callWith_K0 (first := [.ref y]) I1.kIn hm.kp (run_fnS (us := [.ref y]) (vs := [.ref y]) (E := WE W) F (hr.mono hk) hb (passAt tk σ) I1 (.cons rfl .nil) q)
/-! ### built-in functions by name -/
theorem dE_bi {x : Str} {p : Pos} {es : List Expr} {id : String} {f : Bi} (hc : X.calm = true) (hf : bOf f = some (.builtin id)) (hg : Gl X x) (hm : X.mg x = none) (hv : bootBuiltins x = some (.builtin id)) (hn : ∀ x p, a ≠ .Starred x p)
    (hnm : x ≠ "__name__") (hdb : (x == ("__debug__" : Str)) = false) (hpl : (backTo pos (starEach es X.env)).any (·.1) = false) (ha : PA X (a :: es) (tA X T B W true ca)) (bb : Bool) : PE X (.Call (.Name x p) (a :: es) [] pos) (tE X T B W bb (.bi f ca)) := by
  refine PEi (pe_callB (bi_ok (B := B) hc f _ hf) hg hm hv ha hnm hdb (starE hn _ _) hpl) fun σ H Q ⟨ρ, Ω, G, E, Qd, st, eo, h, k⟩ => ?_
  refine tA.go st eo h fun l Ω1 G1 H1 vs ⟨l', e, q⟩ e1 st1 i1 => ?_
  cases e
  exact ⟨l, G1, Ω1, _, st1.wf, i1.b, q, fun z G' H' v' q e w i => k z Ω1 G' H' v' q (e1.trans e) w (Is.ri i)⟩
theorem dE_biT {x : Str} {p : Pos} {es : List Expr} {id : String} {f : Bi} (hc : X.calm = true) (hf : bOf f = some (.type id)) (hg : Gl X x) (hm : X.mg x = none) (hv : bootBuiltins x = some (.type id)) (hn : ∀ x p, a ≠ .Starred x p)
    (hnm : x ≠ "__name__") (hdb : (x == ("__debug__" : Str)) = false) (hpl : (backTo pos (starEach es X.env)).any (·.1) = false) (ha : PA X (a :: es) (tA X T B W true ca)) (bb : Bool) : PE X (.Call (.Name x p) (a :: es) [] pos) (tE X T B W bb (.bi f ca)) := by
  refine PEi (pe_callTy (bi_ok (B := B) hc f _ hf) hg hm hv ha hnm hdb (starE hn _ _) hpl) fun σ H Q ⟨ρ, Ω, G, E, Qd, st, eo, h, k⟩ => ?_
  refine tA.go st eo h fun l Ω1 G1 H1 vs ⟨l', e, q⟩ e1 st1 i1 => ?_
  cases e
  exact ⟨l, G1, Ω1, _, st1.wf, i1.b, q, fun z G' H' v' q e w i => k z Ω1 G' H' v' q (e1.trans e) w (Is.ri i)⟩
/-! ### methods of texts -/
theorem dE_bm {name : Str} {es : List Expr} {m : Bm} (hm : m ≠ .index) (slot : Slot "str" name (mOf m)) (hty : typeOf (.builtin (mOf m)) = pure (.type "method_descriptor")) (hn : ∀ x p, a ≠ .Starred x p)
    (hbase : attributeBase o name X.env (eval o X.env) = eval o X.env)
    (hfew : ((backTo pos (starEach (a :: es) X.env)).all (fun x => !x.1) && (backToKw pos (keywordEach [] X.env)).all (fun x => x.1.isSome)
      && decide ((a :: es).length + ([] : List Keyword).length + (if ([] : List Keyword).isEmpty then 0 else 1) < 30)) = true)
    (hline : (apos.endLine == pos.line) = true) (hpl : (backTo pos (starEach es X.env)).any (·.1) = false)
    (ho : PE X o (tE X T B W true co)) (ha : PA X (a :: es) (tA X T B W true ca)) (bb : Bool) : PE X (.Call (.Attribute o name apos) (a :: es) [] pos) (tE X T B W bb (.bm m co ca)) := by
  refine PEi (pe_bm (T := "str") PySem.F.plainAttrs_str slot hty (bm_ok (B := B) m hm) ho ha hbase hfew hline (starE hn _ _) hpl) fun σ H Q ⟨ρ, Ω, G, E, Qd, st, eo, h, k⟩ => ?_
  refine tE.go st eo h fun x Ω1 G1 H1 v ⟨⟨s, ex⟩, q1⟩ e1 st1 i1 => ?_
  subst ex
  obtain rfl := i1.b.str
  refine ⟨rfl, tA.go st1 eo q1 fun l Ω2 G2 H2 vs ⟨l', e, q⟩ e2 st2 i2 => ?_⟩
  cases e
  exact ⟨.str s, l, G2, Ω2, _, st2.wf, i1.b.evo st1.wf e2, i2.b, q, fun z G' H' v' q e w i => k z Ω2 G' H' v' q ((e1.trans e2).trans e) w (Is.ri i)⟩
end
end OE
namespace OE
open PySem PySem.Spec PyProof.Rows L2
/-! ### slots -/
theorem wipe_set {σ : L2.St} {i : Nat} {x : Option V} : ∀ {vs : List Nat}, (i ∈ vs → L2.wipe (σ.set i x) vs = L2.wipe σ vs) ∧ (i ∉ vs → L2.wipe (σ.set i x) vs = (L2.wipe σ vs).set i x)
  | [] => ⟨fun h => (by cases h), fun _ => rfl⟩
  | w :: vs => by
    obtain ⟨h1, h2⟩ := wipe_set (σ := σ) (i := i) (x := x) (vs := vs)
    refine ⟨fun h => ?_, fun h => ?_⟩
    · unfold L2.wipe
      by_cases hm : i ∈ vs
      · rw [h1 hm]
      · have e : i = w := by simpa [hm] using h
        subst e
        rw [h2 hm, List.set_set]
    · unfold L2.wipe
      have hm : i ∉ vs := fun z => h (List.mem_cons_of_mem _ z)
      have hw : i ≠ w := fun z => h (by rw [z]; exact List.mem_cons_self)
      rw [h2 hm, List.set_comm _ _ hw]
section
variable {K : PySem.W.Frag} {mg : Str → Option Value} {T : Tab} {B : Bs} {G G' : Gh} {H H' : Hp} {Ω Ω' : Store} {σ σ' : L2.St} {ρ ρ' : Env}
theorem set_far {α : Type} {l : List α} {i : Nat} {x : α} (h : ¬ i < l.length) : l.set i x = l := List.set_eq_of_length_le (by omega)
theorem St.setv' (s : St K mg T B σ H ρ Ω G) {i : Nat} {d : D} {v : V} (h : Is K G H d v) : St K mg T B (σ.set i (some v)) H (ρ.set i (.val d)) Ω G := by
  by_cases hi : i < ρ.length
  · exact s.setv h hi
  · rw [set_far hi, set_far (by rw [s.len]; exact hi)]; exact s
theorem St.seto' (s : St K mg T B σ H ρ Ω G) {i : Nat} {d : D} {a : Addr} (h : OwnD K B G H a d) (hn : ∀ (j : Nat) (e : D), ρ[j]? = some (.own e) → σ[j]? ≠ some (some (.ref a))) :
    St K mg T B (σ.set i (some (.ref a))) H (ρ.set i (.own d)) Ω G := by
  by_cases hi : i < ρ.length
  · exact s.seto h hi hn
  · rw [set_far hi, set_far (by rw [s.len]; exact hi)]; exact s
def stS (σ : L2.St) (is : List Nat) (vs : List V) : L2.St := (is.zip vs).foldl (fun σ p => σ.set p.1 (some p.2)) σ
def stD (ρ : Env) (is : List Nat) (ds : List D) : Env := (is.zip ds).foldl (fun ρ p => ρ.set p.1 (.val p.2)) ρ
theorem St.sets : ∀ {is : List Nat} {ds : List D} {vs : List V} {σ : L2.St} {ρ : Env}, St K mg T B σ H ρ Ω G → IsAll K G H ds vs → St K mg T B (stS σ is vs) H (stD ρ is ds) Ω G
  | [], _, _, _, _, s, _ => s
  | i :: is, [], _, _, _, s, h => by simp only [IsAll] at h; subst h; exact s
  | i :: is, d :: ds, _, σ, ρ, s, h => by
    simp only [IsAll] at h
    obtain ⟨v, r, rfl, h1, h2⟩ := h
    exact St.sets (σ := σ.set i (some v)) (ρ := ρ.set i (.val d)) (s.setv' h1) h2
theorem wipe_sets {ws : List Nat} : ∀ {is : List Nat} {vs : List V} {σ : L2.St}, (∀ i ∈ is, i ∈ ws) → L2.wipe (stS σ is vs) ws = L2.wipe σ ws
  | [], _, _, _ => rfl
  | i :: is, [], _, _ => rfl
  | i :: is, v :: vs, σ, h => by
    show L2.wipe (stS (σ.set i (some v)) is vs) ws = _
    rw [wipe_sets fun j hj => h j (List.mem_cons_of_mem _ hj), (wipe_set).1 (h i List.mem_cons_self)]
/-- one more slot, that nobody sees: a new unfrozen list -/
theorem St.push (s : St K mg T B σ H ρ Ω G) {a : Addr} {d : D} (h : OwnD K B G H a d) (hn : ∀ (j : Nat) (e : D), ρ[j]? = some (.own e) → σ[j]? ≠ some (some (.ref a))) :
    St K mg T B (σ ++ [some (.ref a)]) H (ρ ++ [.own d]) Ω G := by
  have low : ∀ {j : Nat} {x : Sl}, (ρ ++ [Sl.own d])[j]? = some x → (j < ρ.length ∧ ρ[j]? = some x) ∨ (j = ρ.length ∧ x = .own d) := fun {j x} e => by
    by_cases hj : j < ρ.length
    · rw [List.getElem?_append_left hj] at e; exact .inl ⟨hj, e⟩
    · have hl := (List.getElem?_eq_some_iff.mp e).1
      rw [List.length_append, List.length_singleton] at hl
      have : j = ρ.length := by omega
      subst this
      rw [List.getElem?_append_right (Nat.le_refl _), Nat.sub_self] at e
      cases e; exact .inr ⟨rfl, rfl⟩
  have up : ∀ {j : Nat}, j < ρ.length → (σ ++ [some (V.ref a)])[j]? = σ[j]? := fun {j} hj => List.getElem?_append_left (by rw [s.len]; exact hj)
  have top : (σ ++ [some (V.ref a)])[ρ.length]? = some (some (.ref a)) := by
    rw [← s.len, List.getElem?_append_right (Nat.le_refl _), Nat.sub_self]; rfl
  refine ⟨s.wf, s.ev, by simp [s.len], fun j e q => ?_, fun j e q => ?_, fun j l e f b q1 q2 q3 q4 => ?_, fun j c e q => ?_, s.kp⟩
  · rcases low q with ⟨hj, q⟩ | ⟨_, z⟩
    · rw [up hj]; exact s.val j e q
    · cases z
  · rcases low q with ⟨hj, q⟩ | ⟨rfl, z⟩
    · rw [up hj]; exact s.own j e q
    · cases z; exact ⟨a, top, h⟩
  · rcases low q1 with ⟨hj, q1⟩ | ⟨rfl, z⟩
    · rw [up hj] at q3
      rcases low q2 with ⟨hl, q2⟩ | ⟨rfl, z⟩
      · rw [up hl] at q4; exact s.ap j l e f b q1 q2 q3 q4
      · rw [top] at q4; cases q4; exact absurd q3 (hn j e q1)
    · rcases low q2 with ⟨hl, q2⟩ | ⟨rfl, _⟩
      · rw [up hl] at q4; rw [top] at q3; cases q3; exact absurd q4 (hn l f q2)
      · rfl
  · rcases low q with ⟨hj, q⟩ | ⟨_, z⟩
    · rw [up hj]; exact s.exc j c e q
    · cases z
theorem St.pop {a : Addr} {d : D} (hl : σ.length = ρ.length) (s : St K mg T B (σ ++ [some (.ref a)]) H (ρ ++ [.own d]) Ω G) : St K mg T B σ H ρ Ω G := by
  have lo : ∀ {j : Nat} {x : Sl}, ρ[j]? = some x → (ρ ++ [Sl.own d])[j]? = some x ∧ (σ ++ [some (V.ref a)])[j]? = σ[j]? := fun {j x} e => by
    have hj := (List.getElem?_eq_some_iff.mp e).1
    exact ⟨by rw [List.getElem?_append_left hj]; exact e, List.getElem?_append_left (by rw [hl]; exact hj)⟩
  refine ⟨s.wf, s.ev, hl, fun j e q => ?_, fun j e q => ?_, fun j l e f b q1 q2 q3 q4 => ?_, fun j c e q => ?_, s.kp⟩
  · obtain ⟨h1, h2⟩ := lo q; rw [← h2]; exact s.val j e h1
  · obtain ⟨h1, h2⟩ := lo q; rw [← h2]; exact s.own j e h1
  · obtain ⟨h1, h2⟩ := lo q1; obtain ⟨h3, h4⟩ := lo q2
    exact s.ap j l e f b h1 h3 (by rw [h2]; exact q3) (by rw [h4]; exact q4)
  · obtain ⟨h1, h2⟩ := lo q; rw [← h2]; exact s.exc j c e h1
theorem St.top {a : Addr} {d : D} (hl : σ.length = ρ.length) : (σ ++ [some (V.ref a)])[ρ.length]? = some (some (.ref a)) ∧ (ρ ++ [Sl.own d])[ρ.length]? = some (.own d) := by
  constructor
  · rw [← hl, List.getElem?_append_right (Nat.le_refl _), Nat.sub_self]; rfl
  · rw [List.getElem?_append_right (Nat.le_refl _), Nat.sub_self]; rfl
theorem wipeE_length (ρ : Env) : ∀ vs : List Nat, (wipeE ρ vs).length = ρ.length
  | [] => rfl
  | v :: vs => by unfold wipeE; rw [List.length_set, wipeE_length ρ vs]
theorem Evo.wr {G0 : Gh} {H0 : Hp} {a : Addr} {o : HO} (e : Evo G0 H0 G H) (h : H0 a = none) : Evo G0 H0 G (upd H a o) :=
  ⟨e.f, e.ι, fun b u q n => by rw [upd_ne (ne_of_none q h)]; exact e.k b u q n, e.nf, e.nι, fun b q => by
    by_cases z : b = a
    · subst z; rw [upd_same]; simp
    · rw [upd_ne z]; exact e.th b q⟩
theorem Evo.none {G0 : Gh} {H0 : Hp} {a : Addr} (e : Evo G0 H0 G H) (h : H a = none) : H0 a = none := by
  cases q : H0 a with
  | none => rfl
  | some o => exact absurd h (e.th a (by rw [q]; simp))
end

/-! ### targets -/
def tslots : Tgt → List Nat
  | .nm i => [i]
  | .tp is => is
section
variable {X : Cx} {T : Tab} {B : Bs} {W : WX} {pos : Pos}
def gT (X : Cx) (T : Tab) (B : Bs) (t : Tgt) : TG := fun v σ H Q => ∃ ρ Ω G d ρ', StX X T B σ H ρ Ω G ∧ Is X.K G H d v ∧ bindE t d ρ = some ρ' ∧
  ∀ σ', StX X T B σ' H ρ' Ω G → (∀ vs, (∀ i ∈ tslots t, i ∈ vs) → L2.wipe σ' vs = L2.wipe σ vs) → Q σ' H
theorem dG_nm {e : Expr} {i : Nat} (h : PG X e (gName i)) : PG X e (gT X T B (.nm i)) := PGi h fun v σ H Q ⟨ρ, Ω, G, d, ρ', st, hi, hb, k⟩ => by
  cases hb
  exact k _ (st.setv' hi) fun vs hv => wipe_set.1 (hv i (by simp [tslots]))
def gNs (is : List Nat) : TGs := fun vs σ H Q => is.length = vs.length ∧ Q (stS σ is vs) H
inductive NmsOk (X : Cx) : List Expr → List Nat → Prop where
  | nil : NmsOk X [] []
  | cons {e es i is} : PG X e (gName i) → (∀ x p, e ≠ .Starred x p) → NmsOk X es is → NmsOk X (e :: es) (i :: is)
theorem asgE {e : Expr} (h : ∀ x p, e ≠ .Starred x p) (es : List Expr) (env : PySem.Env) : assignEach (e :: es) env = (false, assign e env) :: assignEach es env := by
  cases e <;> first | rfl | exact absurd rfl (h _ _)
theorem pgs_nms : ∀ {es : List Expr} {is : List Nat}, NmsOk X es is → PGs X es (gNs is)
  | _, _, .nil => ⟨fun pins s σ H vs us Q I r ⟨hl, h⟩ => by
    cases vs with
    | nil => exact pgs_nil.run pins s σ H [] us Q I r ⟨rfl, h⟩
    | cons => cases hl⟩
  | _, _, .cons (i := i) (is := is) h hn hs => ⟨fun pins s σ H vs us Q I r ⟨hl, k⟩ => by
    cases vs with
    | nil => cases hl
    | cons v vs => exact (pgs_cons h (pgs_nms hs) (by rw [asgE hn]; rfl)).run pins s σ H (v :: vs) us Q I r ⟨v, vs, rfl, by simpa using hl, k⟩⟩
theorem nms_fst : ∀ {es : List Expr} {is : List Nat}, NmsOk X es is → (assignEach es X.env).length = is.length ∧ (assignEach es X.env).findIdx? (·.1) = none
  | _, _, .nil => ⟨rfl, rfl⟩
  | _, _, .cons (es := es) h hn hs => by
    obtain ⟨h1, h2⟩ := nms_fst hs
    rw [asgE hn]
    exact ⟨by simp [h1], by rw [List.findIdx?_cons]; simp only [Bool.false_eq_true, if_false, h2, Option.map_none]⟩
theorem bind_tp {is : List Nat} {ds : List D} {ρ ρ' : Env} (h : bindE (.tp is) (.tup ds) ρ = some ρ') : is.length = ds.length ∧ ρ' = stD ρ is ds := by
  simp only [bindE] at h
  split at h
  · rename_i hl; cases h; exact ⟨hl, rfl⟩
  · cases h
theorem dG_tp {es : List Expr} {k : Nat} {is : List Nat} (hc : X.calm = true) (h : NmsOk X es is) : PG X (.Tuple es k pos) (gT X T B (.tp is)) := by
  refine PGi (pg_tup hc (pgs_nms h) (nms_fst h).1 (nms_fst h).2) fun v σ H Q ⟨ρ, Ω, G, d, ρ', st, hi, hb, kk⟩ => ?_
  cases d with
  | tup ds =>
    simp only [Is] at hi
    obtain ⟨a, xs, rfl, h1, h2⟩ := hi
    obtain ⟨hl, rfl⟩ := bind_tp hb
    have hx : xs.length = is.length := by rw [← h2.length]; exact hl.symm
    exact ⟨a, xs, rfl, h1, hx, hx.symm, kk _ (st.sets h2) fun vs hv => wipe_sets fun j hj => hv j hj⟩
  | _ => exact absurd hb (by simp [bindE])

/-! ### what is walked -/
def ItOk (K : PySem.W.Frag) (mg : Str → Option Value) (l : List D) (J : It) (G0 : Gh) (H0 : Hp) : Prop :=
  ∀ (i : Nat) (G : Gh) (H : Hp) (Ω : Store), Kp G0 H0 G H → Wf K mg G Ω H →
    (∀ d, l[i]? = some d → J.go i H ∧ ∀ x H', J.yld i H x H' → Evo G H G H' ∧ Wf K mg G Ω H' ∧ Is K G H' d x) ∧ (l.length ≤ i → J.stop i H)
def tI (X : Cx) (T : Tab) (B : Bs) (W : WX) (c : IR) : TI := fun σ H R => ∃ ρ Ω G E Qd, StX X T B σ H ρ Ω G ∧ EOk X T B W E ∧ wE T c E ρ Ω Qd ∧
  ∀ l Ω' G' H' J, Qd (.lst l) Ω' → Evo G H G' H' → WfX X G' Ω' H' → ItOk X.K X.mg l J G' H' → R J H'
variable {K : PySem.W.Frag} {mg : Str → Option Value}
theorem it_seqL {ds : List D} {a : Addr} {xs : List V} {G : Gh} {H : Hp} (hs : ∀ G' H', Kp G H G' H' → SqL K H' a xs) (h : IsAll K G H ds xs) : ItOk K mg ds (Itl K a) G H := by
  intro i G' H' Ω k w
  refine ⟨fun d hd => ?_, fun hl => ⟨xs, hs G' H' k, by rw [← h.length]; exact hl⟩⟩
  obtain ⟨x, hx, ix⟩ := h.get hd
  refine ⟨⟨xs, x, hs G' H' k, hx⟩, fun y H2 ⟨e, q⟩ => ?_⟩
  subst e
  have q' := q xs (hs G' _ k)
  rw [hx] at q'; cases q'
  exact ⟨.refl, w, ix.mono k⟩
theorem it_seqT {ds : List D} {a : Addr} {xs : List V} {G : Gh} {H : Hp} (hs : ∀ G' H', Kp G H G' H' → SqT K H' a xs) (h : IsAll K G H ds xs) : ItOk K mg ds (Itt K a) G H := by
  intro i G' H' Ω k w
  refine ⟨fun d hd => ?_, fun hl => ⟨xs, hs G' H' k, by rw [← h.length]; exact hl⟩⟩
  obtain ⟨x, hx, ix⟩ := h.get hd
  refine ⟨⟨xs, x, hs G' H' k, hx⟩, fun y H2 ⟨e, q⟩ => ?_⟩
  subst e
  have q' := q xs (hs G' _ k)
  rw [hx] at q'; cases q'
  exact ⟨.refl, w, ix.mono k⟩
theorem it_rng {lo : Int} {n : Nat} {G : Gh} {H : Hp} : ItOk K mg ((List.range n).map fun k => .int (lo + (k : Nat))) (Itr lo n) G H := by
  intro i G' H' Ω k w
  refine ⟨fun d hd => ?_, fun hl => (show n ≤ i by simpa using hl)⟩
  obtain ⟨hl, e⟩ := List.getElem?_eq_some_iff.mp hd
  have hl' : i < n := by simpa using hl
  refine ⟨hl', fun y H2 ⟨e1, e2⟩ => ?_⟩
  subst e1; subst e2
  refine ⟨.refl, w, ?_⟩
  have : d = .int (lo + (i : Nat)) := by rw [← e]; simp
  subst this
  simp only [Is]
theorem it_str {s : List Nat} {G : Gh} {H : Hp} : ItOk K mg (s.map fun c => .str [c]) (Its (mkS s)) G H := by
  intro i G' H' Ω k w
  refine ⟨fun d hd => ?_, fun hl => by simpa [Its, mkS] using hl⟩
  rw [List.getElem?_map, Option.map_eq_some_iff] at hd
  obtain ⟨c, hc, rfl⟩ := hd
  have hl := (List.getElem?_eq_some_iff.mp hc).1
  refine ⟨by simpa [Its, mkS] using hl, fun y H2 ⟨e1, c', e2, e3⟩ => ?_⟩
  subst e1; subst e3
  refine ⟨.refl, w, ?_⟩
  have : c' = c := by
    have e2' : (mkS s).cps[i]? = some c' := e2
    simp only [mkS, List.getElem?_toArray] at e2'
    rw [hc] at e2'; cases e2'; rfl
  subst this
  simp only [Is]
end
end OE
namespace OE
open PySem PySem.Spec PyProof.Rows L2
section
variable {X : Cx} {T : Tab} {B : Bs} {W : WX} {pos p : Pos} {tg e e2 : Expr} {c c2 : IR}
theorem fp_one {pins : List (Addr × Obj)} {σ : L2.St} {H : Hp} {s : Shared} (I : L2.Inv X pins σ H s) : ∀ b ∈ [s.heap.objs.size], FpOk X pins H b := fun b hb => by
  rw [List.mem_singleton.mp hb]
  exact I.fpOk (Nat.le_refl _) (I.hok.fresh (Nat.le_refl _))
theorem walk_l {pins : List (Addr × Obj)} {σ : L2.St} {H : Hp} {s : Shared} {R : It → Hp → Prop} {E : Value → Shared → Prop} {a : Addr} {xs : List V} (I : L2.Inv X pins σ H s) (h : SqL X.K H a xs) (q : R (Itl X.K a) H) :
    wpAny (model X.prog X.w) X.A (pyIter (.ref a)) (PIE X pins σ tg R) E s := by
  obtain ⟨its, _, at', _⟩ := I.list h
  exact wpAny_pyIter_list at'.isList ⟨_, [s.heap.objs.size], _, Itl X.K a, H, rfl, I.kept (t' := s.toks) fun b o q => Heap.get?_push_of_some _ q, turn_list a _, ⟨_, Heap.get?_push_size _ rfl, rfl, rfl⟩, fp_one I, q⟩
theorem walk_t {pins : List (Addr × Obj)} {σ : L2.St} {H : Hp} {s : Shared} {R : It → Hp → Prop} {E : Value → Shared → Prop} {a : Addr} {xs : List V} (I : L2.Inv X pins σ H s) (h : SqT X.K H a xs) (q : R (Itt X.K a) H) :
    wpAny (model X.prog X.w) X.A (pyIter (.ref a)) (PIE X pins σ tg R) E s := by
  obtain ⟨its, _, at', _⟩ := I.tuple h
  exact wpAny_pyIter_tuple (items := its.toArray) at' ⟨_, [s.heap.objs.size], _, Itt X.K a, H, rfl, I.kept (t' := s.toks) fun b o q => Heap.get?_push_of_some _ q, turn_tuple a _, ⟨_, Heap.get?_push_size _ rfl, rfl, rfl⟩, fp_one I, q⟩
theorem walk_s {pins : List (Addr × Obj)} {σ : L2.St} {H : Hp} {s : Shared} {R : It → Hp → Prop} {E : Value → Shared → Prop} {x : Str} {t : Tok} (I : L2.Inv X pins σ H s) (q : R (Its x) H) :
    wpAny (model X.prog X.w) X.A (pyIter (.str x t)) (PIE X pins σ tg R) E s := by
  by_cases ha : x.cps.all (· < 128) = true
  · exact wpAny_pyIter_ascii ha (pi_one (tk := s.toks) I _ (turn_str _ x t "str_ascii_iterator" (.inl rfl)) ⟨_, Heap.get?_push_size _ rfl, rfl, rfl⟩ q)
  · exact wpAny_pyIter_wide (by simpa using ha) (pi_one (tk := s.toks) I _ (turn_str _ x t "str_iterator" (.inr rfl)) ⟨_, Heap.get?_push_size _ rfl, rfl, rfl⟩ q)
theorem dI_iv (h : PE X e (tE X T B W false c)) : PI X tg e (tI X T B W (.iv c)) := by
  refine ⟨fun pins s σ H R I ⟨ρ, Ω, G, E, Qd, st, eo, hw, k⟩ => ?_⟩
  have rd : tE X T B W false c σ H (fun v H1 => ∃ d Ω1 G1 l, items d = some l ∧ Qd (.lst l) Ω1 ∧ Evo G H G1 H1 ∧ StX X T B σ H1 ρ Ω1 G1 ∧ Is X.K G1 H1 d v) :=
    tE.go st eo hw fun d Ω1 G1 H1 v ⟨l, el, q⟩ e1 st1 i1 => ⟨d, Ω1, G1, l, el, q, e1, st1, i1⟩
  refine thn (h.run pins s σ H _ I rd) fun v s1 ⟨x, H1, I1, r1, d, Ω1, G1, l, el, q, e1, st1, i1⟩ => ?_
  have kk : ∀ J, ItOk X.K X.mg l J G1 H1 → R J H1 := fun J j => k l Ω1 G1 H1 J q e1 st1.wf j
  cases d with
  | lst ds =>
    cases el
    simp only [Is] at i1
    obtain ⟨a, xs, rfl, hf, ha, i1⟩ := i1
    obtain rfl : v = Value.ref a := r1
    exact walk_l I1 (SqL.of ha) (kk _ (it_seqL (fun G' H' k => SqL.of (k.o a _ hf ha)) i1))
  | tup ds =>
    cases el
    simp only [Is] at i1
    obtain ⟨a, xs, rfl, ha, i1⟩ := i1
    obtain rfl : v = Value.ref a := r1
    exact walk_t I1 ha (kk _ (it_seqT (fun G' H' k => k.sqT ha) i1))
  | str s =>
    cases el
    simp only [Is] at i1
    subst i1
    obtain ⟨t, rfl⟩ := r1
    exact walk_s I1 (kk _ it_str)
  | scr ns =>
    cases el
    simp only [Is] at i1
    obtain ⟨a, rfl, ha⟩ := i1
    obtain rfl : v = Value.ref a := r1
    have sq : ∀ G' H', Kp G1 H1 G' H' → SqL X.K H' a (ns.map V.int) := fun G' H' k => by
      rcases ha with ⟨o, ha⟩ | ((z | ⟨o, z⟩) | z)
      · exact .inl (.inr ⟨o, k.z _ _ _ ha⟩)
      · cases z
      · cases z
      · exact .inr z
    refine walk_l I1 (sq _ _ .refl) (kk _ (it_seqL sq ?_))
    clear kk q k ha sq
    induction ns with
    | nil => rfl
    | cons n ns ih => exact .cons (by simp only [Is]) ih
  | _ => cases el
theorem dI_rng1 {ca : IR} {a : Expr} (hg : Gl X "range") (hm : X.mg "range" = none) (hn : ∀ x p, a ≠ .Starred x p) (ha : PE X a (tE X T B W false ca)) :
    PI X tg (.Call (.Name "range" p) [a] [] pos) (tI X T B W (.irng1 ca)) := by
  refine PIi (pi_range1 hg hm (pa_cons ha pa_nil (starE hn _ _)) (starE hn _ _)) fun σ H R ⟨ρ, Ω, G, E, Qd, st, eo, hw, k⟩ => ?_
  refine tE.go st eo hw fun d Ω1 G1 H1 v ⟨j, ed, hb, q⟩ e1 st1 i1 => ?_
  subst ed
  obtain rfl : v = .int j := by simpa only [Is] using (show Is X.K G1 H1 (.int j) v from i1)
  have := it_rng (K := X.K) (mg := X.mg) (lo := 0) (n := j.toNat) (G := G1) (H := H1)
  refine ⟨j, rfl, hb.1, hb.2, k _ Ω1 G1 H1 _ q e1 st1.wf ?_⟩
  unfold rangeD
  rw [Int.sub_zero]; exact this
theorem dI_rng2 {ca cb : IR} {a b : Expr} (hg : Gl X "range") (hm : X.mg "range" = none) (hn : ∀ x p, a ≠ .Starred x p) (hn2 : ∀ x p, b ≠ .Starred x p) (ha : PE X a (tE X T B W false ca)) (hb : PE X b (tE X T B W false cb)) :
    PI X tg (.Call (.Name "range" p) [a, b] [] pos) (tI X T B W (.irng2 ca cb)) := by
  refine PIi (pi_range2 hg hm (pa_cons ha (pa_cons hb pa_nil (starE hn2 _ _)) (starE hn _ _)) (by rw [starE hn, starE hn2]; rfl) (starE hn2 _ _)) fun σ H R ⟨ρ, Ω, G, E, Qd, st, eo, hw, k⟩ => ?_
  refine tE.go st eo hw fun d Ω1 G1 H1 v q1 e1 st1 i1 => tE.go st1 eo q1 fun d2 Ω2 G2 H2 u ⟨i, j, ed, ed2, hb, q⟩ e2 st2 i2 => ?_
  subst ed; subst ed2
  obtain rfl : v = .int i := by simpa only [Is] using (show Is X.K G1 H1 (.int i) v from i1)
  obtain rfl : u = .int j := by simpa only [Is] using (show Is X.K G2 H2 (.int j) u from i2)
  exact ⟨i, j, rfl, hb, k _ Ω2 G2 H2 _ q (e1.trans e2) st2.wf it_rng⟩
theorem dI_en {elts : List Expr} {kk : Nat} {tpos : Pos} (hg : Gl X "enumerate") (hm : X.mg "enumerate" = none) (hn : ∀ x p, e ≠ .Starred x p) (h : PE X e (tE X T B W false c)) : PI X (.Tuple elts kk tpos) (.Call (.Name "enumerate" p) [e] [] pos) (tI X T B W (.ien c)) := by
  refine PIi (pi_enum hg hm (pa_cons h pa_nil (starE hn _ _)) (starE hn _ _)) fun σ H R ⟨ρ, Ω, G, E, Qd, st, eo, hw, k⟩ => ?_
  refine tE.go st eo hw fun d Ω1 G1 H1 v ⟨l, ed, q⟩ e1 st1 i1 => ?_
  subst ed
  have i1 : Is X.K G1 H1 (.lst l) v := i1
  simp only [Is] at i1
  obtain ⟨a, xs, rfl, hf, ha, i1⟩ := i1
  refine ⟨a, xs, rfl, SqL.of ha, k _ Ω1 G1 H1 _ q e1 st1.wf ?_⟩
  intro i G' H' Ω' kp w
  have ha' := k
  have sq : SqL X.K H' a xs := SqL.of (kp.o a _ hf ha)
  refine ⟨fun d hd => ?_, fun hl => ⟨xs, sq, by rw [← i1.length]; simpa using hl⟩⟩
  rw [List.getElem?_map, Option.map_eq_some_iff] at hd
  obtain ⟨⟨j, d'⟩, hz, rfl⟩ := hd
  rw [List.getElem?_zip_eq_some] at hz
  obtain ⟨hj, hd'⟩ := hz
  have ej : j = i := by
    obtain ⟨h1, h2⟩ := List.getElem?_eq_some_iff.mp hj
    simpa using h2.symm
  subst ej
  obtain ⟨x, hx, ix⟩ := i1.get hd'
  refine ⟨⟨xs, x, sq, hx⟩, fun y H2 ⟨p, x', ey, hp, eH, q⟩ => ?_⟩
  have q' := q xs sq
  rw [hx] at q'; cases q'
  subst ey; subst eH
  exact tup_alloc (X := X) (ds := [.int (j : Nat), d']) w (.cons (by simp only [Is]) (.one (ix.mono kp))) hp
theorem dI_zip {elts : List Expr} {kk : Nat} {tpos : Pos} (hg : Gl X "zip") (hm : X.mg "zip" = none) (hn : ∀ x p, e ≠ .Starred x p) (hn2 : ∀ x p, e2 ≠ .Starred x p) (h : PE X e (tE X T B W false c)) (h2 : PE X e2 (tE X T B W false c2)) :
    PI X (.Tuple elts kk tpos) (.Call (.Name "zip" p) [e, e2] [] pos) (tI X T B W (.izip c c2)) := by
  refine PIi (RZ.pi_zipA hg hm (pa_cons h (pa_cons h2 pa_nil (starE hn2 _ _)) (starE hn _ _)) (starE hn _ _) (by rw [starE hn2]; rfl)) fun σ H R ⟨ρ, Ω, G, E, Qd, st, eo, hw, k⟩ => ?_
  refine tE.go st eo hw fun x Ω1 G1 H1 v q1 e1 st1 i1 => tE.go st1 eo q1 fun y Ω2 G2 H2 u ⟨l, m, ed, q⟩ e2' st2 i2 => ?_
  have i1 : Is X.K G2 H2 x v := Is.mono (e2'.kp st1.wf) i1
  have i2 : Is X.K G2 H2 y u := i2
  have zz : ∀ (i : Nat) (d : D), ((l.zip m).map fun p => D.tup [p.1, p.2])[i]? = some d → ∃ a b, l[i]? = some a ∧ m[i]? = some b ∧ d = .tup [a, b] := fun i d hd => by
    rw [List.getElem?_map, Option.map_eq_some_iff] at hd
    obtain ⟨⟨a, b⟩, hz, rfl⟩ := hd
    rw [List.getElem?_zip_eq_some] at hz
    exact ⟨a, b, hz.1, hz.2, rfl⟩
  have ll : ∀ i : Nat, ((l.zip m).map fun p => D.tup [p.1, p.2]).length ≤ i → l.length ≤ i ∨ m.length ≤ i := fun i hi => by
    rw [List.length_map, List.length_zip] at hi; omega
  rcases ed with ⟨rfl, rfl⟩ | ⟨rfl, rfl⟩
  · simp only [Is] at i1 i2
    obtain ⟨a, xs, rfl, hf, ha, i1⟩ := i1
    obtain ⟨b, ys, rfl, hg', hb, i2⟩ := i2
    refine ⟨a, b, xs, ys, rfl, .inl ⟨SqL.of ha, SqL.of hb, k _ Ω2 G2 H2 _ q (e1.trans e2') st2.wf ?_⟩⟩
    intro i G' H' Ω' kp w
    have sq : SqL X.K H' a xs := SqL.of (kp.o a _ hf ha)
    have sq2 : SqL X.K H' b ys := SqL.of (kp.o b _ hg' hb)
    refine ⟨fun d hd => ?_, fun hl => ⟨xs, ys, sq, sq2, by rw [← i1.length, ← i2.length]; exact ll i hl⟩⟩
    obtain ⟨d1, d2, h1, h2, rfl⟩ := zz i d hd
    obtain ⟨x1, hx1, ix1⟩ := i1.get h1
    obtain ⟨x2, hx2, ix2⟩ := i2.get h2
    refine ⟨⟨xs, ys, x1, x2, sq, sq2, hx1, hx2⟩, fun y H3 ⟨p, x', y', ey, hp, eH, q, q2⟩ => ?_⟩
    have q' := q xs sq
    have q2' := q2 ys sq2
    rw [hx1] at q'; cases q'
    rw [hx2] at q2'; cases q2'
    subst ey; subst eH
    exact tup_alloc (X := X) (ds := [d1, d2]) w (.cons (ix1.mono kp) (.one (ix2.mono kp))) hp
  · simp only [Is] at i1 i2
    obtain ⟨a, xs, rfl, ha, i1⟩ := i1
    obtain ⟨b, ys, rfl, hb, i2⟩ := i2
    refine ⟨a, b, xs, ys, rfl, .inr ⟨ha, hb, k _ Ω2 G2 H2 _ q (e1.trans e2') st2.wf ?_⟩⟩
    intro i G' H' Ω' kp w
    have sq : SqT X.K H' a xs := kp.sqT ha
    have sq2 : SqT X.K H' b ys := kp.sqT hb
    refine ⟨fun d hd => ?_, fun hl => ⟨xs, ys, sq, sq2, by rw [← i1.length, ← i2.length]; exact ll i hl⟩⟩
    obtain ⟨d1, d2, h1, h2, rfl⟩ := zz i d hd
    obtain ⟨x1, hx1, ix1⟩ := i1.get h1
    obtain ⟨x2, hx2, ix2⟩ := i2.get h2
    refine ⟨⟨xs, ys, x1, x2, sq, sq2, hx1, hx2⟩, fun y H3 ⟨p, x', y', ey, hp, eH, q, q2⟩ => ?_⟩
    have q' := q xs sq
    have q2' := q2 ys sq2
    rw [hx1] at q'; cases q'
    rw [hx2] at q2'; cases q2'
    subst ey; subst eH
    exact tup_alloc (X := X) (ds := [d1, d2]) w (.cons (ix1.mono kp) (.one (ix2.mono kp))) hp
end
end OE
namespace OE
open PySem PySem.Spec PyProof.Rows L2
section
variable {X : Cx} {T : Tab} {B : Bs} {W : WX} {pos p : Pos} {tg e e2 : Expr} {c c2 : IR}
/-! ### list comprehensions -/
abbrev WF : WX := fun _ _ _ _ => False
theorem eoF : EOk X T B WF EF := fun _ _ _ _ _ _ _ _ _ q => q.elim
theorem wipe_idem {σ : L2.St} : ∀ vs : List Nat, L2.wipe (L2.wipe σ vs) vs = L2.wipe σ vs := fun vs => by
  apply List.ext_getElem?
  intro i
  cases h : (L2.wipe (L2.wipe σ vs) vs)[i]? with
  | none =>
    have hl := List.getElem?_eq_none_iff.mp h
    rw [L2.wipe_length] at hl
    rw [List.getElem?_eq_none (by omega)]
  | some x =>
    have hl := (List.getElem?_eq_some_iff.mp h).1
    rw [L2.wipe_length, L2.wipe_length] at hl
    by_cases hm : i ∈ vs
    · have key : ∀ τ : L2.St, τ.length = σ.length → (L2.wipe τ vs)[i]? = some none := fun τ ht => by
        cases q : (L2.wipe τ vs)[i]? with
        | none =>
          have := List.getElem?_eq_none_iff.mp q
          rw [L2.wipe_length] at this; omega
        | some y =>
          cases y with
          | none => rfl
          | some z => exact absurd hm (L2.wipe_some q).2
      rw [key σ rfl]
      have k2 := key (L2.wipe σ vs) (L2.wipe_length _ _)
      rw [h] at k2
      exact k2
    · rw [L2.wipe_out hm] at h
      exact h.symm
theorem set_top {α : Type} (l : List α) (x y : α) : (l ++ [x]).set l.length y = l ++ [y] := by
  rw [List.set_append_right _ _ (Nat.le_refl _), Nat.sub_self]; rfl
/-- a list that nobody sees grows -/
theorem St.grow {σ : L2.St} {ρ : Env} {H : Hp} {Ω : Store} {G : Gh} {a : Addr} {acc : List D} {y : D} {v : V} (hl : σ.length = ρ.length) (s : StX X T B (σ ++ [some (.ref a)]) H (ρ ++ [.own (.lst acc)]) Ω G) (h : Is X.K G H y v) :
    ∃ xs, H a = some (.lst xs) ∧ acc.length = xs.length ∧ StX X T B (σ ++ [some (.ref a)]) (upd H a (.lst (xs ++ [v]))) (ρ ++ [.own (.lst (acc ++ [y]))]) Ω G ∧ Kp G H G (upd H a (.lst (xs ++ [v]))) := by
  obtain ⟨t1, t2⟩ := St.top (a := a) (d := .lst acc) hl
  obtain ⟨a', h1, h2⟩ := s.own _ _ t2
  rw [t1] at h1; cases h1
  obtain ⟨xs, hx, hi⟩ := h2.2.2.2
  obtain ⟨s2, k⟩ := s.wr (o := .lst (xs ++ [v])) (d' := .lst (acc ++ [y])) t2 t1 fun k => ⟨_, upd_same, (hi.mono k).app (.one (h.mono k))⟩
  rw [set_top] at s2
  exact ⟨xs, hx, hi.length, s2, k⟩
theorem lc_red {ci cc ce : IR} {t : Tgt} {vs : List Nat} (hsl : ∀ i ∈ tslots t, i ∈ vs) {σ : L2.St} {H : Hp} {Q : VK} (h : tF X T B W (.lc t vs ci cc ce) σ H Q) :
    tLc (tI X T B W ci) (gT X T B t) (tT X T B WF cc) (tE X T B WF false ce) vs σ H Q := by
  obtain ⟨ρ, Ω, G, E, Qd, st, eo, hw, k⟩ := h
  refine ⟨ρ, Ω, G, E, _, st, eo, hw, fun l Ω1 G1 H1 J ⟨l', el, q⟩ e1 w1 jok => fun L hL => ?_⟩
  cases el
  have st1 := st.evo e1 w1
  have hlen : ∀ {τ : L2.St}, τ.length = σ.length → τ.length = (wipeE ρ vs).length := fun h => by rw [h, wipeE_length, st.len]
  have hlw : (L2.wipe σ vs).length = (wipeE ρ vs).length := by rw [L2.wipe_length, wipeE_length, st.len]
  obtain ⟨ea, wa, ra⟩ := raw_alloc (X := X) (ds := []) (xs := []) w1 IsAll.nil hL
  have stw := st1.wipe vs
  have nob : ∀ (j : Nat) (e : D), (wipeE ρ vs)[j]? = some (.own e) → (L2.wipe σ vs)[j]? ≠ some (some (.ref L)) := fun j e hj hs => by
    obtain ⟨a, h1, h2⟩ := stw.own j e hj
    rw [hs] at h1; cases h1
    exact h2.2.2.2.there hL
  have st2 : StX X T B (L2.wipe σ vs ++ [some (.ref L)]) (upd H1 L (.lst [])) (wipeE ρ vs ++ [.own (.lst [])]) Ω1 G1 :=
    (stw.evo ea wa).push ⟨w1.notF hL, w1.notι hL, st1.new hL, ra⟩ nob
  refine ⟨fun i m H2 => m = l.length - i ∧ i ≤ l.length ∧ ∃ Ω2 G2 acc, StX X T B (L2.wipe σ vs ++ [some (.ref L)]) H2 (wipeE ρ vs ++ [.own (.lst acc)]) Ω2 G2 ∧ Evo G1 H1 G2 H2 ∧
    wLoop (fun d acc Ω2 K => ∃ ρ', bindE t d (wipeE ρ vs) = some ρ' ∧ wE T cc EF ρ' Ω2 fun x Ω3 => ∃ k, x = .bl k ∧
      if k = true then wE T ce EF ρ' Ω3 fun y Ω4 => acc.length < LINE ∧ K (acc ++ [y]) Ω4 else K acc Ω3) (l.drop i) acc Ω2 (fun acc Ω5 => Qd (.lst acc) Ω5), ⟨_, rfl, Nat.zero_le _, Ω1, G1, [], st2, ea, by rw [List.drop_zero]; exact q⟩, ?_⟩
  rintro i m H2 ⟨rfl, hi, Ω2, G2, acc, stE, e2, hl⟩
  obtain ⟨j1, j2⟩ := jok i G2 H2 Ω2 (e2.kp w1) stE.wf
  by_cases hlt : i < l.length
  · have hd : l[i]? = some l[i] := List.getElem?_eq_getElem hlt
    rw [List.drop_eq_getElem_cons hlt] at hl
    generalize l[i] = d at hl hd
    obtain ⟨ρ', hb, hl⟩ := hl
    obtain ⟨hgo, hy⟩ := j1 d hd
    refine .inr ⟨hgo, _, fun H' h => h, fun x H3 yl => ?_⟩
    obtain ⟨e3, w3, i3⟩ := hy x H3 yl
    have stE3 := stE.evo e3 w3
    refine ⟨wipeE ρ vs, Ω2, G2, d, ρ', stE3.pop hlw, i3, hb, fun σ' st4 hwp => ⟨by rw [hwp vs hsl, wipe_idem], ?_⟩⟩
    refine tT.go st4 eoF hl fun z Ω4 G4 H4 ⟨b, eb, q4⟩ e4 st5 => ⟨b, eb, ?_⟩
    have stE4 := stE3.evo e4 st5.wf
    cases b with
    | false =>
      simp only [Bool.false_eq_true, if_false] at q4 ⊢
      exact ⟨l.length - (i + 1), by omega, rfl, hlt, Ω4, G4, acc, stE4, (e2.trans e3).trans e4, q4⟩
    | true =>
      simp only [if_true] at q4 ⊢
      refine tE.go st5 eoF q4 fun y Ω5 G5 H5 v ⟨hz, q5⟩ e5 st6 i6 => ?_
      have stE5 := stE4.evo e5 st6.wf
      obtain ⟨xs, hx, hxl, stE6, k6⟩ := St.grow hlw stE5 (show Is X.K G5 H5 y v from i6)
      exact ⟨xs, hx, by rw [line_eq, ← hxl]; exact hz, l.length - (i + 1), by omega, rfl, hlt, Ω5, G5, acc ++ [y], stE6, (((e2.trans e3).trans e4).trans e5).wr hL, q5⟩
  · have hi' : l.length ≤ i := by omega
    rw [List.drop_eq_nil_of_le hi'] at hl
    obtain ⟨t1, t2⟩ := St.top (a := L) (d := .lst acc) hlw
    obtain ⟨a', h1, h2⟩ := stE.own _ _ t2
    rw [t1] at h1; cases h1
    exact .inl ⟨j2 hi', k _ _ _ _ L hl (e1.trans e2) stE.wf (e1.none hL) h2.1 h2.2.1 h2.2.2.2⟩
theorem PTsi {ifs : List Expr} {t t' : TT} (h : PTs X ifs t) (k : ∀ σ H Q, t' σ H Q → t σ H Q) : PTs X ifs t' := ⟨fun pins s σ H Q I q => h.run pins s σ H Q I (k σ H Q q)⟩
theorem dTs_nil : PTs X [] (tT X T B W (.lit (.bl true))) := PTsi pts_nil fun σ H Q ⟨ρ, Ω, G, E, Qd, st, eo, h, k⟩ => by
  obtain ⟨b, e, q⟩ := k _ Ω G H h .refl st.wf
  cases e; exact q
theorem dF_lc {elt iter : Expr} {ifs : List Expr} {scope : Scope} {own : List (Str × Nat)} {ci cc ce : IR} {t : Tgt} (hc : X.calm = true) (hN : X.N.Nodup) (hsl : ∀ i ∈ tslots t, i ∈ own.map (·.2)) (hi : PI X tg iter (tI X T B W ci)) (ok : BlkOk X.N X.env.scope scope own)
    (hg : ∀ (s : Shared) (H : Hp) (C : Addr) (cl : List (Str × Addr)) (fp : List Addr), PG (X.blk s H scope (compEnvC scope cl C X.env) fp) tg (gT X T B t))
    (ht : ∀ (s : Shared) (H : Hp) (C : Addr) (cl : List (Str × Addr)) (fp : List Addr), PTs (X.blk s H scope (compEnvC scope cl C X.env) fp) ifs (tT X T B WF cc))
    (he : ∀ (s : Shared) (H : Hp) (C : Addr) (cl : List (Str × Addr)) (fp : List Addr), PE (X.blk s H scope (compEnvC scope cl C X.env) fp) elt (tE X T B WF false ce)) (hs : ∀ x, foldedSetIterable iter X.env x = pure x) :
    PE X (.ListComp elt [⟨tg, iter, ifs, 0⟩] scope pos) (tF X T B W (.lc t (own.map (·.2)) ci cc ce)) :=
  PEi (pe_lc hc hN hi ok hg ht he hs) fun σ H Q h => lc_red hsl h

/-! ### statements -/
structure PostOk (K : PySem.W.Frag) (mg : Str → Option Value) (T : Tab) (B : Bs) (N : En) (D : Ends) : Prop where
  nx : ∀ σ' H' ρ' Ω' G', N.nx ρ' Ω' → St K mg T B σ' H' ρ' Ω' G' → D.nx σ' H'
  bk : ∀ σ' H' ρ' Ω' G', N.bk ρ' Ω' → St K mg T B σ' H' ρ' Ω' G' → D.bk σ' H'
  ct : ∀ σ' H' ρ' Ω' G', N.ct ρ' Ω' → St K mg T B σ' H' ρ' Ω' G' → D.ct σ' H'
  rt : ∀ d Ω' G' H' v, N.rt d Ω' → Evo B.G0 B.H0 G' H' → Wf K mg G' Ω' H' → Is K G' H' d v → D.rt v H'
def tS (X : Cx) (T : Tab) (B : Bs) (W : WX) (c : IS) : TS := fun D σ H => ∃ ρ Ω G N, StX X T B σ H ρ Ω G ∧ EOk X T B W N.ex ∧ wS T c ρ Ω N ∧ PostOk X.K X.mg T B N D
variable {st0 : Stmt} {rest body orelse : List Stmt} {cs ct cu : IS} {ce cc ci co : IR}
theorem dS_pass {e : Stmt} (h : PS X e tNext) : PS X e (tS X T B W .pass) := PSi h fun D σ H ⟨ρ, Ω, G, N, st, eo, h, P⟩ => P.nx σ H ρ Ω G h st
theorem dSs_nil : PSs X [] (tS X T B W .pass) := PSsi pss_nil fun D σ H ⟨ρ, Ω, G, N, st, eo, h, P⟩ => P.nx σ H ρ Ω G h st
theorem dS_brk : PS X (.Break pos) (tS X T B W .brk) := PSi ps_break fun D σ H ⟨ρ, Ω, G, N, st, eo, h, P⟩ => P.bk σ H ρ Ω G h st
theorem dS_cont : PS X (.Continue pos) (tS X T B W .cont) := PSi ps_continue fun D σ H ⟨ρ, Ω, G, N, st, eo, h, P⟩ => P.ct σ H ρ Ω G h st
theorem dSs_seq (h1 : PS X st0 (tS X T B W cs)) (h2 : PSs X rest (tS X T B W ct)) : PSs X (st0 :: rest) (tS X T B W (.seq cs ct)) := PSsi (pss_cons h1 h2) fun D σ H ⟨ρ, Ω, G, N, st, eo, h, P⟩ =>
  ⟨ρ, Ω, G, { N with nx := fun ρ' Ω' => wS T ct ρ' Ω' N }, st, eo, (show wS T cs ρ Ω { N with nx := fun ρ' Ω' => wS T ct ρ' Ω' N } from h), ⟨fun σ' H' ρ' Ω' G' q s => ⟨ρ', Ω', G', N, s, eo, q, P⟩, P.bk, P.ct, P.rt⟩⟩
theorem dSs_one (h1 : PS X st0 (tS X T B W cs)) : PSs X [st0] (tS X T B W cs) := pss_one h1
theorem St.fzs {σ : L2.St} {H : Hp} {ρ : Env} {Ω : Store} {G : Gh} (s : StX X T B σ H ρ Ω G) : ∀ is : List Nat, ∃ G', StX X T B σ H (fzE ρ is) Ω G' ∧ Kp G H G' H
  | [] => ⟨G, s, .refl⟩
  | v :: vs => by
    obtain ⟨G1, s1, k1⟩ := St.fzs s vs
    unfold fzE
    cases q : (fzE ρ vs)[v]? with
    | none =>
      rw [set_far (by have := List.getElem?_eq_none_iff.mp q; omega)]
      exact ⟨G1, s1, k1⟩
    | some x =>
      have same : (fzE ρ vs).set v x = fzE ρ vs := by
        apply List.ext_getElem?
        intro i
        rw [List.getElem?_set]
        split
        · rename_i e; subst e; split
          · exact q.symm
          · rw [List.getElem?_eq_none (by omega)]
        · rfl
      cases x with
      | own d =>
        obtain ⟨a, h1, s2, k2⟩ := s1.fz q
        exact ⟨_, s2, k1.trans k2⟩
      | un => simp only []; rw [same]; exact ⟨G1, s1, k1⟩
      | val d => simp only []; rw [same]; exact ⟨G1, s1, k1⟩
      | exc c d => simp only []; rw [same]; exact ⟨G1, s1, k1⟩
theorem dSs_fz {is : List Nat} (h : PSs X rest (tS X T B W cs)) : PSs X rest (tS X T B W (.seq (.fz is) cs)) := PSsi h fun D σ H ⟨ρ, Ω, G, N, st, eo, hw, P⟩ => by
  obtain ⟨G', s', k⟩ := st.fzs is
  exact ⟨fzE ρ is, Ω, G', N, s', eo, hw, P⟩
theorem dS_asg {t : Tgt} {g : TG} (hg : ∀ v σ H Q, gT X T B t v σ H Q → g v σ H Q) (h : PS X st0 (tAsg (tE X T B W false ce) g)) : PS X st0 (tS X T B W (.asg t ce)) := PSi h fun D σ H ⟨ρ, Ω, G, N, st, eo, h, P⟩ =>
  tE.go st eo h fun d Ω1 G1 H1 v ⟨ρ', hb, q⟩ e1 st1 i1 => hg _ _ _ _ ⟨ρ, Ω1, G1, d, ρ', st1, i1, hb, fun σ' st' _ => P.nx σ' H1 ρ' Ω1 G1 q st'⟩
theorem dS_nm {i : Nat} (h : PS X st0 (tAsg (tE X T B W false ce) (gName i))) : PS X st0 (tS X T B W (.asg (.nm i) ce)) := dS_asg (t := .nm i) (g := gName i) (fun v σ H Q ⟨ρ, Ω, G, d, ρ', st, hi, hb, k⟩ => by
  cases hb
  exact k _ (st.setv' hi) fun vs hv => wipe_set.1 (hv i (by simp [tslots]))) h
theorem dS_tp {t : Tgt} (h : PS X st0 (tAsg (tE X T B W false ce) (gT X T B t))) : PS X st0 (tS X T B W (.asg t ce)) := dS_asg (t := t) (fun v σ H Q h => h) h
theorem dS_own {i : Nat} {te : TE} (hle : ∀ σ H Q, tF X T B W ce σ H Q → te σ H Q) (h : PS X st0 (tAsg te (gName i))) : PS X st0 (tS X T B W (.own i ce)) := PSi h fun D σ H ⟨ρ, Ω, G, N, st, eo, h, P⟩ => by
  refine hle _ _ _ ⟨ρ, Ω, G, N.ex, _, st, eo, h, fun d Ω' G' H' a q e w h0 h1 h2 h3 => ?_⟩
  have st1 := st.evo e w
  refine P.nx _ H' _ Ω' G' q (st1.seto' ⟨h1, h2, st.new h0, h3⟩ fun j u hj hs => ?_)
  obtain ⟨b, z1, z2⟩ := st.own j u hj
  rw [hs] at z1; cases z1
  exact z2.2.2.2.there h0
/-! name op= e -/
def opOf : BO → Operator
  | .sub => .Sub | .mul => .Mult | _ => .Add
def rAug (X : Cx) (B : Bs) (o : BO) : TIp := fun v u H Q => ∃ x y Qd, (∀ G H', Is X.K G H' x v) ∧ (∀ G H', Is X.K G H' y u) ∧ wAug o x y Qd ∧ ∀ z v', Qd z → (∀ G H', Is X.K G H' z v') → Q v' H
theorem aug_ok (o : BO) : PIp X (opOf o) (rAug X B o) := by
  rintro pins s σ H x y v u Q I r1 r2 ⟨d, e, Qd, h1, h2, hw, k⟩
  have G : Gh := ⟨fun _ => False, []⟩
  unfold wAug at hw
  split at hw
  · obtain rfl : x = .int _ := by simpa only [Is] using h1 G H
    obtain rfl : y = .int _ := by simpa only [Is] using h2 G H
    exact ip_add pins s σ H _ _ _ _ _ I r1 r2 ⟨_, _, rfl, rfl, k _ _ hw fun _ _ => by simp only [Is]⟩
  · obtain rfl : x = .int _ := by simpa only [Is] using h1 G H
    obtain rfl : y = .int _ := by simpa only [Is] using h2 G H
    exact ip_sub pins s σ H _ _ _ _ _ I r1 r2 ⟨_, _, rfl, rfl, k _ _ hw fun _ _ => by simp only [Is]⟩
  · obtain rfl : x = .int _ := by simpa only [Is] using h1 G H
    obtain rfl : y = .int _ := by simpa only [Is] using h2 G H
    obtain ⟨t, rfl⟩ := r1
    obtain ⟨t', rfl⟩ := r2
    exact imul_int ⟨.int _, H, I.tok _, ⟨_, rfl⟩, k _ _ hw.2 fun _ _ => by simp only [Is]⟩ hw.1.ok
  · exact hw.elim
theorem wAug_int {o : BO} {x y : D} {Q : D → Prop} (h : wAug o x y Q) : ∃ i j, x = .int i ∧ y = .int j := by
  unfold wAug at h
  split at h
  · exact ⟨_, _, rfl, rfl⟩
  · exact ⟨_, _, rfl, rfl⟩
  · exact ⟨_, _, rfl, rfl⟩
  · exact h.elim
theorem dS_aug {i : Nat} {o : BO} (h : PS X st0 (tAug i (tE X T B W false ce) (rAug X B o))) : PS X st0 (tS X T B W (.aug i o ce)) := PSi h fun D σ H ⟨ρ, Ω, G, N, st, eo, ⟨x, hx, hw⟩, P⟩ => by
  obtain ⟨v, hv, ix⟩ := st.val i x hx
  refine ⟨v, hv, tE.go st eo hw fun d Ω1 G1 H1 u q e1 st1 i1 => ?_⟩
  obtain ⟨a, b, rfl, rfl⟩ := wAug_int q
  refine ⟨.int a, .int b, _, fun _ _ => by simpa only [Is] using ix, fun _ _ => by simpa only [Is] using (show Is X.K G1 H1 (.int b) u from i1), q, fun z v' qz iz => ?_⟩
  exact P.nx _ H1 _ Ω1 G1 qz (st1.setv' (iz G1 H1))
end
end OE
namespace OE
open PySem PySem.Spec PyProof.Rows L2
section
variable {X : Cx} {T : Tab} {B : Bs} {W : WX} {pos p : Pos} {tg e e2 : Expr} {st0 : Stmt} {rest body orelse : List Stmt} {cs ct cu cb : IS} {ce cc ci co : IR}
theorem dS_ex (h : PS X st0 (tDrop (tE X T B W false ce))) : PS X st0 (tS X T B W (.ex ce)) := PSi h fun D σ H ⟨ρ, Ω, G, N, st, eo, h, P⟩ =>
  tE.go st eo h fun d Ω1 G1 H1 v q e1 st1 i1 => P.nx σ H1 ρ Ω1 G1 q st1
theorem dS_ret (h : PE X e (tE X T B W false ce)) : PS X (.Return (some e) pos) (tS X T B W (.ret ce)) := PSi (ps_ret h) fun D σ H ⟨ρ, Ω, G, N, st, eo, h, P⟩ =>
  tE.go st eo h fun d Ω1 G1 H1 v q e1 st1 i1 => P.rt d Ω1 G1 H1 v q st1.ev st1.wf i1
theorem dS_retN : PS X (.Return none pos) (tS X T B W .retN) := PSi ps_retN fun D σ H ⟨ρ, Ω, G, N, st, eo, h, P⟩ => P.rt _ Ω G H _ h st.ev st.wf (by simp only [Is])
theorem dS_ite {c : Expr} {a b : List Stmt} (hc : PT X c (tT X T B W cc)) (ha : PSs X a (tS X T B W ct)) (hb : PSs X b (tS X T B W cu)) : PS X (.If c a b pos) (tS X T B W (.ite cc ct cu)) := PSi (ps_if hc ha hb) fun D σ H ⟨ρ, Ω, G, N, st, eo, h, P⟩ =>
  tT.go st eo h fun d Ω1 G1 H1 ⟨k, ek, q⟩ e1 st1 => ⟨k, ek, by
    cases k with
    | true => exact ⟨ρ, Ω1, G1, N, st1, eo, q, P⟩
    | false => exact ⟨ρ, Ω1, G1, N, st1, eo, q, P⟩⟩
theorem dS_wh {c : Expr} (hp : PassesOwn (model X.prog X.w) X.A X.env X.xe) (hc : PT X c (tT X T B W cc)) (hb : PSs X body (tS X T B W cb)) : PS X (.While c body [] pos) (tS X T B W (.wh cc cb)) := PSi (ps_while hp hc hb) fun D σ H ⟨ρ, Ω, G, N, st, eo, ⟨I, ⟨m0, w0⟩, turn⟩, P⟩ => by
  refine ⟨fun m σ' H' => ∃ ρ' Ω' G', StX X T B σ' H' ρ' Ω' G' ∧ I m ρ' Ω', ⟨m0, ρ, Ω, G, st, w0⟩, ?_⟩
  rintro m σ1 H1 ⟨ρ1, Ω1, G1, st1, w1⟩
  refine tT.go st1 eo (turn m ρ1 Ω1 w1) fun d Ω2 G2 H2 ⟨b, eb, q⟩ e2 st2 => ⟨b, eb, ?_⟩
  cases b with
  | false => exact P.nx _ _ _ _ _ q st2
  | true =>
    rw [if_pos rfl]
    rw [if_pos rfl] at q
    refine ⟨fun σ' H' => ∃ m', m' < m ∧ ∃ ρ' Ω' G', StX X T B σ' H' ρ' Ω' G' ∧ I m' ρ' Ω', fun σ' H' h => h, ρ1, Ω2, G2, { N with nx := fun ρ' Ω' => ∃ m', m' < m ∧ I m' ρ' Ω', ct := fun ρ' Ω' => ∃ m', m' < m ∧ I m' ρ' Ω', bk := N.nx }, st2, eo, q, ⟨?_, ?_, ?_, P.rt⟩⟩
    · rintro σ' H' ρ' Ω' G' ⟨m', hm, hi⟩ s; exact ⟨m', hm, ρ', Ω', G', s, hi⟩
    · intro σ' H' ρ' Ω' G' q s; exact P.nx _ _ _ _ _ q s
    · rintro σ' H' ρ' Ω' G' ⟨m', hm, hi⟩ s; exact ⟨m', hm, ρ', Ω', G', s, hi⟩
/-- the base of a loop's body -/
def Bs.at (B : Bs) (G : Gh) (H : Hp) : Bs := { B with Gk := G, Hk := H }
theorem St.base {K : PySem.W.Frag} {mg : Str → Option Value} {σ : L2.St} {ρ : Env} {H H1 : Hp} {Ω : Store} {G G1 : Gh} (s : St K mg T B σ H ρ Ω G) (k : Kp G1 H1 G H) : St K mg T (B.at G1 H1) σ H ρ Ω G :=
  ⟨s.wf, s.ev, s.len, s.val, s.own, s.ap, s.exc, k⟩
theorem St.unbase {K : PySem.W.Frag} {mg : Str → Option Value} {σ : L2.St} {ρ : Env} {H H1 : Hp} {Ω : Store} {G G1 : Gh} (s : St K mg T (B.at G1 H1) σ H ρ Ω G) (k : Kp B.Gk B.Hk G1 H1) : St K mg T B σ H ρ Ω G :=
  ⟨s.wf, s.ev, s.len, s.val, s.own, s.ap, s.exc, k.trans s.kp⟩
theorem dS_for {t : Tgt} (hp : PassesOwn (model X.prog X.w) X.A X.env X.xe) (hcm : X.calm = true) (hi : PI X tg e (tI X T B W ci)) (hg : ∀ G H, PG X tg (gT X T (B.at G H) t)) (hb : ∀ G H, PSs X body (tS X T (B.at G H) W cb)) (hs : ∀ x, foldedSetIterable e X.env x = pure x) :
    PS X (.For tg e body [] pos) (tS X T B W (.for_ t ci cb)) := by
  have hg' : PG X tg (fun v σ H Q => ∃ G1 H1, gT X T (B.at G1 H1) t v σ H Q) := ⟨fun pins s σ H v u Q I r ⟨G1, H1, h⟩ => (hg G1 H1).run pins s σ H v u Q I r h⟩
  have hb' : PSs X body (fun D σ H => ∃ G1 H1, tS X T (B.at G1 H1) W cb D σ H) := ⟨fun pins s σ H D I ⟨G1, H1, h⟩ => (hb G1 H1).run pins s σ H D I h⟩
  refine PSi (ps_for hp hcm hi hg' hb' hs) fun D σ H ⟨ρ, Ω, G, N, st, eo, hw, P⟩ => ?_
  refine ⟨ρ, Ω, G, N.ex, _, st, eo, hw, fun l Ω1 G1 H1 J ⟨l', el, q⟩ e1 w1 jok => ?_⟩
  cases el
  have st1 := st.evo e1 w1
  have kb : Kp B.Gk B.Hk G1 H1 := st1.kp
  have eo' : EOk X T (B.at G1 H1) W N.ex := fun x d ρ Ω G σ H cls dx h s r => eo x d ρ Ω G σ H cls dx h (s.unbase kb) r
  refine ⟨fun i m σ' H' => m = l.length - i ∧ i ≤ l.length ∧ ∃ ρ' Ω' G', StX X T (B.at G1 H1) σ' H' ρ' Ω' G' ∧ wFor (fun d ρ Ω K => ∃ ρ', bindE t d ρ = some ρ' ∧ wS T cb ρ' Ω { N with nx := K, ct := K, bk := N.nx }) (l.drop i) ρ' Ω' N.nx,
    ⟨_, rfl, Nat.zero_le _, ρ, Ω1, G1, st1.base .refl, by rw [List.drop_zero]; exact q⟩, ?_⟩
  rintro i m σ2 H2 ⟨rfl, hi, ρ2, Ω2, G2, st2, hl⟩
  obtain ⟨j1, j2⟩ := jok i G2 H2 Ω2 st2.kp st2.wf
  by_cases hlt : i < l.length
  · have hd : l[i]? = some l[i] := List.getElem?_eq_getElem hlt
    rw [List.drop_eq_getElem_cons hlt] at hl
    generalize l[i] = d at hl hd
    obtain ⟨ρ', hb, hl⟩ := hl
    obtain ⟨hgo, hy⟩ := j1 d hd
    refine .inr ⟨hgo, fun σ' H' => ∃ m', m' < l.length - i ∧ m' = l.length - (i + 1) ∧ i + 1 ≤ l.length ∧ ∃ ρ' Ω' G', StX X T (B.at G1 H1) σ' H' ρ' Ω' G' ∧ wFor (fun d ρ Ω K => ∃ ρ', bindE t d ρ = some ρ' ∧ wS T cb ρ' Ω { N with nx := K, ct := K, bk := N.nx }) (l.drop (i + 1)) ρ' Ω' N.nx, fun σ' H' h => h, fun x H3 yl => ?_⟩
    obtain ⟨e3, w3, i3⟩ := hy x H3 yl
    have st3 := st2.evo e3 w3
    refine ⟨G1, H1, ρ2, Ω2, G2, d, ρ', st3, i3, hb, fun σ' st4 _ => ⟨G1, H1, ρ', Ω2, G2, { N with nx := fun ρ' Ω' => wFor (fun d ρ Ω K => ∃ ρ', bindE t d ρ = some ρ' ∧ wS T cb ρ' Ω { N with nx := K, ct := K, bk := N.nx }) (l.drop (i + 1)) ρ' Ω' N.nx, ct := fun ρ' Ω' => wFor (fun d ρ Ω K => ∃ ρ', bindE t d ρ = some ρ' ∧ wS T cb ρ' Ω { N with nx := K, ct := K, bk := N.nx }) (l.drop (i + 1)) ρ' Ω' N.nx, bk := N.nx }, st4, eo', hl, ⟨?_, ?_, ?_, P.rt⟩⟩⟩
    · intro σ' H' ρ' Ω' G' q s; exact ⟨_, by omega, rfl, hlt, ρ', Ω', G', s, q⟩
    · intro σ' H' ρ' Ω' G' q s; exact P.nx _ _ _ _ _ q (s.unbase kb)
    · intro σ' H' ρ' Ω' G' q s; exact ⟨_, by omega, rfl, hlt, ρ', Ω', G', s, q⟩
  · have hi' : l.length ≤ i := by omega
    rw [List.drop_eq_nil_of_le hi'] at hl
    exact .inl ⟨j2 hi', P.nx _ _ _ _ _ hl (st2.unbase kb)⟩
/-! ### append, extend -/
theorem dS_app {o : Expr} {i : Nat} {apos cpos : Pos} (hv : PE X o (tVar i)) (he : PE X e (tE X T B W false ce)) (hn : ∀ x p, e ≠ .Starred x p) (hbase : attributeBase o "append" X.env (eval o X.env) = eval o X.env)
    (hfew : ((backTo cpos (starEach [e] X.env)).all (fun x => !x.1) && (backToKw cpos (keywordEach [] X.env)).all (fun x => x.1.isSome)
      && decide ([e].length + ([] : List Keyword).length + (if ([] : List Keyword).isEmpty then 0 else 1) < 30)) = true) (hline : (apos.endLine == cpos.line) = true) :
    PS X (.Expr (.Call (.Attribute o "append" apos) [e] [] cpos) pos) (tS X T B W (.app i ce)) := by
  refine PSi (ps_expr (pe_bm PySem.F.plainAttrs_list PySem.F.slot_list_append PySem.F.type_list_append mt_append hv (pa_cons he pa_nil (starE hn _ _)) hbase hfew hline (starE hn _ _) rfl)) fun D σ H ⟨ρ, Ω, G, N, st, eo, h, P⟩ => ?_
  obtain ⟨l, hl, h⟩ := h
  obtain ⟨a, ha, how⟩ := st.own i _ hl
  obtain ⟨xs, hx, _⟩ := how.2.2.2
  refine ⟨.ref a, ha, .inl ⟨rfl, xs, SqL.of hx⟩, tE.go st eo h fun d Ω1 G1 H1 v ⟨hz, q⟩ e1 st1 i1 => ?_⟩
  obtain ⟨a', ha', how1⟩ := st1.own i _ hl
  rw [ha] at ha'; cases ha'
  obtain ⟨ys, hy, hi⟩ := how1.2.2.2
  have i1 : Is X.K G1 H1 d v := i1
  obtain ⟨s2, k2⟩ := st1.wr (o := .lst (ys ++ [v])) (d' := .lst (l ++ [d])) hl ha fun k => ⟨_, upd_same, (hi.mono k).app (.one (i1.mono k))⟩
  exact ⟨a, ys, v, rfl, rfl, hy, by rw [line_eq, ← hi.length]; exact hz, P.nx _ _ _ _ _ q s2⟩
theorem dS_ext {o : Expr} {i : Nat} {apos cpos : Pos} (hv : PE X o (tVar i)) (he : PE X e (tE X T B W true ce)) (hn : ∀ x p, e ≠ .Starred x p) (hbase : attributeBase o "extend" X.env (eval o X.env) = eval o X.env)
    (hfew : ((backTo cpos (starEach [e] X.env)).all (fun x => !x.1) && (backToKw cpos (keywordEach [] X.env)).all (fun x => x.1.isSome)
      && decide ([e].length + ([] : List Keyword).length + (if ([] : List Keyword).isEmpty then 0 else 1) < 30)) = true) (hline : (apos.endLine == cpos.line) = true) :
    PS X (.Expr (.Call (.Attribute o "extend" apos) [e] [] cpos) pos) (tS X T B W (.ext i ce)) := by
  refine PSi (ps_expr (pe_bm PySem.F.plainAttrs_list PySem.F.slot_list_extend PySem.F.type_list_extend mt_extend hv (pa_cons he pa_nil (starE hn _ _)) hbase hfew hline (starE hn _ _) rfl)) fun D σ H ⟨ρ, Ω, G, N, st, eo, h, P⟩ => ?_
  obtain ⟨l, hl, h⟩ := h
  obtain ⟨a, ha, how⟩ := st.own i _ hl
  obtain ⟨xs, hx, _⟩ := how.2.2.2
  refine ⟨.ref a, ha, .inl ⟨rfl, xs, SqL.of hx⟩, tE.go st eo h fun d Ω1 G1 H1 v ⟨m, ed, hz, q⟩ e1 st1 i1 => ?_⟩
  subst ed
  obtain ⟨a', ha', how1⟩ := st1.own i _ hl
  rw [ha] at ha'; cases ha'
  obtain ⟨ys, hy, hi⟩ := how1.2.2.2
  obtain ⟨b, zs, rfl, hb, hi2⟩ := i1.b.lst
  obtain ⟨s2, k2⟩ := st1.wr (o := .lst (ys ++ zs)) (d' := .lst (l ++ m)) hl ha fun k => ⟨_, upd_same, (hi.mono k).app (hi2.mono k)⟩
  exact ⟨a, b, ys, zs, rfl, rfl, hy, hb, by rw [line_eq, ← hi.length, ← hi2.length]; exact hz, P.nx _ _ _ _ _ q s2⟩
/-! ### fields -/
theorem fld_wr {σ : L2.St} {ρ : Env} {H : Hp} {Ω : Store} {G : Gh} {n : Nat} {c f : Str} {fs : List (Str × D)} {ws : List (Str × V)} {C a dx : Addr} {d : D} {v : V} (st : StX X T B σ H ρ Ω G) (hC : X.mg c = some (.ref C)) (ha : G.ι[n]? = some a) (hF : FAll X.K G H fs ws) (hd : Is X.K G H d v) :
    StX X T B σ (upd H a (.ins C dx (putF f v ws))) ρ (Ω.set n (.ins c (putD f d fs))) G ∧ Kp G H G (upd H a (.ins C dx (putF f v ws))) := by
  obtain ⟨w, e⟩ := st.wf.wr (o := .ins C dx (putF f v ws)) (b := .ins c (putD f d fs)) ha fun k => ⟨C, dx, _, hC, upd_same, FAll.put (hd.mono k) (hF.mono k)⟩
  exact ⟨st.evo e w, e.kp st.wf⟩
theorem dS_fset {o value : Expr} {f : Str} {pos' : Pos} (hno : ∀ c C, X.mg c = some (.ref C) → T.fl c f = true → Cls X.K C ∧ NoAttr X.K C f) (ha : PE X o (tE X T B W true co)) (hv : PE X value (tE X T B W false ce)) (hs : swapsWith value (some (.Attribute o f pos')) pos.line X.env = pure false) :
    PS X (.Assign [.Attribute o f pos'] value pos) (tS X T B W (.fset co f ce)) := PSi (ps_fld ha hv hs) fun D σ H ⟨ρ, Ω, G, N, st, eo, h, P⟩ => by
  refine tE.go st eo h fun d Ω1 G1 H1 v q1 e1 st1 i1 => tE.go st1 eo q1 fun x Ω2 G2 H2 u ⟨n, c, fs, ex, eO, hf, hl, q2⟩ e2 st2 i2 => ?_
  subst ex
  obtain ⟨a, rfl, ha⟩ := i2.b.obj
  obtain ⟨C, dx, ws, hC, hH, hF⟩ := st2.wf.ob n a _ ha eO
  obtain ⟨h1, h2⟩ := hno c C hC hf
  obtain ⟨s3, k3⟩ := fld_wr (dx := dx) (f := f) st2 hC ha hF (Is.mono (e2.kp st1.wf) (show Is X.K G1 H1 d v from i1))
  exact ⟨a, C, dx, ws, rfl, hH, h1, h2, by rw [← hF.length]; exact hl, P.nx _ _ _ _ _ q2 s3⟩
theorem dS_faug {o value : Expr} {f : Str} {tpos : Pos} {op : BO} (hno : ∀ c C, X.mg c = some (.ref C) → T.fl c f = true → Cls X.K C ∧ NoAttr X.K C f) (ha : PE X o (tE X T B W true co)) (hv : PE X value (tE X T B W false ce)) :
    PS X (.AugAssign (.Attribute o f tpos) (opOf op) value pos) (tS X T B W (.faug co f op ce)) := PSi (ps_fldaug ha hv (rd := rAug X B op) (aug_ok op)) fun D σ H ⟨ρ, Ω, G, N, st, eo, h, P⟩ => by
  refine tE.go st eo h fun x Ω1 G1 H1 u ⟨n, c, fs, y, ex, eO, hf, ef, q1⟩ e1 st1 i1 => ?_
  subst ex
  obtain ⟨a, rfl, ha⟩ := i1.b.obj
  obtain ⟨C, dx, ws, hC, hH, hF⟩ := st1.wf.ob n a _ ha eO
  obtain ⟨h1, h2⟩ := hno c C hC hf
  obtain ⟨v, lv, iv⟩ := hF.look ef
  refine ⟨a, C, dx, ws, v, rfl, hH, h1, h2, lv, tE.go st1 eo q1 fun d Ω2 G2 H2 u2 q2 e2 st2 i2 => ?_⟩
  obtain ⟨p1, p2, rfl, rfl⟩ := wAug_int q2
  have ha2 : G2.ι[n]? = some a := (e2.kp st1.wf).ι n a ha
  refine ⟨.int p1, .int p2, _, fun _ _ => by simpa only [Is] using iv, fun _ _ => by simpa only [Is] using (show Is X.K G2 H2 (.int p2) u2 from i2), q2, fun z v' ⟨fs', eO2, hl2, q3⟩ iz => ?_⟩
  obtain ⟨C2, dx2, ws2, hC2, hH2, hF2⟩ := st2.wf.ob n a _ ha2 eO2
  rw [hC] at hC2; cases hC2
  obtain ⟨s3, k3⟩ := fld_wr (dx := dx2) (f := f) st2 hC ha2 hF2 (iz G2 H2)
  exact ⟨dx2, ws2, hH2, by rw [← hF2.length]; exact hl2, P.nx _ _ _ _ _ q3 s3⟩
end
end OE
namespace PySem
namespace OEx
open PySem.W PySem.Calls PyProof.Rows
section
variable {prog : Program} {w : World} {A : Around} {E : Value → Shared → Prop} {h : Heap} {g : Array GenState} {d : Drawn} {t : Nat} {os : OsState}
variable {nm q : Str} {C N : Addr} {bs bm : List Value} {hdct : Bool} {sn : List Str} {sub : List Value} {ab : Bool} {col : Option Bool} {dd : Option Addr} {k0 k1 k2 k3 k5 : Option Value}
/-- the bound ValueError.__init__ is called -/
theorem call_mw {u e t0 : Addr} {dv : Option Addr} {rest : List Value} {Q : Value → Shared → Prop}
    (hC : h.get? C = some (excClassObj nm q C N bs bm hdct sn sub ab col dd k0 k1 k2 k3 k5 "ValueError.__new__")) (he : h.get? e = some (excObj C t0 dv .none)) (hu : h.get? u = some (kxs_mw "ValueError.__init__" e)) (hrest : rest.length ≤ sizeLine)
    (hq : ∀ h' t1, (∀ b o, b ≠ e → h.get? b = some o → h'.get? b = some o) → h'.get? e = some (excObj C t1 dv .none) → Q .none ⟨h', g, d, t, os⟩) :
    wpAny (model prog w) A (call (.ref u) rest) Q E ⟨h, g, d, t, os⟩ := by
  refine wpAny_call (codeAny_of_tree ?_)
  show wpAny _ A.in1 (callAny (.ref u) ⟨rest, []⟩) _ _ _
  simp only [callAny]
  refine wpAny_bind (wpAny_load hu ?_)
  simp only [kxs_mw, show (Value.type "method-wrapper" == Value.type "method" || Value.type "method-wrapper" == Value.type "builtin_function_or_method" || Value.type "method-wrapper" == Value.type "method-wrapper") = true by decide, if_true]
  refine KFB.if_so (by decide) ?_
  refine wpAny_bind (check_bound_init F.excBase_ValueError.toExcCallFacts hC he rfl ?_)
  refine wpAny_bind (wpAny_pure (wpAny_pure ?_))
  refine ⟨plainId_quiet F.excBase_ValueError.init.plain _, codeAny_builtin F.excBase_ValueError.initEntry ?_⟩
  exact exc_init_tree (cls := .ref C) (t0 := t0) (dv := dv) (c2 := .none) (c3 := .none) (b4 := .bool false) he hrest fun h' k1 k2 _ => hq h' _ k1 k2
end
end OEx
end PySem
namespace OE
open PySem PySem.Spec PyProof.Rows L2
/-! ### an exception's __init__ -/
/-- what the written part says of the class of an exception, its __init__ at f -/
structure XIn (prog : Program) (K : PySem.W.Frag) (C f : Addr) (fld sx : Str) (e : Expr) (N : List Str) (fd : FuncData) (scope : Scope) : Prop where
  fn : ∃ (oc : Value) (od : Option Addr) (name qual : Str) (params : Arguments) (dV kV doc pm ct : Value) (an : Option Addr) (cda cc : Addr) (osl : Array (Option Value)) (p0 p1 p2 p3 p4 p5 p6 p7 p8 : Pos) (ccl : Value) (cdd : Option Addr) (vs : Array Value) (ccs : Array (Option Value)) (file : Str) (tf : Tok) (cl : Value) (cld : Option Addr) (csl : Array (Option Value)),
    fd = (PySem.W.fnX name qual params [.Expr (.Call (.Attribute (.Call (.Name "super" p0) [] [] p1) "__init__" p2) [e] [] p3) p4, .Assign [.Attribute (.Name "self" p5) fld p6] (.Name sx p7) p8] scope [("__class__", cc)] dV kV doc pm an (.ref cda) ct) ∧ K.lookup f = some ⟨oc, od, .func fd, osl⟩ ∧
    PySem.W.codeIn K (.ref cda) qual = true ∧ K.lookup cda = some ⟨ccl, cdd, .fields vs, ccs⟩ ∧ vs[2]? = some (.str file tf) ∧ ((prog.main.file : Str) == file) = true ∧ K.lookup cc = some ⟨cl, cld, .cell (some (.ref C)), csl⟩ ∧
    (params.posonlyargs ++ params.args).head?.map (·.arg) = some ("self" : Str) ∧ NdefX.NScope N [("self" : Str), sx] ["__class__"] scope ∧ scope.names.lookup ("super" : Str) = some .globalImplicit ∧
    (∀ env : PySem.Env, ∃ pl : Sem Bool, eval (.Call (.Attribute (.Call (.Name "super" p0) [] [] p1) "__init__" p2) [e] [] p3) env = (do
      let ov ← attributeBase (.Call (.Name "super" p0) [] [] p1) "__init__" env (eval (.Call (.Name "super" p0) [] [] p1) env)
      standAt p2.atName
      let (f, first) ← holding [ov] (getMethod ov "__init__" pl)
      callWith p3 f first (backTo p3 (starEach [e] env)) []))
  cls : OexC K C
  ve : PySem.W.subIn K (.ref C) (.type "ValueError") = some true
  sup : PySem.W.ks_superIn K C C "__init__" = some (some (.builtin "ValueError.__init__"))
  self : PySem.W.mroIn K C (.ref C) = some true
  op : PySem.W.nsIn K cStatics "thirdparty.any" = some none
  top : (prog.main.scope.names.lookup ("super" : Str)).isSome = false
  no : PySem.W.findIn K (.ref C) fld = some none
  N : N = [("self" : Str), sx, "__class__"]

section
variable {P : Program} {w : World} {K : PySem.W.Frag} {mg : Str → Option Value} {base : Heap} {CX : CXT} {T : Tab}
theorem hide_bind {α β : Type} {M : Model} {A : Around} {m : Sem α} {k : α → Sem β} {Q : β → Shared → Prop} {E : Value → Shared → Prop} {s : Shared} (h : wpAny M A m (fun a s1 => wpAny M A (k a) Q E s1) E s) : wpAny M A (m >>= k) Q E s := wpAny_bind h
theorem exinit_ok {C f : Addr} {fld sx : Str} {e : Expr} {N : List Str} {ce : IR} {k : Nat} {fd : FuncData} {scope : Scope} (D : XIn P K C f fld sx e N fd scope) (hn : ∀ x p, e ≠ .Starred x p)
    (hsw : ∀ o p l env, swapsWith (.Name sx p) (some o) l env = pure false) (hsw0 : ∀ (p0 p1 p2 p3 : Pos) l env, swapsWith (.Call (.Attribute (.Call (.Name "super" p0) [] [] p1) "__init__" p2) [e] [] p3) none l env = pure false)
    (hmg : mg "super" = none) (hdb : (sx == ("__debug__" : Str)) = false) (hdc : (sx == ("__classdict__" : Str)) = false)
    (hm : ∀ (F : NdefX.NF) (A : Around) (outer : List PySem.Env) (s : Shared) (H : Hp) (E : XK) (B : Bs), NdefX.NScope N [("self" : Str), sx] ["__class__"] F.scope → F.scope = scope → B.xc = none → Room k (A.deeper (NdefX.envF F f s.heap.objs.size)) → PE (NdefX.ncx CX P w K mg base N F f A outer s H E) e (tE (NdefX.ncx CX P w K mg base N F f A outer s H E) T B WF false ce)) :
    FnOk P w K mg base CX (k + 1) f fd [("self" : Str), sx] (spX K mg T C fld ce) := by
  obtain ⟨oc, od, name, qual, params, dV, kV, doc, pm, ct, an, cda, cc, osl, p0, p1, p2, p3, p4, p5, p6, p7, p8, ccl, cdd, vs, ccs, file, tf, cl, cld, csl, rfl, lk, hcd, lcd, hvs, hfile, lcc, hpar, S, hsu, hev⟩ := D.fn
  refine ⟨fun vs H Q E ⟨a, d, v, G, Ω, Qd, ev, _⟩ => by subst ev; rfl, fun A outer s H args us vs Q E hr e0 hb r hsp => ?_⟩
  obtain ⟨a, d, v, G, Ω, Qd, rfl, ha, nι, wf, hd, hw, fin⟩ := hsp
  have KX : K.In s.heap := e0.mod.kin.keeps fun b o e => (e0.bs b o e).1
  have lim : s.heap.NoLimit := e0.mod.nolimit.keeps fun b o e => (e0.bs b o e).1
  generalize hF : (⟨name, qual, params, [.Expr (.Call (.Attribute (.Call (.Name "super" p0) [] [] p1) "__init__" p2) [e] [] p3) p4, .Assign [.Attribute (.Name "self" p5) fld p6] (.Name sx p7) p8], scope, [("__class__", cc)], cda⟩ : NdefX.NF) = F
  have eS : F.scope = scope := by rw [← hF]
  have ccB : base.get? cc = some ⟨cl, cld, .cell (some (.ref C)), csl⟩ := e0.mod.kin _ _ lcc
  have CA : NdefX.CellsAt F.cl ["__class__"] [none] s.heap H := by
    rw [← hF]
    refine ⟨rfl, fun y c e => ?_, fun x y c e1 e2 => ?_, fun i y e => ?_⟩
    · have : y = "__class__" ∧ c = cc := by
        simp only [List.lookup] at e
        split at e
        · rename_i z; exact ⟨beq_iff_eq.mp z, (Option.some.inj e).symm⟩
        · cases e
      obtain ⟨rfl, rfl⟩ := this
      exact ⟨(e0.bs _ _ ccB).2, some (.ref C), _, KX _ _ lcc, rfl⟩
    · simp only [List.lookup] at e1 e2
      split at e1
      · rename_i z1
        split at e2
        · rename_i z2; rw [beq_iff_eq.mp z1, beq_iff_eq.mp z2]
        · cases e2
      · cases e1
    · cases i with
      | zero => cases e; exact ⟨cc, by simp [List.lookup], fun v hv => by cases hv⟩
      | succ i => cases e
  refine ks_codeAny_call_defAt hr.depth (KX _ _ lk) rfl lim (PySem.W.codeRec_of KX hcd) rfl hb ?_ ?_ (fun h₁ hns hk₁ => ?_) S.co S.gen S.kind
  · intro y hy; exact S.nocell y hy
  · intro y hy; exact S.par _ (List.of_mem_zip hy).1
  have I0 : L2.Inv (NdefX.ncx CX P w K mg base N F f A outer s H E) [] (NdefX.startF N [V.ref a, v] [none]) H { s with heap := h₁, toks := s.toks + ([("self" : Str), sx].zip us).length } :=
    NdefX.inv_startN (ps := [("self" : Str), sx]) (fr := ["__class__"]) (by rw [eS]; exact S) hr.hd e0 rfl r CA hns hk₁
  obtain ⟨us0, uv, rfl, ru0, rv⟩ := L2.Vals.two r
  obtain rfl : us0 = Value.ref a := ru0
  have eN : NdefX.startF N [V.ref a, v] [none] = [some (V.ref a), some v, none] := by rw [D.N]; rfl
  rw [eN] at I0
  obtain ⟨nm, q, Nn, bs, bm, sn, sub, ab, col, dd, k0, k1, k2, k3, k5, hC, hbm⟩ := D.cls.cls
  have hcl : PySem.W.clsIn K C = some { name := nm, bases := bs, mro := .ref C :: bm, ns := Nn, qualname := q, hasDict := true, slotNames := sn, subclasses := sub, abstract := ab, collection := col, hasDel := false } := by unfold PySem.W.clsIn; rw [hC] <;> rfl
  obtain ⟨ar, har, harn⟩ : ∃ ar, (params.posonlyargs ++ params.args).head? = some ar ∧ ar.arg = ("self" : Str) := by
    cases z : (params.posonlyargs ++ params.args).head? with
    | none => rw [z] at hpar; cases hpar
    | some ar => rw [z] at hpar; exact ⟨ar, rfl, Option.some.inj hpar⟩
  have X1 : K.In h₁ := KX.keeps hk₁
  have ndp : [("self" : Str), sx].Nodup := by
    have q := S.nd
    rw [D.N] at q
    exact (List.nodup_append.mp (show ([("self" : Str), sx] ++ [("__class__" : Str)]).Nodup from q)).1
  obtain ⟨t1, hx⟩ := exo_at I0.hok ha
  have hx : h₁.get? a = some ({ cls := .ref C, dict := none, data := .fields #[.ref t1, .none, .none, .none, .bool false, .none] } : Obj) := hx
  have hsup : (K.lookup C).isSome = true := by rw [hC]; rfl
  obtain ⟨mb, hb1, hb2⟩ := I0.mod.blt
  refine ks_wpAt_execs_cons (ks_wpAt_Expr_any (hs := hsw0 _ _ _ _ _ _) (hi := by simp [interactive, callEnv, newEnv, S.kind]) ?_)
  obtain ⟨pl, hev⟩ := hev (callEnv (PySem.W.fnX name qual params [.Expr (.Call (.Attribute (.Call (.Name "super" p0) [] [] p1) "__init__" p2) [e] [] p3) p4, .Assign [.Attribute (.Name "self" p5) fld p6] (.Name sx p7) p8] scope [("__class__", cc)] dV kV doc pm an (.ref cda) ct) s.heap.objs.size f)
  refine ks_wpAt_MethodCall (pl := pl) (he := hev) ?_
  refine ks_wpAt_super_base (of := ⟨oc, od, .func _, osl⟩) (ar := ar) (oc := ⟨ccl, cdd, .fields vs, ccs⟩) hsu (S.frk _ (by simp)) (by decide) rfl (X1 _ _ lk) rfl har rfl (X1 _ _ lcd) rfl hvs hfile D.top ?_
  refine PySem.W.ks_loadName_global S.kind hsu (Calls.loadGlobal_builtin (I0.mod.glob.keeps I0.bk) hmg (hb1.keeps I0.bk) ((hb2 _ (by decide)).trans (show bootBuiltins "super" = some (.type "super") by decide +kernel)) ⟨rfl, ?_⟩)
  refine wpAny_loadName_free S.kind (S.frk _ (by simp)) (c := cc) (by simp [callEnv, newEnv, List.lookup]) ⟨_, X1 _ _ lcc, rfl⟩ ?_
  rw [harn]
  refine wpAny_loadName_local S.kind (S.par _ (by simp)) hns (v := .ref a) (NdefX.zip_look (i := 0) ndp rfl rfl) ?_
  have hCd : h₁.get? C = some (excClassObj nm q C Nn bs bm true sn sub ab col dd k0 k1 k2 k3 k5 "ValueError.__new__") := X1 _ _ hC
  refine ks_wpAny_isType_cls hCd rfl ⟨rfl, ?_⟩
  refine ks_wpAny_call_super hCd rfl hx rfl (fun c z => by cases z) (PySem.W.looks_mroIn X1 D.self) (fun h2 eso k2 => ?_)
  have I2 := I0.kept (h' := h2) (t' := s.toks + ([("self" : Str), sx].zip [Value.ref a, uv]).length) k2
  have X2 : K.In h2 := X1.keeps k2
  have hx2 := k2 _ _ hx
  have IA : PySem.W.InstAt h2 a ({ cls := .ref C, dict := none, data := .fields #[.ref t1, .none, .none, .none, .bool false, .none] } : Obj) C none := ⟨hx2, rfl, rfl, trivial⟩
  have hI : PySem.W.Looks (model P w) h2 (isInstance (.ref a) (.type "ValueError")) true := IA.type.andThen (PySem.W.looks_subIn X2 D.ve)
  have hal := D.sup
  unfold PySem.W.ks_superIn at hal
  rw [hcl] at hal
  refine PySem.W.kxs_getMethod PySem.W.kxs_ValueError eso (PySem.W.looks_opaque X2 D.op) (l₀ := .ref C :: bm) (fun A Q E s k q => wpAny_bind ((PySem.W.looks_clsIn X2 hcl) A _ E s k (wpAny_pure q))) rfl X2 hal hI (PySem.W.ks_ne X2 IA hcl) (by decide) ?_
  show wpAny _ _ (callWith p3 (.ref h2.objs.size) [] (backTo p3 (starEach [e] _)) []) _ _ _
  rw [starE hn]
  generalize hmw : PySem.W.kxs_mw "ValueError.__init__" a = omw
  generalize hs3 : ({ heap := h2.push omw, gens := s.gens, drawn := s.drawn, toks := s.toks + ([("self" : Str), sx].zip [Value.ref a, uv]).length + 1, os := s.os } : Shared) = s3
  have I3 : L2.Inv (NdefX.ncx CX P w K mg base N F f A outer s H E) [] [some (V.ref a), some v, none] H s3 := by
    rw [← hs3]; exact I2.kept (t' := _) fun b o q => Heap.get?_push_of_some _ q
  have eu : s3.heap.get? h2.objs.size = some omw := by rw [← hs3, ← hmw]; exact Heap.get?_push_size _ rfl
  have fo := I2.fpOk (H' := H) (b := h2.objs.size) (Nat.le_refl _) (I2.hok.fresh (Nat.le_refl _))
  have I4 : L2.Inv (NdefX.ncx CX P w K mg base N F f A outer s H E) [(h2.objs.size, omw)] [some (V.ref a), some v, none] H s3 := I3.pins_of fun p hp => by
    rw [List.mem_singleton.mp hp]
    exact ⟨eu, fo.1, fo.2.1, fo.2.2.1, fun v z => by rw [← hmw] at z; cases z⟩
  refine PySem.W.kxs_callWith (i := "ValueError.__init__") (x := a) rfl ?_
  show wpAny _ _ (evalArgs (.ref h2.objs.size) true ((false, eval e _) :: []) []) _ _ s3
  refine Calls.evalArgs_plain ?_
  have st0 : StX (NdefX.ncx CX P w K mg base N F f A outer s H E) T ⟨G, H, none, G, H⟩ [some (V.ref a), some v, none] H [.un, .val d, .un] Ω G := by
    refine ⟨wf, .refl, rfl, fun i e h => ?_, fun i e h => ?_, fun i j _ _ _ h => ?_, fun i _ _ h => ?_, .refl⟩
    · match i, h with
      | 0, h => cases h
      | 1, h => cases h; exact ⟨v, rfl, hd⟩
      | 2, h => cases h
      | n + 3, h => cases h
    · match i, h with
      | 0, h => cases h
      | 1, h => cases h
      | 2, h => cases h
      | n + 3, h => cases h
    · match i, h with
      | 0, h => cases h
      | 1, h => cases h
      | 2, h => cases h
      | n + 3, h => cases h
    · match i, h with
      | 0, h => cases h
      | 1, h => cases h
      | 2, h => cases h
      | n + 3, h => cases h
  have hr' : Room k (A.deeper (NdefX.envF F f s.heap.objs.size)) := hr.deeper _
  have pe := hm F A outer s H E ⟨G, H, none, G, H⟩ (by rw [eS]; exact S) eS rfl hr'
  have run := (pa_cons pe pa_nil (starE hn _ _)).run p3 [(h2.objs.size, omw)] s3 _ H (fun vs H1 => ∃ m mv Ω' G', vs = [mv] ∧ Qd m Ω' ∧ Evo G H G' H1 ∧ Wf K mg G' Ω' H1) I4
    (tE.go st0 eoF hw fun m Ω1 G1 H1 mv q e1 st1 i1 => ⟨m, mv, Ω1, G1, rfl, q, e1, st1.wf⟩)
  rw [starE hn] at run
  have vis0 : Vis F.scope ("self" : Str) := by rw [eS]; exact .inl (S.par _ (by simp))
  have vis1 : Vis F.scope sx := by rw [eS]; exact .inl (S.par _ (by simp))
  have body := pss_one (ps_ost (X := NdefX.ncx CX P w K mg base N F f A outer s H E) (f := fld) (p' := p6) (pos := p8) (pe_var (i := 0) (x := ("self" : Str)) (pos := p5) (by show N[0]? = _; rw [D.N]; rfl) vis0 (by decide) (by decide)) (pe_var (i := 1) (x := sx) (pos := p7) (by show N[1]? = _; rw [D.N]; rfl) vis1 hdb hdc) (hsw _ _ _ _))
  have fin2 : ∀ {s' : Shared} {σ' : L2.St} {H' : Hp} {v : V} {u : Value}, L2.Inv (NdefX.ncx CX P w K mg base N F f A outer s H E) [(h2.objs.size, omw)] σ' H' s' → L2.RelV v u → Q v H' → CE outer P w H s Q u s' :=
    fun {s' σ' H' v u} J rv q => ⟨v, H', J.os, J.bare, J.base, J.hok, rv, q⟩
  subst hF
  refine L2.thn run fun us1 s5 ⟨vs1, H5, I5, r5, m, mv, Ω5, G5, ev1, q5, e5, w5⟩ => ?_
  subst ev1
  have u5 := (I5.pin (h2.objs.size, omw) (by simp)).1
  have ea5 : H5 a = some (exo a C none) := e5.k a _ ha nι
  obtain ⟨t5, hx5⟩ := exo_at I5.hok ea5
  have hC5 := I5.kIn _ _ hC
  have hlen : us1.length ≤ sizeLine := by rw [← Paired.length r5, sizeLine_eq]; simp
  refine ⟨by rw [PySem.W.KxsAt, hmw]; exact u5, ?_⟩
  obtain ⟨h5, g5, d5, tk5, os5⟩ := s5
  refine PySem.OEx.call_mw (dv := none) hC5 hx5 (by rw [hmw]; exact u5) hlen fun h6 t6 k6 hx6 => ?_
  have J := I5.write (t' := tk5) (x := a) (e := a) (o := exo a C none) (by rw [ea5]; exact True.intro) (.inl rfl) k6 ⟨_, hx6⟩ (exo_ok hx6)
  have eu6 : upd H5 a (exo a C none) = H5 := by
    funext b
    by_cases hb : b = a
    · rw [hb, upd_same, ea5]
    · rw [upd_ne hb]
  rw [eu6] at J
  refine wpAt_of_wpAny ?_
  have na5 : ∀ dx, H5 dx = none → dx ≠ a → Q .non (upd (upd H5 dx (exd dx [(fld, v)])) a (exo a C (some dx))) := fin m Ω5 G5 H5 q5 e5 w5
  refine wpAny_mono (body.run _ _ _ H5 { nx := fun _ H' => Q .non H', rt := Q } J ⟨v, rfl, .ref a, rfl, a, C, rfl, D.cls, D.no, .inl ⟨ea5, fun dx n1 n2 => na5 dx n1 n2⟩⟩) (fun fl s' hs => ?_) fun e s' hs => hs
  cases fl with
  | ret u =>
    obtain ⟨v, σ', H', J, rv, q⟩ := hs
    exact fin2 J rv q
  | next =>
    obtain ⟨σ', H', J, q⟩ := hs
    exact fin2 (v := V.non) (u := Value.none) J rfl q
  | brk => obtain ⟨_, _, _, q⟩ := hs; exact False.elim q
  | cont => obtain ⟨_, _, _, q⟩ := hs; exact False.elim q
end
end OE
namespace OE
open PySem PySem.Spec PyProof.Rows L2
section
variable {K : PySem.W.Frag} {mg : Str → Option Value} {T : Tab} {B : Bs} {G G' : Gh} {H H' : Hp} {Ω Ω' : Store} {σ σ' : L2.St} {ρ ρ' : Env}
/-- the exception is let go: what stands behind -/
theorem exc_land {a C dx : Addr} {fs : List (Str × V)} (w1 : Wf K mg G Ω H) (ha : H a = none) (e : Evo G (upd H a (exo a C none)) G' H') (w : Wf K mg G' Ω' H') (hd : H' dx = none) (ne : dx ≠ a) :
    Evo G H G' (upd (L2.del (upd (upd H' dx (exd dx fs)) a (exo a C (some dx))) a) dx (.xd fs)) ∧ Wf K mg G' Ω' (upd (L2.del (upd (upd H' dx (exd dx fs)) a (exo a C (some dx))) a) dx (.xd fs)) ∧
      Kp G' H' G' (upd (L2.del (upd (upd H' dx (exd dx fs)) a (exo a C (some dx))) a) dx (.xd fs)) ∧ H dx = none := by
  generalize hf : upd (L2.del (upd (upd H' dx (exd dx fs)) a (exo a C (some dx))) a) dx (.xd fs) = Hf
  have g : ∀ b, b ≠ a → b ≠ dx → Hf b = H' b := fun b h1 h2 => by rw [← hf, upd_ne h2, L2.del_ne h1, upd_ne h1, upd_ne h2]
  have gd : Hf dx = some (.xd fs) := by rw [← hf, upd_same]
  have nFa : ¬ G'.F a := fun z => by
    rcases e.nf a z with z | z
    · exact w1.notF ha z
    · rw [upd_same] at z; cases z
  have nιa : a ∉ G'.ι := fun z => by
    rcases e.nι a z with z | z
    · exact w1.notι ha z
    · rw [upd_same] at z; cases z
  have ea : H' a = some (exo a C none) := e.k a _ upd_same (w1.notι ha)
  have oh : ∀ b o, H b = some o → b ≠ a := fun b o q => ne_of_none q ha
  have un : ∀ b, upd H a (exo a C none) b = none → H b = none := fun b q => by
    by_cases hb : b = a
    · rw [hb]; exact ha
    · rw [upd_ne hb] at q; exact q
  have hd0 : H dx = none := by
    have := e.none hd
    rw [upd_ne ne] at this; exact this
  have kp : Kp G' H' G' Hf := by
    refine ⟨fun _ h => h, fun _ _ h => h, fun b o f q => ?_, fun b xs q => ?_, fun b o u q => ?_⟩
    · rw [g b (fun z => nFa (z ▸ f)) (ne_of_none q hd)]; exact q
    · rw [g b (at_ne ea q exo_tup) (ne_of_none q hd)]; exact q
    · rw [g b (at_ne ea q exo_frz) (ne_of_none q hd)]; exact q
  refine ⟨⟨e.f, e.ι, fun b o q n => ?_, fun b f => ?_, fun b f => ?_, fun b q => ?_⟩, ⟨w.len, w.nd, w.dj, fun b f => ?_, fun n b o h1 h2 => ?_⟩, kp, hd0⟩
  · rw [g b (oh b o q) (ne_of_none q hd0)]
    exact e.k b o (by rw [upd_ne (oh b o q)]; exact q) n
  · rcases e.nf b f with f | f
    · exact .inl f
    · exact .inr (un b f)
  · rcases e.nι b f with f | f
    · exact .inl f
    · exact .inr (un b f)
  · obtain ⟨o, q'⟩ := Option.ne_none_iff_exists'.mp q
    by_cases hb : b = dx
    · rw [hb, gd]; simp
    · rw [g b (oh b o q') hb]
      exact e.th b (by rw [upd_ne (oh b o q')]; exact q)
  · obtain ⟨o, q⟩ := w.tr b f
    exact ⟨o, kp.o b o f q⟩
  · refine (w.ob n b o h1 h2).mono kp fun u q => ?_
    rw [g b (fun z => nιa (z ▸ List.mem_of_getElem? h1)) (ne_of_none q hd)]; exact q
theorem get_map_unX {i : Nat} {s : Sl} (h : (ρ.map unX)[i]? = some s) : (∃ s0, ρ[i]? = some s0 ∧ s = unX s0) := by
  rw [List.getElem?_map, Option.map_eq_some_iff] at h
  obtain ⟨s0, h1, h2⟩ := h
  exact ⟨s0, h1, h2.symm⟩
theorem unX_val {s : Sl} {d : D} (h : Sl.val d = unX s) : s = .val d := by cases s <;> first | exact h.symm | cases h
theorem unX_own {s : Sl} {d : D} (h : Sl.own d = unX s) : s = .own d := by cases s <;> first | exact h.symm | cases h
theorem unX_exc {s : Sl} {c : Str} {d : D} (h : Sl.exc c d = unX s) : False := by cases s <;> cases h
/-- another exception in hand: no slot says of it -/
theorem St.unx {z : Option (Addr × Value × Option Addr)} (s : St K mg T { B with xc := z } σ H ρ Ω G) : St K mg T B σ H (ρ.map unX) Ω G := by
  refine ⟨s.wf, s.ev, by simp [s.len], fun i d q => ?_, fun i d q => ?_, fun i j d e a q1 q2 q3 q4 => ?_, fun i c d q => ?_, s.kp⟩
  · obtain ⟨s0, h1, h2⟩ := get_map_unX q
    exact s.val i d (by rw [h1, unX_val h2])
  · obtain ⟨s0, h1, h2⟩ := get_map_unX q
    exact s.own i d (by rw [h1, unX_own h2])
  · obtain ⟨s0, h1, h2⟩ := get_map_unX q1
    obtain ⟨s1, h3, h4⟩ := get_map_unX q2
    exact s.ap i j d e a (by rw [h1, unX_own h2]) (by rw [h3, unX_own h4]) q3 q4
  · obtain ⟨s0, h1, h2⟩ := get_map_unX q
    exact (unX_exc h2).elim
theorem St.xc {z : Option (Addr × Value × Option Addr)} (s : St K mg T B σ H ρ Ω G) (h : B.xc = none) : St K mg T { B with xc := z } σ H ρ Ω G := by
  refine ⟨s.wf, s.ev, s.len, s.val, s.own, s.ap, fun i c d q => ?_, s.kp⟩
  obtain ⟨a, cls, dx, h1, _⟩ := s.exc i c d q
  rw [h] at h1; cases h1
theorem St.setx' (s : St K mg T B σ H ρ Ω G) {i : Nat} {c : Str} {d : D} {a : Addr} {cls : Value} {dx : Option Addr} (hx : B.xc = some (a, cls, dx)) (h : ExcRel K mg T G H c d cls dx) :
    St K mg T B (σ.set i (some (.ref a))) H (ρ.set i (.exc c d)) Ω G := by
  by_cases hi : i < ρ.length
  · exact s.setx hi hx h
  · rw [set_far hi, set_far (by rw [s.len]; exact hi)]; exact s
end
section
variable {X : Cx} {T : Tab} {B : Bs} {W : WX} {pos p np pos' : Pos} {e : Expr} {es : List Expr} {x n : Str} {body suite : List Stmt} {b₀ : Stmt} {cb ch : IS} {ce : IR} {k : Nat}
theorem dS_raise (hc : X.calm = true) (tk : Takes X W) (tab : TabOk X.prog X.w X.K X.mg X.base T k) (hr : Room k X.A) (hx : ∃ fld, T.exf x = some fld) (hg : Gl X x) (hn : ∀ x p, e ≠ .Starred x p) (hdb : (x == ("__debug__" : Str)) = false) (he : PE X e (tE X T B W false ce)) :
    PS X (.Raise (some (.Call (.Name x p) [e] [] pos)) none pos') (tS X T B W (.raise x ce)) := by
  obtain ⟨fld, hx⟩ := hx
  obtain ⟨C, f, fd, ps, cm, k0, hk, hm, oex, iC, tI, F, hb, wm, xf, no, _⟩ := (tab.exc x fld hx).ex
  refine PSi (ps_raise hc tk (pmk_oex (dvs := []) (ds := []) oex iC tI F (hr.mono hk) hb .nil (passes_call tk fun _ _ _ _ z => z.elim) hg hm (pa_cons he pa_nil (starE hn _ _)) hdb (starE hn _ _) rfl)) fun D σ H ⟨ρ, Ω, G, N, st, eo, h, P⟩ => ?_
  refine tE.go st eo h fun d Ω1 G1 H1 v ⟨hxm, q⟩ e1 st1 i1 => ⟨by show 1 ≤ 1000; decide, fun a ha => ?_⟩
  have i1 : Is X.K G1 H1 d v := i1
  have e0 := Evo.new (G := G1) (o := exo a C none) ha
  refine ⟨a, d, v, G1, Ω1, _, rfl, upd_same, st1.wf.notι ha, st1.wf.new ha, i1.mono (e0.kp st1.wf), wm d Ω1 hxm, fun m Ω' G' H' eΩ e2 w2 dx hdx ne => ⟨rfl, dx, [(fld, v)], upd_same, by rw [upd_ne ne, upd_same], ?_, ?_⟩⟩
  · exact (exc_land (fs := []) st1.wf ha e2 w2 hdx ne).2.2.2
  · have eΩ : Ω' = Ω1 := eΩ
    subst eΩ
    obtain ⟨ev, wf, kp, hd0⟩ := exc_land (fs := [(fld, v)]) st1.wf ha e2 w2 hdx ne
    refine eo x d ρ Ω' G' σ _ (.ref C) (some dx) q (st1.evo ev wf) ⟨C, dx, v, fld, hm, rfl, rfl, hx, upd_same, ?_, w2.notι hdx, w2.notF hdx⟩
    exact ((i1.mono (e0.kp st1.wf)).mono (e2.kp (st1.wf.new ha))).mono kp
/-! ### try -/
theorem Nm.names {c : Str} {cv : Value} (hg : Gl X c) (hdb : (c == ("__debug__" : Str)) = false) (h : Nm X.mg c cv) : Names X c cv := ⟨hg, hdb, h⟩
theorem dS_try_as {i : Nat} {c : Str} {cv : Value} {k0 : Nat} (hxc : B.xc = none) (hs : X.stack = X.env :: X.outer) (hf : X.env.frame = some X.env.locals) (hN : X.N.Nodup) (hi : X.N[i]? = some n) (hln : X.env.kindOf n = some .local) (tab : TabOk X.prog X.w X.K X.mg X.base T k0)
    (hg : Gl X c) (hdb : (c == ("__debug__" : Str)) = false) (hcv : Nm X.mg c cv) (tk : Takes X W)
    (hb : ∀ (W : WX) (pn : List (Addr × Obj)) (xe : Value → Shared → Prop), Takes (X.tr pn xe) W → PassesOwn (model X.prog X.w) X.A X.env xe → PSs (X.tr pn xe) body (tS X T B W cb))
    (hsu : ∀ (a : Addr) (oe : Obj) (cls : Value) (d : Option Addr) (pn : List (Addr × Obj)), Zc cls d oe → (∃ vs, oe.data = .fields vs) → PSs (X.suite a ((a, oe) :: pn)) (b₀ :: suite) (tS X T { B with xc := some (a, cls, d) } WF ch)) :
    PS X (.Try body [.ExceptHandler (some (.Name c np)) (some n) (b₀ :: suite) pos'] [] [] pos) (tS X T B W (.try_ cb c (some i) ch)) := by
  refine PSi (ps_try_as (ts := fun a cls d => tS X T { B with xc := some (a, cls, d) } WF ch) hs hf hN hi hln (hcv.names hg hdb) tk hb hsu) fun D σ H ⟨ρ, Ω, G, N, st, eo, h, P⟩ => ?_
  refine ⟨ρ, Ω, G, _, st, ?_, h, ⟨P.nx, P.bk, P.ct, P.rt⟩⟩
  rintro x d ρ' Ω' G' σ' H' cls dx ⟨b, hb', h1, h2⟩ st' r
  obtain ⟨C, dd, v, fld, r1, r2, r3, r4⟩ := id r
  refine ⟨b, by rw [r2]; exact (tab.sub x c b C cv hb' r1 hcv).1, fun eb a ha => ?_, fun eb => eo x d ρ' Ω' G' σ' H' cls dx (h2 eb) st' r⟩
  refine ⟨exE (some i) x d ρ', Ω', G', unN (some i) N, (st'.xc hxc).setx' rfl r, fun _ _ _ _ _ _ _ _ _ z => z.elim, h1 eb, ⟨?_, ?_, ?_, P.rt⟩⟩
  · intro σ6 H6 ρ6 Ω6 G6 q s6; exact P.nx _ _ _ _ _ q (s6.unv i none).unx
  · intro σ6 H6 ρ6 Ω6 G6 q s6; exact P.bk _ _ _ _ _ q (s6.unv i none).unx
  · intro σ6 H6 ρ6 Ω6 G6 q s6; exact P.ct _ _ _ _ _ q (s6.unv i none).unx
theorem dS_try_only {c : Str} {cv : Value} {k0 : Nat} (hxc : B.xc = none) (hs : X.stack = X.env :: X.outer) (hf : X.env.frame = some X.env.locals) (tab : TabOk X.prog X.w X.K X.mg X.base T k0)
    (hg : Gl X c) (hdb : (c == ("__debug__" : Str)) = false) (hcv : Nm X.mg c cv) (tk : Takes X W)
    (hb : ∀ (W : WX) (pn : List (Addr × Obj)) (xe : Value → Shared → Prop), Takes (X.tr pn xe) W → PassesOwn (model X.prog X.w) X.A X.env xe → PSs (X.tr pn xe) body (tS X T B W cb))
    (hsu : ∀ (a : Addr) (oe : Obj) (cls : Value) (d : Option Addr) (pn : List (Addr × Obj)), Zc cls d oe → (∃ vs, oe.data = .fields vs) → PSs (X.suite a ((a, oe) :: pn)) (b₀ :: suite) (tS X T { B with xc := some (a, cls, d) } WF ch)) :
    PS X (.Try body [.ExceptHandler (some (.Name c np)) none (b₀ :: suite) pos'] [] [] pos) (tS X T B W (.try_ cb c none ch)) := by
  refine PSi (ps_try_only (ts := fun a cls d => tS X T { B with xc := some (a, cls, d) } WF ch) hs hf (hcv.names hg hdb) tk hb hsu) fun D σ H ⟨ρ, Ω, G, N, st, eo, h, P⟩ => ?_
  refine ⟨ρ, Ω, G, _, st, ?_, h, ⟨P.nx, P.bk, P.ct, P.rt⟩⟩
  rintro x d ρ' Ω' G' σ' H' cls dx ⟨b, hb', h1, h2⟩ st' r
  obtain ⟨C, dd, v, fld, r1, r2, r3, r4⟩ := id r
  refine ⟨b, by rw [r2]; exact (tab.sub x c b C cv hb' r1 hcv).1, fun eb a ha => ?_, fun eb => eo x d ρ' Ω' G' σ' H' cls dx (h2 eb) st' r⟩
  refine ⟨exE none x d ρ', Ω', G', unN none N, st'.xc hxc, fun _ _ _ _ _ _ _ _ _ z => z.elim, h1 eb, ⟨?_, ?_, ?_, P.rt⟩⟩
  · intro σ6 H6 ρ6 Ω6 G6 q s6; exact P.nx _ _ _ _ _ q s6.unx
  · intro σ6 H6 ρ6 Ω6 G6 q s6; exact P.bk _ _ _ _ _ q s6.unx
  · intro σ6 H6 ρ6 Ω6 G6 q s6; exact P.ct _ _ _ _ _ q s6.unx
/-! ### what a suite asks of its exception -/
structure InSuite (X : Cx) (B : Bs) : Prop where
  ex : ∀ a cls d, B.xc = some (a, cls, d) → ∃ X0 oe pn, X = L2.Cx.suite X0 a ((a, oe) :: pn) ∧ Zc cls d oe ∧ ∃ vs, oe.data = .fields vs
theorem dE_xf {i : Nat} {f : Str} {k0 : Nat} (su : InSuite X B) (tab : TabOk X.prog X.w X.K X.mg X.base T k0) (hN : PE X (.Name n np) (tVar i)) (hb : attributeBase (.Name n np) f X.env (eval (.Name n np) X.env) = eval (.Name n np) X.env) (bb : Bool) :
    PE X (.Attribute (.Name n np) f pos) (tE X T B W bb (.xf i f)) := by
  refine ⟨fun pins s σ H Q I ⟨ρ, Ω, G, E, Qd, st, eo, ⟨c, d, hi, hf, q⟩, k⟩ => ?_⟩
  obtain ⟨a, cls, dx, hx, hs, C, dd, v, fld, r1, r2, r3, r4, r5, r6, r7, r8⟩ := st.exc i c d hi
  obtain ⟨X0, oe, pn, rfl, hz, hd⟩ := su.ex a cls dx hx
  rw [hf] at r4; cases r4
  obtain ⟨C', f', fd, ps, cm, k0, hk, hm, oex, iC, tI, F, hb', wm, xf, no, _⟩ := (tab.exc c f hf).ex
  obtain rfl : C' = C := by
    have := hm.symm.trans r1
    cases this; rfl
  exact (pe_xf xf no hz hd hN hb).run pins s σ H Q I ⟨.ref a, hs, rfl, r2, dd, [(f, v)], v, r3, r5, by simp, k _ _ _ _ _ q .refl st.wf (Is.ri r6)⟩
theorem dE_xis {i : Nat} {c' : Str} {cv : Value} {k0 : Nat} {p1 p2 : Pos} (su : InSuite X B) (tab : TabOk X.prog X.w X.K X.mg X.base T k0) (hN : PE X (.Name n np) (tVar i)) (hgi : Gl X "isinstance") (hmi : X.mg "isinstance" = none) (hcv : Nm X.mg c' cv) (hv : ∃ vc, PE X (.Name c' p1) (tC vc) ∧ ∀ u, RelV vc u → u = cv) (bb : Bool) :
    PE X (.Call (.Name "isinstance" p2) [.Name n np, .Name c' p1] [] pos) (tE X T B W bb (.xis i c')) := by
  obtain ⟨vc, hC, hu⟩ := hv
  refine ⟨fun pins s σ H Q I ⟨ρ, Ω, G, E, Qd, st, eo, ⟨c, d, b, hi, hf, q⟩, k⟩ => ?_⟩
  obtain ⟨a, cls, dx, hx, hs, C, dd, v, fld, r1, r2, r3, r4, r5, r6, r7, r8⟩ := st.exc i c d hi
  obtain ⟨X0, oe, pn, rfl, hz, hd⟩ := su.ex a cls dx hx
  obtain ⟨C', f', fd, ps, cm, k0, hk, hm, oex, iC, tI, F, hb', wm, xf, no, xc⟩ := (tab.exc c fld r4).ex
  obtain rfl : C' = C := by
    have := hm.symm.trans r1
    cases this; rfl
  have call : CallR (L2.Cx.suite X0 a ((a, oe) :: pn)) (.builtin "isinstance") (fun xs H Q => xs = [.ref a, vc] ∧ H dd = some (.xd [(fld, v)]) ∧ Q (.bl b) H) := by
    rintro pins s σ H xs us Q I r ⟨rfl, hdd, q⟩
    obtain ⟨u1, u2, rfl, ra, rc⟩ := L2.Vals.two r
    obtain rfl : u1 = Value.ref a := ra
    obtain rfl := hu _ rc
    obtain ⟨hget, _⟩ := I.pin (a, oe) (List.mem_append.mpr (.inl List.mem_cons_self))
    obtain ⟨vs, hv⟩ := hd
    obtain ⟨mA, hns, hr⟩ := (show ObjOk _ _ H s.heap dd (.xd [(fld, v)]) from I.hok dd _ hdd)
    obtain ⟨od, ho, _⟩ := lookIn_ns hns
    have J : PySem.W.InstAt s.heap a oe C' (some od) := ⟨hget, by rw [hz.1, r2], by unfold PySem.W.notCls; rw [hv] <;> rfl, by rw [hz.2, r3]; exact ho⟩
    have cls' : (PySem.W.clsIn X0.K C').isSome = true := by
      obtain ⟨cd, hc, _⟩ := PySem.W.any_some xc.hd
      rw [show PySem.W.clsIn X0.K C' = some cd from hc]; rfl
    exact PySem.W.kia_one (PySem.W.kitx_exc cls' xc.hg xc.hk xc.hs xc.ha xc.hn xc.ht xc.hm) I.kIn J (tab.sub c c' b C' _ hf r1 hcv).2 (fun z => nomatch z) fun tk => ⟨.bl b, H, I.kept (t' := tk) fun _ _ z => z, rfl, q⟩
  exact (pe_callB call hgi hmi (by decide +kernel) (pa_cons hN (pa_cons hC pa_nil))).run pins s σ H Q I ⟨.ref a, hs, rfl, r5, k _ _ _ _ _ q .refl st.wf (Is.ri (by simp only [Is]))⟩
end
end OE
namespace OE
open PySem PySem.Spec PyProof.Rows L2

/-! ### shapes -/
def notStar : Expr → Bool
  | .Starred _ _ => false
  | _ => true
theorem notStar_of {e : Expr} (h : notStar e = true) : ∀ x p, e ≠ .Starred x p := fun x p z => by subst z; cases h
def notSet : Expr → Bool
  | .Set _ _ _ => false
  | _ => true
theorem notSet_of {e : Expr} (h : notSet e = true) : ∀ es k p, e ≠ .Set es k p := fun x k p z => by subst z; cases h
theorem fold_ok {e : Expr} (h : notSet e = true) (env : PySem.Env) (x : Value) : foldedSetIterable e env x = pure x := by
  cases e <;> first | rfl | cases h
def notSup : Expr → Bool
  | .Call (.Name id _) [] [] _ => id != "super"
  | _ => true
theorem base_ok {o : Expr} (h : notSup o = true) (f : Str) (env : PySem.Env) (w : Sem Value) : attributeBase o f env w = w := by
  unfold attributeBase
  split
  · rename_i id p pos
    have h' : (id != "super") = true := h
    rw [h']; rfl
  · rfl
def plainV : Expr → Bool
  | .UnaryOp .Not _ _ => false
  | .BoolOp _ _ _ => false
  | .IfExp _ _ _ _ => false
  | .Compare _ _ _ _ => false
  | _ => true
theorem plainV_ok {a : Expr} (h : plainV a = true) (env : PySem.Env) : ∀ whole, isTrue a env whole = (do let v ← whole; standAt a.pos; holding [v] (truthy v)) := fun whole => by
  cases a with
  | UnaryOp op x p => cases op <;> first | rfl | cases h
  | BoolOp => cases h
  | IfExp => cases h
  | Compare => cases h
  | _ => rfl
def notComp : Expr → Bool
  | .ListComp _ _ _ _ => false
  | .SetComp _ _ _ _ => false
  | .DictComp _ _ _ _ _ => false
  | _ => true
theorem sw_ok {e : Expr} (h : notComp e = true) (t : Option Expr) (l : Nat) (env : PySem.Env) : swapsWith e t l env = pure false := by
  cases e <;> first | rfl | cases h
theorem sw_attr (e : Expr) (o : Expr) (f : Str) (p : Pos) (l : Nat) (env : PySem.Env) : swapsWith e (some (.Attribute o f p)) l env = pure false := by
  cases e <;> rfl
def notTup : Expr → Bool
  | .Tuple _ _ _ => false
  | _ => true
theorem stores_ok {ts : List Expr} {e : Expr} (h : notTup e = true) (env : PySem.Env) : swappedStores ts e env = pure none := by
  unfold swappedStores
  cases e <;> first | cases h | skip
  all_goals
    (split
     · rename_i hh
       split at hh
       · rename_i h1 h2; cases h2
       · rename_i h1 h2; cases h2
       · cases hh
     · rfl)
def notSlc : Expr → Bool
  | .Slice _ _ _ _ => false
  | _ => true
theorem plainIx_ok {b : Expr} (h : notSlc b = true) : PlainIx b := fun o i => by
  cases b <;> first | rfl | cases h
def allPlain : List Expr → Bool
  | [] => true
  | e :: es => notStar e && allPlain es
theorem starAll : ∀ {es : List Expr} {env : PySem.Env}, allPlain es = true → (starEach es env).all (fun x => !x.1) = true ∧ (starEach es env).any (·.1) = false
  | [], _, _ => ⟨rfl, rfl⟩
  | e :: es, env, h => by
    have h' : notStar e = true ∧ allPlain es = true := by simpa [allPlain] using h
    obtain ⟨h1, h2⟩ := starAll (env := env) h'.2
    rw [starE (notStar_of h'.1)]
    exact ⟨by simp [h1], by simp [h2]⟩
theorem back_all (pos : Pos) (l : List (Bool × Sem Value)) : (backTo pos l).all (fun x => !x.1) = l.all (fun x => !x.1) ∧ (backTo pos l).any (·.1) = l.any (·.1) := by
  unfold backTo
  induction l with
  | nil => exact ⟨rfl, rfl⟩
  | cons x l ih =>
    simp only [List.map_cons, List.all_cons, List.any_cons]
    exact ⟨by rw [ih.1], by rw [ih.2]⟩
theorem any_ok {es : List Expr} (h : allPlain es = true) (pos : Pos) (env : PySem.Env) : (backTo pos (starEach es env)).any (·.1) = false := by
  rw [(back_all pos _).2]; exact (starAll h).2
theorem few_ok {es : List Expr} (h : allPlain es = true) (hl : es.length < 30) (pos : Pos) (env : PySem.Env) :
    ((backTo pos (starEach es env)).all (fun x => !x.1) && (backToKw pos (keywordEach [] env)).all (fun x => x.1.isSome)
      && decide (es.length + ([] : List Keyword).length + (if ([] : List Keyword).isEmpty then 0 else 1) < 30)) = true := by
  rw [(back_all pos _).1, (starAll h).1]
  simpa [keywordEach, backToKw] using hl
/-- a method's call by its tree -/
theorem meth_tree {o : Expr} {m : Str} {apos pos : Pos} {es : List Expr} {env : PySem.Env} (hs : notSup o = true) (h : allPlain es = true) (hl : es.length < 30) (hp : (apos.endLine == pos.line) = true) :
    eval (.Call (.Attribute o m apos) es [] pos) env = (do
      let ov ← eval o env
      standAt apos.atName
      let (f, first) ← holding [ov] (getMethod ov m (do return (← importBound o env).getD true))
      callWith pos f first (backTo pos (starEach es env)) (backToKw pos (keywordEach [] env))) := by
  rw [PySem.arm_eval_Call, base_ok hs]
  have hform : methodCallForm (es.length + ([] : List Keyword).length) (backTo pos (starEach es env)) (backToKw pos (keywordEach [] env)) = true := by
    have := few_ok h hl pos env
    exact this
  unfold methodCall
  rw [hform]
  unfold calleeOf methodCallPos
  simp only [if_true, hp, Bool.not_true, Bool.false_or]
  rfl
/-! ### the compiler -/
structure Rec where
  N : List Str
  fns : List Str := []
  cls : List Str := []
  cons : List Str := []
  meths : List (Str × Str) := []
  exs : List Str := []
  nms : List Str := []
  xv : List Str := []
  own : List Str := []
structure Ct where
  R : Rec
  sc : Scope
  lc : List Str
  cl : Bool
def ix (C : Ct) (x : Str) : Option Nat := C.R.N.idxOf? x
def grd {α : Type} (b : Bool) (x : Option α) : Option α := if b = true then x else none
theorem grd_some {α : Type} {b : Bool} {x : Option α} {y : α} (h : grd b x = some y) : b = true ∧ x = some y := by
  unfold grd at h
  split at h
  · exact ⟨by assumption, h⟩
  · cases h
def isVis (sc : Scope) (x : Str) : Bool := match sc.names.lookup x with
  | some .local => true | some .cell => true | some .free => true | _ => false
def isLoc (C : Ct) (x : Str) : Bool := match C.sc.names.lookup x with
  | some .local => true | some .cell => C.lc.contains x | _ => false
def isGl (sc : Scope) (x : Str) : Bool := match sc.names.lookup x with
  | some .globalImplicit => true | _ => false
def okNm (x : Str) : Bool := !(x == ("__debug__" : Str)) && !(x == ("__classdict__" : Str))
def cLit : Const → Option D
  | .int i => some (.int i)
  | .str s => some (.str s.cps.toList)
  | .bool b => some (.bl b)
  | .none => some .non
  | _ => none
def bopO : Operator → Option BO
  | .Add => some .add | .Sub => some .sub | .Mult => some .mul | .FloorDiv => some .fdiv | .Mod => some .mod | .Pow => some .pow | _ => none
def cmpO : CmpOp → Option BO
  | .Eq => some .eq | .NotEq => some .ne | .Lt => some .lt | .LtE => some .le | .Gt => some .gt | .GtE => some .ge | .Is => some .is_ | .IsNot => some .isnt | .In => some .in_ | .NotIn => some .nin
theorem bopO_ok {op : Operator} {o : BO} (h : bopO op = some o) : binaryOp op = fOf o := by
  cases op <;> first | (cases h; rfl) | cases h
theorem cmpO_ok {op : CmpOp} {o : BO} (h : cmpO op = some o) : compareOp op = fOf o := by
  cases op <;> first | (cases h; rfl) | cases h
def augO : Operator → Option BO
  | .Add => some .add | .Sub => some .sub | .Mult => some .mul | _ => none
theorem augO_ok {op : Operator} {o : BO} (h : augO op = some o) : op = opOf o := by
  cases op <;> first | (cases h; rfl) | cases h
/-- built-in functions by name: the id, whether it is a type -/
def cBi (x : Str) : Option (Bi × Bool) :=
  if x == "len" then some (.len, false) else if x == "sum" then some (.sum_, false) else if x == "all" then some (.all_, false) else if x == "any" then some (.any_, false)
  else if x == "int" then some (.int_, true) else if x == "str" then some (.str_, true) else if x == "list" then some (.list_, true) else if x == "tuple" then some (.tuple_, true) else none
def cBm (m : Str) (n : Nat) : Option Bm :=
  if m == "join" then some .join else if m == "split" then some .split else if m == "startswith" && n == 1 then some .starts else if m == "startswith" && n == 2 then some .starts2 else none
def tgNames (C : Ct) : List Expr → Option (List Nat)
  | [] => some []
  | .Name x _ :: es => (grd (isLoc C x) (ix C x)).bind fun i => (tgNames C es).map (i :: ·)
  | _ => none
def cG (C : Ct) : Expr → Option Tgt
  | .Name x _ => (grd (isLoc C x) (ix C x)).map .nm
  | .Tuple es _ _ => grd C.cl ((tgNames C es).map .tp)
  | _ => none
def ownOfS (C : Ct) (s : Scope) : List (Str × Nat) := s.names.filterMap fun (x, k) => if k == .local || k == .cell then (ix C x).map (x, ·) else none
def cellsS (s : Scope) : List Str := s.names.filterMap fun (x, k) => if k == .cell then some x else none
def Ct.comp (C : Ct) (s : Scope) : Ct := { C with sc := relS s C.sc, lc := cellsS s }
mutual
def cE : Nat → Ct → Bool → Expr → Option IR
  | 0, _, _, _ => none
  | n + 1, C, bb, e => match e with
    | .Name x _ => if isVis C.sc x then grd (okNm x) ((ix C x).map fun i => if bb then .bor i else .var i) else grd (isGl C.sc x && C.R.cons.contains x && okNm x) (some (.con x))
    | .Constant c _ _ => (cLit c).map .lit
    | .BinOp a op b _ => (bopO op).bind fun o => (cE n C true a).bind fun ca => (cE n C true b).map fun cb => .op o ca cb
    | .BoolOp op vs p => match vs with
      | [] => none
      | [a] => cE n C bb a
      | a :: b :: r => (cE n C true a).bind fun ca => (cE n C false (.BoolOp op (b :: r) p)).map fun cb => match op with | .And => .and ca cb | .Or => .or ca cb
    | .UnaryOp op a _ => match op with
      | .Not => (cE n C true a).map .not
      | .USub => (cE n C true a).map .neg
      | _ => none
    | .Compare a ops cs _ => match ops, cs with
      | [op], [b] => grd (notSet b) ((cmpO op).bind fun o => (cE n C true a).bind fun ca => (cE n C true b).map fun cb => .op o ca cb)
      | [op, op'], [b, c] => grd (notSet c) ((cmpO op).bind fun o => (cmpO op').bind fun o' => (cE n C true a).bind fun ca => (cE n C true b).bind fun cb => (cE n C true c).map fun cc => .chain o o' ca cb cc)
      | _, _ => none
    | .IfExp c a b _ => (cT n C c).bind fun cc => (cE n C bb a).bind fun ca => (cE n C bb b).map fun cb => .ite cc ca cb
    | .Subscript a s _ => match s with
      | .Slice lo hi none _ => (cE n C true a).bind fun ca => (cP n C lo).bind fun cl => (cP n C hi).map fun ch => .sl ca cl ch
      | .Slice _ _ (some _) _ => none
      | b => grd (notSlc b) ((cE n C true a).bind fun ca => (cE n C true b).map fun cb => .idx ca cb)
    | .Attribute o f _ => match o with
      | .Name x p => if C.R.xv.contains x then grd (isVis C.sc x && okNm x) ((ix C x).map fun i => .xf i f) else grd (notSup (.Name x p)) ((cE n C true (.Name x p)).map fun co => .fld co f)
      | o => grd (notSup o) ((cE n C true o).map fun co => .fld co f)
    | .Tuple es _ _ => (cA n C false es).map .tup
    | .List es p => cF n C (.List es p)
    | .ListComp e gs s p => cF n C (.ListComp e gs s p)
    | .Call f as ks p => match ks with
      | [] => match f with
        | .Name x _ => grd (isGl C.sc x && okNm x) (cCall n C x as)
        | .Attribute o m ap => grd (C.cl && notSup o && allPlain as && decide (as.length < 30) && (ap.endLine == p.line)) (cMeth n C o m as)
        | _ => none
      | _ => none
    | _ => none
def cCall : Nat → Ct → Str → List Expr → Option IR
  | 0, _, _, _ => none
  | n + 1, C, x, as => match as with
    | [] => grd (C.cl && C.R.cls.contains x) (some (.make x .nil))
    | a :: es => if C.R.fns.contains x then grd (C.cl && notStar a && allPlain es) ((cA n C false (a :: es)).map (.call x)) else
      if C.R.cls.contains x then grd (C.cl && notStar a && allPlain es) ((cA n C false (a :: es)).map (.make x)) else
      if x == "isinstance" then (match a, es with
        | .Name y _, [.Name c _] => grd (C.R.xv.contains y && isVis C.sc y && okNm y && isGl C.sc c && okNm c && (C.R.nms.contains c || c == "ValueError")) ((ix C y).map fun i => .xis i c)
        | _, _ => none) else
      (cBi x).bind fun b => grd (C.cl && notStar a && allPlain es) ((cA n C true (a :: es)).map (.bi b.1))
def cMeth : Nat → Ct → Expr → Str → List Expr → Option IR
  | 0, _, _, _, _ => none
  | n + 1, C, o, m, as => match as with
    | [] => (C.R.meths.lookup m).bind fun c => (cE n C true o).map fun co => .meth co c m .nil
    | a :: es => match C.R.meths.lookup m with
      | some c => (cE n C true o).bind fun co => (cA n C false (a :: es)).map fun ca => .meth co c m ca
      | none => (cBm m (a :: es).length).bind fun b => (cE n C true o).bind fun co => (cA n C true (a :: es)).map fun ca => .bm b co ca
def cA : Nat → Ct → Bool → List Expr → Option IR
  | 0, _, _, _ => none
  | n + 1, C, bb, es => match es with
    | [] => some .nil
    | e :: es => grd (notStar e) ((cE n C bb e).bind fun ce => (cA n C bb es).map fun cs => .cons ce cs)
def cP : Nat → Ct → Option Expr → Option IR
  | 0, _, _ => none
  | n + 1, C, e => match e with
    | none => some .nop
    | some a => (cE n C true a).bind fun ca => grd (!isNop ca) (some ca)
def cT : Nat → Ct → Expr → Option IR
  | 0, _, _ => none
  | n + 1, C, e => match e with
    | .BoolOp op vs p => cW n C op vs
    | .UnaryOp .Not a _ => (cT n C a).map .not
    | .Compare a ops cs _ => match ops, cs with
      | [op], [b] => grd (notSet b) ((cmpO op).bind fun o => (cE n C true a).bind fun ca => (cE n C true b).map fun cb => .op o ca cb)
      | [op, op'], [b, c] => grd (notSet c) ((cmpO op).bind fun o => (cmpO op').bind fun o' => (cE n C true a).bind fun ca => (cE n C true b).bind fun cb => (cE n C true c).map fun cc => .chain o o' ca cb cc)
      | _, _ => none
    | e => grd (plainV e) ((cE n C true e).map .tru)
def cW : Nat → Ct → BoolOp → List Expr → Option IR
  | 0, _, _, _ => none
  | n + 1, C, op, vs => match vs with
    | [] => none
    | [a] => cT n C a
    | a :: b :: r => (cT n C a).bind fun ca => (cW n C op (b :: r)).map fun cb => match op with | .And => .and ca cb | .Or => .or ca cb
def cF : Nat → Ct → Expr → Option IR
  | 0, _, _ => none
  | n + 1, C, e => match e with
    | .List es _ => (cA n C false es).map .lst
    | .ListComp e gs s _ => match gs with
      | [⟨t, it, ifs, 0⟩] => grd (C.cl && notSet it && blkC C.R.N C.sc s (ownOfS C s)) ((cI n C t it).bind fun ci => (cG (C.comp s) t).bind fun ct => (cIf n (C.comp s) ifs).bind fun cc => (cE n (C.comp s) false e).bind fun ce =>
          grd ((tslots ct).all fun i => ((ownOfS C s).map (·.2)).contains i) (some (.lc ct ((ownOfS C s).map (·.2)) ci cc ce)))
      | _ => none
    | _ => none
def cIf : Nat → Ct → List Expr → Option IR
  | 0, _, _ => none
  | n + 1, C, es => match es with
    | [] => some (.lit (.bl true))
    | [c] => cT n C c
    | _ => none
def cI : Nat → Ct → Expr → Expr → Option IR
  | 0, _, _, _ => none
  | n + 1, C, t, e => match e with
    | .Call (.Name x _) as [] _ =>
      if x == "range" then (match as with
        | [a] => grd (isGl C.sc x && notStar a) ((cE n C false a).map .irng1)
        | [a, b] => grd (isGl C.sc x && notStar a && notStar b) ((cE n C false a).bind fun ca => (cE n C false b).map fun cb => .irng2 ca cb)
        | _ => none)
      else if x == "enumerate" then (match as, t with
        | [a], .Tuple _ _ _ => grd (isGl C.sc x && notStar a) ((cE n C false a).map .ien)
        | _, _ => none)
      else if x == "zip" then (match as, t with
        | [a, b], .Tuple _ _ _ => grd (isGl C.sc x && notStar a && notStar b) ((cE n C false a).bind fun ca => (cE n C false b).map fun cb => .izip ca cb)
        | _, _ => none)
      else (cE n C false e).map .iv
    | e => (cE n C false e).map .iv
end
end OE
namespace OE
open PySem PySem.Spec PyProof.Rows L2
structure TOk (R : Rec) (T : Tab) : Prop where
  fns : ∀ x ∈ R.fns, ∃ en, T.fn x = some en
  cls : ∀ x ∈ R.cls, ∃ en, T.ini x = some en
  cons : ∀ x ∈ R.cons, ∃ d, T.con x = some d
  meths : ∀ m c, R.meths.lookup m = some c → ∃ en, T.me c m = some en
  exs : ∀ x ∈ R.exs, ∃ f, T.exf x = some f
structure CxOk (X : Cx) (C : Ct) (T : Tab) (B : Bs) (W : WX) (k : Nat) : Prop where
  N : X.N = C.R.N
  nd : X.N.Nodup
  sc : X.env.scope = C.sc
  lc : ∀ x ∈ C.lc, X.fn x = true
  tok : TOk C.R T
  tab : TabOk X.prog X.w X.K X.mg X.base T k
  un : X.A.units + 65 < cLine
  blt : Blt X.mg
  fl : ∀ c C f, X.mg c = some (.ref C) → T.fl c f = true → Cls X.K C ∧ NoAttr X.K C f
  nms : ∀ c ∈ C.R.nms, ∃ a, X.mg c = some (.ref a)
  calm : C.cl = true → X.calm = true ∧ Room k X.A ∧ Takes X W ∧ B.xc = none
  su : InSuite X B
section
variable {X : Cx} {C : Ct} {T : Tab} {B : Bs} {W : WX} {k n : Nat}
theorem CxOk.ix (h : CxOk X C T B W k) {x : Str} {i : Nat} (e : ix C x = some i) : X.N[i]? = some x := by
  rw [h.N]
  unfold OE.ix at e
  obtain ⟨h1, h2⟩ := List.findIdx?_eq_some_iff_getElem.mp (show C.R.N.findIdx? (· == x) = some i from e)
  rw [List.getElem?_eq_getElem h1]
  exact congrArg some (beq_iff_eq.mp h2.1)
theorem CxOk.vis (h : CxOk X C T B W k) {x : Str} (e : isVis C.sc x = true) : Vis X.env.scope x := by
  rw [h.sc]
  unfold isVis at e
  split at e
  · exact .inl (by assumption)
  · exact .inr (.inl (by assumption))
  · exact .inr (.inr (by assumption))
  · cases e
theorem CxOk.gl (h : CxOk X C T B W k) {x : Str} (e : isGl C.sc x = true) : Gl X x := by
  show X.env.scope.names.lookup x = _
  rw [h.sc]
  unfold isGl at e
  split at e
  · assumption
  · cases e
theorem okNm_1 {x : Str} (h : okNm x = true) : (x == ("__debug__" : Str)) = false := by
  unfold okNm at h
  simp only [Bool.and_eq_true, Bool.not_eq_true'] at h
  exact h.1
theorem okNm_2 {x : Str} (h : okNm x = true) : (x == ("__classdict__" : Str)) = false := by
  unfold okNm at h
  simp only [Bool.and_eq_true, Bool.not_eq_true'] at h
  exact h.2
theorem CxOk.var (h : CxOk X C T B W k) {x : Str} {i : Nat} {p : Pos} (e : OE.ix C x = some i) (v : isVis C.sc x = true) (o : okNm x = true) : PE X (.Name x p) (tVar i) := pe_var (h.ix e) (h.vis v) (okNm_1 o) (okNm_2 o)
theorem CxOk.tgt (h : CxOk X C T B W k) {x : Str} {i : Nat} {p : Pos} (e : grd (isLoc C x) (OE.ix C x) = some i) : PG X (.Name x p) (gName i) := by
  obtain ⟨h1, h2⟩ := grd_some e
  unfold isLoc at h1
  split at h1
  · rename_i hl
    rw [← h.sc] at hl
    exact pg_name h.nd (h.ix h2) (.inl hl) (.inr hl)
  · rename_i hl
    rw [← h.sc] at hl
    exact pg_name h.nd (h.ix h2) (.inr hl) (.inl (h.lc _ (by simpa using h1)))
  · cases h1
theorem CxOk.nmsOk (h : CxOk X C T B W k) : ∀ {es : List Expr} {is : List Nat}, tgNames C es = some is → NmsOk X es is
  | [], _, e => by simp only [tgNames, Option.some.injEq] at e; subst e; exact .nil
  | e :: es, is, he => by
    cases e with
    | Name x p =>
      simp only [tgNames, Option.bind_eq_some_iff, Option.map_eq_some_iff] at he
      obtain ⟨i, h1, js, h2, rfl⟩ := he
      exact .cons (h.tgt h1) (fun _ _ z => nomatch z) (h.nmsOk h2)
    | _ => simp [tgNames] at he
theorem CxOk.cg (h : CxOk X C T B W k) {e : Expr} {t : Tgt} (he : cG C e = some t) : PG X e (gT X T B t) := by
  cases e with
  | Name x p =>
    simp only [cG, Option.map_eq_some_iff] at he
    obtain ⟨i, h1, rfl⟩ := he
    exact dG_nm (h.tgt h1)
  | Tuple es kk p =>
    obtain ⟨h1, h2⟩ := grd_some he
    obtain ⟨is, h3, rfl⟩ := Option.map_eq_some_iff.mp h2
    exact dG_tp (h.calm h1).1 (h.nmsOk h3)
  | _ => simp [cG] at he
theorem takesF {X : Cx} : Takes X WF := fun u s' ⟨a, B, sI, pins, σ, H, cls, d, e, I, nb, up, sky, na, os, ag, w⟩ => w.elim
theorem CxOk.comp (h : CxOk X C T B W k) (hc : C.cl = true) {scope : Scope} (hb : BlkOk X.N X.env.scope scope (ownOfS C scope)) (s : Shared) (H : Hp) (Ca : Addr) (cl : List (Str × Addr)) (fp : List Addr) :
    CxOk (X.blk s H scope (compEnvC scope cl Ca X.env) fp) (C.comp scope) T B WF k := by
  obtain ⟨c1, c2, c3, c4⟩ := h.calm hc
  refine ⟨h.N, h.nd, ?_, fun x hx => ?_, h.tok, h.tab, h.un, h.blt, h.fl, h.nms, fun _ => ⟨c1, c2, takesF, c4⟩, ⟨fun a cls d e => ?_⟩⟩
  · show relS scope X.env.scope = relS scope C.sc
    rw [h.sc]
  · show (scope.names.lookup x == some .cell) = true
    have hx : x ∈ scope.names.filterMap fun (x, k) => if k == NameKind.cell then some x else none := hx
    obtain ⟨⟨y, kk⟩, hy, e⟩ := List.mem_filterMap.mp hx
    dsimp only at e
    split at e
    · rename_i hk
      cases e
      rw [hb.uniq _ hy, beq_iff_eq.mp hk]; rfl
    · cases e
  · rw [c4] at e; cases e
structure Snd (n : Nat) : Prop where
  e : ∀ {X C T B W k bb e c}, CxOk X C T B W k → cE n C bb e = some c → PE X e (tE X T B W bb c)
  call : ∀ {X C T B W k x as c p pos} bb, CxOk X C T B W k → isGl C.sc x = true → okNm x = true → cCall n C x as = some c → PE X (.Call (.Name x p) as [] pos) (tE X T B W bb c)
  meth : ∀ {X C T B W k o m as c ap pos} bb, CxOk X C T B W k → C.cl = true → notSup o = true → allPlain as = true → as.length < 30 → (ap.endLine == pos.line) = true → cMeth n C o m as = some c → PE X (.Call (.Attribute o m ap) as [] pos) (tE X T B W bb c)
  a : ∀ {X C T B W k bb es c}, CxOk X C T B W k → cA n C bb es = some c → PA X es (tA X T B W bb c)
  p : ∀ {X C T B W k e c}, CxOk X C T B W k → cP n C e = some c → PO X e (tP X T B W c)
  t : ∀ {X C T B W k e c}, CxOk X C T B W k → cT n C e = some c → PT X e (tT X T B W c)
  w : ∀ {X C T B W k op vs c pos}, CxOk X C T B W k → cW n C op vs = some c → PW X (.BoolOp op vs pos) (tT X T B W c)
  f : ∀ {X C T B W k e c}, CxOk X C T B W k → cF n C e = some c → PE X e (tF X T B W c)
  ifs : ∀ {X C T B W k es c}, CxOk X C T B W k → cIf n C es = some c → PTs X es (tT X T B W c)
  i : ∀ {X C T B W k t e c}, CxOk X C T B W k → cI n C t e = some c → PI X t e (tI X T B W c)
theorem snd0 : Snd 0 := ⟨fun _ h => (by cases h), fun _ _ _ _ h => (by cases h), fun _ _ _ _ _ _ _ h => (by cases h), fun _ h => (by cases h), fun _ h => (by cases h), fun _ h => (by cases h), fun _ h => (by cases h), fun _ h => (by cases h), fun _ h => (by cases h), fun _ h => (by cases h)⟩
theorem snd_e (S : Snd n) {bb : Bool} {e : Expr} {c : IR} (h : CxOk X C T B W k) (he : cE (n + 1) C bb e = some c) : PE X e (tE X T B W bb c) := by
  cases e with
  | Name x p =>
    change (if isVis C.sc x then _ else _) = _ at he
    split at he
    · rename_i hv
      obtain ⟨h1, h2⟩ := grd_some he
      obtain ⟨i, h3, rfl⟩ := Option.map_eq_some_iff.mp h2
      cases bb with
      | true => exact dE_bor (h.var h3 hv h1)
      | false => exact dE_var (h.var h3 hv h1) false
    · obtain ⟨h1, h2⟩ := grd_some he
      cases h2
      simp only [Bool.and_eq_true] at h1
      obtain ⟨d, hd⟩ := h.tok.cons x (by simpa using h1.1.2)
      obtain ⟨v, u, hm, hr, hi⟩ := h.tab.con x d hd
      exact dE_con (pe_glob (h.gl h1.1.1) hm hr (okNm_1 h1.2)) (fun d' hd' => by rw [hd] at hd'; cases hd'; exact hi) bb
  | Constant c' kk p =>
    obtain ⟨d, h1, rfl⟩ := Option.map_eq_some_iff.mp (show (cLit c').map IR.lit = some c from he)
    cases c' <;> cases h1
    · exact dE_lit pe_non (fun _ _ => by simp only [Is]) bb
    · exact dE_lit pe_bl (fun _ _ => by simp only [Is]) bb
    · exact dE_lit pe_int (fun _ _ => by simp only [Is]) bb
    · exact dE_lit pe_str (fun _ _ => by simp only [Is]) bb
  | BinOp a op b p =>
    change (bopO op).bind _ = _ at he
    simp only [Option.bind_eq_some_iff, Option.map_eq_some_iff] at he
    obtain ⟨o, ho, ca, ha, cb, hb, rfl⟩ := he
    exact dE_op (bopO_ok ho) h.un (S.e h ha) (S.e h hb) bb
  | BoolOp op vs p =>
    match vs, he with
    | [], he => cases he
    | [a], he => exact dE_one (S.e h he)
    | a :: b :: r, he =>
      change (cE n C true a).bind _ = _ at he
      simp only [Option.bind_eq_some_iff, Option.map_eq_some_iff] at he
      obtain ⟨ca, ha, cb, hb, rfl⟩ := he
      cases op with
      | And => exact dE_and (S.e h ha) (S.e h hb) bb
      | Or => exact dE_or (S.e h ha) (S.e h hb) bb
  | UnaryOp op a p =>
    cases op with
    | Not => obtain ⟨ca, ha, rfl⟩ := Option.map_eq_some_iff.mp (show (cE n C true a).map IR.not = some c from he); exact dE_not (S.e h ha) bb
    | USub => obtain ⟨ca, ha, rfl⟩ := Option.map_eq_some_iff.mp (show (cE n C true a).map IR.neg = some c from he); exact dE_neg (S.e h ha) bb
    | _ => cases he
  | Compare a ops cs p =>
    match ops, cs, he with
    | [op], [b], he =>
      obtain ⟨h1, he⟩ := grd_some he
      simp only [Option.bind_eq_some_iff, Option.map_eq_some_iff] at he
      obtain ⟨o, ho, ca, ha, cb, hb, rfl⟩ := he
      exact dE_cmp (cmpO_ok ho) h.un (notSet_of h1) (S.e h ha) (S.e h hb) bb
    | [op, op'], [b, c'], he =>
      obtain ⟨h1, he⟩ := grd_some he
      simp only [Option.bind_eq_some_iff, Option.map_eq_some_iff] at he
      obtain ⟨o, ho, o', ho', ca, ha, cb, hb, cc, hc, rfl⟩ := he
      exact dE_chain (cmpO_ok ho) (cmpO_ok ho') h.un (notSet_of h1) (S.e h ha) (S.e h hb) (S.e h hc) bb
    | [], _, he => cases he
    | [_], [], he => cases he
    | [_], _ :: _ :: _, he => cases he
    | [_, _], [], he => cases he
    | [_, _], [_], he => cases he
    | [_, _], _ :: _ :: _ :: _, he => cases he
    | _ :: _ :: _ :: _, _, he => cases he
  | IfExp c' a b p =>
    change (cT n C c').bind _ = _ at he
    simp only [Option.bind_eq_some_iff, Option.map_eq_some_iff] at he
    obtain ⟨cc, hc, ca, ha, cb, hb, rfl⟩ := he
    exact dE_ite (S.t h hc) bb (S.e h ha) (S.e h hb)
  | Subscript a s p =>
    by_cases hs : notSlc s = true
    · have he' : grd (notSlc s) ((cE n C true a).bind fun ca => (cE n C true s).map fun cb => IR.idx ca cb) = some c := by
        cases s <;> first | exact he | cases hs
      obtain ⟨h1, he⟩ := grd_some he'
      simp only [Option.bind_eq_some_iff, Option.map_eq_some_iff] at he
      obtain ⟨ca, ha, cb, hb, rfl⟩ := he
      exact dE_idx (plainIx_ok h1) (S.e h ha) (S.e h hb) bb
    · cases s with
      | Slice lo hi st p2 =>
        cases st with
        | some _ => cases he
        | none =>
          change (cE n C true a).bind _ = _ at he
          simp only [Option.bind_eq_some_iff, Option.map_eq_some_iff] at he
          obtain ⟨ca, ha, cl, hl, ch, hh, rfl⟩ := he
          exact dE_sl (S.e h ha) (S.p h hl) (S.p h hh) bb
      | _ => exact absurd rfl hs
  | Attribute o f p =>
    have gen : ∀ o, grd (notSup o) ((cE n C true o).map fun co => IR.fld co f) = some c → PE X (.Attribute o f p) (tE X T B W bb c) := fun o he => by
      obtain ⟨h1, h2⟩ := grd_some he
      obtain ⟨co, h3, rfl⟩ := Option.map_eq_some_iff.mp h2
      exact dE_fld (fun c' C' => h.fl c' C' f) (base_ok h1 _ _ _) (S.e h h3) bb
    cases o with
    | Name x p2 =>
      change (if C.R.xv.contains x then _ else _) = _ at he
      split at he
      · obtain ⟨h1, h2⟩ := grd_some he
        obtain ⟨i, h3, rfl⟩ := Option.map_eq_some_iff.mp h2
        simp only [Bool.and_eq_true] at h1
        exact dE_xf h.su h.tab (h.var h3 h1.1 h1.2) (base_ok rfl _ _ _) bb
      · exact gen _ he
    | _ => exact gen _ he
  | Tuple es kk p =>
    obtain ⟨ca, ha, rfl⟩ := Option.map_eq_some_iff.mp (show (cA n C false es).map IR.tup = some c from he)
    exact dE_tup (S.a h ha) bb
  | List es p => exact dE_F (S.f h (show cF n C (.List es p) = some c from he)) bb
  | ListComp e gs s p => exact dE_F (S.f h (show cF n C (.ListComp e gs s p) = some c from he)) bb
  | Call f as ks p =>
    cases ks with
    | cons => cases he
    | nil =>
      cases f with
      | Name x p2 =>
        obtain ⟨h1, h2⟩ := grd_some (show grd (isGl C.sc x && okNm x) (cCall n C x as) = some c from he)
        simp only [Bool.and_eq_true] at h1
        exact S.call bb h h1.1 h1.2 h2
      | Attribute o m ap =>
        obtain ⟨h1, h2⟩ := grd_some (show grd (C.cl && notSup o && allPlain as && decide (as.length < 30) && (ap.endLine == p.line)) (cMeth n C o m as) = some c from he)
        simp only [Bool.and_eq_true, decide_eq_true_eq] at h1
        exact S.meth bb h h1.1.1.1.1 h1.1.1.1.2 h1.1.1.2 h1.1.2 h1.2 h2
      | _ => cases he
  | _ => cases he
theorem nm_of (h : CxOk X C T B W k) {c : Str} (hc : (C.R.nms.contains c || c == "ValueError") = true) (hg : Gl X c) (ho : okNm c = true) {p : Pos} : ∃ cv, Nm X.mg c cv ∧ ∃ vc, PE X (.Name c p) (tC vc) ∧ ∀ u, L2.RelV vc u → u = cv := by
  by_cases hm : c ∈ C.R.nms
  · obtain ⟨a, ha⟩ := h.nms c hm
    exact ⟨.ref a, .inl ha, .ref a, pe_glob hg ha rfl (okNm_1 ho), fun u r => r⟩
  · have e : c = ("ValueError" : Str) := by
      simp only [Bool.or_eq_true, List.contains_eq_mem, decide_eq_true_eq, beq_iff_eq] at hc
      exact hc.resolve_left hm
    subst e
    have hb : bootBuiltins "ValueError" = some (.type "ValueError") := by decide +kernel
    exact ⟨.type "ValueError", .inr ⟨h.blt.ve, hb, by decide +kernel⟩, .ty "ValueError", pe_bltn hg h.blt.ve hb rfl (by decide +kernel) (okNm_1 ho), fun u r => r⟩
theorem cBi_ok (h : CxOk X C T B W k) (hc : C.cl = true) {x : Str} {b : Bi × Bool} (hb : cBi x = some b) (hg : Gl X x) {a : Expr} {es : List Expr} {ca : IR} {p pos : Pos} (hn : ∀ x p, a ≠ .Starred x p) (hpl : (backTo pos (starEach es X.env)).any (·.1) = false) (ha : PA X (a :: es) (tA X T B W true ca)) (bb : Bool) :
    PE X (.Call (.Name x p) (a :: es) [] pos) (tE X T B W bb (.bi b.1 ca)) := by
  have hcm := (h.calm hc).1
  unfold cBi at hb
  split at hb
  · rename_i e; obtain rfl := beq_iff_eq.mp e; cases hb
    exact dE_bi (f := .len) (id := "len") hcm rfl hg h.blt.len (by decide +kernel) hn (by decide +kernel) (by decide +kernel) hpl ha bb
  split at hb
  · rename_i e; obtain rfl := beq_iff_eq.mp e; cases hb
    exact dE_bi (f := .sum_) (id := "sum") hcm rfl hg h.blt.sum_ (by decide +kernel) hn (by decide +kernel) (by decide +kernel) hpl ha bb
  split at hb
  · rename_i e; obtain rfl := beq_iff_eq.mp e; cases hb
    exact dE_bi (f := .all_) (id := "all") hcm rfl hg h.blt.all_ (by decide +kernel) hn (by decide +kernel) (by decide +kernel) hpl ha bb
  split at hb
  · rename_i e; obtain rfl := beq_iff_eq.mp e; cases hb
    exact dE_bi (f := .any_) (id := "any") hcm rfl hg h.blt.any_ (by decide +kernel) hn (by decide +kernel) (by decide +kernel) hpl ha bb
  split at hb
  · rename_i e; obtain rfl := beq_iff_eq.mp e; cases hb
    exact dE_biT (f := .int_) (id := "int") hcm rfl hg h.blt.int_ (by decide +kernel) hn (by decide +kernel) (by decide +kernel) hpl ha bb
  split at hb
  · rename_i e; obtain rfl := beq_iff_eq.mp e; cases hb
    exact dE_biT (f := .str_) (id := "str") hcm rfl hg h.blt.str_ (by decide +kernel) hn (by decide +kernel) (by decide +kernel) hpl ha bb
  split at hb
  · rename_i e; obtain rfl := beq_iff_eq.mp e; cases hb
    exact dE_biT (f := .list_) (id := "list") hcm rfl hg h.blt.list_ (by decide +kernel) hn (by decide +kernel) (by decide +kernel) hpl ha bb
  split at hb
  · rename_i e; obtain rfl := beq_iff_eq.mp e; cases hb
    exact dE_biT (f := .tuple_) (id := "tuple") hcm rfl hg h.blt.tuple_ (by decide +kernel) hn (by decide +kernel) (by decide +kernel) hpl ha bb
  · cases hb
theorem snd_call (S : Snd n) {x : Str} {as : List Expr} {c : IR} {p pos : Pos} (bb : Bool) (h : CxOk X C T B W k) (hgl : isGl C.sc x = true) (hok : okNm x = true) (he : cCall (n + 1) C x as = some c) : PE X (.Call (.Name x p) as [] pos) (tE X T B W bb c) := by
  have hg := h.gl hgl
  have hd := okNm_1 hok
  cases as with
  | nil =>
    obtain ⟨h1, h2⟩ := grd_some (show grd (C.cl && C.R.cls.contains x) (some (IR.make x .nil)) = some c from he)
    cases h2
    simp only [Bool.and_eq_true] at h1
    obtain ⟨c1, c2, c3, c4⟩ := h.calm h1.1
    exact dE_make0 c3 h.tab c2 (h.tok.cls x (by simpa using h1.2)) hg hd bb
  | cons a es =>
    change (if C.R.fns.contains x then _ else _) = _ at he
    split at he
    · rename_i hm
      obtain ⟨h1, h2⟩ := grd_some he
      obtain ⟨ca, ha, rfl⟩ := Option.map_eq_some_iff.mp h2
      simp only [Bool.and_eq_true] at h1
      obtain ⟨c1, c2, c3, c4⟩ := h.calm h1.1.1
      obtain ⟨en, hen⟩ := h.tok.fns x (by simpa using hm)
      exact dE_call (en := en) c3 h.tab c2 ⟨en, hen⟩ hg (notStar_of h1.1.2) hd (any_ok h1.2 _ _) (S.a h ha) bb
    split at he
    · rename_i hm
      obtain ⟨h1, h2⟩ := grd_some he
      obtain ⟨ca, ha, rfl⟩ := Option.map_eq_some_iff.mp h2
      simp only [Bool.and_eq_true] at h1
      obtain ⟨c1, c2, c3, c4⟩ := h.calm h1.1.1
      exact dE_make c3 h.tab c2 (h.tok.cls x (by simpa using hm)) hg (notStar_of h1.1.2) hd (any_ok h1.2 _ _) (S.a h ha) bb
    split at he
    · rename_i hx
      obtain rfl := beq_iff_eq.mp hx
      split at he
      · obtain ⟨h1, h2⟩ := grd_some he
        obtain ⟨i, h3, rfl⟩ := Option.map_eq_some_iff.mp h2
        rw [Bool.and_eq_true, Bool.and_eq_true, Bool.and_eq_true, Bool.and_eq_true, Bool.and_eq_true] at h1
        obtain ⟨⟨⟨⟨⟨_, hv⟩, hy⟩, hgc⟩, hoc⟩, hnm⟩ := h1
        obtain ⟨cv, hcv, hvc⟩ := nm_of h hnm (h.gl hgc) hoc
        exact dE_xis h.su h.tab (h.var h3 hv hy) hg h.blt.isi hcv hvc bb
      · cases he
    · obtain ⟨b, hb, he⟩ := Option.bind_eq_some_iff.mp he
      obtain ⟨h1, h2⟩ := grd_some he
      obtain ⟨ca, ha, rfl⟩ := Option.map_eq_some_iff.mp h2
      simp only [Bool.and_eq_true] at h1
      exact cBi_ok h h1.1.1 hb hg (notStar_of h1.1.2) (any_ok h1.2 _ _) (S.a h ha) bb
theorem snd_meth (S : Snd n) {o : Expr} {m : Str} {as : List Expr} {c : IR} {ap pos : Pos} (bb : Bool) (h : CxOk X C T B W k) (hc : C.cl = true) (hs : notSup o = true) (hp : allPlain as = true) (hl : as.length < 30) (hli : (ap.endLine == pos.line) = true) (he : cMeth (n + 1) C o m as = some c) :
    PE X (.Call (.Attribute o m ap) as [] pos) (tE X T B W bb c) := by
  obtain ⟨c1, c2, c3, c4⟩ := h.calm hc
  cases as with
  | nil =>
    change (C.R.meths.lookup m).bind _ = _ at he
    simp only [Option.bind_eq_some_iff, Option.map_eq_some_iff] at he
    obtain ⟨cn, hm, co, ho, rfl⟩ := he
    exact dE_meth0 c3 h.tab c2 (h.tok.meths m cn hm) (meth_tree hs hp hl hli) (S.e h ho) bb
  | cons a es =>
    have hp' : notStar a = true ∧ allPlain es = true := by simpa [allPlain] using hp
    change (match C.R.meths.lookup m with | some c => _ | none => _) = _ at he
    split at he
    · rename_i cn hm
      simp only [Option.bind_eq_some_iff, Option.map_eq_some_iff] at he
      obtain ⟨co, ho, ca, ha, rfl⟩ := he
      exact dE_meth c3 h.tab c2 (h.tok.meths m cn hm) (notStar_of hp'.1) (any_ok hp'.2 _ _) (meth_tree hs hp hl hli) (S.e h ho) (S.a h ha) bb
    · simp only [Option.bind_eq_some_iff, Option.map_eq_some_iff] at he
      obtain ⟨b, hb, co, ho, ca, ha, rfl⟩ := he
      have pe := S.e h ho
      have pa := S.a h ha
      unfold cBm at hb
      split at hb
      · rename_i e; obtain rfl := beq_iff_eq.mp e; cases hb
        exact dE_bm (m := .join) (by decide) PySem.F.slot_str_join PySem.F.type_str_join (notStar_of hp'.1) (base_ok hs _ _ _) (few_ok hp hl _ _) hli (any_ok hp'.2 _ _) pe pa bb
      split at hb
      · rename_i e; obtain rfl := beq_iff_eq.mp e; cases hb
        exact dE_bm (m := .split) (by decide) PySem.F.slot_str_split PySem.F.type_str_split (notStar_of hp'.1) (base_ok hs _ _ _) (few_ok hp hl _ _) hli (any_ok hp'.2 _ _) pe pa bb
      split at hb
      · rename_i e
        simp only [Bool.and_eq_true] at e
        obtain rfl := beq_iff_eq.mp e.1; cases hb
        exact dE_bm (m := .starts) (by decide) PySem.F.slot_str_startswith PySem.F.type_str_startswith (notStar_of hp'.1) (base_ok hs _ _ _) (few_ok hp hl _ _) hli (any_ok hp'.2 _ _) pe pa bb
      split at hb
      · rename_i e
        simp only [Bool.and_eq_true] at e
        obtain rfl := beq_iff_eq.mp e.1; cases hb
        exact dE_bm (m := .starts2) (by decide) PySem.F.slot_str_startswith PySem.F.type_str_startswith (notStar_of hp'.1) (base_ok hs _ _ _) (few_ok hp hl _ _) hli (any_ok hp'.2 _ _) pe pa bb
      · cases hb
theorem snd_a (S : Snd n) {bb : Bool} {es : List Expr} {c : IR} (h : CxOk X C T B W k) (he : cA (n + 1) C bb es = some c) : PA X es (tA X T B W bb c) := by
  cases es with
  | nil => cases he; exact dA_nil bb
  | cons e es =>
    obtain ⟨h1, h2⟩ := grd_some (show grd (notStar e) ((cE n C bb e).bind fun ce => (cA n C bb es).map fun cs => IR.cons ce cs) = some c from he)
    simp only [Option.bind_eq_some_iff, Option.map_eq_some_iff] at h2
    obtain ⟨ce, h3, cs, h4, rfl⟩ := h2
    exact dA_cons (notStar_of h1) bb (S.e h h3) (S.a h h4)
theorem snd_p (S : Snd n) {e : Option Expr} {c : IR} (h : CxOk X C T B W k) (he : cP (n + 1) C e = some c) : PO X e (tP X T B W c) := by
  cases e with
  | none => cases he; exact dP_none
  | some a =>
    obtain ⟨ca, ha, he⟩ := Option.bind_eq_some_iff.mp (show (cE n C true a).bind (fun ca => grd (!isNop ca) (some ca)) = some c from he)
    obtain ⟨h1, h2⟩ := grd_some he
    cases h2
    exact dP_some (by simpa using h1) (S.e h ha)
theorem snd_t (S : Snd n) {e : Expr} {c : IR} (h : CxOk X C T B W k) (he : cT (n + 1) C e = some c) : PT X e (tT X T B W c) := by
  have gen : grd (plainV e) ((cE n C true e).map .tru) = some c → PT X e (tT X T B W c) := fun he => by
    obtain ⟨h1, h2⟩ := grd_some he
    obtain ⟨ce, h3, rfl⟩ := Option.map_eq_some_iff.mp h2
    exact dT_tru (plainV_ok h1 _) (S.e h h3)
  cases e with
  | BoolOp op vs p => exact (S.w (pos := p) h (show cW n C op vs = some c from he)).pt
  | UnaryOp op a p =>
    cases op with
    | Not => obtain ⟨ca, ha, rfl⟩ := Option.map_eq_some_iff.mp (show (cT n C a).map IR.not = some c from he); exact dT_not (S.t h ha)
    | _ => exact gen he
  | Compare a ops cs p =>
    match ops, cs, he with
    | [op], [b], he =>
      obtain ⟨h1, he⟩ := grd_some he
      simp only [Option.bind_eq_some_iff, Option.map_eq_some_iff] at he
      obtain ⟨o, ho, ca, ha, cb, hb, rfl⟩ := he
      exact dT_cmp (cmpO_ok ho) h.un (notSet_of h1) (S.e h ha) (S.e h hb)
    | [op, op'], [b, c'], he =>
      obtain ⟨h1, he⟩ := grd_some he
      simp only [Option.bind_eq_some_iff, Option.map_eq_some_iff] at he
      obtain ⟨o, ho, o', ho', ca, ha, cb, hb, cc, hc, rfl⟩ := he
      exact dT_chain (cmpO_ok ho) (cmpO_ok ho') h.un (notSet_of h1) (S.e h ha) (S.e h hb) (S.e h hc)
    | [], _, he => cases he
    | [_], [], he => cases he
    | [_], _ :: _ :: _, he => cases he
    | [_, _], [], he => cases he
    | [_, _], [_], he => cases he
    | [_, _], _ :: _ :: _ :: _, he => cases he
    | _ :: _ :: _ :: _, _, he => cases he
  | _ => exact gen he
theorem snd_w (S : Snd n) {op : BoolOp} {vs : List Expr} {c : IR} {pos : Pos} (h : CxOk X C T B W k) (he : cW (n + 1) C op vs = some c) : PW X (.BoolOp op vs pos) (tT X T B W c) := by
  match vs, he with
  | [], he => cases he
  | [a], he =>
    cases op with
    | And => exact pw_and1 (S.t h he)
    | Or => exact pw_or1 (S.t h he)
  | a :: b :: r, he =>
    change (cT n C a).bind _ = _ at he
    simp only [Option.bind_eq_some_iff, Option.map_eq_some_iff] at he
    obtain ⟨ca, ha, cb, hb, rfl⟩ := he
    cases op with
    | And => exact dT_and (S.t h ha) (S.w h hb)
    | Or => exact dT_or (S.t h ha) (S.w h hb)
theorem snd_f (S : Snd n) {e : Expr} {c : IR} (h : CxOk X C T B W k) (he : cF (n + 1) C e = some c) : PE X e (tF X T B W c) := by
  cases e with
  | List es p =>
    obtain ⟨ca, ha, rfl⟩ := Option.map_eq_some_iff.mp (show (cA n C false es).map IR.lst = some c from he)
    exact dF_lst (S.a h ha)
  | ListComp e gs s p =>
    change (match gs with | [⟨t, it, ifs, 0⟩] => _ | _ => _) = _ at he
    split at he
    · obtain ⟨h1, he⟩ := grd_some he
      simp only [Option.bind_eq_some_iff] at he
      obtain ⟨ci, hi, ct, ht, cc, hcc, ce, hce, he⟩ := he
      obtain ⟨h2, he⟩ := grd_some he
      cases he
      simp only [Bool.and_eq_true] at h1
      obtain ⟨⟨hcl, hns⟩, hbl⟩ := h1
      rw [← h.N, ← h.sc] at hbl
      have ok := blkOk_by hbl
      exact dF_lc (h.calm hcl).1 h.nd (fun i hi' => by simpa using List.all_eq_true.mp h2 i hi') (S.i h hi) ok (fun s H Ca cl fp => (h.comp hcl ok s H Ca cl fp).cg ht) (fun s H Ca cl fp => S.ifs (h.comp hcl ok s H Ca cl fp) hcc)
        (fun s H Ca cl fp => S.e (h.comp hcl ok s H Ca cl fp) hce) (fold_ok hns _)
    · cases he
  | _ => cases he
theorem snd_ifs (S : Snd n) {es : List Expr} {c : IR} (h : CxOk X C T B W k) (he : cIf (n + 1) C es = some c) : PTs X es (tT X T B W c) := by
  match es, he with
  | [], he => cases he; exact dTs_nil
  | [c'], he => exact pts_one (S.t h he)
  | _ :: _ :: _, he => cases he
theorem snd_i (S : Snd n) {t e : Expr} {c : IR} (h : CxOk X C T B W k) (he : cI (n + 1) C t e = some c) : PI X t e (tI X T B W c) := by
  have gen : (cE n C false e).map .iv = some c → PI X t e (tI X T B W c) := fun he => by
    obtain ⟨ce, h3, rfl⟩ := Option.map_eq_some_iff.mp he
    exact dI_iv (S.e h h3)
  change (match e with | .Call (.Name x _) as [] _ => _ | e => _) = _ at he
  split at he
  · rename_i x p as pos
    split at he
    · rename_i hx
      obtain rfl := beq_iff_eq.mp hx
      split at he
      · obtain ⟨h1, h2⟩ := grd_some he
        obtain ⟨ca, ha, rfl⟩ := Option.map_eq_some_iff.mp h2
        simp only [Bool.and_eq_true] at h1
        exact dI_rng1 (h.gl h1.1) h.blt.rng (notStar_of h1.2) (S.e h ha)
      · obtain ⟨h1, h2⟩ := grd_some he
        simp only [Option.bind_eq_some_iff, Option.map_eq_some_iff] at h2
        obtain ⟨ca, ha, cb, hb, rfl⟩ := h2
        simp only [Bool.and_eq_true] at h1
        exact dI_rng2 (h.gl h1.1.1) h.blt.rng (notStar_of h1.1.2) (notStar_of h1.2) (S.e h ha) (S.e h hb)
      · cases he
    split at he
    · rename_i hx
      obtain rfl := beq_iff_eq.mp hx
      split at he
      · obtain ⟨h1, h2⟩ := grd_some he
        obtain ⟨ca, ha, rfl⟩ := Option.map_eq_some_iff.mp h2
        simp only [Bool.and_eq_true] at h1
        exact dI_en (h.gl h1.1) h.blt.enum (notStar_of h1.2) (S.e h ha)
      · cases he
    split at he
    · rename_i hx
      obtain rfl := beq_iff_eq.mp hx
      split at he
      · obtain ⟨h1, h2⟩ := grd_some he
        simp only [Option.bind_eq_some_iff, Option.map_eq_some_iff] at h2
        obtain ⟨ca, ha, cb, hb, rfl⟩ := h2
        simp only [Bool.and_eq_true] at h1
        exact dI_zip (h.gl h1.1.1) h.blt.zip (notStar_of h1.1.2) (notStar_of h1.2) (S.e h ha) (S.e h hb)
      · cases he
    · exact gen he
  · exact gen he
theorem snd : ∀ n, Snd n
  | 0 => snd0
  | n + 1 => ⟨fun h e => snd_e (snd n) h e, fun bb h a b e => snd_call (snd n) bb h a b e, fun bb h a b c d e f => snd_meth (snd n) bb h a b c d e f, fun h e => snd_a (snd n) h e, fun h e => snd_p (snd n) h e, fun h e => snd_t (snd n) h e, fun h e => snd_w (snd n) h e,
    fun h e => snd_f (snd n) h e, fun h e => snd_ifs (snd n) h e, fun h e => snd_i (snd n) h e⟩
end
end OE
namespace OE
open PySem PySem.Spec PyProof.Rows L2
/-! ### statements -/
def vars : IR → List Nat
  | .var i => [i]
  | .cons a b | .op _ a b | .and a b | .or a b | .idx a b | .irng2 a b | .izip a b => vars a ++ vars b
  | .tup a | .lst a | .not a | .neg a | .tru a | .call _ a | .make _ a | .bi _ a | .fld a _ | .iv a | .irng1 a | .ien a => vars a
  | .meth a _ _ b => vars a ++ vars b
  | .bm _ a b => vars a ++ vars b
  | .chain _ _ a b c | .ite a b c | .sl a b c => vars a ++ vars b ++ vars c
  | .lc _ _ a b c => vars a ++ vars b ++ vars c
  | .lc2 _ _ a b _ _ c d e => vars a ++ vars b ++ vars c ++ vars d ++ vars e
  | _ => []
def isOwn (C : Ct) (x : Str) : Bool := C.R.own.contains x
def ownIx (C : Ct) : List Nat := C.R.own.filterMap fun x => ix C x
def fzL (C : Ct) (c : IR) : List Nat := ((vars c).filter fun i => (ownIx C).contains i).eraseDups
def fzW (C : Ct) (c : IR) (s : IS) : IS := if (fzL C c).isEmpty = true then s else .seq (.fz (fzL C c)) s
def swB (C : Ct) (s : Scope) (x : Str) (xp vp : Pos) : Bool :=
  ((if C.sc.kind.isAnnotationScope then ScopeKind.function else C.sc.kind) == .function) && C.sc.names.lookup x == some .local && xp.line == vp.line && !(s.names.any fun (n, k) => n == x && (k == .local || k == .cell))
/-- what may stand at the right of x = .. : whether the list is stored from within -/
def rhsOk (C : Ct) (x : Str) (xp : Pos) (e : Expr) : Bool := match e with
  | .ListComp _ _ s vp => if swB C s x xp vp then C.sc.names.lookup x == some .local else true
  | e => notComp e
mutual
def cS : Nat → Ct → Stmt → Option IS
  | 0, _, _ => none
  | n + 1, C, st => match st with
    | .Pass _ => some .pass
    | .Break _ => some .brk
    | .Continue _ => some .cont
    | .Expr e _ => cX n C e
    | .Assign ts e _ => match ts with
      | [.Name x xp] => grd (isLoc C x && rhsOk C x xp e) ((ix C x).bind fun i => if isOwn C x then (cF n C e).map fun c => fzW C c (.own i c) else (cE n C false e).map fun c => fzW C c (.asg (.nm i) c))
      | [.Tuple es k p] => grd (C.cl && notTup e && notComp e) ((cG C (.Tuple es k p)).bind fun t => (cE n C false e).map fun c => fzW C c (.asg t c))
      | [.Attribute o f _] => (cE n C true o).bind fun co => (cE n C false e).map fun c => fzW C c (.fset co f c)
      | _ => none
    | .AugAssign t op e _ => match t with
      | .Name x _ => grd (isLoc C x && C.sc.names.lookup x == some .local) ((ix C x).bind fun i => (augO op).bind fun o => (cE n C false e).map fun c => fzW C c (.aug i o c))
      | .Attribute o f _ => (augO op).bind fun b => (cE n C true o).bind fun co => (cE n C false e).map fun c => fzW C c (.faug co f b c)
      | _ => none
    | .Return e _ => match e with
      | some e => (cE n C false e).map fun c => fzW C c (.ret c)
      | none => some .retN
    | .If c a b _ => (cT n C c).bind fun cc => (cSs n C a).bind fun ca => (cSs n C b).map fun cb => fzW C cc (.ite cc ca cb)
    | .While c a b _ => match b with
      | [] => grd C.cl ((cT n C c).bind fun cc => (cSs n C a).map fun ca => fzW C cc (.wh cc ca))
      | _ => none
    | .For t it a b _ => match b with
      | [] => grd (C.cl && notSet it) ((cG C t).bind fun ct => (cI n C t it).bind fun ci => (cSs n C a).map fun ca => fzW C ci (.for_ ct ci ca))
      | _ => none
    | .Raise e cs _ => match e, cs with
      | some (.Call (.Name x _) [a] [] _), none => grd (C.cl && C.R.exs.contains x && isGl C.sc x && okNm x && notStar a) ((cE n C false a).map fun c => fzW C c (.raise x c))
      | _, _ => none
    | .Try b hs oe fb _ => match hs, oe, fb with
      | [.ExceptHandler (some (.Name c _)) nm (b0 :: su) _], [], [] => grd (C.cl && isGl C.sc c && okNm c && (C.R.nms.contains c || c == "ValueError")) ((cSs n C b).bind fun cb => (cSs n { C with cl := false } (b0 :: su)).bind fun ch => match nm with
          | some x => grd (C.sc.names.lookup x == some .local) ((ix C x).map fun i => .try_ cb c (some i) ch)
          | none => some (.try_ cb c none ch))
      | _, _, _ => none
    | _ => none
def cX : Nat → Ct → Expr → Option IS
  | 0, _, _ => none
  | n + 1, C, e => match e with
    | .Constant (.str _) _ _ => some .pass
    | .Call (.Attribute (.Name x xp) m ap) [a] [] cp => if m == "append" && isOwn C x then grd (isVis C.sc x && okNm x && notStar a && (ap.endLine == cp.line)) ((ix C x).bind fun i => (cE n C false a).map fun c => fzW C c (.app i c))
        else if m == "extend" && isOwn C x then grd (isVis C.sc x && okNm x && notStar a && (ap.endLine == cp.line)) ((ix C x).bind fun i => (cE n C true a).map fun c => fzW C c (.ext i c))
        else (cE n C false e).map fun c => fzW C c (.ex c)
    | e => grd (notComp e) ((cE n C false e).map fun c => fzW C c (.ex c))
def cSs : Nat → Ct → List Stmt → Option IS
  | 0, _, _ => none
  | n + 1, C, ss => match ss with
    | [] => some .pass
    | [s] => cS n C s
    | s :: t :: r => (cS n C s).bind fun a => (cSs n C (t :: r)).map fun b => .seq a b
end
structure SxOk (X : Cx) (C : Ct) : Prop where
  pass : C.cl = true → PassesOwn (model X.prog X.w) X.A X.env X.xe
  stk : C.cl = true → X.stack = X.env :: X.outer
  frm : C.cl = true → X.env.frame = some X.env.locals
section
variable {X : Cx} {C : Ct} {T : Tab} {B : Bs} {W : WX} {k n : Nat}
theorem dS_fz {st0 : Stmt} {cs : IS} {is : List Nat} (h : PS X st0 (tS X T B W cs)) : PS X st0 (tS X T B W (.seq (.fz is) cs)) := PSi h fun D σ H ⟨ρ, Ω, G, N, st, eo, hw, P⟩ => by
  obtain ⟨G', s', k⟩ := st.fzs is
  exact ⟨fzE ρ is, Ω, G', N, s', eo, hw, P⟩
theorem fzW_ok {st0 : Stmt} {cs : IS} {c : IR} (h : PS X st0 (tS X T B W cs)) : PS X st0 (tS X T B W (fzW C c cs)) := by
  unfold fzW
  split
  · exact h
  · exact dS_fz h
theorem tE_F {bb : Bool} {c : IR} {σ : L2.St} {H : Hp} {Q : VK} (h : tE X T B W bb c σ H Q) : tF X T B W c σ H Q := by
  obtain ⟨ρ, Ω, G, E, Qd, st, eo, h, k⟩ := h
  refine ⟨ρ, Ω, G, E, Qd, st, eo, h, fun d Ω' G' H' a q e w h0 h1 h2 h3 => ?_⟩
  refine k d Ω' (G'.add a) H' (.ref a) q ⟨fun b f => .inl (e.f b f), e.ι, e.k, fun b f => ?_, e.nι, e.th⟩ (w.addF h2 h3.there) (Is.ri h3.is)
  rcases f with f | rfl
  · exact e.nf b f
  · exact .inr h0
theorem dS_nm' {st0 : Stmt} {i : Nat} {ce : IR} {te : TE} (hle : ∀ σ H Q, tE X T B W false ce σ H Q → te σ H Q) (h : PS X st0 (tAsg te (gName i))) : PS X st0 (tS X T B W (.asg (.nm i) ce)) :=
  dS_nm (PSi h fun D σ H q => hle _ _ _ q)
theorem CxOk.at (h : CxOk X C T B W k) (G : Gh) (H : Hp) : CxOk X C T (B.at G H) W k :=
  ⟨h.N, h.nd, h.sc, h.lc, h.tok, h.tab, h.un, h.blt, h.fl, h.nms, h.calm, ⟨h.su.ex⟩⟩
theorem CxOk.tr (h : CxOk X C T B W k) {W' : WX} {pn : List (Addr × Obj)} {xe : Value → Shared → Prop} (hc : C.cl = true) (tk : Takes (X.tr pn xe) W') : CxOk (X.tr pn xe) C T B W' k := by
  obtain ⟨c1, c2, c3, c4⟩ := h.calm hc
  exact ⟨h.N, h.nd, h.sc, h.lc, h.tok, h.tab, h.un, h.blt, h.fl, h.nms, fun _ => ⟨c1, c2, tk, c4⟩, ⟨fun a cls d e => by rw [c4] at e; cases e⟩⟩
theorem CxOk.suite (h : CxOk X C T B W k) {a : Addr} {oe : Obj} {cls : Value} {d : Option Addr} {pn : List (Addr × Obj)} (hz : Zc cls d oe) (hd : ∃ vs, oe.data = .fields vs) :
    CxOk (X.suite a ((a, oe) :: pn)) { C with cl := false } T { B with xc := some (a, cls, d) } WF k :=
  ⟨h.N, h.nd, h.sc, h.lc, h.tok, h.tab, h.un, h.blt, h.fl, h.nms, fun z => Bool.noConfusion z, ⟨fun a' cls' d' e => by cases e; exact ⟨X, oe, pn, rfl, hz, hd⟩⟩⟩
theorem sw_lc {e : Expr} {gs : List Comprehension} {s : Scope} {vp xp : Pos} {x : Str} {l : Nat} (h : X.env.scope = C.sc) : swapsWith (.ListComp e gs s vp) (some (.Name x xp)) l X.env = pure (swB C s x xp vp) := by
  unfold swapsWith swB Env.blockKind Env.kindOf
  rw [h]; rfl
theorem set_lc (S : Snd n) {x : Str} {xp vp sp : Pos} {e : Expr} {gs : List Comprehension} {s : Scope} {c : IR} {i : Nat} (h : CxOk X C T B W k) (hsw : swB C s x xp vp = true) (hl : C.sc.names.lookup x = some .local) (hi : OE.ix C x = some i) (he : cF (n + 1) C (.ListComp e gs s vp) = some c) :
    ∃ te, (∀ σ H Q, tF X T B W c σ H Q → te σ H Q) ∧ PS X (.Assign [.Name x xp] (.ListComp e gs s vp) sp) (tAsg te (gName i)) := by
  change (match gs with | [⟨t, it, ifs, 0⟩] => _ | _ => _) = _ at he
  split at he
  · obtain ⟨h1, he⟩ := grd_some he
    simp only [Option.bind_eq_some_iff] at he
    obtain ⟨ci, hci, ct, ht, cc, hcc, ce, hce, he⟩ := he
    obtain ⟨h2, he⟩ := grd_some he
    cases he
    simp only [Bool.and_eq_true] at h1
    obtain ⟨⟨hcl, hns⟩, hbl⟩ := h1
    rw [← h.N, ← h.sc] at hbl
    have ok := blkOk_by hbl
    exact ⟨_, fun σ H Q q => lc_red (fun i hi' => by simpa using List.all_eq_true.mp h2 i hi') q, ps_setLc (h.calm hcl).1 h.nd (h.ix hi) (by rw [h.sc]; exact hl) (by rw [sw_lc h.sc, hsw]) (S.i h hci) ok (fun s H Ca cl fp => (h.comp hcl ok s H Ca cl fp).cg ht)
      (fun s H Ca cl fp => S.ifs (h.comp hcl ok s H Ca cl fp) hcc) (fun s H Ca cl fp => S.e (h.comp hcl ok s H Ca cl fp) hce) (fold_ok hns _)⟩
  · cases he
/-- x = e -/
theorem set_any (h : CxOk X C T B W k) {x : Str} {xp sp : Pos} {e : Expr} {i : Nat} (hl : isLoc C x = true) (hr : rhsOk C x xp e = true) (hi : OE.ix C x = some i) :
    (∀ c, cF n C e = some c → PS X (.Assign [.Name x xp] e sp) (tS X T B W (.own i c))) ∧ (∀ c, cE n C false e = some c → PS X (.Assign [.Name x xp] e sp) (tS X T B W (.asg (.nm i) c))) := by
  have lf : Loc X.env.scope x ∧ (X.fn x = true ∨ X.env.scope.names.lookup x = some .local) := by
    unfold isLoc at hl
    rw [← h.sc] at hl
    split at hl
    · exact ⟨.inl (by assumption), .inr (by assumption)⟩
    · exact ⟨.inr (by assumption), .inl (h.lc _ (by simpa using hl))⟩
    · cases hl
  have plain : swapsWith e (some (.Name x xp)) sp.line X.env = pure false → (∀ c, cF n C e = some c → PS X (.Assign [.Name x xp] e sp) (tS X T B W (.own i c))) ∧ (∀ c, cE n C false e = some c → PS X (.Assign [.Name x xp] e sp) (tS X T B W (.asg (.nm i) c))) := fun hs =>
    ⟨fun c he => dS_own (fun _ _ _ q => q) (ps_set h.nd (h.ix hi) lf.1 ((snd n).f h he) hs lf.2), fun c he => dS_nm (ps_set h.nd (h.ix hi) lf.1 ((snd n).e h he) hs lf.2)⟩
  cases e with
  | ListComp e gs s vp =>
    change (if swB C s x xp vp then _ else _) = _ at hr
    split at hr
    · rename_i hsw
      have hloc : C.sc.names.lookup x = some .local := by simpa using hr
      match n with
      | 0 => exact ⟨fun c he => (by cases he), fun c he => (by cases he)⟩
      | n + 1 =>
        refine ⟨fun c he => ?_, fun c he => ?_⟩
        · obtain ⟨te, h1, h2⟩ := set_lc (snd n) (sp := sp) h hsw hloc hi he
          exact dS_own h1 h2
        · match n with
          | 0 => cases he
          | n + 1 =>
            obtain ⟨te, h1, h2⟩ := set_lc (snd n) (sp := sp) h hsw hloc hi (show cF (n + 1) C (.ListComp e gs s vp) = some c from he)
            exact dS_nm' (fun _ _ _ q => h1 _ _ _ (tE_F q)) h2
    · rename_i hsw
      exact plain (by rw [sw_lc h.sc]; congr 1; simpa using hsw)
  | _ => exact plain (sw_ok (by exact hr) _ _ _)
structure SndS (n : Nat) : Prop where
  s : ∀ {X C T B W k st c}, CxOk X C T B W k → SxOk X C → cS n C st = some c → PS X st (tS X T B W c)
  x : ∀ {X C T B W k e c pos}, CxOk X C T B W k → cX n C e = some c → PS X (.Expr e pos) (tS X T B W c)
  ss : ∀ {X C T B W k sts c}, CxOk X C T B W k → SxOk X C → cSs n C sts = some c → PSs X sts (tS X T B W c)
theorem snds_x {e : Expr} {c : IS} {pos : Pos} (h : CxOk X C T B W k) (he : cX (n + 1) C e = some c) : PS X (.Expr e pos) (tS X T B W c) := by
  have gen : notComp e = true → (cE n C false e).map (fun c => fzW C c (.ex c)) = some c → PS X (.Expr e pos) (tS X T B W c) := fun hn he => by
    obtain ⟨ce, h3, rfl⟩ := Option.map_eq_some_iff.mp he
    exact fzW_ok (dS_ex (ps_expr ((snd n).e h h3) (sw_ok hn _ _ _)))
  change (match e with | .Constant (.str _) _ _ => _ | .Call (.Attribute (.Name x xp) m ap) [a] [] cp => _ | e => _) = _ at he
  split at he
  · cases he; exact dS_pass ps_doc
  · rename_i x xp m ap a cp
    split at he
    · rename_i hm
      rw [Bool.and_eq_true] at hm
      obtain rfl := beq_iff_eq.mp hm.1
      obtain ⟨h1, h2⟩ := grd_some he
      simp only [Option.bind_eq_some_iff, Option.map_eq_some_iff] at h2
      obtain ⟨i, hi, ce, h3, rfl⟩ := h2
      simp only [Bool.and_eq_true] at h1
      obtain ⟨⟨⟨hv, ho⟩, hn⟩, hl⟩ := h1
      exact fzW_ok (dS_app (h.var hi hv ho) ((snd n).e h h3) (notStar_of hn) (base_ok rfl _ _ _) (few_ok (by simp [allPlain, hn]) (by simp) _ _) hl)
    split at he
    · rename_i hm
      rw [Bool.and_eq_true] at hm
      obtain rfl := beq_iff_eq.mp hm.1
      obtain ⟨h1, h2⟩ := grd_some he
      simp only [Option.bind_eq_some_iff, Option.map_eq_some_iff] at h2
      obtain ⟨i, hi, ce, h3, rfl⟩ := h2
      simp only [Bool.and_eq_true] at h1
      obtain ⟨⟨⟨hv, ho⟩, hn⟩, hl⟩ := h1
      exact fzW_ok (dS_ext (h.var hi hv ho) ((snd n).e h h3) (notStar_of hn) (base_ok rfl _ _ _) (few_ok (by simp [allPlain, hn]) (by simp) _ _) hl)
    · exact gen rfl he
  · obtain ⟨h1, h2⟩ := grd_some he
    exact gen h1 h2
theorem snds_ss (S : SndS n) {sts : List Stmt} {c : IS} (h : CxOk X C T B W k) (hx : SxOk X C) (he : cSs (n + 1) C sts = some c) : PSs X sts (tS X T B W c) := by
  match sts, he with
  | [], he => cases he; exact dSs_nil
  | [s], he => exact dSs_one (S.s h hx he)
  | s :: t :: r, he =>
    change (cS n C s).bind _ = _ at he
    simp only [Option.bind_eq_some_iff, Option.map_eq_some_iff] at he
    obtain ⟨a, ha, b, hb, rfl⟩ := he
    exact dSs_seq (S.s h hx ha) (S.ss h hx hb)
theorem exh {b : ExceptHandler} : ∃ a c d e, b = .ExceptHandler a c d e := by cases b; exact ⟨_, _, _, _, rfl⟩
theorem snds_s (S : SndS n) {st : Stmt} {c : IS} (h : CxOk X C T B W k) (hx : SxOk X C) (he : cS (n + 1) C st = some c) : PS X st (tS X T B W c) := by
  cases st with
  | Pass p => cases he; exact dS_pass ps_pass
  | Break p => cases he; exact dS_brk
  | Continue p => cases he; exact dS_cont
  | Expr e p => exact S.x h (show cX n C e = some c from he)
  | Assign ts e p =>
    change (match ts with | [.Name x xp] => _ | [.Tuple es k p] => _ | [.Attribute o f _] => _ | _ => _) = _ at he
    split at he
    · rename_i x xp
      obtain ⟨h1, h2⟩ := grd_some he
      obtain ⟨i, hi, h2⟩ := Option.bind_eq_some_iff.mp h2
      simp only [Bool.and_eq_true] at h1
      obtain ⟨r1, r2⟩ := set_any (n := n) (sp := p) h h1.1 h1.2 hi
      split at h2
      · obtain ⟨ce, h3, rfl⟩ := Option.map_eq_some_iff.mp h2
        exact fzW_ok (r1 ce h3)
      · obtain ⟨ce, h3, rfl⟩ := Option.map_eq_some_iff.mp h2
        exact fzW_ok (r2 ce h3)
    · rename_i es kk p2
      obtain ⟨h1, h2⟩ := grd_some he
      simp only [Option.bind_eq_some_iff, Option.map_eq_some_iff] at h2
      obtain ⟨t, ht, ce, h3, rfl⟩ := h2
      simp only [Bool.and_eq_true] at h1
      exact fzW_ok (dS_tp (ps_asg ((snd n).e h h3) (h.cg ht) (by unfold swapsWithSole; exact sw_ok h1.2 _ _ _) (stores_ok h1.1.2 _) rfl))
    · rename_i o f p2
      simp only [Option.bind_eq_some_iff, Option.map_eq_some_iff] at he
      obtain ⟨co, ho, ce, h3, rfl⟩ := he
      exact fzW_ok (dS_fset (fun c' C' => h.fl c' C' f) ((snd n).e h ho) ((snd n).e h h3) (sw_attr _ _ _ _ _ _))
    · cases he
  | AugAssign t op e p =>
    change (match t with | .Name x _ => _ | .Attribute o f _ => _ | _ => _) = _ at he
    split at he
    · rename_i x xp
      obtain ⟨h1, h2⟩ := grd_some he
      simp only [Option.bind_eq_some_iff, Option.map_eq_some_iff] at h2
      obtain ⟨i, hi, o, ho, ce, h3, rfl⟩ := h2
      simp only [Bool.and_eq_true, beq_iff_eq] at h1
      have hl : X.env.scope.names.lookup x = some .local := by rw [h.sc]; exact h1.2
      obtain rfl := augO_ok ho
      exact fzW_ok (dS_aug (ps_aug h.nd (h.ix hi) (.inl hl) ((snd n).e h h3) (aug_ok o) (.inr hl)))
    · rename_i o f p2
      simp only [Option.bind_eq_some_iff, Option.map_eq_some_iff] at he
      obtain ⟨b, hb, co, ho, ce, h3, rfl⟩ := he
      obtain rfl := augO_ok hb
      exact fzW_ok (dS_faug (fun c' C' => h.fl c' C' f) ((snd n).e h ho) ((snd n).e h h3))
    · cases he
  | Return e p =>
    cases e with
    | none => cases he; exact dS_retN
    | some e =>
      obtain ⟨ce, h3, rfl⟩ := Option.map_eq_some_iff.mp (show (cE n C false e).map (fun c => fzW C c (.ret c)) = some c from he)
      exact fzW_ok (dS_ret ((snd n).e h h3))
  | If c' a b p =>
    change (cT n C c').bind _ = _ at he
    simp only [Option.bind_eq_some_iff, Option.map_eq_some_iff] at he
    obtain ⟨cc, hc, ca, ha, cb, hb, rfl⟩ := he
    exact fzW_ok (dS_ite ((snd n).t h hc) (S.ss h hx ha) (S.ss h hx hb))
  | While c' a b p =>
    cases b with
    | cons => cases he
    | nil =>
      obtain ⟨h1, h2⟩ := grd_some (show grd C.cl ((cT n C c').bind fun cc => (cSs n C a).map fun ca => fzW C cc (.wh cc ca)) = some c from he)
      simp only [Option.bind_eq_some_iff, Option.map_eq_some_iff] at h2
      obtain ⟨cc, hc, ca, ha, rfl⟩ := h2
      exact fzW_ok (dS_wh (hx.pass h1) ((snd n).t h hc) (S.ss h hx ha))
  | For t it a b p =>
    cases b with
    | cons => cases he
    | nil =>
      obtain ⟨h1, h2⟩ := grd_some (show grd (C.cl && notSet it) ((cG C t).bind fun ct => (cI n C t it).bind fun ci => (cSs n C a).map fun ca => fzW C ci (.for_ ct ci ca)) = some c from he)
      simp only [Option.bind_eq_some_iff, Option.map_eq_some_iff] at h2
      obtain ⟨ct, ht, ci, hi, ca, ha, rfl⟩ := h2
      rw [Bool.and_eq_true] at h1
      exact fzW_ok (dS_for (hx.pass h1.1) (h.calm h1.1).1 ((snd n).i h hi) (fun G H => (h.at G H).cg ht) (fun G H => S.ss (h.at G H) hx ha) (fold_ok h1.2 _))
  | Raise e cs p =>
    change (match e, cs with | some (.Call (.Name x _) [a] [] _), none => _ | _, _ => _) = _ at he
    split at he
    · obtain ⟨h1, h2⟩ := grd_some he
      obtain ⟨ce, h3, rfl⟩ := Option.map_eq_some_iff.mp h2
      simp only [Bool.and_eq_true] at h1
      obtain ⟨⟨⟨⟨hc, hm⟩, hg⟩, ho⟩, hn⟩ := h1
      obtain ⟨c1, c2, c3, c4⟩ := h.calm hc
      exact fzW_ok (dS_raise c1 c3 h.tab c2 (h.tok.exs _ (by simpa using hm)) (h.gl hg) (notStar_of hn) (okNm_1 ho) ((snd n).e h h3))
    · cases he
  | Try b hs oe fb p =>
    change (match hs, oe, fb with | [.ExceptHandler (some (.Name c _)) nm (b0 :: su) _], [], [] => _ | _, _, _ => _) = _ at he
    split at he
    · rename_i c' cp nm b0 su hp
      obtain ⟨h1, h2⟩ := grd_some he
      simp only [Option.bind_eq_some_iff] at h2
      obtain ⟨cb, hb, ch, hch, h2⟩ := h2
      simp only [Bool.and_eq_true] at h1
      obtain ⟨⟨⟨hc, hg⟩, ho⟩, hn⟩ := h1
      obtain ⟨c1, c2, c3, c4⟩ := h.calm hc
      obtain ⟨cv, hcv, _⟩ := nm_of (p := cp) h hn (h.gl hg) ho
      have body : ∀ (W : WX) (pn : List (Addr × Obj)) (xe : Value → Shared → Prop), Takes (X.tr pn xe) W → PassesOwn (model X.prog X.w) X.A X.env xe → PSs (X.tr pn xe) b (tS X T B W cb) := fun W pn xe tk pa =>
        S.ss (h.tr hc tk) ⟨fun _ => pa, hx.stk, hx.frm⟩ hb
      have suite : ∀ (a : Addr) (oe : Obj) (cls : Value) (d : Option Addr) (pn : List (Addr × Obj)), Zc cls d oe → (∃ vs, oe.data = .fields vs) → PSs (X.suite a ((a, oe) :: pn)) (b0 :: su) (tS X T { B with xc := some (a, cls, d) } WF ch) := fun a oe cls d pn hz hd =>
        S.ss (h.suite hz hd) ⟨fun z => Bool.noConfusion z, fun z => Bool.noConfusion z, fun z => Bool.noConfusion z⟩ hch
      split at h2
      · rename_i x
        obtain ⟨h3, h4⟩ := grd_some h2
        obtain ⟨i, hi, rfl⟩ := Option.map_eq_some_iff.mp h4
        have hl : X.env.kindOf x = some .local := by
          show X.env.scope.names.lookup x = _
          rw [h.sc]; simpa using h3
        exact dS_try_as c4 (hx.stk hc) (hx.frm hc) h.nd (h.ix hi) hl h.tab (h.gl hg) (okNm_1 ho) hcv c3 body suite
      · cases h2
        exact dS_try_only c4 (hx.stk hc) (hx.frm hc) h.tab (h.gl hg) (okNm_1 ho) hcv c3 body suite
    · cases he
  | _ => cases he
theorem snds : ∀ n, SndS n
  | 0 => ⟨fun _ _ h => (by cases h), fun _ h => (by cases h), fun _ _ h => (by cases h)⟩
  | n + 1 => ⟨fun h hx e => snds_s (snds n) h hx e, fun h e => snds_x h e, fun h hx e => snds_ss (snds n) h hx e⟩
end
end OE
namespace OE
open PySem PySem.Spec PyProof.Rows L2
/-! ### defs -/
def rho0 (N : List Str) (ds : List D) : Env := ds.map .val ++ List.replicate (N.length - ds.length) .un
def En0 (Qd : QD) (Ed : XD) : En := { nx := fun _ Ω => Qd .non Ω, rt := Qd, bk := fun _ _ => False, ct := fun _ _ => False, ex := fun x d _ Ω => Ed x d Ω }
section
variable {P : Program} {w : World} {K : PySem.W.Frag} {mg : Str → Option Value} {base : Heap} {T : Tab}
theorem st_start {N : List Str} {ds : List D} {vs : List V} {G : Gh} {H : Hp} {Ω : Store} (w : Wf K mg G Ω H) (h : IsAll K G H ds vs) : St K mg T ⟨G, H, none, G, H⟩ (L2.start N vs) H (rho0 N ds) Ω G := by
  have hl := h.length
  have low : ∀ {i : Nat} {s : Sl}, (rho0 N ds)[i]? = some s → (∃ d, ds[i]? = some d ∧ s = .val d) ∨ s = .un := fun {i s} e => by
    unfold rho0 at e
    by_cases hi : i < ds.length
    · rw [List.getElem?_append_left (by simpa using hi), List.getElem?_map, Option.map_eq_some_iff] at e
      obtain ⟨d, h1, h2⟩ := e
      exact .inl ⟨d, h1, h2.symm⟩
    · rw [List.getElem?_append_right (by simpa using hi), List.getElem?_replicate] at e
      split at e
      · cases e; exact .inr rfl
      · cases e
  refine ⟨w, .refl, by simp [L2.start, rho0, hl], fun i d e => ?_, fun i d e => ?_, fun i j d e a q1 q2 q3 q4 => ?_, fun i c d e => ?_, .refl⟩
  · rcases low e with ⟨d', h1, h2⟩ | h2
    · cases h2
      obtain ⟨v, hv, iv⟩ := h.get h1
      have hi := (List.getElem?_eq_some_iff.mp hv).1
      exact ⟨v, by unfold L2.start; rw [List.getElem?_append_left (by simpa using hi), List.getElem?_map, hv]; rfl, iv⟩
    · cases h2
  · rcases low e with ⟨d', h1, h2⟩ | h2 <;> cases h2
  · rcases low q1 with ⟨d', h1, h2⟩ | h2 <;> cases h2
  · rcases low e with ⟨d', h1, h2⟩ | h2 <;> cases h2
/-- what is asked of the module, once -/
structure Base (K : PySem.W.Frag) (mg : Str → Option Value) (T : Tab) (R : Rec) : Prop where
  blt : Blt mg
  fl : ∀ c C f, mg c = some (.ref C) → T.fl c f = true → Cls K C ∧ NoAttr K C f
  nms : ∀ c ∈ R.nms, ∃ a, mg c = some (.ref a)
theorem fn_ok {x qual : Str} {st : Stmt} {f : Addr} {fd : FuncData} {N ps : List Str} {k : Nat} {R : Rec} {S : Spec} {cb : IS} {fuel : Nat} (F : Fun K x qual st f fd) (sc : FnScope N ps (defScope st)) (tab : TabOk P w K mg base T k) (tok : TOk R T) (ba : Base K mg T R) (hN : R.N = N)
    (hc : cSs fuel ⟨R, defScope st, cellsS (defScope st), true⟩ (defBody st) = some cb) (hS : ∀ ds Ω Qd Ed, ds.length = ps.length → S ds Ω Qd Ed → wS T cb (rho0 N ds) Ω (En0 Qd Ed)) :
    FnOk P w K mg base (L2.CX P w) (k + 1) f fd ps (spOf K mg T ps.length S) := by
  refine F.okX sc (fun vs H Q E ⟨ds, G, Ω, Qd, Ed, h, _⟩ => h) (fun cdv A outer s H vs Q E hr ⟨ds, G, Ω, Qd, Ed, hl, wf, ha, hs, hq, hx⟩ => ?_)
  have cx : CxOk (cxOf (L2.CX P w) P w K mg base N qual (defScope st) f cdv A outer s H E) ⟨R, defScope st, cellsS (defScope st), true⟩ T ⟨G, H, none, G, H⟩ (fun cls d _ H => E cls d H) k :=
    ⟨hN.symm, sc.nd, rfl, fun _ _ => rfl, tok, tab, by have := hr.un; show (A.deeper _).units + 65 < _; omega, ba.blt, ba.fl, ba.nms, fun _ => ⟨rfl, hr, takes_of rfl rfl rfl rfl, rfl⟩, ⟨fun a cls d e => by cases e⟩⟩
  have sx : SxOk (cxOf (L2.CX P w) P w K mg base N qual (defScope st) f cdv A outer s H E) ⟨R, defScope st, cellsS (defScope st), true⟩ := ⟨fun _ => passes_of rfl, fun _ => rfl, fun _ => rfl⟩
  refine ⟨_, (snds fuel).ss cx sx hc, rho0 N ds, Ω, G, En0 Qd Ed, st_start wf ha, ?_, hS ds Ω Qd Ed (by rw [ha.length]; exact hl) hs, ⟨?_, ?_, ?_, ?_⟩⟩
  · intro x d ρ Ω' G' σ H' cls dx q st' r
    exact hx x d Ω' G' H' cls dx q st'.ev st'.wf r
  · intro σ' H' ρ' Ω' G' q s; exact hq .non Ω' G' H' .non q s.ev s.wf (by simp only [Is])
  · intro σ' H' ρ' Ω' G' q s; exact q.elim
  · intro σ' H' ρ' Ω' G' q s; exact q.elim
  · intro d Ω' G' H' v q e w i; exact hq d Ω' G' H' v q e w i
theorem ent_ok {x qual : Str} {st : Stmt} {f : Addr} {fd : FuncData} {N ps : List Str} {k : Nat} {R : Rec} {S : Spec} {cb : IS} (fuel : Nat) (F : Fun K x qual st f fd) (bd : Binds K fd ps []) (sc : FnScope N ps (defScope st)) (tab : TabOk P w K mg base T k) (tok : TOk R T) (ba : Base K mg T R) (hN : R.N = N)
    (hc : cSs fuel ⟨R, defScope st, cellsS (defScope st), true⟩ (defBody st) = some cb) (hS : ∀ ds Ω Qd Ed, ds.length = ps.length → S ds Ω Qd Ed → wS T cb (rho0 N ds) Ω (En0 Qd Ed)) :
    EntOk P w K mg base T f ⟨k + 1, ps.length, S⟩ := ⟨⟨fd, ps, fn_ok F sc tab tok ba hN hc hS, bd⟩, F.kp⟩
/-- a promise under a table of the same exceptions -/
theorem spOf_tab {T' : Tab} {n : Nat} {S : Spec} (h : T.exf = T'.exf) : spOf K mg T n S = spOf K mg T' n S := by
  unfold spOf ExcRel
  rw [h]
theorem EntOk.tab {T' : Tab} {f : Addr} {en : Ent} (h : EntOk P w K mg base T f en) (e : T.exf = T'.exf) : EntOk P w K mg base T' f en := by
  obtain ⟨⟨fd, ps, h1, h2⟩, h3⟩ := h
  exact ⟨⟨fd, ps, by rw [← spOf_tab e]; exact h1, h2⟩, h3⟩
/-! ### the law -/
def spL (K : PySem.W.Frag) : Sp := fun vs H Q _ => ∃ (a : Addr) (ns : List Int), vs = [V.ref a] ∧ SqL K H a (ns.map V.int) ∧ Only H ∧ ns.length ≤ 63 ∧ ∀ H', Q (.bl true) H'
def SL : Spec := fun ds _ Qd _ => ∃ ns : List Int, ds = [.scr ns] ∧ ns.length ≤ 63 ∧ ∀ Ω, Qd (.bl true) Ω
theorem law_of {k : Nat} {f : Addr} {fd : FuncData} {ps : List Str} (h : FnOk P w K mg base (L2.CX P w) k f fd ps (spOf K mg T 1 SL)) : FnOk P w K mg base (L2.CX P w) k f fd ps (spL K) := by
  refine h.imp fun vs H Q E ⟨a, ns, e, hs, ho, hl, k⟩ => ?_
  subst e
  refine ⟨[.scr ns], ⟨fun _ => False, []⟩, [], fun d _ => d = .bl true, fun _ _ _ => False, rfl, ⟨rfl, List.nodup_nil, fun _ z => z.elim, fun _ z => z.elim, fun n a o z => by cases z⟩, .one ?_, ⟨ns, rfl, hl, fun _ => rfl⟩, fun d Ω' G' H' v q _ _ i => ?_, fun x d Ω' G' H' cls dx q => q.elim⟩
  · simp only [Is]
    refine ⟨a, rfl, ?_⟩
    rcases hs with (z | ⟨o, z⟩) | z
    · rcases ho a with q | ⟨o, xs, q⟩
      · rw [q] at z; cases z
      · rw [q] at z; cases z
    · exact .inl ⟨o, z⟩
    · exact .inr (.inr z)
  · subst q
    have : v = .bl true := by simpa only [Is] using i
    rw [this]; exact k H'
end
theorem walk {l : PySem.W.OpenLaw} {k : Nat} {q : Program} {loose : List Str} {XP : (Str → Option Value) → Heap → Prop} {YP : World → Heap → Prop} {d : DefRec} {K : Params → PySem.W.Frag} (hn : l.most = some 63) (hdf : d.params.defaults = []) (hr : Room k callerA)
    (hY : ∀ (w : World) (h : Heap), YP w h → (K w.params).In h)
    (F : ∀ (w : World) (mg : Str → Option Value) (fa : Addr) (h : Heap), (K w.params).In h → h.Ns mainGlobals mg → mg d.name = some (.ref fa) →
      ∃ fd : FuncData, (∀ (s : Shared) (u : Value), BindsTo s fd ⟨[u], []⟩ [("_law_script", u)]) ∧ ∀ base : Heap, (K w.params).In base → base.Ns mainGlobals mg → FnOk l.prog w (K w.params) mg base (L2.CX l.prog w) k fa fd ["_law_script"] (spL (K w.params))) :
    PySem.W.WalkO q loose XP YP l.row.toRowW d [] (fun f vs => PySem.call f vs) :=
  L2.walk_of (n := 63) (k := k) (x := "_law_script") (CX := fun w => L2.CX l.prog w) (sp := fun w => spL (K w.params)) hn (by decide) hdf hr hY F (fun _ _ a ns hl ho hS => ⟨a, ns, rfl, hS, ho, hl, fun _ => rfl⟩)
    fun w H s e s' ⟨_, _, _, _, _, _, _, _, _, _, _, _, z⟩ => z
end OE
namespace OE
open PySem PySem.Spec PyProof.Rows L2
/-! ### tables -/
def Tab.addF (T : Tab) (x : Str) (en : Ent) : Tab := { T with fn := fun y => if y = x then some en else T.fn y }
section
variable {P : Program} {w : World} {K : PySem.W.Frag} {mg : Str → Option Value} {base : Heap} {T : Tab} {k : Nat}
theorem TabOk.mono {j : Nat} (h : TabOk P w K mg base T k) (hk : k ≤ j) : TabOk P w K mg base T j := by
  refine ⟨fun x en e => ?_, fun c m en e => ?_, fun c en e => ?_, fun c f e => ?_, h.sub, h.con⟩
  · obtain ⟨h1, h2⟩ := h.fn x en e; exact ⟨Nat.le_trans h1 hk, h2⟩
  · obtain ⟨h1, h2⟩ := h.me c m en e; exact ⟨Nat.le_trans h1 hk, h2⟩
  · obtain ⟨h1, h2⟩ := h.ini c en e; exact ⟨Nat.le_trans h1 hk, h2⟩
  · obtain ⟨C, f', fd, ps, ce, k0, h1, h2⟩ := (h.exc c f e).ex
    exact ⟨C, f', fd, ps, ce, k0, Nat.le_trans h1 hk, h2⟩
theorem TabOk.addF {x : Str} {f : Addr} {en : Ent} (h : TabOk P w K mg base T k) (he : EntOk P w K mg base T f en) (hk : en.k ≤ k) (hm : mg x = some (.ref f)) : TabOk P w K mg base (T.addF x en) k := by
  refine ⟨fun y e' q => ?_, fun c m e' q => ?_, fun c e' q => ?_, h.exc, h.sub, h.con⟩
  · have q : (if y = x then some en else T.fn y) = some e' := q
    by_cases e : y = x
    · rw [if_pos e] at q; cases q; rw [e]; exact ⟨hk, f, hm, he.tab rfl⟩
    · rw [if_neg e] at q
      obtain ⟨h1, f', h2, h3⟩ := h.fn y e' q; exact ⟨h1, f', h2, h3.tab rfl⟩
  · obtain ⟨h1, C, f', h2, h3, h4, h5⟩ := h.me c m e' q; exact ⟨h1, C, f', h2, h3, h4, h5.tab rfl⟩
  · obtain ⟨h1, C, f', h2, h3, h4⟩ := h.ini c e' q; exact ⟨h1, C, f', h2, h3, h4.tab rfl⟩
theorem addF_same {x : Str} {en : Ent} : (T.addF x en).fn x = some en := if_pos rfl
theorem addF_ne {x y : Str} {en : Ent} (h : y ≠ x) : (T.addF x en).fn y = T.fn y := if_neg h
/-- a def of the module -/
structure DefIn (K : PySem.W.Frag) (x : Str) (st : Stmt) : Prop where
  ex : ∃ (f : Addr) (oc : Value) (od an : Option Addr) (osl : Array (Option Value)) (kV doc pm cdv ct : Value), PySem.W.nsIn K mainGlobals x = some (some (.ref f)) ∧
    K.lookup f = some ⟨oc, od, .func (PySem.W.fnOf x x (defArgs st) (defBody st) (defScope st) .none kV doc pm an cdv ct), osl⟩ ∧ PySem.W.codeIn K cdv x = true ∧ PySem.W.keepIn K (.ref f) = true
/-- a def joins the table -/
theorem TabOk.def {x : Str} {st : Stmt} {N ps : List Str} {R : Rec} {S : Spec} {cb : IS} {h : Heap} (fuel : Nat) (tab : TabOk P w K mg base T k) (X : K.In h) (G : h.Ns mainGlobals mg) (Dx : DefIn K x st) (sc : FnScope N ps (defScope st))
    (hb : ∀ (kV doc pm : Value) (an : Option Addr) (cdv ct : Value) (us : List Value), us.length = ps.length → bindArgs (PySem.W.fnOf x x (defArgs st) (defBody st) (defScope st) .none kV doc pm an cdv ct) ⟨us, []⟩ = pure (ps.zip us))
    (tok : TOk R T) (ba : Base K mg T R) (hN : R.N = N) (hc : cSs fuel ⟨R, defScope st, cellsS (defScope st), true⟩ (defBody st) = some cb)
    (hS : ∀ ds Ω Qd Ed, ds.length = ps.length → S ds Ω Qd Ed → wS T cb (rho0 N ds) Ω (En0 Qd Ed)) :
    TabOk P w K mg base (T.addF x ⟨k + 1, ps.length, S⟩) (k + 1) := by
  obtain ⟨f, oc, od, an, osl, kV, doc, pm, cdv, ct, h1, h2, h3, h4⟩ := Dx.ex
  have F := fun_mk (st := st) h2 h3 h4
  exact (tab.mono (Nat.le_succ _)).addF (ent_ok fuel F (F.binds (hb)) sc tab tok ba hN hc hS) (Nat.le_refl _) (PySem.W.mg_of X G h1)
theorem law_top {st : Stmt} {N : List Str} {R : Rec} {cb : IS} {h : Heap} {fa : Addr} {x : Str} (fuel : Nat) (tab : TabOk P w K mg base T k) (X : K.In h) (G : h.Ns mainGlobals mg) (Dx : DefIn K x st) (hfa : mg x = some (.ref fa)) (sc : FnScope N ["_law_script"] (defScope st))
    (tok : TOk R T) (ba : Base K mg T R) (hN : R.N = N) (hc : cSs fuel ⟨R, defScope st, cellsS (defScope st), true⟩ (defBody st) = some cb)
    (hS : ∀ (ns : List Int) Qd Ed, ns.length ≤ 63 → (∀ Ω, Qd (.bl true) Ω) → ∀ Ω, wS T cb (rho0 N [.scr ns]) Ω (En0 Qd Ed)) {fd : FuncData} (F : Fun K x x st fa fd) :
    FnOk P w K mg base (L2.CX P w) (k + 1) fa fd ["_law_script"] (spL K) :=
  law_of (T := T) (fn_ok (S := SL) F sc tab tok ba hN hc fun ds Ω Qd Ed _ ⟨ns, e, hl, hq⟩ => by subst e; exact hS ns Qd Ed hl hq Ω)
end
/-! ### loops by their remaining items -/
theorem wFor_ind {step : D → Env → Store → (Env → Store → Prop) → Prop} {Q : Env → Store → Prop} (I : List D → Env → Store → Prop)
    (hs : ∀ d ds ρ Ω, I (d :: ds) ρ Ω → ∀ K : Env → Store → Prop, (∀ ρ' Ω', I ds ρ' Ω' → K ρ' Ω') → step d ρ Ω K) (hd : ∀ ρ Ω, I [] ρ Ω → Q ρ Ω) : ∀ l ρ Ω, I l ρ Ω → wFor step l ρ Ω Q
  | [], ρ, Ω, h => hd ρ Ω h
  | d :: ds, ρ, Ω, h => hs d ds ρ Ω h _ fun ρ' Ω' h' => wFor_ind I hs hd ds ρ' Ω' h'
theorem wLoop_ind {step : D → List D → Store → (List D → Store → Prop) → Prop} {Q : List D → Store → Prop} (I : List D → List D → Store → Prop)
    (hs : ∀ d ds acc Ω, I (d :: ds) acc Ω → ∀ K : List D → Store → Prop, (∀ acc' Ω', I ds acc' Ω' → K acc' Ω') → step d acc Ω K) (hd : ∀ acc Ω, I [] acc Ω → Q acc Ω) : ∀ l acc Ω, I l acc Ω → wLoop step l acc Ω Q
  | [], acc, Ω, h => hd acc Ω h
  | d :: ds, acc, Ω, h => hs d ds acc Ω h _ fun acc' Ω' h' => wLoop_ind I hs hd ds acc' Ω' h'
/-- [g x for x in l] where the elements change nothing -/
theorem wLoop_map {step : D → List D → Store → (List D → Store → Prop) → Prop} {Ω : Store} (g : D → D) : ∀ (l acc : List D) {Q : List D → Store → Prop}, acc.length + l.length ≤ LINE →
    (∀ d ∈ l, ∀ (acc : List D) (K : List D → Store → Prop), acc.length < LINE → K (acc ++ [g d]) Ω → step d acc Ω K) → Q (acc ++ l.map g) Ω → wLoop step l acc Ω Q
  | [], acc, Q, _, _, h => by rw [List.map_nil, List.append_nil] at h; exact h
  | d :: ds, acc, Q, hl, hs, h => by
    rw [List.length_cons] at hl
    refine hs d List.mem_cons_self acc _ (by omega) ?_
    refine wLoop_map g ds (acc ++ [g d]) (by rw [List.length_append, List.length_singleton]; omega) (fun e he => hs e (List.mem_cons_of_mem _ he)) ?_
    rw [List.append_assoc]; exact h
/-- [g x for x in l if p x] -/
theorem wLoop_filter {step : D → List D → Store → (List D → Store → Prop) → Prop} {Ω : Store} (g : D → Option D) : ∀ (l acc : List D) {Q : List D → Store → Prop}, acc.length + l.length ≤ LINE →
    (∀ d ∈ l, ∀ (acc : List D) (K : List D → Store → Prop), acc.length < LINE → K (acc ++ (g d).toList) Ω → step d acc Ω K) → Q (acc ++ l.filterMap g) Ω → wLoop step l acc Ω Q
  | [], acc, Q, _, _, h => by rw [List.filterMap_nil, List.append_nil] at h; exact h
  | d :: ds, acc, Q, hl, hs, h => by
    rw [List.length_cons] at hl
    refine hs d List.mem_cons_self acc _ (by omega) ?_
    refine wLoop_filter g ds (acc ++ (g d).toList) (by rw [List.length_append]; cases g d <;> simp <;> omega) (fun e he => hs e (List.mem_cons_of_mem _ he)) ?_
    rw [List.append_assoc]
    rw [List.filterMap_cons] at h
    cases hg : g d with
    | none => rw [hg] at h; simpa using h
    | some y => rw [hg] at h; simpa using h
/-- a pure function -/
def pureS (pre : List D → Prop) (f : List D → D) : Spec := fun ds Ω Qd _ => pre ds ∧ Qd (f ds) Ω
/-! ### exceptions -/
theorem tab0 {P : Program} {w : World} {K : PySem.W.Frag} {mg : Str → Option Value} {base : Heap} {k : Nat} : TabOk P w K mg base T0 k :=
  ⟨fun _ _ h => (by cases h), fun _ _ _ h => (by cases h), fun _ _ h => (by cases h), fun _ _ h => (by cases h), fun _ _ _ _ _ h => (by cases h), fun _ _ h => (by cases h)⟩
theorem tok0 {N : List Str} : TOk { N := N } T0 := ⟨fun _ h => (by cases h), fun _ h => (by cases h), fun _ h => (by cases h), fun _ _ h => (by cases h), fun _ h => (by cases h)⟩
theorem xok_of {P : Program} {w : World} {K : PySem.W.Frag} {mg : Str → Option Value} {base : Heap} {C f : Addr} {c fld sx : Str} {e : Expr} {fd : FuncData} {ce : IR} {xm : D → Prop} {sc : Scope} (fuel : Nat) (D : XIn P K C f fld sx e [("self" : Str), sx, "__class__"] fd sc) (bd : Binds K fd [("self" : Str), sx] [])
    (hn : notStar e = true) (blt : Blt mg) (hmg : mg "super" = none) (hdb : okNm sx = true)
    (hcE : cE fuel ⟨{ N := [("self" : Str), sx, "__class__"] }, sc, [], true⟩ false e = some ce) (hm : mg c = some (.ref C)) (hi : PySem.W.findIn K (.ref C) "__init__" = some (some (.ref f))) (ht : PySem.W.typeIn K (.ref f) = some (.type "function"))
    (wm : ∀ d Ω, xm d → wE T0 ce EF [.un, .val d, .un] Ω fun _ Ω' => Ω' = Ω) (xf : XfC K C) (xc : ExcC K C) : XOk P w K mg base 3 c fld xm := by
  have fn : FnOk P w K mg base (L2.CX P w) 2 f fd [("self" : Str), sx] (spX K mg T0 C fld ce) := by
    refine exinit_ok (k := 1) D (notStar_of hn) (fun o p l env => sw_ok rfl _ _ _) (fun p0 p1 p2 p3 l env => sw_ok rfl _ _ _) hmg (okNm_1 hdb) (okNm_2 hdb) fun F A outer s H E B S eS hxc hr => ?_
    have cx : CxOk (NdefX.ncx (L2.CX P w) P w K mg base [("self" : Str), sx, "__class__"] F f A outer s H E) ⟨{ N := [("self" : Str), sx, "__class__"] }, sc, [], true⟩ T0 B WF 1 :=
      ⟨rfl, S.nd, eS, (fun x hx => by cases hx), tok0, tab0, (by have := hr.un; show (A.deeper _).units + 65 < _; omega), blt, (fun c C f _ h => by cases h), (fun x hx => by cases hx), fun _ => ⟨rfl, hr, takesF, hxc⟩, ⟨fun a cls d e => by rw [hxc] at e; cases e⟩⟩
    exact (snd fuel).e cx hcE
  exact ⟨C, f, fd, _, ce, 2, Nat.le_refl _, hm, D.cls, hi, ht, fn, bd, wm, xf, D.no, xc⟩
end OE
namespace OE
open PySem PySem.Spec PyProof.Rows L2
/-! ### shapes for == -/
def Sh (n : Nat) (d : D) : Prop := (toPy d).canLay0 = true ∧ (toPy d).depth ≤ n
theorem Sh.ok {n : Nat} {d : D} (h : Sh n d) (hn : n ≤ 64) : eqOk d := by
  unfold eqOk SeqAt.shaped
  rw [h.1, Bool.true_and, decide_eq_true_iff]
  exact Nat.le_trans h.2 hn
theorem sh_int {n : Nat} {i : Int} : Sh n (.int i) := ⟨by simp [toPy, PyData.canLay0], by simp [toPy, PyData.depth]⟩
theorem sh_non {n : Nat} : Sh n .non := ⟨by simp [toPy, PyData.canLay0], by simp [toPy, PyData.depth]⟩
theorem sh_all {n : Nat} : ∀ {ds : List D}, (∀ d ∈ ds, Sh n d) → PyData.canLayAll0 (toPys ds) = true ∧ PyData.depthAll (toPys ds) ≤ n
  | [], _ => ⟨by simp [toPys, PyData.canLayAll0], by simp [toPys, PyData.depthAll]⟩
  | d :: ds, h => by
    obtain ⟨h1, h2⟩ := sh_all fun e he => h e (List.mem_cons_of_mem _ he)
    obtain ⟨h3, h4⟩ := h d List.mem_cons_self
    exact ⟨by simp [toPys, PyData.canLayAll0, h1, h3], by simp only [toPys, PyData.depthAll]; omega⟩
theorem sh_tup {n : Nat} {ds : List D} (h : ∀ d ∈ ds, Sh n d) : Sh (n + 1) (.tup ds) := by
  obtain ⟨h1, h2⟩ := sh_all h
  exact ⟨by simpa [toPy, PyData.canLay0] using h1, by simp only [toPy, PyData.depth]; omega⟩
theorem sh_lst {n : Nat} {ds : List D} (h : ∀ d ∈ ds, Sh n d) : Sh (n + 1) (.lst ds) := by
  obtain ⟨h1, h2⟩ := sh_all h
  exact ⟨by simpa [toPy, PyData.canLay0] using h1, by simp only [toPy, PyData.depth]; omega⟩
theorem Sh.mono {n m : Nat} {d : D} (h : Sh n d) (hm : n ≤ m) : Sh m d := ⟨h.1, Nat.le_trans h.2 hm⟩
mutual
theorem eqv_self : ∀ d : PyData, d.canLay0 = true → PyData.eqv d d = true
  | .none, _ => by simp [PyData.eqv]
  | .bool b, _ => by simp [PyData.eqv]
  | .int i, _ => by simp [PyData.eqv]
  | .str s, _ => by simp [PyData.eqv]
  | .list xs, h => by simp only [PyData.eqv]; exact eqvAll_self xs (by simpa [PyData.canLay0] using h)
  | .tuple xs, h => by simp only [PyData.eqv]; exact eqvAll_self xs (by simpa [PyData.canLay0] using h)
  | .dict _, h => by simp [PyData.canLay0] at h
theorem eqvAll_self : ∀ ds : List PyData, PyData.canLayAll0 ds = true → PyData.eqvAll ds ds = true
  | [], _ => by simp [PyData.eqvAll]
  | d :: ds, h => by
    have h' : d.canLay0 = true ∧ PyData.canLayAll0 ds = true := by simpa [PyData.canLayAll0] using h
    simp [PyData.eqvAll, eqv_self d h'.1, eqvAll_self ds h'.2]
end
theorem Sh.self {n : Nat} {d : D} (h : Sh n d) : eqD d d = true := eqv_self _ h.1
theorem eqD_non_tup {ds : List D} : eqD (.tup ds) .non = false := by simp [eqD, toPy, PyData.eqv]
theorem eqD_non : eqD .non .non = true := by simp [eqD, toPy, PyData.eqv]
/-! ### texts -/
theorem splitC_free {c : Nat} : ∀ {p : List Nat}, c ∉ p → splitC c p = [p]
  | [], _ => rfl
  | x :: p, h => by
    simp only [List.mem_cons, not_or] at h
    have hx : x ≠ c := fun z => h.1 z.symm
    simp only [splitC, if_neg hx, splitC_free h.2]
theorem splitC_app {c : Nat} : ∀ {p : List Nat} (r : List Nat), c ∉ p → splitC c (p ++ c :: r) = p :: splitC c r
  | [], r, _ => by simp [splitC]
  | x :: p, r, h => by
    simp only [List.mem_cons, not_or] at h
    have hx : x ≠ c := fun z => h.1 z.symm
    show splitC c (x :: (p ++ c :: r)) = _
    simp only [splitC, if_neg hx, splitC_app r h.2]
theorem splitC_join {c : Nat} : ∀ {ps : List (List Nat)}, ps ≠ [] → (∀ p ∈ ps, c ∉ p) → splitC c (TL.joinL [c] ps) = ps
  | [], h, _ => absurd rfl h
  | [p], _, h => splitC_free (h p List.mem_cons_self)
  | p :: q :: r, _, h => by
    show splitC c (p ++ ([c] ++ TL.joinL [c] (q :: r))) = _
    rw [List.singleton_append, splitC_app _ (h p List.mem_cons_self), splitC_join (by simp) fun e he => h e (List.mem_cons_of_mem _ he)]
theorem joinL_len (s : List Nat) : ∀ ps : List (List Nat), (TL.joinL s ps).length ≤ (ps.map List.length).sum + ps.length * s.length
  | [] => by simp [TL.joinL]
  | [p] => by simp [TL.joinL]
  | p :: q :: r => by
    have := joinL_len s (q :: r)
    simp only [TL.joinL, List.length_append, List.map_cons, List.sum_cons, List.length_cons] at this ⊢
    rw [Nat.add_mul, Nat.one_mul]; omega
theorem sum_le {b : Nat} : ∀ {l : List Nat}, (∀ x ∈ l, x ≤ b) → l.sum ≤ l.length * b
  | [], _ => by simp
  | x :: l, h => by
    have := sum_le fun e he => h e (List.mem_cons_of_mem _ he)
    have := h x List.mem_cons_self
    simp only [List.sum_cons, List.length_cons, Nat.add_mul, Nat.one_mul]; omega
theorem splitC_len (c : Nat) : ∀ s : List Nat, (splitC c s).length ≤ s.length + 1 ∧ splitC c s ≠ [] ∧ ∀ p ∈ splitC c s, p.length ≤ s.length
  | [] => by simp [splitC]
  | x :: s => by
    obtain ⟨h1, h2, h3⟩ := splitC_len c s
    simp only [splitC]
    split
    · refine ⟨by simp; omega, by simp, fun p hp => ?_⟩
      rcases List.mem_cons.mp hp with rfl | hp
      · simp
      · have := h3 p hp; simp; omega
    · cases e : splitC c s with
      | nil => exact absurd e h2
      | cons hd tl =>
        rw [e] at h1 h3
        refine ⟨by simp at h1 ⊢; omega, by simp, fun p hp => ?_⟩
        rcases List.mem_cons.mp hp with rfl | hp
        · have := h3 hd List.mem_cons_self; simp; omega
        · have := h3 p (List.mem_cons_of_mem _ hp); simp; omega
theorem strsOf_map : ∀ l : List (List Nat), strsOf (l.map D.str) = some l
  | [] => rfl
  | x :: l => by simp [strsOf, strsOf_map l]
theorem intsOf_map : ∀ l : List Int, intsOf (l.map D.int) = some l
  | [] => rfl
  | x :: l => by simp [intsOf, intsOf_map l]
theorem blsOf_map : ∀ l : List Bool, blsOf (l.map D.bl) = some l
  | [] => rfl
  | x :: l => by simp [blsOf, blsOf_map l]
theorem atI_nat {α : Type} (xs : List α) (n : Nat) : L2.atI xs ((n : Nat) : Int) = xs[n]? := by
  unfold L2.atI L2.ixN
  rw [if_pos (Int.natCast_nonneg n)]
  by_cases h : n < xs.length
  · rw [if_pos (by omega)]; simp
  · rw [if_neg (by omega), List.getElem?_eq_none (by omega)]; rfl
theorem atI_zero {α : Type} (x : α) (xs : List α) : L2.atI (x :: xs) 0 = some x := atI_nat (x :: xs) 0
end OE
namespace OE
open PySem PySem.Spec PyProof.Rows L2
theorem base_tab {K : PySem.W.Frag} {mg : Str → Option Value} {T T' : Tab} {R : Rec} (b : Base K mg T R) (h : T.fl = T'.fl := by rfl) : Base K mg T' R := ⟨b.blt, h ▸ b.fl, b.nms⟩
end OE
namespace OE
open PySem PySem.Spec PyProof.Rows L2
def top (i : Nat) : Stmt := PySem.Challenge.pw_oneofeach_k59_structures_written_and_rea.main.body.getD i (.Pass ⟨0, 0, 0, 0⟩)
abbrev s_InvalidPaper_init : Stmt := inClass (top 2) 0
abbrev s_joined : Stmt := top 6
def R_joined : Rec := { N := ["numbers", "number"] }
def ir_joined : IS := (.ret (.bm .join (.lit (.str [44])) (.cons (.lc (.nm 1) [1] (.iv (.var 0)) (.lit (.bl true)) (.bi .str_ (.cons (.bor 1) .nil))) .nil)))
theorem hc_joined : cSs 80 ⟨R_joined, defScope s_joined, cellsS (defScope s_joined), true⟩ (defBody s_joined) = some ir_joined := by kernel_rfl
theorem sc_joined : FnScope ["numbers", "number"] ["numbers"] (defScope s_joined) := ⟨rfl, rfl, rfl, by decide +kernel, rfl, by decide +kernel, by decide +kernel⟩
abbrev s_layer_word : Stmt := top 7
def R_layer_word : Rec := { N := ["layer", "values"], fns := ["joined"] }
def ir_layer_word : IS := (.seq (.ite (.not (.tru (.bor 0))) (.ret (.lit (.str [46]))) .pass)
  (.ret (.bm .join (.lit (.str [47])) (.cons (.lc (.nm 1) [1] (.iv (.var 0)) (.lit (.bl true)) (.ite (.tru (.bor 1)) (.call "joined" (.cons (.var 1) .nil)) (.lit (.str [45])))) .nil))))
theorem hc_layer_word : cSs 80 ⟨R_layer_word, defScope s_layer_word, cellsS (defScope s_layer_word), true⟩ (defBody s_layer_word) = some ir_layer_word := by kernel_rfl
theorem sc_layer_word : FnScope ["layer", "values"] ["layer"] (defScope s_layer_word) := ⟨rfl, rfl, rfl, by decide +kernel, rfl, by decide +kernel, by decide +kernel⟩
abbrev s_write_structure : Stmt := top 8
def R_write_structure : Rec := { N := ["structure", "layer"], fns := ["layer_word"] }
def ir_write_structure : IS := (.ret (.bm .join (.lit (.str [32])) (.cons (.lc (.nm 1) [1] (.iv (.var 0)) (.lit (.bl true)) (.call "layer_word" (.cons (.var 1) .nil))) .nil)))
theorem hc_write_structure : cSs 80 ⟨R_write_structure, defScope s_write_structure, cellsS (defScope s_write_structure), true⟩ (defBody s_write_structure) = some ir_write_structure := by kernel_rfl
theorem sc_write_structure : FnScope ["structure", "layer"] ["structure"] (defScope s_write_structure) := ⟨rfl, rfl, rfl, by decide +kernel, rfl, by decide +kernel, by decide +kernel⟩
abbrev s_is_number : Stmt := top 9
def R_is_number : Rec := { N := ["word", "char"], cons := ["MOST_DIGITS", "DIGITS"] }
def ir_is_number : IS := (.seq (.ite (.or (.op .eq (.bor 0) (.lit (.str []))) (.or (.op .gt (.bi .len (.cons (.bor 0) .nil)) (.con "MOST_DIGITS")) (.not (.tru (.bi .all_ (.cons (.lc (.nm 1) [1] (.iv (.var 0)) (.lit (.bl true)) (.op .in_ (.bor 1) (.con "DIGITS"))) .nil)))))) (.ret (.lit (.bl false))) .pass)
  (.ret (.or (.op .eq (.bor 0) (.lit (.str [48]))) (.op .ne (.idx (.bor 0) (.lit (.int 0))) (.lit (.str [48]))))))
theorem hc_is_number : cSs 80 ⟨R_is_number, defScope s_is_number, cellsS (defScope s_is_number), true⟩ (defBody s_is_number) = some ir_is_number := by kernel_rfl
theorem sc_is_number : FnScope ["word", "char"] ["word"] (defScope s_is_number) := ⟨rfl, rfl, rfl, by decide +kernel, rfl, by decide +kernel, by decide +kernel⟩
abbrev s_numbers_in : Stmt := top 10
def R_numbers_in : Rec := { N := ["word", "words", "number"], fns := ["is_number"] }
def ir_numbers_in : IS := (.seq (.asg (.nm 1) (.bm .split (.bor 0) (.cons (.lit (.str [44])) .nil)))
  (.seq (.ite (.not (.tru (.bi .all_ (.cons (.lc (.nm 2) [2] (.iv (.var 1)) (.lit (.bl true)) (.call "is_number" (.cons (.var 2) .nil))) .nil)))) (.ret (.lit .non)) .pass)
  (.ret (.bi .tuple_ (.cons (.lc (.nm 2) [2] (.iv (.var 1)) (.lit (.bl true)) (.bi .int_ (.cons (.bor 2) .nil))) .nil)))))
theorem hc_numbers_in : cSs 80 ⟨R_numbers_in, defScope s_numbers_in, cellsS (defScope s_numbers_in), true⟩ (defBody s_numbers_in) = some ir_numbers_in := by kernel_rfl
theorem sc_numbers_in : FnScope ["word", "words", "number"] ["word"] (defScope s_numbers_in) := ⟨rfl, rfl, rfl, by decide +kernel, rfl, by decide +kernel, by decide +kernel⟩
abbrev s_layer_in_word : Stmt := top 11
def R_layer_in_word : Rec := { N := ["word", "layer", "values", "found"], fns := ["numbers_in"], own := ["layer"] }
def ir_layer_in_word : IS := (.seq (.ite (.op .eq (.bor 0) (.lit (.str [46]))) (.ret (.tup .nil)) .pass)
  (.seq (.own 1 (.lst .nil))
  (.seq (.for_ (.nm 2) (.iv (.bm .split (.bor 0) (.cons (.lit (.str [47])) .nil))) (.seq (.asg (.nm 3) (.ite (.op .eq (.bor 2) (.lit (.str [45]))) (.tup .nil) (.call "numbers_in" (.cons (.var 2) .nil))))
  (.seq (.ite (.op .is_ (.bor 3) (.lit .non)) (.ret (.lit .non)) .pass)
  (.app 1 (.var 3)))))
  (.ret (.bi .tuple_ (.cons (.bor 1) .nil))))))
theorem hc_layer_in_word : cSs 80 ⟨R_layer_in_word, defScope s_layer_in_word, cellsS (defScope s_layer_in_word), true⟩ (defBody s_layer_in_word) = some ir_layer_in_word := by kernel_rfl
theorem sc_layer_in_word : FnScope ["word", "layer", "values", "found"] ["word"] (defScope s_layer_in_word) := ⟨rfl, rfl, rfl, by decide +kernel, rfl, by decide +kernel, by decide +kernel⟩
abbrev s_read_structure : Stmt := top 12
def R_read_structure : Rec := { N := ["text", "structure", "word"], fns := ["layer_in_word"], exs := ["InvalidPaper"] }
def ir_read_structure : IS := (.seq (.ite (.op .eq (.bor 0) (.lit (.str []))) (.ret (.tup .nil)) .pass)
  (.seq (.asg (.nm 1) (.lc (.nm 2) [2] (.iv (.bm .split (.bor 0) (.cons (.lit (.str [32])) .nil))) (.lit (.bl true)) (.call "layer_in_word" (.cons (.var 2) .nil))))
  (.seq (.ite (.op .in_ (.lit .non) (.bor 1)) (.raise "InvalidPaper" (.lit (.int 1))) .pass)
  (.ret (.bi .tuple_ (.cons (.bor 1) .nil))))))
theorem hc_read_structure : cSs 80 ⟨R_read_structure, defScope s_read_structure, cellsS (defScope s_read_structure), true⟩ (defBody s_read_structure) = some ir_read_structure := by kernel_rfl
theorem sc_read_structure : FnScope ["text", "structure", "word"] ["text"] (defScope s_read_structure) := ⟨rfl, rfl, rfl, by decide +kernel, rfl, by decide +kernel, by decide +kernel⟩
abbrev s_l_cell : Stmt := top 14
def R_l_cell : Rec := { N := ["_law_script", "_law_k"] }
def ir_l_cell : IS := (.seq (.ite (.op .lt (.bor 1) (.bi .len (.cons (.bor 0) .nil))) (.ret (.idx (.bor 0) (.bor 1))) .pass)
  (.ret (.lit (.int 0))))
theorem hc_l_cell : cSs 80 ⟨R_l_cell, defScope s_l_cell, cellsS (defScope s_l_cell), true⟩ (defBody s_l_cell) = some ir_l_cell := by kernel_rfl
theorem sc_l_cell : FnScope ["_law_script", "_law_k"] ["_law_script", "_law_k"] (defScope s_l_cell) := ⟨rfl, rfl, rfl, by decide +kernel, rfl, by decide +kernel, by decide +kernel⟩
abbrev s_l_digits : Stmt := top 15
def R_l_digits : Rec := { N := ["_law_cell_here", "_law_many", "_law_count", "_law_digits_here", "_law_rest", "_law_k", "_law_mixed"], own := ["_law_digits_here"] }
def ir_l_digits : IS := (.seq (.own 3 (.lst .nil))
  (.seq (.asg (.nm 4) (.var 0))
  (.seq (.for_ (.nm 5) (.irng1 (.var 2)) (.ite (.op .ge (.bor 0) (.op .pow (.lit (.int 10)) (.lit (.int 18)))) (.seq (.app 3 (.op .mod (.bi .int_ (.cons (.bor 4) .nil)) (.bor 1)))
  (.asg (.nm 4) (.op .fdiv (.bor 4) (.bor 1)))) (.seq (.asg (.nm 6) (.op .mod (.bi .int_ (.cons (.op .add (.op .add (.op .mul (.bor 0) (.lit (.int 48271))) (.op .mul (.bor 5) (.lit (.int 69621)))) (.lit (.int 1013))) .nil)) (.lit (.int 2147483647))))
  (.seq (.asg (.nm 6) (.op .mod (.bi .int_ (.cons (.op .add (.op .add (.op .mul (.bor 6) (.bor 6)) (.op .mul (.lit (.int 7)) (.bor 6))) (.bor 5)) .nil)) (.lit (.int 2147483629))))
  (.app 3 (.op .mod (.bi .int_ (.cons (.op .fdiv (.bor 6) (.lit (.int 31))) .nil)) (.bor 1)))))))
  (.seq (.fz [3])
  (.ret (.var 3))))))
theorem hc_l_digits : cSs 80 ⟨R_l_digits, defScope s_l_digits, cellsS (defScope s_l_digits), true⟩ (defBody s_l_digits) = some ir_l_digits := by kernel_rfl
theorem sc_l_digits : FnScope ["_law_cell_here", "_law_many", "_law_count", "_law_digits_here", "_law_rest", "_law_k", "_law_mixed"] ["_law_cell_here", "_law_many", "_law_count"] (defScope s_l_digits) := ⟨rfl, rfl, rfl, by decide +kernel, rfl, by decide +kernel, by decide +kernel⟩
abbrev s_l_layer_word : Stmt := top 16
def R_l_layer_word : Rec := { N := ["_law_layer_here", "_law_words", "_law_row", "_law_digit"], own := ["_law_words"] }
def ir_l_layer_word : IS := (.seq (.ite (.op .eq (.bi .len (.cons (.bor 0) .nil)) (.lit (.int 0))) (.ret (.lit (.str [46]))) .pass)
  (.seq (.own 1 (.lst .nil))
  (.seq (.for_ (.nm 2) (.iv (.var 0)) (.app 1 (.ite (.op .eq (.bi .len (.cons (.bor 2) .nil)) (.lit (.int 0))) (.lit (.str [45])) (.bm .join (.lit (.str [44])) (.cons (.lc (.nm 3) [3] (.iv (.var 2)) (.lit (.bl true)) (.bi .str_ (.cons (.bor 3) .nil))) .nil)))))
  (.ret (.bm .join (.lit (.str [47])) (.cons (.bor 1) .nil))))))
theorem hc_l_layer_word : cSs 80 ⟨R_l_layer_word, defScope s_l_layer_word, cellsS (defScope s_l_layer_word), true⟩ (defBody s_l_layer_word) = some ir_l_layer_word := by kernel_rfl
theorem sc_l_layer_word : FnScope ["_law_layer_here", "_law_words", "_law_row", "_law_digit"] ["_law_layer_here"] (defScope s_l_layer_word) := ⟨rfl, rfl, rfl, by decide +kernel, rfl, by decide +kernel, by decide +kernel⟩
abbrev s_l_numbers : Stmt := top 17
def R_l_numbers : Rec := { N := ["_law_digits_here", "_law_at", "_law_count", "_law_found", "_law_k", "_law_digit"], own := ["_law_found"] }
def ir_l_numbers : IS := (.seq (.own 3 (.lst .nil))
  (.seq (.for_ (.nm 4) (.irng1 (.var 2)) (.seq (.asg (.nm 5) (.idx (.bor 0) (.op .mod (.bi .int_ (.cons (.op .add (.bor 1) (.bor 4)) .nil)) (.bi .len (.cons (.bor 0) .nil)))))
  (.app 3 (.idx (.lst (.cons (.lit (.int 0)) (.cons (.lit (.int 1)) (.cons (.lit (.int 2)) (.cons (.lit (.int 10)) (.cons (.lit (.int 999999999)) (.cons (.lit (.int 7)) .nil))))))) (.op .mod (.bi .int_ (.cons (.bor 5) .nil)) (.lit (.int 6)))))))
  (.ret (.bi .tuple_ (.cons (.bor 3) .nil)))))
theorem hc_l_numbers : cSs 80 ⟨R_l_numbers, defScope s_l_numbers, cellsS (defScope s_l_numbers), true⟩ (defBody s_l_numbers) = some ir_l_numbers := by kernel_rfl
theorem sc_l_numbers : FnScope ["_law_digits_here", "_law_at", "_law_count", "_law_found", "_law_k", "_law_digit"] ["_law_digits_here", "_law_at", "_law_count"] (defScope s_l_numbers) := ⟨rfl, rfl, rfl, by decide +kernel, rfl, by decide +kernel, by decide +kernel⟩
abbrev s_l_any_layer : Stmt := top 18
def R_l_any_layer : Rec := { N := ["_law_digits_here", "_law_at", "_law_parts", "_law_k"], fns := ["_law_numbers"] }
def ir_l_any_layer : IS := (.ret (.bi .tuple_ (.cons (.lc (.nm 3) [3] (.irng1 (.var 2)) (.lit (.bl true)) (.call "_law_numbers" (.cons (.var 0) (.cons (.op .add (.bor 1) (.op .mul (.lit (.int 3)) (.bor 3))) (.cons (.op .mod (.bi .int_ (.cons (.idx (.bor 0) (.op .mod (.bi .int_ (.cons (.op .add (.bor 1) (.bor 3)) .nil)) (.bi .len (.cons (.bor 0) .nil)))) .nil)) (.lit (.int 3))) .nil))))) .nil)))
theorem hc_l_any_layer : cSs 80 ⟨R_l_any_layer, defScope s_l_any_layer, cellsS (defScope s_l_any_layer), true⟩ (defBody s_l_any_layer) = some ir_l_any_layer := by kernel_rfl
theorem sc_l_any_layer : FnScope ["_law_digits_here", "_law_at", "_law_parts", "_law_k"] ["_law_digits_here", "_law_at", "_law_parts"] (defScope s_l_any_layer) := ⟨rfl, rfl, rfl, by decide +kernel, rfl, by decide +kernel, by decide +kernel⟩
abbrev s_l_is_number : Stmt := top 19
def R_l_is_number : Rec := { N := ["_law_word", "_law_char"] }
def ir_l_is_number : IS := (.seq (.ite (.or (.op .eq (.bor 0) (.lit (.str []))) (.op .gt (.bi .len (.cons (.bor 0) .nil)) (.lit (.int 9)))) (.ret (.lit (.bl false))) .pass)
  (.seq (.for_ (.nm 1) (.iv (.var 0)) (.ite (.op .nin (.bor 1) (.lit (.str [48, 49, 50, 51, 52, 53, 54, 55, 56, 57]))) (.ret (.lit (.bl false))) .pass))
  (.ret (.or (.op .eq (.bor 0) (.lit (.str [48]))) (.op .ne (.idx (.bor 0) (.lit (.int 0))) (.lit (.str [48])))))))
theorem hc_l_is_number : cSs 80 ⟨R_l_is_number, defScope s_l_is_number, cellsS (defScope s_l_is_number), true⟩ (defBody s_l_is_number) = some ir_l_is_number := by kernel_rfl
theorem sc_l_is_number : FnScope ["_law_word", "_law_char"] ["_law_word"] (defScope s_l_is_number) := ⟨rfl, rfl, rfl, by decide +kernel, rfl, by decide +kernel, by decide +kernel⟩
abbrev s_l_layer : Stmt := top 20
def R_l_layer : Rec := { N := ["_law_word", "_law_layer_here", "_law_part", "_law_numbers_here", "_law_number"], fns := ["_law_is_number"], own := ["_law_layer_here"] }
def ir_l_layer : IS := (.seq (.ite (.op .eq (.bor 0) (.lit (.str [46]))) (.ret (.tup .nil)) .pass)
  (.seq (.own 1 (.lst .nil))
  (.seq (.for_ (.nm 2) (.iv (.bm .split (.bor 0) (.cons (.lit (.str [47])) .nil))) (.seq (.asg (.nm 3) (.bm .split (.bor 2) (.cons (.lit (.str [44])) .nil)))
  (.ite (.op .eq (.bor 2) (.lit (.str [45]))) (.app 1 (.tup .nil)) (.ite (.tru (.bi .all_ (.cons (.lc (.nm 4) [4] (.iv (.var 3)) (.lit (.bl true)) (.call "_law_is_number" (.cons (.var 4) .nil))) .nil))) (.app 1 (.bi .tuple_ (.cons (.lc (.nm 4) [4] (.iv (.var 3)) (.lit (.bl true)) (.bi .int_ (.cons (.bor 4) .nil))) .nil))) (.ret (.lit .non))))))
  (.ret (.bi .tuple_ (.cons (.bor 1) .nil))))))
theorem hc_l_layer : cSs 80 ⟨R_l_layer, defScope s_l_layer, cellsS (defScope s_l_layer), true⟩ (defBody s_l_layer) = some ir_l_layer := by kernel_rfl
theorem sc_l_layer : FnScope ["_law_word", "_law_layer_here", "_law_part", "_law_numbers_here", "_law_number"] ["_law_word"] (defScope s_l_layer) := ⟨rfl, rfl, rfl, by decide +kernel, rfl, by decide +kernel, by decide +kernel⟩
abbrev s_l_structure : Stmt := top 21
def R_l_structure : Rec := { N := ["_law_text", "_law_layers", "_law_word", "_law_layer_here"], fns := ["_law_layer"] }
def ir_l_structure : IS := (.seq (.ite (.op .eq (.bor 0) (.lit (.str []))) (.ret (.tup .nil)) .pass)
  (.seq (.asg (.nm 1) (.lc (.nm 2) [2] (.iv (.bm .split (.bor 0) (.cons (.lit (.str [32])) .nil))) (.lit (.bl true)) (.call "_law_layer" (.cons (.var 2) .nil))))
  (.seq (.for_ (.nm 3) (.iv (.var 1)) (.ite (.op .is_ (.bor 3) (.lit .non)) (.ret (.lit .non)) .pass))
  (.ret (.bi .tuple_ (.cons (.bor 1) .nil))))))
theorem hc_l_structure : cSs 80 ⟨R_l_structure, defScope s_l_structure, cellsS (defScope s_l_structure), true⟩ (defBody s_l_structure) = some ir_l_structure := by kernel_rfl
theorem sc_l_structure : FnScope ["_law_text", "_law_layers", "_law_word", "_law_layer_here"] ["_law_text"] (defScope s_l_structure) := ⟨rfl, rfl, rfl, by decide +kernel, rfl, by decide +kernel, by decide +kernel⟩
abbrev s_l_refused : Stmt := top 22
def R_l_refused : Rec := { N := ["_law_text", "_law_line", "e"], fns := ["read_structure"], nms := ["InvalidPaper", "CensusError"], xv := ["e"] }
def ir_l_refused : IS := (.seq (.asg (.nm 1) (.lit (.int 0)))
  (.seq (.try_ (.ex (.call "read_structure" (.cons (.var 0) .nil))) "InvalidPaper" (some 2) (.asg (.nm 1) (.ite (.tru (.xis 2 "CensusError")) (.xf 2 "line") (.op .sub (.lit (.int 0)) (.lit (.int 1))))))
  (.ret (.var 1))))
theorem hc_l_refused : cSs 80 ⟨R_l_refused, defScope s_l_refused, cellsS (defScope s_l_refused), true⟩ (defBody s_l_refused) = some ir_l_refused := by kernel_rfl
theorem sc_l_refused : FnScope ["_law_text", "_law_line", "e"] ["_law_text"] (defScope s_l_refused) := ⟨rfl, rfl, rfl, by decide +kernel, rfl, by decide +kernel, by decide +kernel⟩
abbrev s_law : Stmt := top 23
def R_law : Rec := { N := ["_law_script", "_law_digits_here", "_law_parts", "_law_structure_here", "_law_k", "_law_text", "_law_layer_here", "_law_change", "_law_place", "_law_char", "_law_due"], fns := ["_law_digits", "_law_structure", "_law_cell", "read_structure", "_law_any_layer", "_law_layer_word", "write_structure", "_law_refused"] }
def ir_law : IS := (.seq (.asg (.nm 1) (.call "_law_digits" (.cons (.call "_law_cell" (.cons (.var 0) (.cons (.lit (.int 0)) .nil))) (.cons (.lit (.int 60)) (.cons (.lit (.int 40)) .nil)))))
  (.seq (.asg (.nm 2) (.op .mod (.bi .int_ (.cons (.idx (.bor 1) (.lit (.int 0))) .nil)) (.lit (.int 4))))
  (.seq (.asg (.nm 3) (.bi .tuple_ (.cons (.lc (.nm 4) [4] (.irng1 (.op .mod (.bi .int_ (.cons (.idx (.bor 1) (.lit (.int 1))) .nil)) (.lit (.int 5)))) (.lit (.bl true)) (.call "_law_any_layer" (.cons (.var 1) (.cons (.op .add (.op .mul (.lit (.int 5)) (.bor 4)) (.lit (.int 2))) (.cons (.var 2) .nil))))) .nil)))
  (.seq (.asg (.nm 5) (.bm .join (.lit (.str [32])) (.cons (.lc (.nm 6) [6] (.iv (.var 3)) (.lit (.bl true)) (.call "_law_layer_word" (.cons (.var 6) .nil))) .nil)))
  (.seq (.ite (.or (.op .ne (.call "write_structure" (.cons (.var 3) .nil)) (.bor 5)) (.op .ne (.call "read_structure" (.cons (.var 5) .nil)) (.bor 3))) (.ret (.lit (.bl false))) .pass)
  (.seq (.asg (.nm 7) (.op .mod (.bi .int_ (.cons (.call "_law_cell" (.cons (.var 0) (.cons (.lit (.int 1)) .nil))) .nil)) (.lit (.int 6))))
  (.seq (.asg (.nm 8) (.op .mod (.bi .int_ (.cons (.op .fdiv (.call "_law_cell" (.cons (.var 0) (.cons (.lit (.int 1)) .nil))) (.lit (.int 6))) .nil)) (.op .add (.bi .len (.cons (.bor 5) .nil)) (.lit (.int 1)))))
  (.seq (.asg (.nm 9) (.idx (.lit (.str [32, 48, 44, 47, 45, 46, 49, 9, 101, 57])) (.op .mod (.bi .int_ (.cons (.call "_law_cell" (.cons (.var 0) (.cons (.lit (.int 2)) .nil))) .nil)) (.lit (.int 10)))))
  (.seq (.ite (.op .lt (.bor 7) (.lit (.int 3))) (.asg (.nm 5) (.op .add (.op .add (.sl (.bor 5) .nop (.bor 8)) (.idx (.lst (.cons (.lit (.str [])) (.cons (.var 9) (.cons (.var 9) .nil)))) (.bor 7))) (.sl (.bor 5) (.op .add (.bor 8) (.idx (.lst (.cons (.lit (.int 1)) (.cons (.lit (.int 1)) (.cons (.lit (.int 0)) .nil)))) (.bor 7))) .nop))) .pass)
  (.seq (.asg (.nm 10) (.call "_law_structure" (.cons (.var 5) .nil)))
  (.seq (.ite (.op .is_ (.bor 10) (.lit .non)) (.ret (.op .eq (.call "_law_refused" (.cons (.var 5) .nil)) (.lit (.int 1)))) .pass)
  (.ret (.op .eq (.call "read_structure" (.cons (.var 5) .nil)) (.bor 10))))))))))))))
theorem hc_law : cSs 80 ⟨R_law, defScope s_law, cellsS (defScope s_law), true⟩ (defBody s_law) = some ir_law := by kernel_rfl
theorem sc_law : FnScope ["_law_script", "_law_digits_here", "_law_parts", "_law_structure_here", "_law_k", "_law_text", "_law_layer_here", "_law_change", "_law_place", "_law_char", "_law_due"] ["_law_script"] (defScope s_law) := ⟨rfl, rfl, rfl, by decide +kernel, rfl, by decide +kernel, by decide +kernel⟩
/-! ### what is computed -/
def nums (l : List Nat) : D := .tup (l.map fun n : Nat => D.int (n : Int))
def lay (L : List (List Nat)) : D := .tup (L.map nums)
def stru (S : List (List (List Nat))) : D := .tup (S.map lay)
def wNums (l : List Nat) : List Nat := TL.joinL [44] (l.map TL.numL)
def wLayer (L : List (List Nat)) : List Nat := if L = [] then [46] else TL.joinL [47] (L.map fun v => if v = [] then [45] else wNums v)
def wStru (S : List (List (List Nat))) : List Nat := TL.joinL [32] (S.map wLayer)
def okNums (l : List Nat) : Prop := l.length ≤ 10 ∧ ∀ n ∈ l, n < 10 ^ 9
def okLay (L : List (List Nat)) : Prop := L.length ≤ 10 ∧ ∀ l ∈ L, okNums l
def okStru (S : List (List (List Nat))) : Prop := S.length ≤ 10 ∧ ∀ l ∈ S, okLay l
def mapO {α β : Type} (f : α → Option β) : List α → Option (List β)
  | [] => some []
  | x :: xs => match f x with
    | some y => (mapO f xs).map (y :: ·)
    | none => none
def isDig (c : Nat) : Bool := decide (c ∈ [48, 49, 50, 51, 52, 53, 54, 55, 56, 57])
def isNum (w : List Nat) : Bool := if (w.isEmpty || decide (9 < w.length) || !w.all isDig) = true then false else decide (w = [48]) || !decide ([w.headD 0] = [48])
def numsIn (w : List Nat) : Option (List Nat) := if ((splitC 44 w).all isNum) = true then some ((splitC 44 w).map NumText.digitsVal) else none
def layIn (w : List Nat) : Option (List (List Nat)) := if w = [46] then some [] else mapO (fun v => if v = [45] then some [] else numsIn v) (splitC 47 w)
def struIn (w : List Nat) : Option (List (List (List Nat))) := if w = [] then some [] else mapO layIn (splitC 32 w)
def optD {α : Type} (f : α → D) : Option α → D
  | some a => f a
  | none => .non
/-! ### the promises -/
def S_joined : Spec := fun ds Ω Qd _ => ∃ l, ds = [nums l] ∧ okNums l ∧ Qd (.str (wNums l)) Ω
def S_layer_word : Spec := fun ds Ω Qd _ => ∃ L, ds = [lay L] ∧ okLay L ∧ Qd (.str (wLayer L)) Ω
def S_write_structure : Spec := fun ds Ω Qd _ => ∃ S, ds = [stru S] ∧ okStru S ∧ Qd (.str (wStru S)) Ω
def S_is_number : Spec := fun ds Ω Qd _ => ∃ w, ds = [.str w] ∧ w.length ≤ 1000000 ∧ Qd (.bl (isNum w)) Ω
def S_numbers_in : Spec := fun ds Ω Qd _ => ∃ w, ds = [.str w] ∧ w.length ≤ 1000000 ∧ Qd (optD nums (numsIn w)) Ω
def S_layer_in_word : Spec := fun ds Ω Qd _ => ∃ w, ds = [.str w] ∧ w.length ≤ 1000000 ∧ Qd (optD lay (layIn w)) Ω
def S_read_structure : Spec := fun ds Ω Qd Ed => ∃ w, ds = [.str w] ∧ w.length ≤ 1000000 ∧ (∀ S, struIn w = some S → Qd (stru S) Ω) ∧ (struIn w = none → Ed "InvalidPaper" (.int 1) Ω)
def S_l_cell : Spec := fun ds Ω Qd _ => ∃ (ns : List Int) (i : Nat), ds = [.scr ns, .int i] ∧ ns.length ≤ 63 ∧ Qd (.int (ns.getD i 0)) Ω
def S_l_digits : Spec := fun ds Ω Qd _ => ∃ c : Int, ds = [.int c, .int 60, .int 40] ∧ ∀ l : List Int, l.length = 40 → (∀ x ∈ l, 0 ≤ x ∧ x < 60) → Qd (.lst (l.map .int)) Ω
def S_l_layer_word : Spec := S_layer_word
def S_l_numbers : Spec := fun ds Ω Qd _ => ∃ (l : List Int) (a c : Int), ds = [.lst (l.map .int), .int a, .int c] ∧ l.length = 40 ∧ 0 ≤ a ∧ 0 ≤ c ∧ c ≤ 2 ∧ ∀ r, okNums r → Qd (nums r) Ω
def S_l_any_layer : Spec := fun ds Ω Qd _ => ∃ (l : List Int) (a c : Int), ds = [.lst (l.map .int), .int a, .int c] ∧ l.length = 40 ∧ 0 ≤ a ∧ 0 ≤ c ∧ c ≤ 3 ∧ ∀ L, okLay L → Qd (lay L) Ω
def S_l_is_number : Spec := S_is_number
def S_l_layer : Spec := S_layer_in_word
def S_l_structure : Spec := fun ds Ω Qd _ => ∃ w, ds = [.str w] ∧ w.length ≤ 1000000 ∧ Qd (optD stru (struIn w)) Ω
def S_l_refused : Spec := fun ds Ω Qd _ => ∃ w, ds = [.str w] ∧ w.length ≤ 1000000 ∧ Qd (.int (if (struIn w).isNone = true then 1 else 0)) Ω
def TB : Tab where
  fn := fun _ => none
  me := fun _ _ => none
  ini := fun _ => none
  con := fun x => if x = "MOST_DIGITS" then some (.int 9) else if x = "DIGITS" then some (.str [48, 49, 50, 51, 52, 53, 54, 55, 56, 57]) else none
  exf := fun c => if c = "InvalidPaper" then some "line" else none
  xm := fun _ d => ∃ i : Int, d = .int i ∧ 0 ≤ i ∧ i < 10 ^ 200
  sub := fun x c => if x = "InvalidPaper" ∧ (c = "InvalidPaper" ∨ c = "CensusError") then some true else none
  fl := fun _ _ => false
def NMS : List Str := ["InvalidPaper", "CensusError"]
theorem tok_joined : TOk R_joined TB := ⟨fun _ h => (by cases h), fun _ h => (by cases h), fun _ h => (by cases h), fun _ _ h => (by cases h), fun _ h => (by cases h)⟩
def T1 : Tab := TB.addF "joined" ⟨4, 1, S_joined⟩
theorem tf_layer_word_joined : T1.fn "joined" = some ⟨4, 1, S_joined⟩ := by kernel_rfl
theorem tok_layer_word : TOk R_layer_word T1 := ⟨List.forall_mem_cons.mpr ⟨⟨_, tf_layer_word_joined⟩, fun _ h => (by cases h)⟩, fun _ h => (by cases h), fun _ h => (by cases h), fun _ _ h => (by cases h), fun _ h => (by cases h)⟩
def T2 : Tab := T1.addF "layer_word" ⟨5, 1, S_layer_word⟩
theorem tf_write_structure_layer_word : T2.fn "layer_word" = some ⟨5, 1, S_layer_word⟩ := by kernel_rfl
theorem tok_write_structure : TOk R_write_structure T2 := ⟨List.forall_mem_cons.mpr ⟨⟨_, tf_write_structure_layer_word⟩, fun _ h => (by cases h)⟩, fun _ h => (by cases h), fun _ h => (by cases h), fun _ _ h => (by cases h), fun _ h => (by cases h)⟩
def T3 : Tab := T2.addF "write_structure" ⟨6, 1, S_write_structure⟩
theorem tok_is_number : TOk R_is_number T3 := ⟨fun _ h => (by cases h), fun _ h => (by cases h), List.forall_mem_cons.mpr ⟨Option.isSome_iff_exists.mp (by kernel_rfl), List.forall_mem_cons.mpr ⟨Option.isSome_iff_exists.mp (by kernel_rfl), fun _ h => (by cases h)⟩⟩, fun _ _ h => (by cases h), fun _ h => (by cases h)⟩
def T4 : Tab := T3.addF "is_number" ⟨7, 1, S_is_number⟩
theorem tf_numbers_in_is_number : T4.fn "is_number" = some ⟨7, 1, S_is_number⟩ := by kernel_rfl
theorem tok_numbers_in : TOk R_numbers_in T4 := ⟨List.forall_mem_cons.mpr ⟨⟨_, tf_numbers_in_is_number⟩, fun _ h => (by cases h)⟩, fun _ h => (by cases h), fun _ h => (by cases h), fun _ _ h => (by cases h), fun _ h => (by cases h)⟩
def T5 : Tab := T4.addF "numbers_in" ⟨8, 1, S_numbers_in⟩
theorem tf_layer_in_word_numbers_in : T5.fn "numbers_in" = some ⟨8, 1, S_numbers_in⟩ := by kernel_rfl
theorem tok_layer_in_word : TOk R_layer_in_word T5 := ⟨List.forall_mem_cons.mpr ⟨⟨_, tf_layer_in_word_numbers_in⟩, fun _ h => (by cases h)⟩, fun _ h => (by cases h), fun _ h => (by cases h), fun _ _ h => (by cases h), fun _ h => (by cases h)⟩
def T6 : Tab := T5.addF "layer_in_word" ⟨9, 1, S_layer_in_word⟩
theorem tf_read_structure_layer_in_word : T6.fn "layer_in_word" = some ⟨9, 1, S_layer_in_word⟩ := by kernel_rfl
theorem tok_read_structure : TOk R_read_structure T6 := ⟨List.forall_mem_cons.mpr ⟨⟨_, tf_read_structure_layer_in_word⟩, fun _ h => (by cases h)⟩, fun _ h => (by cases h), fun _ h => (by cases h), fun _ _ h => (by cases h), List.forall_mem_cons.mpr ⟨Option.isSome_iff_exists.mp (by kernel_rfl), fun _ h => (by cases h)⟩⟩
def T7 : Tab := T6.addF "read_structure" ⟨10, 1, S_read_structure⟩
theorem tok_l_cell : TOk R_l_cell T7 := ⟨fun _ h => (by cases h), fun _ h => (by cases h), fun _ h => (by cases h), fun _ _ h => (by cases h), fun _ h => (by cases h)⟩
def T8 : Tab := T7.addF "_law_cell" ⟨11, 2, S_l_cell⟩
theorem tok_l_digits : TOk R_l_digits T8 := ⟨fun _ h => (by cases h), fun _ h => (by cases h), fun _ h => (by cases h), fun _ _ h => (by cases h), fun _ h => (by cases h)⟩
def T9 : Tab := T8.addF "_law_digits" ⟨12, 3, S_l_digits⟩
theorem tok_l_layer_word : TOk R_l_layer_word T9 := ⟨fun _ h => (by cases h), fun _ h => (by cases h), fun _ h => (by cases h), fun _ _ h => (by cases h), fun _ h => (by cases h)⟩
def T10 : Tab := T9.addF "_law_layer_word" ⟨13, 1, S_l_layer_word⟩
theorem tok_l_numbers : TOk R_l_numbers T10 := ⟨fun _ h => (by cases h), fun _ h => (by cases h), fun _ h => (by cases h), fun _ _ h => (by cases h), fun _ h => (by cases h)⟩
def T11 : Tab := T10.addF "_law_numbers" ⟨14, 3, S_l_numbers⟩
theorem tf_l_any_layer_l_numbers : T11.fn "_law_numbers" = some ⟨14, 3, S_l_numbers⟩ := by kernel_rfl
theorem tok_l_any_layer : TOk R_l_any_layer T11 := ⟨List.forall_mem_cons.mpr ⟨⟨_, tf_l_any_layer_l_numbers⟩, fun _ h => (by cases h)⟩, fun _ h => (by cases h), fun _ h => (by cases h), fun _ _ h => (by cases h), fun _ h => (by cases h)⟩
def T12 : Tab := T11.addF "_law_any_layer" ⟨15, 3, S_l_any_layer⟩
theorem tok_l_is_number : TOk R_l_is_number T12 := ⟨fun _ h => (by cases h), fun _ h => (by cases h), fun _ h => (by cases h), fun _ _ h => (by cases h), fun _ h => (by cases h)⟩
def T13 : Tab := T12.addF "_law_is_number" ⟨16, 1, S_l_is_number⟩
theorem tf_l_layer_l_is_number : T13.fn "_law_is_number" = some ⟨16, 1, S_l_is_number⟩ := by kernel_rfl
theorem tok_l_layer : TOk R_l_layer T13 := ⟨List.forall_mem_cons.mpr ⟨⟨_, tf_l_layer_l_is_number⟩, fun _ h => (by cases h)⟩, fun _ h => (by cases h), fun _ h => (by cases h), fun _ _ h => (by cases h), fun _ h => (by cases h)⟩
def T14 : Tab := T13.addF "_law_layer" ⟨17, 1, S_l_layer⟩
theorem tf_l_structure_l_layer : T14.fn "_law_layer" = some ⟨17, 1, S_l_layer⟩ := by kernel_rfl
theorem tok_l_structure : TOk R_l_structure T14 := ⟨List.forall_mem_cons.mpr ⟨⟨_, tf_l_structure_l_layer⟩, fun _ h => (by cases h)⟩, fun _ h => (by cases h), fun _ h => (by cases h), fun _ _ h => (by cases h), fun _ h => (by cases h)⟩
def T15 : Tab := T14.addF "_law_structure" ⟨18, 1, S_l_structure⟩
theorem tf_l_refused_read_structure : T15.fn "read_structure" = some ⟨10, 1, S_read_structure⟩ := by kernel_rfl
theorem tok_l_refused : TOk R_l_refused T15 := ⟨List.forall_mem_cons.mpr ⟨⟨_, tf_l_refused_read_structure⟩, fun _ h => (by cases h)⟩, fun _ h => (by cases h), fun _ h => (by cases h), fun _ _ h => (by cases h), fun _ h => (by cases h)⟩
def T16 : Tab := T15.addF "_law_refused" ⟨19, 1, S_l_refused⟩
theorem tf_law_l_digits : T16.fn "_law_digits" = some ⟨12, 3, S_l_digits⟩ := by kernel_rfl
theorem tf_law_l_structure : T16.fn "_law_structure" = some ⟨18, 1, S_l_structure⟩ := by kernel_rfl
theorem tf_law_l_cell : T16.fn "_law_cell" = some ⟨11, 2, S_l_cell⟩ := by kernel_rfl
theorem tf_law_read_structure : T16.fn "read_structure" = some ⟨10, 1, S_read_structure⟩ := by kernel_rfl
theorem tf_law_l_any_layer : T16.fn "_law_any_layer" = some ⟨15, 3, S_l_any_layer⟩ := by kernel_rfl
theorem tf_law_l_layer_word : T16.fn "_law_layer_word" = some ⟨13, 1, S_l_layer_word⟩ := by kernel_rfl
theorem tf_law_write_structure : T16.fn "write_structure" = some ⟨6, 1, S_write_structure⟩ := by kernel_rfl
theorem tf_law_l_refused : T16.fn "_law_refused" = some ⟨19, 1, S_l_refused⟩ := by kernel_rfl
theorem tok_law : TOk R_law T16 := ⟨List.forall_mem_cons.mpr ⟨⟨_, tf_law_l_digits⟩, List.forall_mem_cons.mpr ⟨⟨_, tf_law_l_structure⟩, List.forall_mem_cons.mpr ⟨⟨_, tf_law_l_cell⟩, List.forall_mem_cons.mpr ⟨⟨_, tf_law_read_structure⟩, List.forall_mem_cons.mpr ⟨⟨_, tf_law_l_any_layer⟩, List.forall_mem_cons.mpr ⟨⟨_, tf_law_l_layer_word⟩, List.forall_mem_cons.mpr ⟨⟨_, tf_law_write_structure⟩, List.forall_mem_cons.mpr ⟨⟨_, tf_law_l_refused⟩, fun _ h => (by cases h)⟩⟩⟩⟩⟩⟩⟩⟩, fun _ h => (by cases h), fun _ h => (by cases h), fun _ _ h => (by cases h), fun _ h => (by cases h)⟩
end OE
namespace OE
open PySem PySem.Spec PyProof.Rows L2
theorem len_wNums {l : List Nat} (h : okNums l) : (wNums l).length ≤ 200 := by
  have h1 := joinL_len [44] (l.map TL.numL)
  have h2 : ((l.map TL.numL).map List.length).sum ≤ 10 * 9 := by
    refine Nat.le_trans (sum_le (b := 9) fun x hx => ?_) ?_
    · simp only [List.map_map, List.mem_map, Function.comp] at hx
      obtain ⟨n, hn, rfl⟩ := hx
      exact TL.numL_len (by decide) (h.2 n hn)
    · simp only [List.length_map]
      have := h.1; omega
  have h3 := h.1
  unfold wNums
  simp only [List.length_map, List.length_singleton] at h1
  omega
def strN : D → D
  | .int i => .str (TL.numL i.toNat)
  | d => d
theorem nums_mem {l : List Nat} {d : D} (h : d ∈ l.map fun n : Nat => D.int (n : Int)) : ∃ n ∈ l, d = .int (n : Int) := by
  obtain ⟨n, hn, e⟩ := List.mem_map.mp h
  exact ⟨n, hn, e.symm⟩
theorem p_joined : ∀ ds Ω Qd Ed, ds.length = 1 → S_joined ds Ω Qd Ed → wS TB ir_joined (rho0 R_joined.N ds) Ω (En0 Qd Ed) := by
  rintro ds Ω Qd Ed _ ⟨l, rfl, hl, hq⟩
  show wS TB ir_joined [.val (nums l), .un] Ω (En0 Qd Ed)
  unfold ir_joined
  refine ⟨⟨_, rfl⟩, _, rfl, _, rfl, _, rfl, wLoop_map strN _ _ ?_ (fun d hd acc K hz hk => ?_) ⟨_, rfl, _, rfl, ?_⟩⟩
  · have := hl.1; simp [LINE]; omega
  · obtain ⟨n, hn, rfl⟩ := nums_mem hd
    have := hl.2 n hn
    have h9 : ((n : Nat) : Int) < 10 ^ 9 := by omega
    exact ⟨_, rfl, _, rfl, _, .inl rfl, _, rfl, _, rfl, ⟨Int.natCast_nonneg n, Int.lt_of_lt_of_le h9 (by decide)⟩, hz, hk⟩
  · have e : [] ++ (l.map fun n : Nat => D.int (n : Int)).map strN = (l.map TL.numL).map D.str := by
      simp [strN, List.map_map, Function.comp_def]
    rw [e]
    refine ⟨_, strsOf_map _, ?_, hq⟩
    have h2 : ((l.map TL.numL).map List.length).sum ≤ 10 * 9 := by
      refine Nat.le_trans (sum_le (b := 9) fun x hx => ?_) ?_
      · simp only [List.map_map, List.mem_map, Function.comp] at hx
        obtain ⟨n, hn, rfl⟩ := hx
        exact TL.numL_len (by decide) (hl.2 n hn)
      · simp only [List.length_map]
        have := hl.1; omega
    have := hl.1
    simp only [List.length_map, List.length_singleton, LINE]; omega
theorem isEmpty_map {α β : Type} (f : α → β) (l : List α) : (l.map f).isEmpty = l.isEmpty := by cases l <;> rfl
def rowW : D → D
  | .tup ds => if ds.isEmpty = true then .str [45] else .str (TL.joinL [44] ((intsOf ds).getD [] |>.map fun i => TL.numL i.toNat))
  | d => d
theorem rowW_nums (v : List Nat) : rowW (nums v) = .str (if v = [] then [45] else wNums v) := by
  have e : (v.map fun n : Nat => D.int (n : Int)) = (v.map fun n : Nat => (n : Int)).map D.int := by simp [List.map_map, Function.comp_def]
  cases v with
  | nil => rfl
  | cons n v =>
    show (if ((n :: v).map fun n : Nat => D.int (n : Int)).isEmpty = true then D.str [45] else .str (TL.joinL [44] ((intsOf ((n :: v).map fun n : Nat => D.int (n : Int))).getD [] |>.map fun i => TL.numL i.toNat))) = _
    rw [e, intsOf_map]
    simp [wNums, List.map_map, Function.comp_def]
theorem lay_mem {L : List (List Nat)} {d : D} (h : d ∈ L.map nums) : ∃ v ∈ L, d = nums v := by
  obtain ⟨v, hv, e⟩ := List.mem_map.mp h
  exact ⟨v, hv, e.symm⟩
theorem len_wLayer {L : List (List Nat)} (h : okLay L) : (wLayer L).length ≤ 2100 := by
  unfold wLayer
  split
  · simp
  · have h1 := joinL_len [47] (L.map fun v => if v = [] then [45] else wNums v)
    have h2 : ((L.map fun v => if v = [] then [45] else wNums v).map List.length).sum ≤ 10 * 200 := by
      refine Nat.le_trans (sum_le (b := 200) fun x hx => ?_) ?_
      · simp only [List.map_map, List.mem_map, Function.comp] at hx
        obtain ⟨v, hv, rfl⟩ := hx
        split
        · simp
        · exact len_wNums (h.2 v hv)
      · simp only [List.length_map]
        have := h.1; omega
    have := h.1
    simp only [List.length_map, List.length_singleton] at h1
    omega
theorem lay_sum {L : List (List Nat)} (h : okLay L) : ((L.map fun v => if v = [] then [45] else wNums v).map List.length).sum ≤ 10 * 200 := by
  refine Nat.le_trans (sum_le (b := 200) fun x hx => ?_) ?_
  · simp only [List.map_map, List.mem_map, Function.comp] at hx
    obtain ⟨v, hv, rfl⟩ := hx
    split
    · simp
    · exact len_wNums (h.2 v hv)
  · simp only [List.length_map]
    have := h.1; omega
theorem p_layer_word : ∀ ds Ω Qd Ed, ds.length = 1 → S_layer_word ds Ω Qd Ed → wS T1 ir_layer_word (rho0 R_layer_word.N ds) Ω (En0 Qd Ed) := by
  rintro ds Ω Qd Ed _ ⟨L, rfl, hl, hq⟩
  show wS T1 ir_layer_word [.val (lay L), .un] Ω (En0 Qd Ed)
  unfold ir_layer_word
  refine ⟨_, .inl rfl, _, rfl, _, rfl, ?_⟩
  show if (!!(L.map nums).isEmpty) = true then _ else _
  rw [Bool.not_not, isEmpty_map]
  cases L with
  | nil => exact hq
  | cons v0 L0 =>
    rw [if_neg (by simp)]
    generalize hL : v0 :: L0 = L at *
    have hne : L ≠ [] := by rw [← hL]; simp
    refine ⟨⟨_, rfl⟩, _, rfl, _, rfl, _, rfl, wLoop_map rowW _ _ ?_ (fun d hd acc K hz hk => ?_) ⟨_, rfl, _, rfl, ?_⟩⟩
    · have := hl.1; simp [LINE]; omega
    · obtain ⟨v, hv, rfl⟩ := lay_mem hd
      refine ⟨_, rfl, _, rfl, _, .inl rfl, _, rfl, ?_⟩
      show if (!(v.map fun n : Nat => D.int (n : Int)).isEmpty) = true then _ else _
      rw [isEmpty_map]
      rw [rowW_nums] at hk
      cases v with
      | nil => exact ⟨hz, hk⟩
      | cons n v =>
        rw [if_pos (by simp)]
        exact ⟨_, rfl, _, rfl, _, _, rfl, tf_layer_word_joined, rfl, _, rfl, hl.2 _ hv, hz, hk⟩
    · have e : [] ++ (L.map nums).map rowW = (L.map fun v => if v = [] then [45] else wNums v).map D.str := by
        simp only [List.nil_append, List.map_map, Function.comp_def, rowW_nums]
      rw [e]
      refine ⟨_, strsOf_map _, ?_, ?_⟩
      · have := lay_sum hl
        have := hl.1
        simp only [List.length_map, List.length_singleton, LINE]; omega
      · unfold wLayer at hq
        rw [if_neg hne] at hq
        exact hq
def layW : D → D
  | .tup ds => if ds.isEmpty = true then .str [46] else .str (TL.joinL [47] ((strsOf (ds.map rowW)).getD []))
  | d => d
theorem layW_lay (L : List (List Nat)) : layW (lay L) = .str (wLayer L) := by
  unfold wLayer
  cases L with
  | nil => rfl
  | cons v L =>
    have e : ((v :: L).map nums).map rowW = ((v :: L).map fun v => if v = [] then [45] else wNums v).map D.str := by
      simp only [List.map_map, Function.comp_def, rowW_nums]
    show (if ((v :: L).map nums).isEmpty = true then D.str [46] else .str (TL.joinL [47] ((strsOf (((v :: L).map nums).map rowW)).getD []))) = _
    rw [e, strsOf_map, if_neg (by simp), if_neg (by simp)]; rfl
theorem stru_mem {S : List (List (List Nat))} {d : D} (h : d ∈ S.map lay) : ∃ v ∈ S, d = lay v := by
  obtain ⟨v, hv, e⟩ := List.mem_map.mp h
  exact ⟨v, hv, e.symm⟩
theorem stru_sum {S : List (List (List Nat))} (h : okStru S) : ((S.map wLayer).map List.length).sum ≤ 10 * 2100 := by
  refine Nat.le_trans (sum_le (b := 2100) fun x hx => ?_) ?_
  · simp only [List.map_map, List.mem_map, Function.comp] at hx
    obtain ⟨v, hv, rfl⟩ := hx
    exact len_wLayer (h.2 v hv)
  · simp only [List.length_map]
    have := h.1; omega
theorem len_wStru {S : List (List (List Nat))} (h : okStru S) : (wStru S).length ≤ 22000 := by
  have h1 := joinL_len [32] (S.map wLayer)
  have := stru_sum h
  have := h.1
  unfold wStru
  simp only [List.length_map, List.length_singleton] at h1
  omega
theorem p_write_structure : ∀ ds Ω Qd Ed, ds.length = 1 → S_write_structure ds Ω Qd Ed → wS T2 ir_write_structure (rho0 R_write_structure.N ds) Ω (En0 Qd Ed) := by
  rintro ds Ω Qd Ed _ ⟨S, rfl, hl, hq⟩
  show wS T2 ir_write_structure [.val (stru S), .un] Ω (En0 Qd Ed)
  unfold ir_write_structure
  refine ⟨⟨_, rfl⟩, _, rfl, _, rfl, _, rfl, wLoop_map layW _ _ ?_ (fun d hd acc K hz hk => ?_) ⟨_, rfl, _, rfl, ?_⟩⟩
  · have := hl.1; simp [LINE]; omega
  · obtain ⟨v, hv, rfl⟩ := stru_mem hd
    rw [layW_lay] at hk
    exact ⟨_, rfl, _, rfl, _, rfl, _, rfl, _, _, rfl, tf_write_structure_layer_word, rfl, _, rfl, hl.2 _ hv, hz, hk⟩
  · have e : [] ++ (S.map lay).map layW = (S.map wLayer).map D.str := by
      simp only [List.nil_append, List.map_map, Function.comp_def, layW_lay]
    rw [e]
    refine ⟨_, strsOf_map _, ?_, hq⟩
    have := stru_sum hl
    have := hl.1
    simp only [List.length_map, List.length_singleton, LINE]; omega
theorem con_md : TB.con "MOST_DIGITS" = some (.int 9) := by kernel_rfl
theorem con_dg : TB.con "DIGITS" = some (.str [48, 49, 50, 51, 52, 53, 54, 55, 56, 57]) := by kernel_rfl
def digD : D → D
  | .str [c] => .bl (isDig c)
  | d => d
theorem p_is_number : ∀ ds Ω Qd Ed, ds.length = 1 → S_is_number ds Ω Qd Ed → wS T3 ir_is_number (rho0 R_is_number.N ds) Ω (En0 Qd Ed) := by
  rintro ds Ω Qd Ed _ ⟨w, rfl, hl, hq⟩
  show wS T3 ir_is_number [.val (.str w), .un] Ω (En0 Qd Ed)
  unfold ir_is_number
  have hL : w.length ≤ LINE := by unfold LINE; omega
  refine ⟨_, .inl rfl, _, rfl, ?_⟩
  by_cases hw : w = []
  · rw [if_pos (by simpa using hw)]
    subst hw
    exact ⟨_, rfl, hq⟩
  rw [if_neg (by simpa using hw)]
  refine ⟨_, .inl rfl, _, rfl, _, rfl, hL, _, con_md, _, rfl, ?_⟩
  have hwe : w.isEmpty = false := by cases w <;> simp_all
  by_cases h9 : 9 < w.length
  · rw [if_pos (by rw [decide_eq_true_iff]; omega)]
    refine ⟨_, rfl, ?_⟩
    unfold isNum at hq
    rw [if_pos (by simp [h9])] at hq
    exact hq
  rw [if_neg (by rw [decide_eq_true_iff]; omega)]
  refine ⟨_, rfl, _, rfl, _, rfl, wLoop_map digD _ _ ?_ (fun d hd acc K hz hk => ?_) ⟨_, rfl, _, rfl, ?_⟩⟩
  · simp only [List.length_map, List.length_nil, LINE]; omega
  · obtain ⟨c, hc, rfl⟩ := List.mem_map.mp hd
    exact ⟨_, rfl, _, rfl, _, .inl rfl, _, con_dg, hz, hk⟩
  have e : [] ++ (w.map fun c => D.str [c]).map digD = (w.map isDig).map D.bl := by
    simp [List.map_map, Function.comp_def, digD]
  rw [e]
  refine ⟨_, blsOf_map _, _, rfl, _, rfl, ?_⟩
  have ea : (w.map isDig).all id = w.all isDig := by simp [List.all_map, Function.comp_def]
  rw [ea]
  unfold isNum at hq
  rw [hwe] at hq
  have h9' : decide (9 < w.length) = false := by simpa using h9
  rw [h9'] at hq
  cases hd : w.all isDig with
  | false => rw [hd] at hq; exact hq
  | true =>
    rw [hd] at hq
    refine ⟨_, .inl rfl, _, rfl, ?_⟩
    by_cases h0 : w = [48]
    · subst h0; exact hq
    · rw [if_neg (by simpa using h0)]
      cases w with
      | nil => exact absurd rfl hw
      | cons c w =>
        refine ⟨_, .inl rfl, hL, c, atI_zero c w, ?_⟩
        have hq' : Qd (.bl (decide (c :: w = [48]) || !decide ([c] = [48]))) Ω := hq
        rw [decide_eq_false h0, Bool.false_or] at hq'
        exact hq'
theorem isNum_ok {w : List Nat} (h : isNum w = true) : w ≠ [] ∧ w.length ≤ 9 ∧ NumText.AllDigits w := by
  unfold isNum at h
  split at h
  · cases h
  · rename_i hn
    have h1 : w.isEmpty = false := by cases e : w.isEmpty <;> simp_all
    have h2 : ¬ 9 < w.length := fun z => by rw [decide_eq_true z] at hn; simp at hn
    have h3 : w.all isDig = true := by cases e : w.all isDig <;> simp_all
    refine ⟨(by intro z; subst z; cases h1), (by omega), fun c hc => ?_⟩
    have := List.all_eq_true.mp h3 c hc
    unfold isDig at this
    have := of_decide_eq_true this
    simp only [List.mem_cons, List.not_mem_nil, or_false] at this
    omega
def numD : D → D
  | .str w => .bl (isNum w)
  | d => d
def intD : D → D
  | .str w => .int (NumText.digitsVal w : Nat)
  | d => d
theorem p_numbers_in : ∀ ds Ω Qd Ed, ds.length = 1 → S_numbers_in ds Ω Qd Ed → wS T4 ir_numbers_in (rho0 R_numbers_in.N ds) Ω (En0 Qd Ed) := by
  rintro ds Ω Qd Ed _ ⟨w, rfl, hl, hq⟩
  show wS T4 ir_numbers_in [.val (.str w), .un, .un] Ω (En0 Qd Ed)
  unfold ir_numbers_in
  obtain ⟨l1, l2, l3⟩ := splitC_len 44 w
  refine ⟨_, .inl rfl, ⟨_, rfl⟩, _, rfl, _, rfl, by decide, by unfold LINE; omega, _, rfl, _, rfl, _, rfl, _, rfl, wLoop_map numD _ _ ?_ (fun d hd acc K hz hk => ?_) ⟨_, rfl, _, rfl, ?_⟩⟩
  · simp only [List.length_map, List.length_nil, LINE]; omega
  · obtain ⟨v, hv, rfl⟩ := List.mem_map.mp hd
    have := l3 v hv
    exact ⟨_, rfl, _, rfl, _, rfl, _, rfl, _, _, rfl, tf_numbers_in_is_number, rfl, _, rfl, by omega, hz, hk⟩
  have e : [] ++ ((splitC 44 w).map D.str).map numD = ((splitC 44 w).map isNum).map D.bl := by
    simp [List.map_map, Function.comp_def, numD]
  rw [e]
  refine ⟨_, blsOf_map _, _, rfl, _, rfl, ?_⟩
  have ea : ((splitC 44 w).map isNum).all id = (splitC 44 w).all isNum := by simp [List.all_map, Function.comp_def]
  rw [ea]
  unfold numsIn at hq
  cases ha : (splitC 44 w).all isNum with
  | false => rw [ha] at hq; exact hq
  | true =>
    rw [ha] at hq
    refine ⟨_, rfl, _, rfl, _, rfl, wLoop_map intD _ _ ?_ (fun d hd acc K hz hk => ?_) ⟨_, rfl, _, rfl, ?_⟩⟩
    · simp only [List.length_map, List.length_nil, LINE]; omega
    · obtain ⟨v, hv, rfl⟩ := List.mem_map.mp hd
      obtain ⟨n1, n2, n3⟩ := isNum_ok (List.all_eq_true.mp ha v hv)
      exact ⟨_, rfl, _, rfl, _, .inl rfl, _, rfl, _, rfl, ⟨n3, n1, by omega, hz, hk⟩⟩
    · have e : [] ++ ((splitC 44 w).map D.str).map intD = ((splitC 44 w).map NumText.digitsVal).map fun n : Nat => D.int (n : Int) := by
        simp [List.map_map, Function.comp_def, intD]
      rw [e]
      exact hq
def fL : List Nat → Option (List Nat) := fun v => if v = [45] then some [] else numsIn v
theorem p_layer_in_word : ∀ ds Ω Qd Ed, ds.length = 1 → S_layer_in_word ds Ω Qd Ed → wS T5 ir_layer_in_word (rho0 R_layer_in_word.N ds) Ω (En0 Qd Ed) := by
  rintro ds Ω Qd Ed _ ⟨w, rfl, hl, hq⟩
  show wS T5 ir_layer_in_word [.val (.str w), .un, .un, .un] Ω (En0 Qd Ed)
  unfold ir_layer_in_word
  obtain ⟨l1, l2, l3⟩ := splitC_len 47 w
  refine ⟨_, .inl rfl, _, rfl, ?_⟩
  by_cases h0 : w = [46]
  · subst h0; exact ⟨_, rfl, by decide, hq⟩
  rw [if_neg (by simpa using h0)]
  refine ⟨_, rfl, by decide, _, .inl rfl, ⟨_, rfl⟩, _, rfl, _, rfl, by decide, by unfold LINE; omega, _, rfl, _, rfl, ?_⟩
  have hd : layIn w = mapO fL (splitC 47 w) := by unfold layIn; rw [if_neg h0]; rfl
  refine wFor_ind (fun ps ρ Ω' => ∃ (dn : List (List Nat)) (s2 s3 : Sl) (qs : List (List Nat)), ρ = [.val (.str w), .own (.lst (dn.map nums)), s2, s3] ∧ Ω' = Ω ∧ ps = qs.map D.str ∧ dn.length + qs.length ≤ 2000000 ∧ (∀ q ∈ qs, q.length ≤ w.length) ∧ layIn w = (mapO fL qs).map (dn ++ ·)) ?_ ?_ _ _ _
    ⟨[], .un, .un, splitC 47 w, rfl, rfl, rfl, by simp; omega, l3, by rw [hd]; cases mapO fL (splitC 47 w) <;> rfl⟩
  · rintro d ds ρ Ω' ⟨dn, s2, s3, qs, rfl, rfl, hqs, hn, hb, hlay⟩ K hk
    cases qs with
    | nil => cases hqs
    | cons q qs =>
      rw [List.map_cons, List.cons.injEq] at hqs
      obtain ⟨rfl, rfl⟩ := hqs
      have hql := hb q List.mem_cons_self
      simp only [List.length_cons] at hn
      refine ⟨_, rfl, _, .inl rfl, _, rfl, ?_⟩
      have key : ∀ o : Option (List Nat), fL q = o → (∃ ρ', bindE (.nm 3) (optD nums o) [.val (.str w), .own (.lst (dn.map nums)), .val (.str q), s3] = some ρ' ∧ wS T5 (.seq (.ite (.op .is_ (.bor 3) (.lit .non)) (.ret (.lit .non)) .pass) (.app 1 (.var 3))) ρ' Ω'
          { nx := K, rt := (En0 Qd Ed).rt, bk := fun ρ Ω => wS T5 (.ret (.bi .tuple_ (.cons (.bor 1) .nil))) ρ Ω (En0 Qd Ed), ct := K, ex := (En0 Qd Ed).ex }) := fun o ho => by
        refine ⟨_, rfl, _, .inl rfl, _, rfl, ?_⟩
        unfold mapO at hlay
        rw [ho] at hlay
        cases o with
        | none =>
          rw [if_pos (show isNon (optD nums none) = true from rfl)]
          rw [hlay] at hq
          exact hq
        | some v =>
          rw [if_neg (by simp [optD, nums, isNon])]
          refine ⟨_, rfl, _, rfl, by simp [LINE]; omega, hk _ _ ⟨dn ++ [v], .val (.str q), .val (nums v), qs, ?_, rfl, rfl, by simp; omega, fun e he => hb e (List.mem_cons_of_mem _ he), ?_⟩⟩
          · rw [List.map_append]; rfl
          · rw [hlay]
            cases mapO fL qs <;> simp
      by_cases h45 : q = [45]
      · rw [if_pos (by simpa using h45)]
        exact ⟨_, rfl, by decide, key (some []) (by unfold fL; rw [if_pos h45])⟩
      · rw [if_neg (by simpa using h45)]
        exact ⟨_, rfl, _, rfl, _, _, rfl, tf_layer_in_word_numbers_in, rfl, _, rfl, by omega, key (numsIn q) (by unfold fL; rw [if_neg h45])⟩
  · rintro ρ Ω' ⟨dn, s2, s3, qs, rfl, rfl, hqs, hn, hb, hlay⟩
    cases qs with
    | cons => cases hqs
    | nil =>
      rw [hlay] at hq
      refine ⟨_, .inr rfl, _, rfl, _, rfl, ?_⟩
      have hq' : Qd (.tup (dn.map nums)) Ω' := by simpa [mapO, optD, lay] using hq
      exact hq'
theorem mapO_none {α β : Type} {f : α → Option β} : ∀ {l : List α}, mapO f l = none ↔ ∃ x ∈ l, f x = none
  | [] => by simp [mapO]
  | x :: l => by
    unfold mapO
    cases h : f x with
    | none => simp [h]
    | some y =>
      have := mapO_none (f := f) (l := l)
      simp [h, this]
theorem mapO_some {α β : Type} {f : α → Option β} : ∀ {l : List α} {r : List β}, mapO f l = some r → l.map f = r.map some
  | [], r, h => by cases h; rfl
  | x :: l, r, h => by
    unfold mapO at h
    cases hx : f x with
    | none => rw [hx] at h; cases h
    | some y =>
      rw [hx] at h
      obtain ⟨t, ht, rfl⟩ := Option.map_eq_some_iff.mp h
      rw [List.map_cons, List.map_cons, hx, mapO_some ht]
def layD : D → D
  | .str q => optD lay (layIn q)
  | d => d
theorem sh_nums {l : List Nat} : Sh 1 (nums l) := sh_tup fun d hd => by obtain ⟨n, _, rfl⟩ := nums_mem hd; exact sh_int
theorem sh_lay {L : List (List Nat)} : Sh 2 (lay L) := sh_tup fun d hd => by obtain ⟨n, _, rfl⟩ := lay_mem hd; exact sh_nums
theorem sh_stru {S : List (List (List Nat))} : Sh 3 (stru S) := sh_tup fun d hd => by obtain ⟨n, _, rfl⟩ := stru_mem hd; exact sh_lay
theorem sh_opt {o : Option (List (List Nat))} : Sh 2 (optD lay o) := by
  cases o with
  | none => exact sh_non
  | some L => exact sh_lay
theorem any_none (qs : List (List Nat)) : ((qs.map D.str).map layD).any (fun z => eqD z .non) = decide (mapO layIn qs = none) := by
  rw [Bool.eq_iff_iff, decide_eq_true_iff, mapO_none]
  simp only [List.map_map, List.any_map, List.any_eq_true, Function.comp_def]
  refine ⟨fun ⟨q, hq, e⟩ => ⟨q, hq, ?_⟩, fun ⟨q, hq, e⟩ => ⟨q, hq, ?_⟩⟩
  · cases h : layIn q with
    | none => rfl
    | some L =>
      have e' : eqD (optD lay (layIn q)) .non = true := e
      rw [h] at e'
      simp [optD, lay, eqD_non_tup] at e'
  · show eqD (optD lay (layIn q)) .non = true
    rw [e]; exact eqD_non
theorem p_read_structure : ∀ ds Ω Qd Ed, ds.length = 1 → S_read_structure ds Ω Qd Ed → wS T6 ir_read_structure (rho0 R_read_structure.N ds) Ω (En0 Qd Ed) := by
  rintro ds Ω Qd Ed _ ⟨w, rfl, hl, hq, hx⟩
  show wS T6 ir_read_structure [.val (.str w), .un, .un] Ω (En0 Qd Ed)
  unfold ir_read_structure
  obtain ⟨l1, l2, l3⟩ := splitC_len 32 w
  refine ⟨_, .inl rfl, _, rfl, ?_⟩
  by_cases h0 : w = []
  · subst h0; exact ⟨_, rfl, by decide, hq [] rfl⟩
  rw [if_neg (by simpa using h0)]
  have hs : struIn w = mapO layIn (splitC 32 w) := by unfold struIn; rw [if_neg h0]
  refine ⟨_, .inl rfl, ⟨_, rfl⟩, _, rfl, _, rfl, by decide, by unfold LINE; omega, _, rfl, _, rfl, wLoop_map layD _ _ ?_ (fun d hd acc K hz hk => ?_) ⟨_, rfl, ?_⟩⟩
  · simp only [List.length_map, List.length_nil, LINE]; omega
  · obtain ⟨v, hv, rfl⟩ := List.mem_map.mp hd
    have := l3 v hv
    exact ⟨_, rfl, _, rfl, _, rfl, _, rfl, _, _, rfl, tf_read_structure_layer_in_word, rfl, _, rfl, by omega, hz, hk⟩
  rw [List.nil_append]
  refine ⟨_, .inl rfl, sh_non.ok (n := 0) (by decide), (sh_lst (n := 2) fun d hd => ?_).ok (by decide), _, rfl, ?_⟩
  · simp only [List.map_map, List.mem_map, Function.comp] at hd
    obtain ⟨q, _, rfl⟩ := hd
    exact sh_opt
  rw [any_none]
  cases hm : mapO layIn (splitC 32 w) with
  | none =>
    rw [if_pos (by simp)]
    exact ⟨⟨1, rfl, by decide, by decide⟩, hx (by rw [hs, hm])⟩
  | some S =>
    rw [if_neg (by simp)]
    refine ⟨_, .inl rfl, _, rfl, _, rfl, ?_⟩
    have e : ((splitC 32 w).map D.str).map layD = S.map lay := by
      have := mapO_some hm
      rw [List.map_map]
      show (splitC 32 w).map (fun q => optD lay (layIn q)) = _
      rw [show (fun q => optD lay (layIn q)) = (optD lay) ∘ layIn from rfl, ← List.map_map, this, List.map_map]; rfl
    rw [e]
    exact hq S (by rw [hs, hm])
end OE
namespace OE
open PySem PySem.Spec PyProof.Rows L2
theorem atI_in {α : Type} {xs : List α} {i : Int} (h0 : 0 ≤ i) (h1 : i < (xs.length : Nat)) : ∃ x ∈ xs, L2.atI xs i = some x := by
  obtain ⟨n, rfl⟩ : ∃ n : Nat, i = (n : Nat) := ⟨i.toNat, by omega⟩
  have hn : n < xs.length := by omega
  exact ⟨xs[n], List.getElem_mem hn, by rw [atI_nat, List.getElem?_eq_getElem hn]⟩
theorem rangeD_0 (c : Int) : rangeD 0 c = (List.range c.toNat).map fun k : Nat => D.int (k : Int) := by
  unfold rangeD
  rw [Int.sub_zero]
  simp
theorem p_l_cell : ∀ ds Ω Qd Ed, ds.length = 2 → S_l_cell ds Ω Qd Ed → wS T7 ir_l_cell (rho0 R_l_cell.N ds) Ω (En0 Qd Ed) := by
  rintro ds Ω Qd Ed _ ⟨ns, i, rfl, hl, hq⟩
  show wS T7 ir_l_cell [.val (.scr ns), .val (.int i)] Ω (En0 Qd Ed)
  unfold ir_l_cell
  refine ⟨_, .inl rfl, _, .inl rfl, _, rfl, _, rfl, _, rfl, ?_⟩
  by_cases h : i < ns.length
  · rw [if_pos (by rw [decide_eq_true_iff]; omega)]
    refine ⟨_, .inl rfl, _, .inl rfl, ns[i], ?_, ?_⟩
    · rw [atI_nat, List.getElem?_eq_getElem h]
    · rw [List.getD_eq_getElem?_getD, List.getElem?_eq_getElem h] at hq
      exact hq
  · rw [if_neg (by rw [decide_eq_true_iff]; omega)]
    rw [List.getD_eq_getElem?_getD, List.getElem?_eq_none (by omega)] at hq
    exact hq
theorem p_l_digits : ∀ ds Ω Qd Ed, ds.length = 3 → S_l_digits ds Ω Qd Ed → wS T8 ir_l_digits (rho0 R_l_digits.N ds) Ω (En0 Qd Ed) := by
  rintro ds Ω Qd Ed _ ⟨c, rfl, hq⟩
  show wS T8 ir_l_digits [.val (.int c), .val (.int 60), .val (.int 40), .un, .un, .un, .un] Ω (En0 Qd Ed)
  unfold ir_l_digits
  refine ⟨_, rfl, by decide, _, rfl, _, rfl, _, rfl, _, rfl, ⟨by decide, by decide⟩, _, rfl, ?_⟩
  rw [rangeD_0]
  refine wFor_ind (fun ks ρ Ω' => ∃ (l : List Int) (r : Int) (s5 s6 : Sl) (js : List Nat), ρ = [.val (.int c), .val (.int 60), .val (.int 40), .own (.lst (l.map .int)), .val (.int r), s5, s6] ∧ Ω' = Ω ∧ ks = js.map (fun k : Nat => D.int (k : Int)) ∧ l.length + js.length = 40 ∧ ∀ x ∈ l, 0 ≤ x ∧ x < 60) ?_ ?_ _ _ _
    ⟨[], c, .un, .un, List.range 40, rfl, rfl, rfl, rfl, by simp⟩
  · rintro d ds ρ Ω' ⟨l, r, s5, s6, js, rfl, rfl, hks, hn, hb⟩ K hk
    cases js with
    | nil => cases hks
    | cons j js =>
      rw [List.map_cons, List.cons.injEq] at hks
      obtain ⟨rfl, rfl⟩ := hks
      simp only [List.length_cons] at hn
      have fin : ∀ (z : Int) (s4 : Int) (s5 s6 : Sl), 0 ≤ z ∧ z < 60 → K [.val (.int c), .val (.int 60), .val (.int 40), .own (.lst (l.map .int ++ [.int z])), .val (.int s4), s5, s6] Ω' := fun z s4 s5 s6 hz =>
        hk _ _ ⟨l ++ [z], s4, s5, s6, js, by rw [List.map_append]; rfl, rfl, rfl, by simp; omega, fun x hx => by
          rcases List.mem_append.mp hx with hx | hx
          · exact hb x hx
          · rw [List.mem_singleton.mp hx]; exact hz⟩
      have hlen : (l.map D.int).length < LINE := by simp [LINE]; omega
      refine ⟨_, rfl, _, .inl rfl, ⟨by decide, by decide, by decide⟩, _, rfl, ?_⟩
      by_cases h : (10 : Int) ^ 18 ≤ c
      · rw [if_pos (by rw [decide_eq_true_iff]; exact h)]
        exact ⟨_, rfl, _, .inl rfl, _, rfl, _, rfl, _, .inl rfl, by decide, hlen, _, .inl rfl, _, .inl rfl, ⟨by decide, by decide⟩, _, rfl, fin (r % 60) _ _ _ ⟨Int.emod_nonneg _ (by decide), Int.emod_lt_of_pos _ (by decide)⟩⟩
      · rw [if_neg (by rw [decide_eq_true_iff]; exact h)]
        have m1 := Int.emod_nonneg (c * 48271 + (j : Int) * 69621 + 1013) (b := 2147483647) (by decide)
        have m2 := Int.emod_lt_of_pos (c * 48271 + (j : Int) * 69621 + 1013) (b := 2147483647) (by decide)
        refine ⟨_, .inl rfl, .inr ⟨by decide, by decide⟩, _, .inl rfl, .inr ⟨by decide, by decide⟩, _, rfl, _, rfl, by decide, _, rfl, ?_⟩
        refine ⟨_, .inl rfl, _, .inl rfl, .inl ⟨by omega, by omega⟩, _, .inl rfl, .inl ⟨by decide, by decide⟩, _, .inl rfl, _, rfl, _, rfl, by decide, _, rfl, ?_⟩
        exact ⟨_, rfl, _, .inl rfl, ⟨by decide, by decide⟩, _, rfl, _, rfl, _, .inl rfl, by decide, hlen, fin _ _ _ _ ⟨Int.emod_nonneg _ (by decide), Int.emod_lt_of_pos _ (by decide)⟩⟩
  · rintro ρ Ω' ⟨l, r, s5, s6, js, rfl, rfl, hks, hn, hb⟩
    cases js with
    | cons => cases hks
    | nil => exact ⟨_, rfl, hq l (by simpa using hn) hb⟩
theorem p_l_layer_word : ∀ ds Ω Qd Ed, ds.length = 1 → S_l_layer_word ds Ω Qd Ed → wS T9 ir_l_layer_word (rho0 R_l_layer_word.N ds) Ω (En0 Qd Ed) := by
  rintro ds Ω Qd Ed _ ⟨L, rfl, hl, hq⟩
  show wS T9 ir_l_layer_word [.val (lay L), .un, .un, .un] Ω (En0 Qd Ed)
  unfold ir_l_layer_word
  refine ⟨_, .inl rfl, _, rfl, _, rfl, _, rfl, ?_⟩
  have hl' := hl.1
  by_cases hL : L = []
  · subst hL
    exact hq
  rw [if_neg (by
    rw [decide_eq_true_iff, List.length_map]
    intro z
    exact hL (List.length_eq_zero_iff.mp (by omega)))]
  refine ⟨_, rfl, by decide, _, rfl, _, rfl, _, rfl, ?_⟩
  refine wFor_ind (fun ks ρ Ω' => ∃ (dn rs : List (List Nat)) (s2 s3 : Sl), ρ = [.val (lay L), .own (.lst (dn.map fun v => D.str (if v = [] then [45] else wNums v))), s2, s3] ∧ Ω' = Ω ∧ ks = rs.map nums ∧ L = dn ++ rs) ?_ ?_ _ _ _ ⟨[], L, .un, .un, rfl, rfl, rfl, rfl⟩
  · rintro d ds ρ Ω' ⟨dn, rs, s2, s3, rfl, rfl, hks, hL'⟩ K hk
    cases rs with
    | nil => cases hks
    | cons v rs =>
      rw [List.map_cons, List.cons.injEq] at hks
      obtain ⟨rfl, rfl⟩ := hks
      have hv : okNums v := hl.2 v (by rw [hL']; simp)
      have hdl : dn.length ≤ 10 := by
        have := congrArg List.length hL'
        rw [List.length_append] at this; omega
      have fin : K [.val (lay L), .own (.lst ((dn.map fun v => D.str (if v = [] then [45] else wNums v)) ++ [.str (if v = [] then [45] else wNums v)])), .val (nums v), s3] Ω' :=
        hk _ _ ⟨dn ++ [v], rs, _, _, by rw [List.map_append]; rfl, rfl, rfl, by rw [hL']; simp⟩
      refine ⟨_, rfl, _, rfl, _, .inl rfl, _, rfl, _, rfl, _, rfl, ?_⟩
      by_cases h0 : v = []
      · subst h0
        exact ⟨by simp [LINE]; omega, fin⟩
      · rw [if_neg (by
          rw [decide_eq_true_iff, List.length_map]
          intro z
          exact h0 (List.length_eq_zero_iff.mp (by omega)))]
        refine ⟨⟨_, rfl⟩, _, rfl, _, rfl, _, rfl, wLoop_map strN _ _ ?_ (fun d hd acc K hz hk => ?_) ⟨_, rfl, _, rfl, ?_⟩⟩
        · have := hv.1; simp [LINE]; omega
        · obtain ⟨n, hn, rfl⟩ := nums_mem hd
          have := hv.2 n hn
          have h9 : ((n : Nat) : Int) < 10 ^ 9 := by omega
          exact ⟨_, rfl, _, rfl, _, .inl rfl, _, rfl, _, rfl, ⟨Int.natCast_nonneg n, Int.lt_of_lt_of_le h9 (by decide)⟩, hz, hk⟩
        · have e : [] ++ (v.map fun n : Nat => D.int (n : Int)).map strN = (v.map TL.numL).map D.str := by
            simp [strN, List.map_map, Function.comp_def]
          rw [e]
          refine ⟨_, strsOf_map _, ?_, by simp [LINE]; omega, ?_⟩
          · have h2 : ((v.map TL.numL).map List.length).sum ≤ 10 * 9 := by
              refine Nat.le_trans (sum_le (b := 9) fun x hx => ?_) ?_
              · simp only [List.map_map, List.mem_map, Function.comp] at hx
                obtain ⟨n, hn, rfl⟩ := hx
                exact TL.numL_len (by decide) (hv.2 n hn)
              · simp only [List.length_map]
                have := hv.1; omega
            have := hv.1
            simp only [List.length_map, List.length_singleton, LINE]; omega
          · rw [if_neg h0] at fin
            exact fin
  · rintro ρ Ω' ⟨dn, rs, s2, s3, rfl, rfl, hks, hL'⟩
    cases rs with
    | cons => cases hks
    | nil =>
      rw [List.append_nil] at hL'
      subst hL'
      refine ⟨⟨_, rfl⟩, _, .inr rfl, _, rfl, _, rfl, (L.map fun v => if v = [] then [45] else wNums v), ?_, ?_, ?_⟩
      · rw [show (L.map fun v => D.str (if v = [] then [45] else wNums v)) = (L.map fun v => if v = [] then [45] else wNums v).map D.str by rw [List.map_map]; rfl]
        exact strsOf_map _
      · have := lay_sum hl
        simp only [List.length_map, List.length_singleton, LINE]; omega
      · unfold wLayer at hq
        rw [if_neg hL] at hq
        exact hq
theorem idx_mod {l : List Int} (hl : l.length = 40) (z : Int) : ∃ x ∈ l.map D.int, L2.atI (l.map D.int) (z % (((l.map D.int).length : Nat) : Int)) = some x := by
  refine atI_in (Int.emod_nonneg _ (by rw [List.length_map, hl]; decide)) (Int.emod_lt_of_pos _ (by rw [List.length_map, hl]; decide))
theorem p_l_numbers : ∀ ds Ω Qd Ed, ds.length = 3 → S_l_numbers ds Ω Qd Ed → wS T10 ir_l_numbers (rho0 R_l_numbers.N ds) Ω (En0 Qd Ed) := by
  rintro ds Ω Qd Ed _ ⟨l, a, c, rfl, hl, ha, hc0, hc2, hq⟩
  show wS T10 ir_l_numbers [.val (.lst (l.map .int)), .val (.int a), .val (.int c), .un, .un, .un] Ω (En0 Qd Ed)
  unfold ir_l_numbers
  refine ⟨_, rfl, by decide, _, rfl, _, rfl, ⟨by omega, by omega⟩, _, rfl, ?_⟩
  rw [rangeD_0]
  refine wFor_ind (fun ks ρ Ω' => ∃ (r js : List Nat) (s4 s5 : Sl), ρ = [.val (.lst (l.map .int)), .val (.int a), .val (.int c), .own (.lst (r.map fun n : Nat => D.int (n : Int))), s4, s5] ∧ Ω' = Ω ∧ ks = js.map (fun k : Nat => D.int (k : Int)) ∧ r.length + js.length ≤ 2 ∧ ∀ x ∈ r, x < 10 ^ 9) ?_ ?_ _ _ _
    ⟨[], List.range c.toNat, .un, .un, rfl, rfl, rfl, by simp; omega, by simp⟩
  · rintro d ds ρ Ω' ⟨r, js, s4, s5, rfl, rfl, hks, hn, hb⟩ K hk
    cases js with
    | nil => cases hks
    | cons j js =>
      rw [List.map_cons, List.cons.injEq] at hks
      obtain ⟨rfl, rfl⟩ := hks
      simp only [List.length_cons] at hn
      have fin : ∀ (z : Nat) (s4 s5 : Sl), z < 10 ^ 9 → K [.val (.lst (l.map .int)), .val (.int a), .val (.int c), .own (.lst ((r.map fun n : Nat => D.int (n : Int)) ++ [.int (z : Int)])), s4, s5] Ω' := fun z s4 s5 hz =>
        hk _ _ ⟨r ++ [z], js, s4, s5, by rw [List.map_append]; rfl, rfl, rfl, by simp; omega, fun x hx => by
          rcases List.mem_append.mp hx with hx | hx
          · exact hb x hx
          · rw [List.mem_singleton.mp hx]; exact hz⟩
      have hlen : (r.map fun n : Nat => D.int (n : Int)).length < LINE := by simp [LINE]; omega
      obtain ⟨x, hx, ex⟩ := idx_mod hl (a + (j : Int))
      obtain ⟨q, _, rfl⟩ := List.mem_map.mp hx
      refine ⟨_, rfl, _, .inl rfl, _, .inl rfl, _, .inl rfl, _, rfl, _, rfl, _, .inl rfl, _, rfl, _, rfl, ?_, _, ex, _, rfl, ?_⟩
      · simp only [List.length_map, hl]; decide
      have q1 := Int.emod_nonneg q (b := 6) (by decide)
      have q2 := Int.emod_lt_of_pos q (b := 6) (by decide)
      have six : ∃ z : Nat, z < 10 ^ 9 ∧ L2.atI ([.int 0, .int 1, .int 2, .int 10, .int 999999999, .int 7] : List D) (q % 6) = some (.int (z : Int)) := by
        have : q % 6 = 0 ∨ q % 6 = 1 ∨ q % 6 = 2 ∨ q % 6 = 3 ∨ q % 6 = 4 ∨ q % 6 = 5 := by omega
        rcases this with e | e | e | e | e | e <;> rw [e]
        · exact ⟨0, by decide, atI_nat _ 0⟩
        · exact ⟨1, by decide, atI_nat _ 1⟩
        · exact ⟨2, by decide, atI_nat _ 2⟩
        · exact ⟨10, by decide, atI_nat _ 3⟩
        · exact ⟨999999999, by decide, atI_nat _ 4⟩
        · exact ⟨7, by decide, atI_nat _ 5⟩
      obtain ⟨z, hz, ez⟩ := six
      exact ⟨_, rfl, _, rfl, _, rfl, _, rfl, _, rfl, _, rfl, _, rfl, _, rfl, by decide, _, .inl rfl, _, rfl, _, rfl, by decide, _, ez, hlen, fin z _ _ hz⟩
  · rintro ρ Ω' ⟨r, js, s4, s5, rfl, rfl, hks, hn, hb⟩
    exact ⟨_, .inr rfl, _, rfl, _, rfl, hq r ⟨by omega, hb⟩⟩
theorem p_l_any_layer : ∀ ds Ω Qd Ed, ds.length = 3 → S_l_any_layer ds Ω Qd Ed → wS T11 ir_l_any_layer (rho0 R_l_any_layer.N ds) Ω (En0 Qd Ed) := by
  rintro ds Ω Qd Ed _ ⟨l, a, c, rfl, hl, ha, hc0, hc2, hq⟩
  show wS T11 ir_l_any_layer [.val (.lst (l.map .int)), .val (.int a), .val (.int c), .un] Ω (En0 Qd Ed)
  unfold ir_l_any_layer
  refine ⟨_, rfl, _, rfl, ⟨by omega, by omega⟩, _, rfl, ?_⟩
  rw [rangeD_0]
  refine wLoop_ind (fun ks acc Ω' => ∃ (L : List (List Nat)) (js : List Nat), acc = L.map nums ∧ Ω' = Ω ∧ ks = js.map (fun k : Nat => D.int (k : Int)) ∧ L.length + js.length ≤ 3 ∧ ∀ x ∈ L, okNums x) ?_ ?_ _ _ _
    ⟨[], List.range c.toNat, rfl, rfl, rfl, by simp; omega, by simp⟩
  · rintro d ds acc Ω' ⟨L, js, rfl, rfl, hks, hn, hb⟩ K hk
    cases js with
    | nil => cases hks
    | cons j js =>
      rw [List.map_cons, List.cons.injEq] at hks
      obtain ⟨rfl, rfl⟩ := hks
      simp only [List.length_cons] at hn
      obtain ⟨x, hx, ex⟩ := idx_mod hl (a + (j : Int))
      obtain ⟨q, _, rfl⟩ := List.mem_map.mp hx
      refine ⟨_, rfl, _, rfl, _, rfl, _, .inl rfl, _, .inl rfl, .inl ⟨by decide, by decide⟩, _, .inl rfl, _, .inl rfl, _, .inl rfl, _, rfl, _, rfl, _, .inl rfl, _, rfl, _, rfl, ?_, _, ex, _, rfl, _, rfl, by decide, _, rfl, _, rfl, _, rfl, ?_⟩
      · simp only [List.length_map, hl]; decide
      refine ⟨_, _, rfl, tf_l_any_layer_l_numbers, rfl, l, _, _, rfl, hl, by omega, Int.emod_nonneg _ (by decide), by have := Int.emod_lt_of_pos q (b := 3) (by decide); omega, fun r hr => ?_⟩
      exact ⟨by simp [LINE]; omega, hk _ _ ⟨L ++ [r], js, by rw [List.map_append]; rfl, rfl, rfl, by simp; omega, fun x hx => by
        rcases List.mem_append.mp hx with hx | hx
        · exact hb x hx
        · rw [List.mem_singleton.mp hx]; exact hr⟩⟩
  · rintro acc Ω' ⟨L, js, rfl, rfl, hks, hn, hb⟩
    exact ⟨_, rfl, _, rfl, hq L ⟨by omega, hb⟩⟩
end OE
namespace OE
open PySem PySem.Spec PyProof.Rows L2
theorem p_l_is_number : ∀ ds Ω Qd Ed, ds.length = 1 → S_l_is_number ds Ω Qd Ed → wS T12 ir_l_is_number (rho0 R_l_is_number.N ds) Ω (En0 Qd Ed) := by
  rintro ds Ω Qd Ed _ ⟨w, rfl, hl, hq⟩
  show wS T12 ir_l_is_number [.val (.str w), .un] Ω (En0 Qd Ed)
  unfold ir_l_is_number
  have hL : w.length ≤ LINE := by unfold LINE; omega
  refine ⟨_, .inl rfl, _, rfl, ?_⟩
  by_cases hw : w = []
  · rw [if_pos (by simpa using hw)]
    subst hw
    exact ⟨_, rfl, hq⟩
  rw [if_neg (by simpa using hw)]
  refine ⟨_, .inl rfl, _, rfl, _, rfl, hL, _, rfl, ?_⟩
  have hwe : w.isEmpty = false := by cases w <;> simp_all
  by_cases h9 : 9 < w.length
  · rw [if_pos (by rw [decide_eq_true_iff]; omega)]
    unfold isNum at hq
    rw [if_pos (by simp [h9])] at hq
    exact hq
  rw [if_neg (by rw [decide_eq_true_iff]; omega)]
  unfold isNum at hq
  have h9' : decide (9 < w.length) = false := by simpa using h9
  rw [hwe, h9', Bool.false_or, Bool.false_or] at hq
  refine ⟨_, rfl, _, rfl, _, rfl, ?_⟩
  refine wFor_ind (fun ks ρ Ω' => ∃ (cs : List Nat) (s1 : Sl), ρ = [.val (.str w), s1] ∧ Ω' = Ω ∧ ks = cs.map (fun c => D.str [c]) ∧ w.all isDig = cs.all isDig) ?_ ?_ _ _ _ ⟨w, .un, rfl, rfl, rfl, rfl⟩
  · rintro d ds ρ Ω' ⟨cs, s1, rfl, rfl, hks, ha⟩ K hk
    cases cs with
    | nil => cases hks
    | cons c cs =>
      rw [List.map_cons, List.cons.injEq] at hks
      obtain ⟨rfl, rfl⟩ := hks
      refine ⟨_, rfl, _, .inl rfl, _, rfl, ?_⟩
      rw [List.all_cons] at ha
      cases hd : isDig c with
      | false =>
        rw [hd, Bool.false_and] at ha
        rw [ha] at hq
        have hd' : decide (c ∈ [48, 49, 50, 51, 52, 53, 54, 55, 56, 57]) = false := hd
        rw [hd']
        exact hq
      | true =>
        rw [hd, Bool.true_and] at ha
        have hd' : decide (c ∈ [48, 49, 50, 51, 52, 53, 54, 55, 56, 57]) = true := hd
        rw [hd']
        exact hk _ _ ⟨cs, _, rfl, rfl, rfl, ha⟩
  · rintro ρ Ω' ⟨cs, s1, rfl, rfl, hks, ha⟩
    cases cs with
    | cons => cases hks
    | nil =>
      rw [show w.all isDig = true from ha] at hq
      refine ⟨_, .inl rfl, _, rfl, ?_⟩
      by_cases h0 : w = [48]
      · subst h0; exact hq
      · rw [if_neg (by simpa using h0)]
        cases w with
        | nil => exact absurd rfl hw
        | cons c w =>
          refine ⟨_, .inl rfl, hL, c, atI_zero c w, ?_⟩
          have hq' : Qd (.bl (decide (c :: w = [48]) || !decide ([c] = [48]))) Ω' := hq
          rw [decide_eq_false h0, Bool.false_or] at hq'
          exact hq'
theorem p_l_layer : ∀ ds Ω Qd Ed, ds.length = 1 → S_l_layer ds Ω Qd Ed → wS T13 ir_l_layer (rho0 R_l_layer.N ds) Ω (En0 Qd Ed) := by
  rintro ds Ω Qd Ed _ ⟨w, rfl, hl, hq⟩
  show wS T13 ir_l_layer [.val (.str w), .un, .un, .un, .un] Ω (En0 Qd Ed)
  unfold ir_l_layer
  obtain ⟨l1, l2, l3⟩ := splitC_len 47 w
  refine ⟨_, .inl rfl, _, rfl, ?_⟩
  by_cases h0 : w = [46]
  · subst h0; exact ⟨_, rfl, by decide, hq⟩
  rw [if_neg (by simpa using h0)]
  refine ⟨_, rfl, by decide, _, .inl rfl, ⟨_, rfl⟩, _, rfl, _, rfl, by decide, by unfold LINE; omega, _, rfl, _, rfl, ?_⟩
  have hd : layIn w = mapO fL (splitC 47 w) := by unfold layIn; rw [if_neg h0]; rfl
  refine wFor_ind (fun ps ρ Ω' => ∃ (dn : List (List Nat)) (s2 s3 s4 : Sl) (qs : List (List Nat)), ρ = [.val (.str w), .own (.lst (dn.map nums)), s2, s3, s4] ∧ Ω' = Ω ∧ ps = qs.map D.str ∧ dn.length + qs.length ≤ 2000000 ∧ (∀ q ∈ qs, q.length ≤ w.length) ∧ layIn w = (mapO fL qs).map (dn ++ ·)) ?_ ?_ _ _ _
    ⟨[], .un, .un, .un, splitC 47 w, rfl, rfl, rfl, by simp; omega, l3, by rw [hd]; cases mapO fL (splitC 47 w) <;> rfl⟩
  · rintro d ds ρ Ω' ⟨dn, s2, s3, s4, qs, rfl, rfl, hqs, hn, hb, hlay⟩ K hk
    cases qs with
    | nil => cases hqs
    | cons q qs =>
      rw [List.map_cons, List.cons.injEq] at hqs
      obtain ⟨rfl, rfl⟩ := hqs
      have hql := hb q List.mem_cons_self
      simp only [List.length_cons] at hn
      obtain ⟨m1, m2, m3⟩ := splitC_len 44 q
      have hlen : (dn.map nums).length < LINE := by simp [LINE]; omega
      have fin : ∀ (v : List Nat), fL q = some v → K [.val (.str w), .own (.lst (dn.map nums ++ [nums v])), .val (.str q), .val (.lst ((splitC 44 q).map D.str)), s4] Ω' := fun v hv => by
        refine hk _ _ ⟨dn ++ [v], .val (.str q), .val (.lst ((splitC 44 q).map D.str)), s4, qs, by rw [List.map_append]; rfl, rfl, rfl, by simp; omega, fun e he => hb e (List.mem_cons_of_mem _ he), ?_⟩
        unfold mapO at hlay
        rw [hv] at hlay
        rw [hlay]
        cases mapO fL qs <;> simp
      refine ⟨_, rfl, _, .inl rfl, ⟨_, rfl⟩, _, rfl, _, rfl, by decide, by unfold LINE; omega, _, rfl, _, .inl rfl, _, rfl, ?_⟩
      by_cases h45 : q = [45]
      · rw [if_pos (by simpa using h45)]
        exact ⟨_, rfl, _, rfl, by decide, hlen, fin [] (by unfold fL; rw [if_pos h45])⟩
      rw [if_neg (by simpa using h45)]
      refine ⟨_, rfl, _, rfl, _, rfl, wLoop_map numD _ _ ?_ (fun d hd acc K' hz hk' => ?_) ⟨_, rfl, _, rfl, ?_⟩⟩
      · simp only [List.length_map, List.length_nil, LINE]; omega
      · obtain ⟨v, hv, rfl⟩ := List.mem_map.mp hd
        have := m3 v hv
        exact ⟨_, rfl, _, rfl, _, rfl, _, rfl, _, _, rfl, tf_l_layer_l_is_number, rfl, _, rfl, by omega, hz, hk'⟩
      have e : [] ++ ((splitC 44 q).map D.str).map numD = ((splitC 44 q).map isNum).map D.bl := by
        simp [List.map_map, Function.comp_def, numD]
      rw [e]
      refine ⟨_, blsOf_map _, _, rfl, ?_⟩
      have ea : ((splitC 44 q).map isNum).all id = (splitC 44 q).all isNum := by simp [List.all_map, Function.comp_def]
      rw [ea]
      cases ha : (splitC 44 q).all isNum with
      | false =>
        unfold mapO at hlay
        rw [show fL q = none by unfold fL numsIn; rw [if_neg h45, ha]; rfl] at hlay
        rw [hlay] at hq
        exact hq
      | true =>
        refine ⟨_, rfl, _, rfl, _, rfl, _, rfl, wLoop_map intD _ _ ?_ (fun d hd acc K' hz hk' => ?_) ⟨_, rfl, _, rfl, ?_⟩⟩
        · simp only [List.length_map, List.length_nil, LINE]; omega
        · obtain ⟨v, hv, rfl⟩ := List.mem_map.mp hd
          obtain ⟨n1, n2, n3⟩ := isNum_ok (List.all_eq_true.mp ha v hv)
          exact ⟨_, rfl, _, rfl, _, .inl rfl, _, rfl, _, rfl, ⟨n3, n1, by omega, hz, hk'⟩⟩
        · have e : [] ++ ((splitC 44 q).map D.str).map intD = ((splitC 44 q).map NumText.digitsVal).map fun n : Nat => D.int (n : Int) := by
            simp [List.map_map, Function.comp_def, intD]
          rw [e]
          exact ⟨hlen, fin _ (by unfold fL numsIn; rw [if_neg h45, ha]; rfl)⟩
  · rintro ρ Ω' ⟨dn, s2, s3, s4, qs, rfl, rfl, hqs, hn, hb, hlay⟩
    cases qs with
    | cons => cases hqs
    | nil =>
      rw [hlay] at hq
      refine ⟨_, .inr rfl, _, rfl, _, rfl, ?_⟩
      have hq' : Qd (.tup (dn.map nums)) Ω' := by simpa [mapO, optD, lay] using hq
      exact hq'
theorem p_l_structure : ∀ ds Ω Qd Ed, ds.length = 1 → S_l_structure ds Ω Qd Ed → wS T14 ir_l_structure (rho0 R_l_structure.N ds) Ω (En0 Qd Ed) := by
  rintro ds Ω Qd Ed _ ⟨w, rfl, hl, hq⟩
  show wS T14 ir_l_structure [.val (.str w), .un, .un, .un] Ω (En0 Qd Ed)
  unfold ir_l_structure
  obtain ⟨l1, l2, l3⟩ := splitC_len 32 w
  refine ⟨_, .inl rfl, _, rfl, ?_⟩
  by_cases h0 : w = []
  · subst h0; exact ⟨_, rfl, by decide, hq⟩
  rw [if_neg (by simpa using h0)]
  have hs : struIn w = mapO layIn (splitC 32 w) := by unfold struIn; rw [if_neg h0]
  refine ⟨_, .inl rfl, ⟨_, rfl⟩, _, rfl, _, rfl, by decide, by unfold LINE; omega, _, rfl, _, rfl, wLoop_map layD _ _ ?_ (fun d hd acc K hz hk => ?_) ⟨_, rfl, ?_⟩⟩
  · simp only [List.length_map, List.length_nil, LINE]; omega
  · obtain ⟨v, hv, rfl⟩ := List.mem_map.mp hd
    have := l3 v hv
    exact ⟨_, rfl, _, rfl, _, rfl, _, rfl, _, _, rfl, tf_l_structure_l_layer, rfl, _, rfl, by omega, hz, hk⟩
  rw [List.nil_append]
  refine ⟨_, rfl, _, rfl, _, rfl, ?_⟩
  refine wFor_ind (fun ks ρ Ω' => ∃ (cs : List (List Nat)) (s2 s3 : Sl), ρ = [.val (.str w), .val (.lst (((splitC 32 w).map D.str).map layD)), s2, s3] ∧ Ω' = Ω ∧ ks = (cs.map D.str).map layD ∧ (mapO layIn (splitC 32 w) = none ↔ mapO layIn cs = none)) ?_ ?_ _ _ _ ⟨splitC 32 w, .un, .un, rfl, rfl, rfl, Iff.rfl⟩
  · rintro d ds ρ Ω' ⟨cs, s2, s3, rfl, rfl, hks, ha⟩ K hk
    cases cs with
    | nil => cases hks
    | cons c cs =>
      rw [List.map_cons, List.map_cons, List.cons.injEq] at hks
      obtain ⟨rfl, rfl⟩ := hks
      refine ⟨_, rfl, _, .inl rfl, _, rfl, ?_⟩
      have hcs : mapO layIn (c :: cs) = match layIn c with | some y => (mapO layIn cs).map (y :: ·) | none => none := by cases h : layIn c <;> simp [mapO, h]
      show if isNon (optD lay (layIn c)) = true then _ else _
      cases hc : layIn c with
      | none =>
        rw [hc] at hcs
        rw [hs, ha.mpr hcs] at hq
        exact hq
      | some L =>
        rw [hc] at hcs
        refine hk _ _ ⟨cs, s2, .val (layD (.str c)), rfl, rfl, rfl, ha.trans ?_⟩
        rw [hcs]
        cases mapO layIn cs <;> simp
  · rintro ρ Ω' ⟨cs, s2, s3, rfl, rfl, hks, ha⟩
    cases cs with
    | cons => cases hks
    | nil =>
      refine ⟨_, .inl rfl, _, rfl, _, rfl, ?_⟩
      cases hm : mapO layIn (splitC 32 w) with
      | none => exact absurd (ha.mp hm) (by simp [mapO])
      | some S =>
        have e : ((splitC 32 w).map D.str).map layD = S.map lay := by
          have := mapO_some hm
          rw [List.map_map]
          show (splitC 32 w).map (fun q => optD lay (layIn q)) = _
          rw [show (fun q => optD lay (layIn q)) = (optD lay) ∘ layIn from rfl, ← List.map_map, this, List.map_map]; rfl
        rw [hs, hm] at hq
        rw [e]
        exact hq
theorem sub_ii : TB.sub "InvalidPaper" "InvalidPaper" = some true := by kernel_rfl
theorem sub_ic : TB.sub "InvalidPaper" "CensusError" = some true := by kernel_rfl
theorem exf_i : TB.exf "InvalidPaper" = some "line" := by kernel_rfl
theorem p_l_refused : ∀ ds Ω Qd Ed, ds.length = 1 → S_l_refused ds Ω Qd Ed → wS T15 ir_l_refused (rho0 R_l_refused.N ds) Ω (En0 Qd Ed) := by
  rintro ds Ω Qd Ed _ ⟨w, rfl, hl, hq⟩
  show wS T15 ir_l_refused [.val (.str w), .un, .un] Ω (En0 Qd Ed)
  unfold ir_l_refused
  refine ⟨_, rfl, _, rfl, _, rfl, _, _, rfl, tf_l_refused_read_structure, rfl, w, rfl, hl, fun S hS => ?_, fun hN => ?_⟩
  · rw [hS] at hq
    exact ⟨_, rfl, hq⟩
  · rw [hN] at hq
    refine ⟨true, sub_ii, fun _ => ?_, fun z => by cases z⟩
    exact ⟨_, _, _, rfl, sub_ic, _, rfl, _, _, rfl, exf_i, _, rfl, _, rfl, hq⟩
end OE
namespace OE
open PySem PySem.Spec PyProof.Rows L2
/-! ### there and back -/
theorem mem_join {c : Nat} {s : List Nat} : ∀ {ps : List (List Nat)}, c ∈ TL.joinL s ps → c ∈ s ∨ ∃ p ∈ ps, c ∈ p
  | [], h => by simp [TL.joinL] at h
  | [p], h => .inr ⟨p, List.mem_cons_self, h⟩
  | p :: q :: r, h => by
    simp only [TL.joinL, List.mem_append] at h
    rcases h with h | h | h
    · exact .inr ⟨p, List.mem_cons_self, h⟩
    · exact .inl h
    · rcases mem_join h with h | ⟨e, he, h⟩
      · exact .inl h
      · exact .inr ⟨e, List.mem_cons_of_mem _ he, h⟩
theorem numL_head : ∀ (n : Nat), n ≠ 0 → (TL.numL n).headD 0 ≠ 48 := by
  intro n
  induction n using Nat.strongRecOn with
  | ind n ih =>
    intro hn
    by_cases h : n < 10
    · rw [TL.numL_lt h]; show 48 + n ≠ 48; omega
    · rw [TL.numL_step (by omega)]
      have h1 := ih (n / 10) (by omega) (by omega)
      have h2 := TL.numL_ne (n / 10)
      cases e : TL.numL (n / 10) with
      | nil => exact absurd e h2
      | cons c r => rw [e] at h1; exact h1
theorem isNum_numL {n : Nat} (h : n < 10 ^ 9) : isNum (TL.numL n) = true := by
  have h1 := TL.numL_len (k := 9) (by decide) h
  have h2 := TL.numL_ne n
  have h3 := TL.numL_digits n
  have ha : (TL.numL n).all isDig = true := List.all_eq_true.mpr fun c hc => by
    have := h3 c hc
    unfold isDig
    rw [decide_eq_true_iff]
    simp only [List.mem_cons, List.not_mem_nil, or_false]
    omega
  have he : (TL.numL n).isEmpty = false := by cases e : TL.numL n <;> simp_all
  unfold isNum
  rw [he, ha, decide_eq_false (show ¬ 9 < (TL.numL n).length by omega), if_neg (by simp)]
  by_cases h0 : n = 0
  · subst h0; rw [TL.numL_lt (by decide)]; rfl
  · have := numL_head n h0
    rw [Bool.or_eq_true]
    refine .inr ?_
    rw [Bool.not_eq_true', decide_eq_false_iff_not]
    intro z
    exact this (by simpa using z)
theorem rt_nums {l : List Nat} (h : okNums l) (hne : l ≠ []) : numsIn (wNums l) = some l := by
  unfold numsIn wNums
  rw [splitC_join (by simpa using hne) (fun p hp => by
    obtain ⟨n, _, rfl⟩ := List.mem_map.mp hp
    exact TL.numL_free (by decide))]
  rw [if_pos (by
    rw [List.all_eq_true]
    intro p hp
    obtain ⟨n, hn, rfl⟩ := List.mem_map.mp hp
    exact isNum_numL (h.2 n hn))]
  rw [List.map_map]
  congr 1
  conv => rhs; rw [← List.map_id l]
  exact List.map_congr_left fun n _ => TL.numL_val n
theorem free_nums {c : Nat} {l : List Nat} (h : c ≠ 44) (hc : c < 48 ∨ 57 < c) : c ∉ wNums l := fun z => by
  rcases mem_join z with z | ⟨p, hp, z⟩
  · exact h (by simpa using z)
  · obtain ⟨n, _, rfl⟩ := List.mem_map.mp hp
    exact TL.numL_free hc z
theorem wNums_ne {l : List Nat} (h : l ≠ []) : wNums l ≠ [] := by
  unfold wNums
  match l with
  | [] => exact absurd rfl h
  | [n] => exact TL.numL_ne n
  | n :: m :: r =>
    intro z
    have := congrArg List.length z
    simp only [List.map_cons, TL.joinL, List.length_append, List.length_cons, List.length_nil] at this
    omega
theorem mapO_map {α β : Type} {f : α → Option β} {g : β → α} : ∀ {l : List β}, (∀ x ∈ l, f (g x) = some x) → mapO f (l.map g) = some l
  | [], _ => rfl
  | x :: l, h => by
    rw [List.map_cons]
    unfold mapO
    rw [h x List.mem_cons_self, mapO_map fun y hy => h y (List.mem_cons_of_mem _ hy)]; rfl
def wRow (v : List Nat) : List Nat := if v = [] then [45] else wNums v
theorem free_row {c : Nat} {v : List Nat} (h : c ≠ 44) (h2 : c ≠ 45) (hc : c < 48 ∨ 57 < c) : c ∉ wRow v := fun z => by
  unfold wRow at z
  split at z
  · exact h2 (by simpa using z)
  · exact free_nums h hc z
theorem rt_row {v : List Nat} (h : okNums v) : fL (wRow v) = some v := by
  unfold fL wRow
  by_cases h0 : v = []
  · rw [if_pos h0, if_pos rfl, h0]
  · rw [if_neg h0, if_neg (fun z => ?_), rt_nums h h0]
    have : (45 : Nat) ∈ wNums v := by rw [z]; simp
    exact free_nums (by decide) (by decide) this
theorem rt_lay {L : List (List Nat)} (h : okLay L) : layIn (wLayer L) = some L := by
  unfold layIn wLayer
  by_cases h0 : L = []
  · rw [if_pos h0, if_pos rfl, h0]
  · rw [if_neg h0]
    rw [if_neg (fun z => by
      have m : (46 : Nat) ∈ TL.joinL [47] (L.map wRow) := by
        show (46 : Nat) ∈ TL.joinL [47] (L.map fun v => if v = [] then [45] else wNums v)
        rw [z]; simp
      rcases mem_join m with m | ⟨p, hp, m⟩
      · simp at m
      · obtain ⟨v, _, rfl⟩ := List.mem_map.mp hp
        exact free_row (by decide) (by decide) (by decide) m)]
    show mapO fL (splitC 47 (TL.joinL [47] (L.map wRow))) = some L
    rw [splitC_join (by simpa using h0) (fun p hp => by
      obtain ⟨v, _, rfl⟩ := List.mem_map.mp hp
      exact free_row (by decide) (by decide) (by decide))]
    exact mapO_map fun v hv => rt_row (h.2 v hv)
theorem wRow_ne (v : List Nat) : wRow v ≠ [] := by
  unfold wRow
  split
  · simp
  · exact wNums_ne (by assumption)
theorem joinL_ne {s : List Nat} : ∀ {ps : List (List Nat)}, ps ≠ [] → (∀ p ∈ ps, p ≠ []) → TL.joinL s ps ≠ []
  | [], h, _ => absurd rfl h
  | [p], _, h => h p List.mem_cons_self
  | p :: q :: r, _, h => fun z => h p List.mem_cons_self (by
    simp only [TL.joinL, List.append_eq_nil_iff] at z; exact z.1)
theorem wLayer_ne (L : List (List Nat)) : wLayer L ≠ [] := by
  unfold wLayer
  split
  · simp
  · rename_i h
    refine joinL_ne (by simpa using h) fun p hp => ?_
    obtain ⟨v, _, rfl⟩ := List.mem_map.mp hp
    exact wRow_ne v
theorem free_layer {L : List (List Nat)} : (32 : Nat) ∉ wLayer L := fun z => by
  unfold wLayer at z
  split at z
  · simp at z
  · rcases mem_join z with m | ⟨p, hp, m⟩
    · simp at m
    · obtain ⟨v, _, rfl⟩ := List.mem_map.mp hp
      exact free_row (v := v) (by decide) (by decide) (by decide) m
theorem rt_stru {S : List (List (List Nat))} (h : okStru S) : struIn (wStru S) = some S := by
  unfold struIn wStru
  by_cases h0 : S = []
  · subst h0; rfl
  · rw [if_neg (joinL_ne (by simpa using h0) fun p hp => by
      obtain ⟨v, _, rfl⟩ := List.mem_map.mp hp
      exact wLayer_ne v)]
    rw [splitC_join (by simpa using h0) (fun p hp => by
      obtain ⟨v, _, rfl⟩ := List.mem_map.mp hp
      exact free_layer)]
    exact mapO_map fun v hv => rt_lay (h.2 v hv)
/-! ### the law -/
theorem cut_len {α : Type} (xs : List α) (lo hi : Option Int) : (cutD xs lo hi).length ≤ xs.length := by
  unfold cutD
  rw [List.length_take, List.length_drop]; omega
theorem p_law_end {w : List Nat} (hw : w.length ≤ 1000000) {sc : D} {s1 s2 s3 s4 s6 s7 s8 s9 s10 : Sl} {Ω : Store} {Qd : QD} {Ed : XD} (hq : ∀ Ω, Qd (.bl true) Ω) :
    wS T16 (.seq (.asg (.nm 10) (.call "_law_structure" (.cons (.var 5) .nil)))
  (.seq (.ite (.op .is_ (.bor 10) (.lit .non)) (.ret (.op .eq (.call "_law_refused" (.cons (.var 5) .nil)) (.lit (.int 1)))) .pass)
  (.ret (.op .eq (.call "read_structure" (.cons (.var 5) .nil)) (.bor 10))))) [.val sc, s1, s2, s3, s4, .val (.str w), s6, s7, s8, s9, s10] Ω (En0 Qd Ed) := by
  refine ⟨_, rfl, _, rfl, _, _, rfl, tf_law_l_structure, rfl, w, rfl, hw, _, rfl, _, .inl rfl, _, rfl, ?_⟩
  cases hs : struIn w with
  | none =>
    rw [if_pos (show isNon (optD stru none) = true from rfl)]
    refine ⟨_, rfl, _, rfl, _, _, rfl, tf_law_l_refused, rfl, w, rfl, hw, ?_⟩
    rw [hs]
    exact hq Ω
  | some S =>
    rw [if_neg (by simp [optD, stru, isNon])]
    refine ⟨_, rfl, _, rfl, _, _, rfl, tf_law_read_structure, rfl, w, rfl, hw, fun S' hS' => ?_, fun hN => by rw [hs] at hN; cases hN⟩
    rw [hs] at hS'; cases hS'
    refine ⟨_, .inl rfl, sh_stru.ok (by decide), sh_stru.ok (by decide), ?_⟩
    show Qd (.bl (eqD (stru S) (stru S))) Ω
    rw [(sh_stru (S := S)).self]
    exact hq Ω
theorem p_law : ∀ (ns : List Int) Qd Ed, ns.length ≤ 63 → (∀ Ω, Qd (.bl true) Ω) → ∀ Ω, wS T16 ir_law (rho0 R_law.N [.scr ns]) Ω (En0 Qd Ed) := by
  intro ns Qd Ed hns hq Ω
  show wS T16 ir_law [.val (.scr ns), .un, .un, .un, .un, .un, .un, .un, .un, .un, .un] Ω (En0 Qd Ed)
  unfold ir_law
  refine ⟨_, rfl, _, rfl, _, rfl, _, _, rfl, tf_law_l_cell, rfl, ns, 0, rfl, hns, _, rfl, _, rfl, _, rfl, _, _, rfl, tf_law_l_digits, rfl, _, rfl, fun l hl hb => ⟨_, rfl, ?_⟩⟩
  have hl0 : ∀ i : Nat, i < 40 → ∃ x, L2.atI (l.map D.int) ((i : Nat) : Int) = some (.int x) ∧ 0 ≤ x ∧ x < 60 := fun i hi => by
    rw [atI_nat, List.getElem?_map, List.getElem?_eq_getElem (by omega)]
    exact ⟨_, rfl, hb _ (List.getElem_mem (by omega))⟩
  obtain ⟨x0, e0, a0, b0⟩ := hl0 0 (by decide)
  obtain ⟨x1, e1, a1, b1⟩ := hl0 1 (by decide)
  have p0 := Int.emod_nonneg x0 (b := 4) (by decide)
  have p1 := Int.emod_lt_of_pos x0 (b := 4) (by decide)
  have q0 := Int.emod_nonneg x1 (b := 5) (by decide)
  have q1 := Int.emod_lt_of_pos x1 (b := 5) (by decide)
  refine ⟨_, .inl rfl, _, e0, _, rfl, _, rfl, by decide, _, rfl, ?_⟩
  refine ⟨_, .inl rfl, _, e1, _, rfl, _, rfl, by decide, _, rfl, ⟨by omega, by omega⟩, _, rfl, ?_⟩
  rw [rangeD_0]
  refine wLoop_ind (fun ks acc Ω' => ∃ (S : List (List (List Nat))) (js : List Nat), acc = S.map lay ∧ ks = js.map (fun k : Nat => D.int (k : Int)) ∧ S.length + js.length ≤ 5 ∧ ∀ x ∈ S, okLay x) ?_ ?_ _ _ _
    ⟨[], List.range (x1 % 5).toNat, rfl, rfl, by simp; omega, by simp⟩
  · rintro d ds acc Ω' ⟨S, js, rfl, hks, hn, hbS⟩ K hk
    cases js with
    | nil => cases hks
    | cons j js =>
      rw [List.map_cons, List.cons.injEq] at hks
      obtain ⟨rfl, rfl⟩ := hks
      simp only [List.length_cons] at hn
      refine ⟨_, rfl, _, rfl, _, rfl, _, .inl rfl, .inl ⟨by decide, by decide⟩, _, rfl, _, rfl, _, rfl, _, rfl, _, _, rfl, tf_law_l_any_layer, rfl, l, _, _, rfl, hl, by omega, p0, by omega, fun L hL => ?_⟩
      exact ⟨by simp [LINE]; omega, hk _ _ ⟨S ++ [L], js, by rw [List.map_append]; rfl, rfl, by simp; omega, fun x hx => by
        rcases List.mem_append.mp hx with hx | hx
        · exact hbS x hx
        · rw [List.mem_singleton.mp hx]; exact hL⟩⟩
  rintro acc Ω' ⟨S, js, rfl, hks, hn, hbS⟩
  have hS : okStru S := ⟨by omega, hbS⟩
  have hwl := len_wStru hS
  refine ⟨_, rfl, _, rfl, _, rfl, ⟨_, rfl⟩, _, rfl, _, rfl, _, rfl, wLoop_map layW _ _ ?_ (fun d hd acc K hz hk => ?_) ⟨_, rfl, _, rfl, ?_⟩⟩
  · have := hS.1; simp [LINE]; omega
  · obtain ⟨v, hv, rfl⟩ := stru_mem hd
    rw [layW_lay] at hk
    exact ⟨_, rfl, _, rfl, _, rfl, _, rfl, _, _, rfl, tf_law_l_layer_word, rfl, _, rfl, hS.2 _ hv, hz, hk⟩
  have e : [] ++ (S.map lay).map layW = (S.map wLayer).map D.str := by
    simp only [List.nil_append, List.map_map, Function.comp_def, layW_lay]
  rw [e]
  refine ⟨_, strsOf_map _, ?_, _, rfl, ?_⟩
  · have := stru_sum hS
    have := hS.1
    simp only [List.length_map, List.length_singleton, LINE]; omega
  show wS T16 _ [.val (.scr ns), .val (.lst (l.map .int)), .val (.int (x0 % 4)), .val (stru S), .un, .val (.str (wStru S)), .un, .un, .un, .un, .un] Ω' _
  refine ⟨_, rfl, _, rfl, _, _, rfl, tf_law_write_structure, rfl, S, rfl, hS, _, .inl rfl, _, rfl, ?_⟩
  rw [if_neg (by simp)]
  refine ⟨_, rfl, _, rfl, _, _, rfl, tf_law_read_structure, rfl, wStru S, rfl, by omega, fun S' hS' => ?_, fun hN => by rw [rt_stru hS] at hN; cases hN⟩
  rw [rt_stru hS] at hS'; cases hS'
  refine ⟨_, .inl rfl, sh_stru.ok (by decide), sh_stru.ok (by decide), _, rfl, ?_⟩
  rw [(sh_stru (S := S)).self]
  refine ⟨_, rfl, _, rfl, _, rfl, _, _, rfl, tf_law_l_cell, rfl, ns, 1, rfl, hns, _, rfl, _, rfl, by decide, _, rfl, ?_⟩
  refine ⟨_, rfl, _, rfl, _, rfl, _, _, rfl, tf_law_l_cell, rfl, ns, 1, rfl, hns, ⟨by decide, by decide⟩, _, rfl, _, rfl, _, .inl rfl, _, rfl, _, rfl, by unfold LINE; omega, by omega, _, rfl, ?_⟩
  obtain ⟨c, _, ec⟩ := atI_in (xs := [32, 48, 44, 47, 45, 46, 49, 9, 101, 57]) (i := ns.getD 2 0 % 10) (Int.emod_nonneg _ (by decide)) (Int.emod_lt_of_pos _ (by decide))
  refine ⟨_, rfl, _, rfl, _, rfl, _, _, rfl, tf_law_l_cell, rfl, ns, 2, rfl, hns, _, rfl, _, rfl, by decide, by decide, c, ec, _, rfl, ?_⟩
  refine ⟨_, .inl rfl, _, rfl, ?_⟩
  have h0 := Int.emod_nonneg (ns.getD 1 0) (b := 6) (by decide)
  generalize ns.getD 1 0 % 6 = ch at h0 ⊢
  generalize hpl : ns.getD 1 0 / 6 % (((wStru S).length : Nat) + 1 : Int) = pl
  by_cases hch : ch < 3
  · rw [if_pos (by rw [decide_eq_true_iff]; exact hch)]
    have three : (∃ t : List Nat, t.length ≤ 1 ∧ L2.atI ([.str [], .str [c], .str [c]] : List D) ch = some (.str t)) ∧ ∃ m : Int, L2.atI ([.int 1, .int 1, .int 0] : List D) ch = some (.int m) := by
      have : ch = 0 ∨ ch = 1 ∨ ch = 2 := by omega
      rcases this with e | e | e <;> rw [e]
      · exact ⟨⟨[], by decide, atI_nat _ 0⟩, 1, atI_nat _ 0⟩
      · exact ⟨⟨[c], Nat.le_refl _, atI_nat _ 1⟩, 1, atI_nat _ 1⟩
      · exact ⟨⟨[c], Nat.le_refl _, atI_nat _ 2⟩, 0, atI_nat _ 2⟩
    obtain ⟨⟨t, ht, et⟩, m, em⟩ := three
    have hL : (wStru S).length ≤ LINE := by unfold LINE; omega
    have c1 := cut_len (wStru S) none (some pl)
    have c2 := cut_len (wStru S) (some (pl + m)) none
    refine ⟨_, .inl rfl, none, rfl, _, .inl rfl, some pl, rfl, hL, _, rfl, _, rfl, _, rfl, _, rfl, _, rfl, _, rfl, (by show 3 ≤ LINE; decide), _, .inl rfl, _, et, by unfold LINE; omega, ?_⟩
    refine ⟨_, .inl rfl, _, .inl rfl, _, rfl, _, rfl, _, rfl, _, rfl, by decide, _, .inl rfl, _, em, some (pl + m), rfl, none, rfl, hL, by simp only [List.length_append, LINE]; omega, _, rfl, ?_⟩
    exact p_law_end (by simp only [List.length_append]; omega) hq
  · rw [if_neg (by rw [decide_eq_true_iff]; exact hch)]
    exact p_law_end (by omega) hq
end OE
namespace OE
open PySem PySem.Spec PyProof.Rows L2
/-! ### the base: constants, exceptions -/
def msgOf (s : Stmt) : Expr := match defBody s with
  | .Expr (.Call _ [e] _ _) _ :: _ => e
  | _ => .Name "none" ⟨0, 0, 0, 0⟩
def ce_line : IR := .op .add (.op .add (.lit (.str [108, 105, 110, 101, 32])) (.bi .str_ (.cons (.bor 1) .nil))) (.lit (.str [32, 111, 102, 32, 116, 104, 101, 32, 112, 97, 112, 101, 114, 32, 105, 115, 32, 119, 114, 111, 110, 103]))
theorem hce_line : cE 40 ⟨{ N := ["self", "line", "__class__"] }, defScope s_InvalidPaper_init, [], true⟩ false (msgOf s_InvalidPaper_init) = some ce_line := by kernel_rfl
theorem nsc_line : NdefX.NScope ["self", "line", "__class__"] ["self", "line"] ["__class__"] (defScope s_InvalidPaper_init) := NdefX.nscope_by (by decide +kernel)
theorem wm_line (d : OE.D) (Ω : Store) (h : TB.xm "InvalidPaper" d) : wE T0 ce_line EF [.un, .val d, .un] Ω fun _ Ω' => Ω' = Ω := by
  obtain ⟨i, rfl, h0, h1⟩ := h
  obtain ⟨n, rfl⟩ : ∃ n : Nat, i = (n : Nat) := ⟨i.toNat, by omega⟩
  have hl : (TL.numL n).length ≤ 200 := TL.numL_len (by decide) (by omega)
  refine ⟨_, .inl rfl, _, rfl, _, rfl, ⟨h0, h1⟩, ?_, ?_, rfl⟩
  · show [108, 105, 110, 101, 32].length + (TL.numL ((n : Int).toNat)).length ≤ LINE
    rw [Int.toNat_natCast]; simp only [List.length_cons, List.length_nil, LINE]; omega
  · show ([108, 105, 110, 101, 32] ++ TL.numL ((n : Int).toNat)).length + _ ≤ LINE
    rw [Int.toNat_natCast]; simp only [List.length_append, List.length_cons, List.length_nil, LINE]; omega
theorem kit_self (K : PySem.W.Frag) (c : Value) : PySem.W.kitOne K c c = some true := by
  unfold PySem.W.kitOne
  rw [if_pos (beq_self_eq_true c)]
theorem base_bs {K : PySem.W.Frag} {h : Heap} {mg : Str → Option Value} {C D : Addr} (X : K.In h) (G : h.Ns mainGlobals mg) (aI : PySem.W.nsIn K mainGlobals "InvalidPaper" = some (some (.ref C))) (aC : PySem.W.nsIn K mainGlobals "CensusError" = some (some (.ref D))) :
    ∀ R : Rec, (∀ c ∈ R.nms, c ∈ NMS) → Blt mg → Base K mg TB R := fun R hR bl => by
  refine ⟨bl, fun c C f _ z => (by cases z), fun c hc => ?_⟩
  have := hR c hc
  simp only [NMS, List.mem_cons, List.not_mem_nil, or_false] at this
  rcases this with rfl | rfl
  · exact ⟨C, PySem.W.mg_of X G aI⟩
  · exact ⟨D, PySem.W.mg_of X G aC⟩
theorem tab_base {P : Program} {w : World} {K : PySem.W.Frag} {h : Heap} {mg : Str → Option Value} {C D f cc cda : Addr} (X : K.In h) (G : h.Ns mainGlobals mg)
    {t1 t2 tf : Tok} {nm q : Str} {Nn : Addr} {bs : List Value} {sn : List Str} {sub : List Value} {ab : Bool} {col : Option Bool} {dd : Option Addr} {m0 m1 m2 m3 m5 : Option Value} {oc kV doc pm ct ccl cl : Value} {od an cdd cld : Option Addr} {osl ccs csl : Array (Option Value)} {vs : Array Value} {file : Str}
    (md : PySem.W.nsIn K mainGlobals "MOST_DIGITS" = some (some (.int 9 t1))) (dg : PySem.W.nsIn K mainGlobals "DIGITS" = some (some (.str ("0123456789" : Str) t2)))
    (aI : PySem.W.nsIn K mainGlobals "InvalidPaper" = some (some (.ref C))) (aC : PySem.W.nsIn K mainGlobals "CensusError" = some (some (.ref D)))
    (xC : K.lookup C = some (excClassObj nm q C Nn bs [.ref D, .type "ValueError", .type "Exception", .type "BaseException", .type "object"] true sn sub ab col dd m0 m1 m2 m3 m5 "ValueError.__new__"))
    (sa : PySem.W.findIn K (.ref C) "__setattr__" = some (some (.builtin "object.__setattr__"))) (ga : PySem.W.findIn K (.ref C) "__getattribute__" = some (some (.builtin "BaseException.__getattribute__"))) (gg : PySem.W.findIn K (.ref C) "__getattr__" = some none)
    (nof : PySem.W.findIn K (.ref C) "line" = some none) (ini : PySem.W.findIn K (.ref C) "__init__" = some (some (.ref f))) (tI : PySem.W.typeIn K (.ref f) = some (.type "function"))
    (lI : K.lookup f = some ⟨oc, od, .func (PySem.W.fnX "__init__" "InvalidPaper.__init__" (defArgs s_InvalidPaper_init) (defBody s_InvalidPaper_init) (defScope s_InvalidPaper_init) [("__class__", cc)] .none kV doc pm an (.ref cda) ct), osl⟩)
    (cI : PySem.W.codeIn K (.ref cda) "InvalidPaper.__init__" = true) (lcd : K.lookup cda = some ⟨ccl, cdd, .fields vs, ccs⟩) (hvs : vs[2]? = some (.str file tf)) (hfile : ((P.main.file : Str) == file) = true) (lcc : K.lookup cc = some ⟨cl, cld, .cell (some (.ref C)), csl⟩)
    (kC : PySem.W.keepIn K (.ref C) = true) (eC : PySem.W.subIn K (.ref C) (.type "BaseException") = some true) (tC : PySem.W.typeIn K (.ref C) = some (.type "type")) (hC : PySem.W.hasDictIn K C = true) (vC : PySem.W.subIn K (.ref C) (.type "ValueError") = some true)
    (sup : PySem.W.ks_superIn K C C "__init__" = some (some (.builtin "ValueError.__init__"))) (self : PySem.W.mroIn K C (.ref C) = some true) (op : PySem.W.nsIn K cStatics "thirdparty.any" = some none) (mo : PySem.W.mroIn K C (.type "object") = some true)
    (hcl : PySem.W.findIn K (.ref C) "__class__" = some (some (.builtin "object.__class__"))) (hsp : PySem.W.specialIn K (.builtin "object.__class__") "__get__" = some (some (.builtin "getset_descriptor.__get__"))) (htk : PySem.W.takesIn K (.builtin "object.__class__") = some true)
    (eD : PySem.W.subIn K (.ref D) (.type "BaseException") = some true) (hD : PySem.W.hasDictIn K D = true) (tD : PySem.W.typeIn K (.ref D) = some (.type "type")) (sCD : PySem.W.subIn K (.ref C) (.ref D) = some true) (sCC : PySem.W.subIn K (.ref C) (.ref C) = some true) (kCD : PySem.W.kitOne K (.ref C) (.ref D) = some true)
    (zs : PySem.W.nsIn K mainGlobals "super" = some none) (htop : (P.main.scope.names.lookup ("super" : Str)).isSome = false) : Blt mg → ∀ base : Heap, TabOk P w K mg base TB 3 := by
  intro bl base
  have gC := PySem.W.mg_of X G aI
  have gD := PySem.W.mg_of X G aC
  have oex : OexC K C := ⟨⟨nm, q, Nn, bs, _, sn, sub, ab, col, dd, m0, m1, m2, m3, m5, xC, rfl⟩, sa, eC, tC, kC⟩
  have xin : XIn P K C f "line" "line" (msgOf s_InvalidPaper_init) ["self", "line", "__class__"] _ (defScope s_InvalidPaper_init) :=
    ⟨⟨oc, od, "__init__", "InvalidPaper.__init__", defArgs s_InvalidPaper_init, .none, kV, doc, pm, ct, an, cda, cc, osl, _, _, _, _, _, _, _, _, _, ccl, cdd, vs, ccs, file, tf, cl, cld, csl, rfl, lI, cI, lcd, hvs, hfile, lcc, rfl, nsc_line, rfl, fun env => ⟨_, rfl⟩⟩,
      oex, vC, sup, self, op, htop, nof, rfl⟩
  have bd : Binds K (PySem.W.fnX "__init__" "InvalidPaper.__init__" (defArgs s_InvalidPaper_init) (defBody s_InvalidPaper_init) (defScope s_InvalidPaper_init) [("__class__", cc)] .none kV doc pm an (.ref cda) ct) [("self" : Str), "line"] [] :=
    .all fun us hl => match us, hl with | [_, _], _ => rfl
  refine ⟨fun _ _ z => (by cases z), fun _ _ _ z => (by cases z), fun _ _ z => (by cases z), fun c fld z => ?_, fun x c b C' cv z hx hc => ?_, fun x d z => ?_⟩
  · have z : (if c = "InvalidPaper" then some ("line" : Str) else none) = some fld := z
    split at z
    · rename_i e; cases z; subst e
      exact xok_of 40 xin bd rfl bl (PySem.W.mg_none_of X G zs) (by decide +kernel) hce_line gC ini tI (fun d Ω hd => wm_line d Ω hd) ⟨ga, gg, eC, hC⟩ ⟨ga, gg, eC, hC, hcl, hsp, htk, mo⟩
    · cases z
  · have z : (if x = "InvalidPaper" ∧ (c = "InvalidPaper" ∨ c = "CensusError") then some true else none) = some b := z
    split at z
    · rename_i e
      cases z
      obtain ⟨rfl, e⟩ := e
      rw [gC] at hx; cases hx
      have cvq : ∀ a, mg c = some (.ref a) → cv = .ref a := fun a ha => by
        rcases hc with q | ⟨q, _⟩
        · rw [ha] at q; cases q; rfl
        · rw [ha] at q; cases q
      rcases e with rfl | rfl
      · rw [cvq C gC]
        exact ⟨PySem.W.exm_ref eC hC tC sCC, kit_self _ _⟩
      · rw [cvq D gD]
        exact ⟨PySem.W.exm_ref eD hD tD sCD, kCD⟩
    · cases z
  · have z : (if x = "MOST_DIGITS" then some (OE.D.int 9) else if x = "DIGITS" then some (.str [48, 49, 50, 51, 52, 53, 54, 55, 56, 57]) else none) = some d := z
    split at z
    · rename_i e; cases z; subst e
      exact ⟨.int 9, _, PySem.W.mg_of X G md, ⟨_, rfl⟩, fun _ _ => by simp only [Is]⟩
    split at z
    · rename_i e; cases z; subst e
      refine ⟨.str (mkS [48, 49, 50, 51, 52, 53, 54, 55, 56, 57]), _, PySem.W.mg_of X G dg, ⟨t2, ?_⟩, fun _ _ => by simp only [Is]⟩
      rw [show ("0123456789" : Str) = mkS [48, 49, 50, 51, 52, 53, 54, 55, 56, 57] by decide +kernel]
    · cases z
end OE
namespace OE
open PySem PySem.Spec PyProof.Rows L2
theorem all_mk {P : Program} {w : World} {K : PySem.W.Frag} {h : Heap} {mg : Str → Option Value} {fa : Addr} (X : K.In h) (G : h.Ns mainGlobals mg) (hfa : mg "law" = some (.ref fa))
    {f0 : Addr} {od0 an0 : Option Addr} {sl0 : Array (Option Value)} {oc0 kV0 dc0 pm0 cd0 ct0 : Value} (a0 : PySem.W.nsIn K mainGlobals "joined" = some (some (.ref f0))) (l0 : K.lookup f0 = some ⟨oc0, od0, .func (PySem.W.fnOf "joined" "joined" (defArgs s_joined) (defBody s_joined) (defScope s_joined) .none kV0 dc0 pm0 an0 cd0 ct0), sl0⟩) (c0 : PySem.W.codeIn K cd0 "joined" = true) (k0 : PySem.W.keepIn K (.ref f0) = true)
    {f1 : Addr} {od1 an1 : Option Addr} {sl1 : Array (Option Value)} {oc1 kV1 dc1 pm1 cd1 ct1 : Value} (a1 : PySem.W.nsIn K mainGlobals "layer_word" = some (some (.ref f1))) (l1 : K.lookup f1 = some ⟨oc1, od1, .func (PySem.W.fnOf "layer_word" "layer_word" (defArgs s_layer_word) (defBody s_layer_word) (defScope s_layer_word) .none kV1 dc1 pm1 an1 cd1 ct1), sl1⟩) (c1 : PySem.W.codeIn K cd1 "layer_word" = true) (k1 : PySem.W.keepIn K (.ref f1) = true)
    {f2 : Addr} {od2 an2 : Option Addr} {sl2 : Array (Option Value)} {oc2 kV2 dc2 pm2 cd2 ct2 : Value} (a2 : PySem.W.nsIn K mainGlobals "write_structure" = some (some (.ref f2))) (l2 : K.lookup f2 = some ⟨oc2, od2, .func (PySem.W.fnOf "write_structure" "write_structure" (defArgs s_write_structure) (defBody s_write_structure) (defScope s_write_structure) .none kV2 dc2 pm2 an2 cd2 ct2), sl2⟩) (c2 : PySem.W.codeIn K cd2 "write_structure" = true) (k2 : PySem.W.keepIn K (.ref f2) = true)
    {f3 : Addr} {od3 an3 : Option Addr} {sl3 : Array (Option Value)} {oc3 kV3 dc3 pm3 cd3 ct3 : Value} (a3 : PySem.W.nsIn K mainGlobals "is_number" = some (some (.ref f3))) (l3 : K.lookup f3 = some ⟨oc3, od3, .func (PySem.W.fnOf "is_number" "is_number" (defArgs s_is_number) (defBody s_is_number) (defScope s_is_number) .none kV3 dc3 pm3 an3 cd3 ct3), sl3⟩) (c3 : PySem.W.codeIn K cd3 "is_number" = true) (k3 : PySem.W.keepIn K (.ref f3) = true)
    {f4 : Addr} {od4 an4 : Option Addr} {sl4 : Array (Option Value)} {oc4 kV4 dc4 pm4 cd4 ct4 : Value} (a4 : PySem.W.nsIn K mainGlobals "numbers_in" = some (some (.ref f4))) (l4 : K.lookup f4 = some ⟨oc4, od4, .func (PySem.W.fnOf "numbers_in" "numbers_in" (defArgs s_numbers_in) (defBody s_numbers_in) (defScope s_numbers_in) .none kV4 dc4 pm4 an4 cd4 ct4), sl4⟩) (c4 : PySem.W.codeIn K cd4 "numbers_in" = true) (k4 : PySem.W.keepIn K (.ref f4) = true)
    {f5 : Addr} {od5 an5 : Option Addr} {sl5 : Array (Option Value)} {oc5 kV5 dc5 pm5 cd5 ct5 : Value} (a5 : PySem.W.nsIn K mainGlobals "layer_in_word" = some (some (.ref f5))) (l5 : K.lookup f5 = some ⟨oc5, od5, .func (PySem.W.fnOf "layer_in_word" "layer_in_word" (defArgs s_layer_in_word) (defBody s_layer_in_word) (defScope s_layer_in_word) .none kV5 dc5 pm5 an5 cd5 ct5), sl5⟩) (c5 : PySem.W.codeIn K cd5 "layer_in_word" = true) (k5 : PySem.W.keepIn K (.ref f5) = true)
    {f6 : Addr} {od6 an6 : Option Addr} {sl6 : Array (Option Value)} {oc6 kV6 dc6 pm6 cd6 ct6 : Value} (a6 : PySem.W.nsIn K mainGlobals "read_structure" = some (some (.ref f6))) (l6 : K.lookup f6 = some ⟨oc6, od6, .func (PySem.W.fnOf "read_structure" "read_structure" (defArgs s_read_structure) (defBody s_read_structure) (defScope s_read_structure) .none kV6 dc6 pm6 an6 cd6 ct6), sl6⟩) (c6 : PySem.W.codeIn K cd6 "read_structure" = true) (k6 : PySem.W.keepIn K (.ref f6) = true)
    {f7 : Addr} {od7 an7 : Option Addr} {sl7 : Array (Option Value)} {oc7 kV7 dc7 pm7 cd7 ct7 : Value} (a7 : PySem.W.nsIn K mainGlobals "_law_cell" = some (some (.ref f7))) (l7 : K.lookup f7 = some ⟨oc7, od7, .func (PySem.W.fnOf "_law_cell" "_law_cell" (defArgs s_l_cell) (defBody s_l_cell) (defScope s_l_cell) .none kV7 dc7 pm7 an7 cd7 ct7), sl7⟩) (c7 : PySem.W.codeIn K cd7 "_law_cell" = true) (k7 : PySem.W.keepIn K (.ref f7) = true)
    {f8 : Addr} {od8 an8 : Option Addr} {sl8 : Array (Option Value)} {oc8 kV8 dc8 pm8 cd8 ct8 : Value} (a8 : PySem.W.nsIn K mainGlobals "_law_digits" = some (some (.ref f8))) (l8 : K.lookup f8 = some ⟨oc8, od8, .func (PySem.W.fnOf "_law_digits" "_law_digits" (defArgs s_l_digits) (defBody s_l_digits) (defScope s_l_digits) .none kV8 dc8 pm8 an8 cd8 ct8), sl8⟩) (c8 : PySem.W.codeIn K cd8 "_law_digits" = true) (k8 : PySem.W.keepIn K (.ref f8) = true)
    {f9 : Addr} {od9 an9 : Option Addr} {sl9 : Array (Option Value)} {oc9 kV9 dc9 pm9 cd9 ct9 : Value} (a9 : PySem.W.nsIn K mainGlobals "_law_layer_word" = some (some (.ref f9))) (l9 : K.lookup f9 = some ⟨oc9, od9, .func (PySem.W.fnOf "_law_layer_word" "_law_layer_word" (defArgs s_l_layer_word) (defBody s_l_layer_word) (defScope s_l_layer_word) .none kV9 dc9 pm9 an9 cd9 ct9), sl9⟩) (c9 : PySem.W.codeIn K cd9 "_law_layer_word" = true) (k9 : PySem.W.keepIn K (.ref f9) = true)
    {f10 : Addr} {od10 an10 : Option Addr} {sl10 : Array (Option Value)} {oc10 kV10 dc10 pm10 cd10 ct10 : Value} (a10 : PySem.W.nsIn K mainGlobals "_law_numbers" = some (some (.ref f10))) (l10 : K.lookup f10 = some ⟨oc10, od10, .func (PySem.W.fnOf "_law_numbers" "_law_numbers" (defArgs s_l_numbers) (defBody s_l_numbers) (defScope s_l_numbers) .none kV10 dc10 pm10 an10 cd10 ct10), sl10⟩) (c10 : PySem.W.codeIn K cd10 "_law_numbers" = true) (k10 : PySem.W.keepIn K (.ref f10) = true)
    {f11 : Addr} {od11 an11 : Option Addr} {sl11 : Array (Option Value)} {oc11 kV11 dc11 pm11 cd11 ct11 : Value} (a11 : PySem.W.nsIn K mainGlobals "_law_any_layer" = some (some (.ref f11))) (l11 : K.lookup f11 = some ⟨oc11, od11, .func (PySem.W.fnOf "_law_any_layer" "_law_any_layer" (defArgs s_l_any_layer) (defBody s_l_any_layer) (defScope s_l_any_layer) .none kV11 dc11 pm11 an11 cd11 ct11), sl11⟩) (c11 : PySem.W.codeIn K cd11 "_law_any_layer" = true) (k11 : PySem.W.keepIn K (.ref f11) = true)
    {f12 : Addr} {od12 an12 : Option Addr} {sl12 : Array (Option Value)} {oc12 kV12 dc12 pm12 cd12 ct12 : Value} (a12 : PySem.W.nsIn K mainGlobals "_law_is_number" = some (some (.ref f12))) (l12 : K.lookup f12 = some ⟨oc12, od12, .func (PySem.W.fnOf "_law_is_number" "_law_is_number" (defArgs s_l_is_number) (defBody s_l_is_number) (defScope s_l_is_number) .none kV12 dc12 pm12 an12 cd12 ct12), sl12⟩) (c12 : PySem.W.codeIn K cd12 "_law_is_number" = true) (k12 : PySem.W.keepIn K (.ref f12) = true)
    {f13 : Addr} {od13 an13 : Option Addr} {sl13 : Array (Option Value)} {oc13 kV13 dc13 pm13 cd13 ct13 : Value} (a13 : PySem.W.nsIn K mainGlobals "_law_layer" = some (some (.ref f13))) (l13 : K.lookup f13 = some ⟨oc13, od13, .func (PySem.W.fnOf "_law_layer" "_law_layer" (defArgs s_l_layer) (defBody s_l_layer) (defScope s_l_layer) .none kV13 dc13 pm13 an13 cd13 ct13), sl13⟩) (c13 : PySem.W.codeIn K cd13 "_law_layer" = true) (k13 : PySem.W.keepIn K (.ref f13) = true)
    {f14 : Addr} {od14 an14 : Option Addr} {sl14 : Array (Option Value)} {oc14 kV14 dc14 pm14 cd14 ct14 : Value} (a14 : PySem.W.nsIn K mainGlobals "_law_structure" = some (some (.ref f14))) (l14 : K.lookup f14 = some ⟨oc14, od14, .func (PySem.W.fnOf "_law_structure" "_law_structure" (defArgs s_l_structure) (defBody s_l_structure) (defScope s_l_structure) .none kV14 dc14 pm14 an14 cd14 ct14), sl14⟩) (c14 : PySem.W.codeIn K cd14 "_law_structure" = true) (k14 : PySem.W.keepIn K (.ref f14) = true)
    {f15 : Addr} {od15 an15 : Option Addr} {sl15 : Array (Option Value)} {oc15 kV15 dc15 pm15 cd15 ct15 : Value} (a15 : PySem.W.nsIn K mainGlobals "_law_refused" = some (some (.ref f15))) (l15 : K.lookup f15 = some ⟨oc15, od15, .func (PySem.W.fnOf "_law_refused" "_law_refused" (defArgs s_l_refused) (defBody s_l_refused) (defScope s_l_refused) .none kV15 dc15 pm15 an15 cd15 ct15), sl15⟩) (c15 : PySem.W.codeIn K cd15 "_law_refused" = true) (k15 : PySem.W.keepIn K (.ref f15) = true)
    {f16 : Addr} {od16 an16 : Option Addr} {sl16 : Array (Option Value)} {oc16 kV16 dc16 pm16 cd16 ct16 : Value} (a16 : PySem.W.nsIn K mainGlobals "law" = some (some (.ref f16))) (l16 : K.lookup f16 = some ⟨oc16, od16, .func (PySem.W.fnOf "law" "law" (defArgs s_law) (defBody s_law) (defScope s_law) .none kV16 dc16 pm16 an16 cd16 ct16), sl16⟩) (c16 : PySem.W.codeIn K cd16 "law" = true) (k16 : PySem.W.keepIn K (.ref f16) = true)
    (z_len : PySem.W.nsIn K mainGlobals "len" = some none)
    (z_int_ : PySem.W.nsIn K mainGlobals "int" = some none)
    (z_str_ : PySem.W.nsIn K mainGlobals "str" = some none)
    (z_list_ : PySem.W.nsIn K mainGlobals "list" = some none)
    (z_tuple_ : PySem.W.nsIn K mainGlobals "tuple" = some none)
    (z_all_ : PySem.W.nsIn K mainGlobals "all" = some none)
    (z_any_ : PySem.W.nsIn K mainGlobals "any" = some none)
    (z_sum_ : PySem.W.nsIn K mainGlobals "sum" = some none)
    (z_rng : PySem.W.nsIn K mainGlobals "range" = some none)
    (z_enum : PySem.W.nsIn K mainGlobals "enumerate" = some none)
    (z_zip : PySem.W.nsIn K mainGlobals "zip" = some none)
    (z_isi : PySem.W.nsIn K mainGlobals "isinstance" = some none)
    (z_bool_ : PySem.W.nsIn K mainGlobals "bool" = some none)
    (z_ve : PySem.W.nsIn K mainGlobals "ValueError" = some none)
    (tb : Blt mg → ∀ base : Heap, TabOk P w K mg base TB 3) (bs : ∀ R : Rec, (∀ c ∈ R.nms, c ∈ NMS) → Blt mg → Base K mg TB R) :
    ∃ fd : FuncData, (∀ (s : Shared) (v : Value), BindsTo s fd ⟨[v], []⟩ [("_law_script", v)]) ∧ ∀ base : Heap, K.In base → base.Ns mainGlobals mg → FnOk P w K mg base (L2.CX P w) 20 fa fd ["_law_script"] (spL K) := by
  have e := hfa.symm.trans (PySem.W.mg_of X G a16)
  cases e
  have bl : Blt mg := ⟨PySem.W.mg_none_of X G z_len, PySem.W.mg_none_of X G z_int_, PySem.W.mg_none_of X G z_str_, PySem.W.mg_none_of X G z_list_, PySem.W.mg_none_of X G z_tuple_, PySem.W.mg_none_of X G z_all_, PySem.W.mg_none_of X G z_any_, PySem.W.mg_none_of X G z_sum_, PySem.W.mg_none_of X G z_rng, PySem.W.mg_none_of X G z_enum, PySem.W.mg_none_of X G z_zip, PySem.W.mg_none_of X G z_isi, PySem.W.mg_none_of X G z_bool_, PySem.W.mg_none_of X G z_ve⟩
  refine ⟨PySem.W.fnOf "law" "law" (defArgs s_law) (defBody s_law) (defScope s_law) .none kV16 dc16 pm16 an16 cd16 ct16, fun s v => .of_eq rfl, fun base _ _ => ?_⟩
  have t1 : TabOk P w K mg base T1 4 := TabOk.def 80 (tb bl base) X G ⟨⟨_, _, _, _, _, _, _, _, _, _, a0, l0, c0, k0⟩⟩ sc_joined (fun _ _ _ _ _ _ us hl => match us, hl with | [_], _ => rfl) tok_joined (base_tab (bs R_joined (fun c hc => (by cases hc)) bl)) rfl hc_joined p_joined
  have t2 : TabOk P w K mg base T2 5 := TabOk.def 80 (t1) X G ⟨⟨_, _, _, _, _, _, _, _, _, _, a1, l1, c1, k1⟩⟩ sc_layer_word (fun _ _ _ _ _ _ us hl => match us, hl with | [_], _ => rfl) tok_layer_word (base_tab (bs R_layer_word (fun c hc => (by cases hc)) bl)) rfl hc_layer_word p_layer_word
  have t3 : TabOk P w K mg base T3 6 := TabOk.def 80 (t2) X G ⟨⟨_, _, _, _, _, _, _, _, _, _, a2, l2, c2, k2⟩⟩ sc_write_structure (fun _ _ _ _ _ _ us hl => match us, hl with | [_], _ => rfl) tok_write_structure (base_tab (bs R_write_structure (fun c hc => (by cases hc)) bl)) rfl hc_write_structure p_write_structure
  have t4 : TabOk P w K mg base T4 7 := TabOk.def 80 (t3) X G ⟨⟨_, _, _, _, _, _, _, _, _, _, a3, l3, c3, k3⟩⟩ sc_is_number (fun _ _ _ _ _ _ us hl => match us, hl with | [_], _ => rfl) tok_is_number (base_tab (bs R_is_number (fun c hc => (by cases hc)) bl)) rfl hc_is_number p_is_number
  have t5 : TabOk P w K mg base T5 8 := TabOk.def 80 (t4) X G ⟨⟨_, _, _, _, _, _, _, _, _, _, a4, l4, c4, k4⟩⟩ sc_numbers_in (fun _ _ _ _ _ _ us hl => match us, hl with | [_], _ => rfl) tok_numbers_in (base_tab (bs R_numbers_in (fun c hc => (by cases hc)) bl)) rfl hc_numbers_in p_numbers_in
  have t6 : TabOk P w K mg base T6 9 := TabOk.def 80 (t5) X G ⟨⟨_, _, _, _, _, _, _, _, _, _, a5, l5, c5, k5⟩⟩ sc_layer_in_word (fun _ _ _ _ _ _ us hl => match us, hl with | [_], _ => rfl) tok_layer_in_word (base_tab (bs R_layer_in_word (fun c hc => (by cases hc)) bl)) rfl hc_layer_in_word p_layer_in_word
  have t7 : TabOk P w K mg base T7 10 := TabOk.def 80 (t6) X G ⟨⟨_, _, _, _, _, _, _, _, _, _, a6, l6, c6, k6⟩⟩ sc_read_structure (fun _ _ _ _ _ _ us hl => match us, hl with | [_], _ => rfl) tok_read_structure (base_tab (bs R_read_structure (fun c hc => (by cases hc)) bl)) rfl hc_read_structure p_read_structure
  have t8 : TabOk P w K mg base T8 11 := TabOk.def 80 (t7) X G ⟨⟨_, _, _, _, _, _, _, _, _, _, a7, l7, c7, k7⟩⟩ sc_l_cell (fun _ _ _ _ _ _ us hl => match us, hl with | [_, _], _ => rfl) tok_l_cell (base_tab (bs R_l_cell (fun c hc => (by cases hc)) bl)) rfl hc_l_cell p_l_cell
  have t9 : TabOk P w K mg base T9 12 := TabOk.def 80 (t8) X G ⟨⟨_, _, _, _, _, _, _, _, _, _, a8, l8, c8, k8⟩⟩ sc_l_digits (fun _ _ _ _ _ _ us hl => match us, hl with | [_, _, _], _ => rfl) tok_l_digits (base_tab (bs R_l_digits (fun c hc => (by cases hc)) bl)) rfl hc_l_digits p_l_digits
  have t10 : TabOk P w K mg base T10 13 := TabOk.def 80 (t9) X G ⟨⟨_, _, _, _, _, _, _, _, _, _, a9, l9, c9, k9⟩⟩ sc_l_layer_word (fun _ _ _ _ _ _ us hl => match us, hl with | [_], _ => rfl) tok_l_layer_word (base_tab (bs R_l_layer_word (fun c hc => (by cases hc)) bl)) rfl hc_l_layer_word p_l_layer_word
  have t11 : TabOk P w K mg base T11 14 := TabOk.def 80 (t10) X G ⟨⟨_, _, _, _, _, _, _, _, _, _, a10, l10, c10, k10⟩⟩ sc_l_numbers (fun _ _ _ _ _ _ us hl => match us, hl with | [_, _, _], _ => rfl) tok_l_numbers (base_tab (bs R_l_numbers (fun c hc => (by cases hc)) bl)) rfl hc_l_numbers p_l_numbers
  have t12 : TabOk P w K mg base T12 15 := TabOk.def 80 (t11) X G ⟨⟨_, _, _, _, _, _, _, _, _, _, a11, l11, c11, k11⟩⟩ sc_l_any_layer (fun _ _ _ _ _ _ us hl => match us, hl with | [_, _, _], _ => rfl) tok_l_any_layer (base_tab (bs R_l_any_layer (fun c hc => (by cases hc)) bl)) rfl hc_l_any_layer p_l_any_layer
  have t13 : TabOk P w K mg base T13 16 := TabOk.def 80 (t12) X G ⟨⟨_, _, _, _, _, _, _, _, _, _, a12, l12, c12, k12⟩⟩ sc_l_is_number (fun _ _ _ _ _ _ us hl => match us, hl with | [_], _ => rfl) tok_l_is_number (base_tab (bs R_l_is_number (fun c hc => (by cases hc)) bl)) rfl hc_l_is_number p_l_is_number
  have t14 : TabOk P w K mg base T14 17 := TabOk.def 80 (t13) X G ⟨⟨_, _, _, _, _, _, _, _, _, _, a13, l13, c13, k13⟩⟩ sc_l_layer (fun _ _ _ _ _ _ us hl => match us, hl with | [_], _ => rfl) tok_l_layer (base_tab (bs R_l_layer (fun c hc => (by cases hc)) bl)) rfl hc_l_layer p_l_layer
  have t15 : TabOk P w K mg base T15 18 := TabOk.def 80 (t14) X G ⟨⟨_, _, _, _, _, _, _, _, _, _, a14, l14, c14, k14⟩⟩ sc_l_structure (fun _ _ _ _ _ _ us hl => match us, hl with | [_], _ => rfl) tok_l_structure (base_tab (bs R_l_structure (fun c hc => (by cases hc)) bl)) rfl hc_l_structure p_l_structure
  have t16 : TabOk P w K mg base T16 19 := TabOk.def 80 (t15) X G ⟨⟨_, _, _, _, _, _, _, _, _, _, a15, l15, c15, k15⟩⟩ sc_l_refused (fun _ _ _ _ _ _ us hl => match us, hl with | [_], _ => rfl) tok_l_refused (base_tab (bs R_l_refused (fun c hc => by simpa [R_l_refused, NMS] using hc) bl)) rfl hc_l_refused p_l_refused
  exact law_top 80 t16 X G ⟨⟨_, _, _, _, _, _, _, _, _, _, a16, l16, c16, k16⟩⟩ hfa sc_law tok_law (base_tab (bs R_law (fun c hc => (by cases hc)) bl)) rfl hc_law p_law (fun_mk (st := s_law) l16 c16 k16)
end OE
open PySem PySem.W PyProof.Rows in
set_option maxRecDepth 100000 in
set_option maxHeartbeats 0 in
theorem PySem.Challenge.cw_oneofeach_k59_structures_written_and_rea_holds : PySem.Challenge.rw_oneofeach_k59_structures_written_and_rea.Holds := by
  w_on; o_law; k_head; (case hw => w_witness2)
  k_fill
  refine OE.walk (l := PySem.Challenge.rw_oneofeach_k59_structures_written_and_rea) (k := 20) rfl rfl ⟨rfl, by decide, by decide⟩ (fun w h Y => PySem.W.kIn_of Y) ?F
  case F =>
    intro w mg fa h KX G hmg
    refine' OE.all_mk KX G hmg ?a0 ?l0 ?c0 ?k0 ?a1 ?l1 ?c1 ?k1 ?a2 ?l2 ?c2 ?k2 ?a3 ?l3 ?c3 ?k3 ?a4 ?l4 ?c4 ?k4 ?a5 ?l5 ?c5 ?k5 ?a6 ?l6 ?c6 ?k6 ?a7 ?l7 ?c7 ?k7 ?a8 ?l8 ?c8 ?k8 ?a9 ?l9 ?c9 ?k9 ?a10 ?l10 ?c10 ?k10 ?a11 ?l11 ?c11 ?k11 ?a12 ?l12 ?c12 ?k12 ?a13 ?l13 ?c13 ?k13 ?a14 ?l14 ?c14 ?k14 ?a15 ?l15 ?c15 ?k15 ?a16 ?l16 ?c16 ?k16 ?z_len ?z_int_ ?z_str_ ?z_list_ ?z_tuple_ ?z_all_ ?z_any_ ?z_sum_ ?z_rng ?z_enum ?z_zip ?z_isi ?z_bool_ ?z_ve ?tb ?bs
    (case a0 => k_is)
    (case l0 => k_is)
    (case c0 => k_is)
    (case k0 => k_is)
    (case a1 => k_is)
    (case l1 => k_is)
    (case c1 => k_is)
    (case k1 => k_is)
    (case a2 => k_is)
    (case l2 => k_is)
    (case c2 => k_is)
    (case k2 => k_is)
    (case a3 => k_is)
    (case l3 => k_is)
    (case c3 => k_is)
    (case k3 => k_is)
    (case a4 => k_is)
    (case l4 => k_is)
    (case c4 => k_is)
    (case k4 => k_is)
    (case a5 => k_is)
    (case l5 => k_is)
    (case c5 => k_is)
    (case k5 => k_is)
    (case a6 => k_is)
    (case l6 => k_is)
    (case c6 => k_is)
    (case k6 => k_is)
    (case a7 => k_is)
    (case l7 => k_is)
    (case c7 => k_is)
    (case k7 => k_is)
    (case a8 => k_is)
    (case l8 => k_is)
    (case c8 => k_is)
    (case k8 => k_is)
    (case a9 => k_is)
    (case l9 => k_is)
    (case c9 => k_is)
    (case k9 => k_is)
    (case a10 => k_is)
    (case l10 => k_is)
    (case c10 => k_is)
    (case k10 => k_is)
    (case a11 => k_is)
    (case l11 => k_is)
    (case c11 => k_is)
    (case k11 => k_is)
    (case a12 => k_is)
    (case l12 => k_is)
    (case c12 => k_is)
    (case k12 => k_is)
    (case a13 => k_is)
    (case l13 => k_is)
    (case c13 => k_is)
    (case k13 => k_is)
    (case a14 => k_is)
    (case l14 => k_is)
    (case c14 => k_is)
    (case k14 => k_is)
    (case a15 => k_is)
    (case l15 => k_is)
    (case c15 => k_is)
    (case k15 => k_is)
    (case a16 => k_is)
    (case l16 => k_is)
    (case c16 => k_is)
    (case k16 => k_is)
    (case z_len => k_is)
    (case z_int_ => k_is)
    (case z_str_ => k_is)
    (case z_list_ => k_is)
    (case z_tuple_ => k_is)
    (case z_all_ => k_is)
    (case z_any_ => k_is)
    (case z_sum_ => k_is)
    (case z_rng => k_is)
    (case z_enum => k_is)
    (case z_zip => k_is)
    (case z_isi => k_is)
    (case z_bool_ => k_is)
    (case z_ve => k_is)
    (case bs => exact OE.base_bs KX G (by k_is) (by k_is))
    (case tb =>
      refine' OE.tab_base KX G ?md ?dg ?aI ?aC ?xC ?sa ?ga ?gg ?nof ?ini ?tI ?lI ?cI ?lcd ?hvs ?hfile ?lcc ?kC ?eC ?tC ?hC ?vC ?sup ?self ?op ?mo ?hcl ?hsp ?htk ?eD ?hD ?tD ?sCD ?sCC ?kCD ?zs ?htop
      (case md => k_is)
      (case dg => k_is)
      (case aI => k_is)
      (case aC => k_is)
      (case xC => k_is)
      (case sa => k_is)
      (case ga => k_is)
      (case gg => k_is)
      (case nof => k_is)
      (case ini => k_is)
      (case tI => k_is)
      (case lI => k_is)
      (case cI => k_is)
      (case lcd => k_is)
      (case hvs => rfl)
      (case hfile => rfl)
      (case lcc => k_is)
      (case kC => k_is)
      (case eC => k_is)
      (case tC => k_is)
      (case hC => k_is)
      (case vC => k_is)
      (case sup => ks_is)
      (case self => first | rfl | k_is)
      (case op => k_is)
      (case mo => k_is)
      (case hcl => k_is)
      (case hsp => k_is)
      (case htk => k_is)
      (case eD => k_is)
      (case hD => k_is)
      (case tD => k_is)
      (case sCD => first | k_is | rfl)
      (case sCC => first | rfl | k_is)
      (case kCD => first | kit_is | k_is | rfl)
      (case zs => k_is)
      (case htop => rfl))
