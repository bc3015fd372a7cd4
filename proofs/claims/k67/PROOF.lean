import PyProof.Rows.All
import Wide.All
import OpenK.AllK
import Wide.FinOn
import HandS.ForMost
import HandS.ForExc
import HandS.Deep
import HandS.TupAny
import HandS.IsInst
import HandS.Flow
import HandS.TryMany
import HandS.HeadHook2
import PyProof.Rows.ListMulArg
import HandS.TupMul
import HandS.TupLe
import HandS.Style
import PyProof.Rows.InDataRows
import KE.KRevSl
import HandS.RaiseMore
import PyProof.TupleOfStr
import HandS.Zip
import HandS.Rev
import HandS.DictComp
import HandS.Defaults
import HandS.HeadEnd
import HandS.ExcIs
import HandS.Dict
import HandS.Head0
import HandS.Head1
import HandS.Head2
import HandS.Small
import HandS.SortInts
import KE.KDictPairs
import KE.KDictZip
import PySem.Challenge.RW_gridwhole_k67_tables_turned_and_folded
set_option Elab.async false
set_option linter.all false
set_option maxRecDepth 100000
/-! Ev, part A: data as trees, what stands for them in the heap. -/
namespace Ev
open PySem PySem.Spec PyProof.Rows L2

/-- a value as a tree: a text is the list of its codes -/
inductive D where
  | non | bl (b : Bool) | int (i : Int) | str (s : List Nat) | tup (l : List D) | lst (l : List D) | dic (l : List (D × D))

mutual
def D.beq : D → D → Bool
  | .non, .non => true
  | .bl a, .bl b => decide (a = b)
  | .int a, .int b => decide (a = b)
  | .str a, .str b => decide (a = b)
  | .tup a, .tup b => D.beqL a b
  | .lst a, .lst b => D.beqL a b
  | .dic a, .dic b => D.beqK a b
  | _, _ => false
def D.beqL : List D → List D → Bool
  | [], [] => true
  | x :: xs, y :: ys => D.beq x y && D.beqL xs ys
  | _, _ => false
def D.beqK : List (D × D) → List (D × D) → Bool
  | [], [] => true
  | (x, u) :: xs, (y, v) :: ys => D.beq x y && (D.beq u v && D.beqK xs ys)
  | _, _ => false
end
mutual
theorem D.beq_ok : ∀ {a b : D}, D.beq a b = true → a = b
  | .non, b, h => by cases b <;> simp_all [D.beq]
  | .bl x, b, h => by cases b <;> simp_all [D.beq]
  | .int x, b, h => by cases b <;> simp_all [D.beq]
  | .str x, b, h => by cases b <;> simp_all [D.beq]
  | .tup x, b, h => by
    cases b with
    | tup y => simp only [D.beq] at h; rw [D.beqL_ok h]
    | _ => simp [D.beq] at h
  | .lst x, b, h => by
    cases b with
    | lst y => simp only [D.beq] at h; rw [D.beqL_ok h]
    | _ => simp [D.beq] at h
  | .dic x, b, h => by
    cases b with
    | dic y => simp only [D.beq] at h; rw [D.beqK_ok h]
    | _ => simp [D.beq] at h
theorem D.beqL_ok : ∀ {a b : List D}, D.beqL a b = true → a = b
  | [], b, h => by cases b <;> simp_all [D.beqL]
  | x :: xs, b, h => by
    cases b with
    | nil => simp [D.beqL] at h
    | cons y ys =>
      simp only [D.beqL, Bool.and_eq_true] at h
      rw [D.beq_ok h.1, D.beqL_ok h.2]
theorem D.beqK_ok : ∀ {a b : List (D × D)}, D.beqK a b = true → a = b
  | [], b, h => by cases b <;> simp_all [D.beqK]
  | (x, u) :: xs, b, h => by
    cases b with
    | nil => simp [D.beqK] at h
    | cons y ys =>
      obtain ⟨y, v⟩ := y
      simp only [D.beqK, Bool.and_eq_true] at h
      rw [D.beq_ok h.1, D.beq_ok h.2.1, D.beqK_ok h.2.2]
end
mutual
theorem D.beq_refl : ∀ a : D, D.beq a a = true
  | .non => rfl
  | .bl x => by simp [D.beq]
  | .int x => by simp [D.beq]
  | .str x => by simp [D.beq]
  | .tup x => by simp only [D.beq]; exact D.beqL_refl x
  | .lst x => by simp only [D.beq]; exact D.beqL_refl x
  | .dic x => by simp only [D.beq]; exact D.beqK_refl x
theorem D.beqL_refl : ∀ a : List D, D.beqL a a = true
  | [] => rfl
  | x :: xs => by simp only [D.beqL, D.beq_refl x, D.beqL_refl xs, Bool.and_self]
theorem D.beqK_refl : ∀ a : List (D × D), D.beqK a a = true
  | [] => rfl
  | (x, u) :: xs => by simp only [D.beqK, D.beq_refl x, D.beq_refl u, D.beqK_refl xs, Bool.and_self]
end
instance : DecidableEq D := fun a b => if h : D.beq a b = true then isTrue (D.beq_ok h) else isFalse fun e => h (by rw [e]; exact D.beq_refl b)

/-- a key of a dict -/
def kD : Key → D
  | .inl i => .int i
  | .inr x => .str x.cps.toList

/-! ### what stands for a tree, in a part Z of the abstract heap -/
mutual
def Rp (K : PySem.W.Frag) (Z : Hp) : D → V → Prop
  | .non, v => v = .non
  | .bl b, v => v = .bl b
  | .int i, v => v = .int i
  | .str s, v => v = .str ⟨s.toArray⟩
  | .tup ds, v => ∃ a xs, v = .ref a ∧ Z a = some (.tup xs) ∧ RpL K Z ds xs
  | .lst ds, v => ∃ a xs, v = .ref a ∧ SqL K Z a xs ∧ RpL K Z ds xs
  | .dic ps, v => ∃ a, v = .ref a ∧ ((∃ ks, Z a = some (.dK ks) ∧ RpK K Z ps ks) ∨ ∃ ks, Z a = some (.dT ks) ∧ RpS K Z ps ks)
def RpL (K : PySem.W.Frag) (Z : Hp) : List D → List V → Prop
  | [], xs => xs = []
  | d :: ds, xs => ∃ x r, xs = x :: r ∧ Rp K Z d x ∧ RpL K Z ds r
def RpK (K : PySem.W.Frag) (Z : Hp) : List (D × D) → List (Key × V) → Prop
  | [], xs => xs = []
  | (k, d) :: ds, xs => ∃ q x r, xs = (q, x) :: r ∧ k = kD q ∧ Rp K Z d x ∧ RpK K Z ds r
/-- a dict with tuples for keys: its tree begins with (None, None), that no key is -/
def RpS (K : PySem.W.Frag) (Z : Hp) : List (D × D) → List (List Key × V) → Prop
  | [], _ => False
  | (k, d) :: ds, xs => k = .non ∧ d = .non ∧ RpT K Z ds xs
def RpT (K : PySem.W.Frag) (Z : Hp) : List (D × D) → List (List Key × V) → Prop
  | [], xs => xs = []
  | (k, d) :: ds, xs => ∃ q x r, xs = (q, x) :: r ∧ k = .tup (q.map kD) ∧ Rp K Z d x ∧ RpT K Z ds r
end

def Sub (Z H : Hp) : Prop := ∀ a o, Z a = some o → H a = some o
theorem Sub.refl (Z : Hp) : Sub Z Z := fun _ _ h => h
theorem Sub.trans {Z Y H : Hp} (a : Sub Z Y) (b : Sub Y H) : Sub Z H := fun c o h => b c o (a c o h)
theorem Sub.rd {Z H : Hp} (s : Sub Z H) {a : Addr} {u : HO} (h : Rd Z a u) : Rd H a u := by
  rcases h with h | ⟨o, h⟩
  · exact .inl (s _ _ h)
  · exact .inr ⟨o, s _ _ h⟩
theorem Sub.sql {K : PySem.W.Frag} {Z H : Hp} (s : Sub Z H) {a : Addr} {xs : List V} (h : SqL K Z a xs) : SqL K H a xs := h.imp s.rd id
theorem Sub.sqt {K : PySem.W.Frag} {Z H : Hp} (s : Sub Z H) {a : Addr} {xs : List V} (h : SqT K Z a xs) : SqT K H a xs := h.imp s.rd id
section
variable {K : PySem.W.Frag} {Z H : Hp}
mutual
theorem Rp.mono (s : Sub Z H) : ∀ {d : D} {v : V}, Rp K Z d v → Rp K H d v
  | .non, _, h => h
  | .bl _, _, h => h
  | .int _, _, h => h
  | .str _, _, h => h
  | .tup ds, v, h => by
    simp only [Rp] at h ⊢
    obtain ⟨a, xs, e, q, r⟩ := h
    exact ⟨a, xs, e, s _ _ q, RpL.mono s r⟩
  | .lst ds, v, h => by
    simp only [Rp] at h ⊢
    obtain ⟨a, xs, e, q, r⟩ := h
    exact ⟨a, xs, e, s.sql q, RpL.mono s r⟩
  | .dic ps, v, h => by
    simp only [Rp] at h ⊢
    obtain ⟨a, e, h⟩ := h
    refine ⟨a, e, ?_⟩
    rcases h with ⟨ks, h, r⟩ | ⟨ks, h, r⟩
    · exact .inl ⟨ks, s _ _ h, RpK.mono s r⟩
    · exact .inr ⟨ks, s _ _ h, RpS.mono s r⟩
theorem RpL.mono (s : Sub Z H) : ∀ {d : List D} {v : List V}, RpL K Z d v → RpL K H d v
  | [], _, h => h
  | d :: ds, v, h => by
    simp only [RpL] at h ⊢
    obtain ⟨x, r, e, h1, h2⟩ := h
    exact ⟨x, r, e, Rp.mono s h1, RpL.mono s h2⟩
theorem RpK.mono (s : Sub Z H) : ∀ {d : List (D × D)} {v : List (Key × V)}, RpK K Z d v → RpK K H d v
  | [], _, h => h
  | (k, d) :: ds, v, h => by
    simp only [RpK] at h ⊢
    obtain ⟨q, x, r, e, h0, h1, h2⟩ := h
    exact ⟨q, x, r, e, h0, Rp.mono s h1, RpK.mono s h2⟩
theorem RpS.mono (s : Sub Z H) : ∀ {d : List (D × D)} {v : List (List Key × V)}, RpS K Z d v → RpS K H d v
  | [], _, h => h
  | (k, d) :: ds, v, h => by
    simp only [RpS] at h ⊢
    exact ⟨h.1, h.2.1, RpT.mono s h.2.2⟩
theorem RpT.mono (s : Sub Z H) : ∀ {d : List (D × D)} {v : List (List Key × V)}, RpT K Z d v → RpT K H d v
  | [], _, h => h
  | (k, d) :: ds, v, h => by
    simp only [RpT] at h ⊢
    obtain ⟨q, x, r, e, h0, h1, h2⟩ := h
    exact ⟨q, x, r, e, h0, Rp.mono s h1, RpT.mono s h2⟩
end
theorem RpL.nil : RpL K Z [] [] := by simp [RpL]
theorem RpL.cons {d : D} {x : V} {ds : List D} {xs : List V} (a : Rp K Z d x) (b : RpL K Z ds xs) : RpL K Z (d :: ds) (x :: xs) := by
  simp only [RpL]; exact ⟨x, xs, rfl, a, b⟩
theorem RpL.inv {d : D} {ds : List D} {xs : List V} (h : RpL K Z (d :: ds) xs) : ∃ x r, xs = x :: r ∧ Rp K Z d x ∧ RpL K Z ds r := by
  simpa only [RpL] using h
theorem RpL.inv0 {xs : List V} (h : RpL K Z [] xs) : xs = [] := by simpa only [RpL] using h
theorem RpL.length : ∀ {ds : List D} {xs : List V}, RpL K Z ds xs → xs.length = ds.length
  | [], _, h => by rw [h.inv0]; rfl
  | d :: ds, _, h => by
    obtain ⟨x, r, rfl, _, h2⟩ := h.inv
    simp [RpL.length h2]
theorem RpL.get : ∀ {ds : List D} {xs : List V} {i : Nat} {d : D}, RpL K Z ds xs → ds[i]? = some d → ∃ x, xs[i]? = some x ∧ Rp K Z d x
  | [], _, i, d, _, h => by simp at h
  | d' :: ds, _, 0, d, h, e => by
    obtain ⟨x, r, rfl, h1, h2⟩ := h.inv
    simp at e; subst e
    exact ⟨x, rfl, h1⟩
  | d' :: ds, _, i + 1, d, h, e => by
    obtain ⟨x, r, rfl, h1, h2⟩ := h.inv
    obtain ⟨y, e1, e2⟩ := RpL.get (i := i) h2 (by simpa using e)
    exact ⟨y, by simpa using e1, e2⟩
theorem RpL.getV {ds : List D} {xs : List V} {i : Nat} {x : V} (h : RpL K Z ds xs) (e : xs[i]? = some x) : ∃ d, ds[i]? = some d ∧ Rp K Z d x := by
  have hl := h.length
  have hi : i < xs.length := (List.getElem?_eq_some_iff.mp e).1
  have hd : ds[i]? = some ds[i] := List.getElem?_eq_getElem (by omega)
  obtain ⟨y, e1, e2⟩ := h.get hd
  rw [e] at e1; cases e1
  exact ⟨_, hd, e2⟩
theorem RpL.append : ∀ {ds es : List D} {xs ys : List V}, RpL K Z ds xs → RpL K Z es ys → RpL K Z (ds ++ es) (xs ++ ys)
  | [], _, _, _, h, h' => by rw [h.inv0]; exact h'
  | d :: ds, _, _, _, h, h' => by
    obtain ⟨x, r, rfl, h1, h2⟩ := h.inv
    exact .cons h1 (RpL.append h2 h')
theorem RpL.take : ∀ (n : Nat) {ds : List D} {xs : List V}, RpL K Z ds xs → RpL K Z (ds.take n) (xs.take n)
  | 0, _, _, _ => by simpa using RpL.nil
  | n + 1, [], _, h => by rw [h.inv0]; simpa using RpL.nil
  | n + 1, d :: ds, _, h => by
    obtain ⟨x, r, rfl, h1, h2⟩ := h.inv
    exact .cons h1 (RpL.take n h2)
theorem RpL.drop : ∀ (n : Nat) {ds : List D} {xs : List V}, RpL K Z ds xs → RpL K Z (ds.drop n) (xs.drop n)
  | 0, _, _, h => by simpa using h
  | n + 1, [], _, h => by rw [h.inv0]; simpa using RpL.nil
  | n + 1, d :: ds, _, h => by
    obtain ⟨x, r, rfl, h1, h2⟩ := h.inv
    exact RpL.drop n h2
theorem RpL.reverse : ∀ {ds : List D} {xs : List V}, RpL K Z ds xs → RpL K Z ds.reverse xs.reverse
  | [], _, h => by rw [h.inv0]; exact RpL.nil
  | d :: ds, _, h => by
    obtain ⟨x, r, rfl, h1, h2⟩ := h.inv
    rw [List.reverse_cons, List.reverse_cons]
    exact RpL.append (RpL.reverse h2) (.cons h1 .nil)
theorem RpL.set : ∀ (i : Nat) {ds : List D} {xs : List V} {d : D} {x : V}, RpL K Z ds xs → Rp K Z d x → RpL K Z (ds.set i d) (xs.set i x)
  | _, [], _, _, _, h, _ => by rw [h.inv0]; exact RpL.nil
  | 0, e :: ds, _, d, x, h, hx => by
    obtain ⟨y, r, rfl, h1, h2⟩ := h.inv
    exact .cons hx h2
  | i + 1, e :: ds, _, d, x, h, hx => by
    obtain ⟨y, r, rfl, h1, h2⟩ := h.inv
    exact .cons h1 (RpL.set i h2 hx)
theorem RpL.erase : ∀ (i : Nat) {ds : List D} {xs : List V}, RpL K Z ds xs → RpL K Z (ds.eraseIdx i) (xs.eraseIdx i)
  | _, [], _, h => by rw [h.inv0]; exact RpL.nil
  | 0, e :: ds, _, h => by
    obtain ⟨y, r, rfl, h1, h2⟩ := h.inv
    exact h2
  | i + 1, e :: ds, _, h => by
    obtain ⟨y, r, rfl, h1, h2⟩ := h.inv
    exact .cons h1 (RpL.erase i h2)
theorem RpL.ints : ∀ {ns : List Int} {xs : List V}, RpL K Z (ns.map D.int) xs → xs = ns.map V.int
  | [], _, h => h.inv0
  | n :: ns, _, h => by
    obtain ⟨x, r, rfl, h1, h2⟩ := h.inv
    rw [RpL.ints h2]
    simp only [Rp] at h1
    rw [h1]; rfl
theorem RpL.of_ints : ∀ (ns : List Int), RpL K Z (ns.map D.int) (ns.map V.int)
  | [] => .nil
  | n :: ns => .cons (by simp [Rp]) (RpL.of_ints ns)
end

/-- what an object of its own is -/
def Cont (K : PySem.W.Frag) (Z : Hp) (o : Option HO) : D → Prop
  | .lst ds => ∃ xs, o = some (.lst xs) ∧ RpL K Z ds xs
  | .dic ps => (∃ ks, o = some (.dK ks) ∧ RpK K Z ps ks) ∨ ∃ ks, o = some (.dT ks) ∧ RpS K Z ps ks
  | _ => False
theorem Cont.mono {K : PySem.W.Frag} {Z Y : Hp} (s : Sub Z Y) {o : Option HO} {d : D} (h : Cont K Z o d) : Cont K Y o d := by
  cases d with
  | lst ds => obtain ⟨xs, e, r⟩ := h; exact ⟨xs, e, r.mono s⟩
  | dic ps =>
    rcases h with ⟨ks, e, r⟩ | ⟨ks, e, r⟩
    · exact .inl ⟨ks, e, r.mono s⟩
    · exact .inr ⟨ks, e, r.mono s⟩
  | _ => exact h
theorem Cont.obj {K : PySem.W.Frag} {Z : Hp} {o : Option HO} {d : D} (h : Cont K Z o d) : ∃ u, o = some u ∧ Mut (some u) ∧ ∀ xs, u ≠ .tup xs := by
  cases d with
  | lst ds => obtain ⟨xs, e, r⟩ := h; exact ⟨_, e, True.intro, fun _ z => by cases z⟩
  | dic ps =>
    rcases h with ⟨ks, e, r⟩ | ⟨ks, e, r⟩
    · exact ⟨_, e, True.intro, fun _ z => by cases z⟩
    · exact ⟨_, e, True.intro, fun _ z => by cases z⟩
  | _ => exact h.elim
/-- frozen from now on -/
theorem Cont.freeze {K : PySem.W.Frag} {Z : Hp} {a : Addr} {d : D} (h : Cont K Z (Z a) d) : Rp K Z d (.ref a) := by
  cases d with
  | lst ds => obtain ⟨xs, e, r⟩ := h; simp only [Rp]; exact ⟨a, xs, rfl, .inl (.inl e), r⟩
  | dic ps =>
    simp only [Rp]
    rcases h with ⟨ks, e, r⟩ | ⟨ks, e, r⟩
    · exact ⟨a, rfl, .inl ⟨ks, e, r⟩⟩
    · exact ⟨a, rfl, .inr ⟨ks, e, r⟩⟩
  | _ => exact h.elim
end Ev

set_option Elab.async false
set_option linter.all false
set_option maxRecDepth 100000
/-! Ev, part B: frames, results, the monad; the state relation; readings. -/
namespace Ev
open PySem PySem.Spec PyProof.Rows L2

/-- a slot: nothing, a frozen value, an object of this slot alone, the caller's object by reference -/
inductive Sl where
  | no | fro (d : D) | own (d : D) | par (d : D)
  deriving DecidableEq
abbrev Fr := List Sl
/-- an expression's result: a value (o: a new object that nobody else holds), or the object that slot i holds -/
inductive R where
  | v (d : D) (o : Bool) | s (i : Nat)
inductive Re (α : Type) where
  | ok (a : α) | ex (c : Str)
def M (α : Type) : Type := Fr → Option (Re α × Fr)
def M.pure {α : Type} (a : α) : M α := fun σ => some (.ok a, σ)
def M.bind {α β : Type} (m : M α) (f : α → M β) : M β := fun σ => match m σ with
  | none => none
  | some (.ex c, σ') => some (.ex c, σ')
  | some (.ok a, σ') => f a σ'
def M.lift {α : Type} (o : Option α) : M α := fun σ => match o with
  | none => none
  | some a => some (.ok a, σ)
def M.raise {α : Type} (c : Str) : M α := fun σ => some (.ex c, σ)
abbrev SE := M R

/-- the tree that a result stands for -/
def R.get (σ : Fr) : R → Option D
  | .v d _ => some d
  | .s i => match σ[i]? with
    | some (.own d) => some d
    | some (.par d) => some d
    | some (.fro d) => some d
    | _ => none
def get (r : R) : M D := fun σ => match r.get σ with
  | none => none
  | some d => some (.ok d, σ)
/-- taken into another thing (or kept under another name): frozen from now on -/
def froz1 (r : R) : M D := fun σ => match r with
  | .v d _ => some (.ok d, σ)
  | .s i => match σ[i]? with
    | some (.own d) => some (.ok d, List.set σ i (Sl.fro d))
    | some (.fro d) => some (.ok d, σ)
    | _ => none

section
variable {α β : Type}
theorem M.bind_ok {m : M α} {f : α → M β} {σ σ' : Fr} {a : α} (h : m σ = some (.ok a, σ')) : M.bind m f σ = f a σ' := by unfold M.bind; rw [h]
theorem M.bind_ex {m : M α} {f : α → M β} {σ σ' : Fr} {c : Str} (h : m σ = some (.ex c, σ')) : M.bind m f σ = some (.ex c, σ') := by unfold M.bind; rw [h]
theorem M.bind_none {m : M α} {f : α → M β} {σ : Fr} (h : m σ = none) : M.bind m f σ = none := by unfold M.bind; rw [h]
end

/-! ### the state -/
def Held (σD : Fr) (i : Nat) (d : D) : Prop := σD[i]? = some (.own d) ∨ σD[i]? = some (.par d)
/-- the bounds of a place: objects of others, not to be touched; the objects by reference, by slot -/
structure Bd where
  b : Addr → Prop
  pa : Nat → Option Addr
instance : CoeFun Bd (fun _ => Addr → Prop) := ⟨Bd.b⟩
structure Bd.Le (B C : Bd) : Prop where
  b : ∀ a, B a → C a
  pa : ∀ i a, B.pa i = some a → C.pa i = some a
theorem Bd.Le.refl (B : Bd) : Bd.Le B B := ⟨fun _ h => h, fun _ _ h => h⟩
theorem Bd.Le.trans {A B C : Bd} (x : Bd.Le A B) (y : Bd.Le B C) : Bd.Le A C := ⟨fun a h => y.b a (x.b a h), fun i a h => y.pa i a (x.pa i a h)⟩
/-- B: objects of others, not to be touched; Z: what is frozen -/
structure Sta (K : PySem.W.Frag) (B : Bd) (Z : Hp) (σD : Fr) (σ : L2.St) (H : Hp) : Prop where
  sub : Sub Z H
  len : σD.length = σ.length
  bz : ∀ a, B a → Z a = none ∧ H a ≠ none
  fro : ∀ (i : Nat) (d : D), σD[i]? = some (.fro d) → ∃ v, σ[i]? = some (some v) ∧ Rp K Z d v
  own : ∀ (i : Nat) (d : D), Held σD i d → ∃ a, σ[i]? = some (some (.ref a)) ∧ ¬ B a ∧ Z a = none ∧ Cont K Z (H a) d
  inj : ∀ (i j : Nat) (d e : D) (a : Addr), Held σD i d → Held σD j e → σ[i]? = some (some (.ref a)) → σ[j]? = some (some (.ref a)) → i = j
  pa : ∀ (i : Nat) (a : Addr), B.pa i = some a → σ[i]? = some (some (.ref a)) ∧ ∃ d : D, σD[i]? = some (.par d)
/-- what stands behind a step: more may be frozen, the others' objects are as they were -/
structure Ext (B : Bd) (Z H Z' H' : Hp) : Prop where
  sub : Sub Z Z'
  keep : ∀ a, B a → H' a = H a
theorem Ext.refl (B : Bd) (Z H : Hp) : Ext B Z H Z H := ⟨Sub.refl Z, fun _ _ => rfl⟩
theorem Ext.trans {B : Bd} {Z H Z1 H1 Z2 H2 : Hp} (a : Ext B Z H Z1 H1) (b : Ext B Z1 H1 Z2 H2) : Ext B Z H Z2 H2 :=
  ⟨a.sub.trans b.sub, fun c h => (b.keep c h).trans (a.keep c h)⟩
theorem Ext.mono {B C : Bd} {Z H Z' H' : Hp} (e : Ext C Z H Z' H') (h : Bd.Le B C) : Ext B Z H Z' H' := ⟨e.sub, fun a q => e.keep a (h.b a q)⟩

/-- what stands for a result -/
def RR (K : PySem.W.Frag) (B : Bd) (Z : Hp) (σD : Fr) (σ : L2.St) (H : Hp) : R → V → Prop
  | .v d false, v => Rp K Z d v
  | .v d true, v => ∃ a, v = .ref a ∧ ¬ B a ∧ Z a = none ∧ Cont K Z (H a) d ∧ ∀ (i : Nat) (e : D), Held σD i e → σ[i]? ≠ some (some (.ref a))
  | .s i, v => σ[i]? = some (some v)
/-- others' objects and this result's own -/
def Tmp (B : Bd) (r : R) (v : V) : Bd := ⟨fun a => B a ∨ (∃ d, r = .v d true) ∧ v = .ref a, B.pa⟩

section
variable {K : PySem.W.Frag} {B C : Bd} {Z Z' H H' : Hp} {σD σD' : Fr} {σ : L2.St} {r : R} {v : V} {d : D}
theorem Sta.less (s : Sta K C Z σD σ H) (h : Bd.Le B C) : Sta K B Z σD σ H :=
  ⟨s.sub, s.len, fun a q => s.bz a (h.b a q), s.fro, fun i d q => let ⟨a, e, nb, z, c⟩ := s.own i d q; ⟨a, e, fun z => nb (h.b a z), z, c⟩, s.inj, fun i a q => s.pa i a (h.pa i a q)⟩
/-- a result's own object is put among the others' -/
theorem Sta.tmp (s : Sta K B Z σD σ H) (q : RR K B Z σD σ H r v) : Sta K (Tmp B r v) Z σD σ H where
  sub := s.sub
  len := s.len
  fro := s.fro
  inj := s.inj
  pa := s.pa
  bz := fun a h => by
    rcases h with h | ⟨⟨d, rfl⟩, rfl⟩
    · exact s.bz a h
    · obtain ⟨b, e, nb, z, c, _⟩ := q
      cases e
      obtain ⟨u, e, _⟩ := c.obj
      exact ⟨z, by rw [e]; simp⟩
  own := fun i e h => by
    obtain ⟨a, h1, h2, h3, h4⟩ := s.own i e h
    refine ⟨a, h1, fun z => ?_, h3, h4⟩
    rcases z with z | ⟨⟨d, rfl⟩, rfl⟩
    · exact h2 z
    · obtain ⟨b, eb, _, _, _, n⟩ := q
      cases eb
      exact n i e h h1
/-- .. and stands for the same behind further steps -/
theorem RR.later (s : Sta K B Z σD σ H) (q : RR K B Z σD σ H r v) (s' : Sta K (Tmp B r v) Z' σD' σ H') (x : Ext (Tmp B r v) Z H Z' H') : RR K B Z' σD' σ H' r v := by
  cases r with
  | s i => exact q
  | v d o =>
    cases o with
    | false =>
      have q : Rp K Z d v := q
      exact q.mono x.sub
    | true =>
      obtain ⟨a, rfl, nb, z, c, n⟩ := q
      have ha : Tmp B (.v d true) (.ref a) a := .inr ⟨⟨d, rfl⟩, rfl⟩
      refine ⟨a, rfl, nb, (s'.bz a ha).1, ?_, fun i e h he => ?_⟩
      · rw [x.keep a ha]; exact c.mono x.sub
      · obtain ⟨b, h1, h2, _⟩ := s'.own i e h
        rw [h1] at he; cases he
        exact h2 ha
theorem Tmp.base (r : R) (v : V) : Bd.Le B (Tmp B r v) := ⟨fun _ h => .inl h, fun _ _ h => h⟩
end

/-! ### readings -/
section
variable (K : PySem.W.Frag) (W : WX)
/-- the class of an exception, by its name -/
abbrev exc (c : Str) : Value := .ref (He.ga K c)
/-- what the outcome of a step must give -/
def Aft {α : Type} (Post : α → Hp → Fr → Hp → Prop) (σ : L2.St) (B : Bd) (Z H : Hp) : Option (Re α × Fr) → Prop
  | none => False
  | some (.ok a, σD') => ∀ Z' H', Sta K B Z' σD' σ H' → Ext B Z H Z' H' → Post a Z' σD' H'
  | some (.ex c, σD') => ∀ Z' H', Sta K B Z' σD' σ H' → Ext B Z H Z' H' → W (exc K c) none σ H'
/-- an expression's -/
def rd (f : SE) : TE := fun σ H Q => ∃ B Z σD, Sta K B Z σD σ H ∧ Aft K W (fun r Z' σD' H' => ∀ v, RR K B Z' σD' σ H' r v → Q v H') σ B Z H (f σD)
/-- a test's -/
def rdT (f : M Bool) : TT := fun σ H Q => ∃ B Z σD, Sta K B Z σD σ H ∧ Aft K W (fun b Z' σD' H' => Q b H') σ B Z H (f σD)
end

/-- the text's place: what every context of a body, a block, a try of it bears -/
structure Plc (P : Program) (w : World) (K : PySem.W.Frag) (mg : Str → Option Value) (base : Heap) (k : Nat) (N : List Str) (sc : Scope) (fn : Str → Bool) (top : Bool) (X : Cx) : Prop where
  hP : X.prog = P
  hw : X.w = w
  hK : X.K = K
  hmg : X.mg = mg
  hbase : X.base = base
  hN : X.N = N
  nd : N.Nodup
  hsc : X.env.scope = sc
  calm : X.calm = true
  room : Room k X.A
  gds : X.A.guards = some []
  hfn : X.fn = fn
  pass : PassesOwn (model X.prog X.w) X.A X.env X.xe
  htop : top = true → X.stack = X.env :: X.outer ∧ X.env.frame = some X.env.locals

/-- a place of the text in short -/
structure Pl where
  P : Program
  w : World
  K : PySem.W.Frag
  mg : Str → Option Value
  base : Heap
  k : Nat
  N : List Str
  sc : Scope
  fn : Str → Bool
  top : Bool
abbrev Pl.at (p : Pl) (X : Cx) : Prop := Plc p.P p.w p.K p.mg p.base p.k p.N p.sc p.fn p.top X
def DE (p : Pl) (e : Expr) (f : SE) : Prop := ∀ X W, p.at X → Takes X W → PE X e (rd p.K W f)
def DT (p : Pl) (e : Expr) (f : M Bool) : Prop := ∀ X W, p.at X → Takes X W → PT X e (rdT p.K W f)
def DW (p : Pl) (e : Expr) (f : M Bool) : Prop := ∀ X W, p.at X → Takes X W → PW X e (rdT p.K W f)

theorem PE_imp {X : Cx} {e : Expr} {t t' : TE} (h : PE X e t) (i : ∀ σ H Q, t' σ H Q → t σ H Q) : PE X e t' := ⟨fun pins s σ H Q I q => h.run pins s σ H Q I (i σ H Q q)⟩
theorem PT_imp {X : Cx} {e : Expr} {t t' : TT} (h : PT X e t) (i : ∀ σ H Q, t' σ H Q → t σ H Q) : PT X e t' := ⟨fun pins s σ H Q I q => h.run pins s σ H Q I (i σ H Q q)⟩
theorem PW_imp {X : Cx} {e : Expr} {t t' : TT} (h : PW X e t) (i : ∀ σ H Q, t' σ H Q → t σ H Q) : PW X e t' := ⟨fun wh pins s σ H Q I q => h.run wh pins s σ H Q I (i σ H Q q)⟩
theorem PA_imp {X : Cx} {e : List Expr} {t t' : TA} (h : PA X e t) (i : ∀ σ H Q, t' σ H Q → t σ H Q) : PA X e t' := ⟨fun pos pins s σ H Q I q => h.run pos pins s σ H Q I (i σ H Q q)⟩
theorem PS_imp {X : Cx} {e : Stmt} {t t' : TS} (h : PS X e t) (i : ∀ D σ H, t' D σ H → t D σ H) : PS X e t' := ⟨fun pins s σ H D I q => h.run pins s σ H D I (i D σ H q)⟩
theorem PSs_imp {X : Cx} {e : List Stmt} {t t' : TS} (h : PSs X e t) (i : ∀ D σ H, t' D σ H → t D σ H) : PSs X e t' := ⟨fun pins s σ H D I q => h.run pins s σ H D I (i D σ H q)⟩

section
variable {K : PySem.W.Frag} {W : WX} {α β : Type} {B : Bd} {Z H Z1 H1 : Hp} {σ : L2.St}
/-- a later step's outcome, seen from an earlier one -/
theorem Aft.back {Post Post' : α → Hp → Fr → Hp → Prop} {o : Option (Re α × Fr)} (x : Ext B Z H Z1 H1) (h : Aft K W Post σ B Z H o) (hp : ∀ a Z' σD' H', Sta K B Z' σD' σ H' → Ext B Z1 H1 Z' H' → Post a Z' σD' H' → Post' a Z' σD' H') : Aft K W Post' σ B Z1 H1 o := by
  match o, h with
  | some (.ok a, σD'), h => exact fun Z' H' s e => hp _ _ _ _ s e (h Z' H' s (x.trans e))
  | some (.ex c, σD'), h => exact fun Z' H' s e => h Z' H' s (x.trans e)
/-- .. with more objects of others -/
theorem Aft.up {C : Bd} {Post Post' : α → Hp → Fr → Hp → Prop} {o : Option (Re α × Fr)} (hc : Bd.Le B C) (h : Aft K W Post σ B Z H o) (hp : ∀ a Z' σD' H', Sta K C Z' σD' σ H' → Ext C Z H Z' H' → Post a Z' σD' H' → Post' a Z' σD' H') : Aft K W Post' σ C Z H o := by
  match o, h with
  | some (.ok a, σD'), h => exact fun Z' H' s e => hp _ _ _ _ s e (h Z' H' (s.less hc) (e.mono hc))
  | some (.ex c, σD'), h => exact fun Z' H' s e => h Z' H' (s.less hc) (e.mono hc)
theorem Aft.bind {m : M α} {f : α → M β} {σD : Fr} {Post : β → Hp → Fr → Hp → Prop} (h : Aft K W Post σ B Z H (M.bind m f σD)) : Aft K W (fun a Z' σD' H' => Aft K W Post σ B Z' H' (f a σD')) σ B Z H (m σD) := by
  cases e : m σD with
  | none => rw [M.bind_none e] at h; exact h
  | some q =>
    obtain ⟨q, σD'⟩ := q
    cases q with
    | ex c => rw [M.bind_ex e] at h; exact h
    | ok a =>
      rw [M.bind_ok e] at h
      exact fun Z' H' s x => h.back x fun _ _ _ _ _ _ q => q
theorem Aft.imp {Post Post' : α → Hp → Fr → Hp → Prop} {o : Option (Re α × Fr)} (h : Aft K W Post σ B Z H o) (hp : ∀ a Z' σD' H', Sta K B Z' σD' σ H' → Ext B Z H Z' H' → Post a Z' σD' H' → Post' a Z' σD' H') : Aft K W Post' σ B Z H o :=
  h.back (Ext.refl B Z H) hp
/-- a step that gives a value, the state as it is -/
theorem Aft.now {Post : α → Hp → Fr → Hp → Prop} {a : α} {σD : Fr} (s : Sta K B Z σD σ H) (h : Aft K W Post σ B Z H (some (.ok a, σD))) : Post a Z σD H := h Z H s (Ext.refl B Z H)
end
end Ev

set_option Elab.async false
set_option linter.all false
set_option maxRecDepth 100000
/-! Ev, part C: steps on the state; names, constants, lists of operands, displays. -/
namespace Ev
open PySem PySem.Spec PyProof.Rows L2

section
variable {K : PySem.W.Frag} {B C : Bd} {Z Z' H H' : Hp} {σD σD' : Fr} {σ : L2.St} {r : R} {v : V} {d : D}

/-! ### the heap grows -/
theorem Sub.upd {Z : Hp} {p : Addr} {o : HO} (h : Z p = none) : Sub Z (upd Z p o) := fun a u e => by rw [upd_ne (ne_of_none e h)]; exact e
theorem Sub.upd2 {Z H : Hp} {p : Addr} {o : HO} (s : Sub Z H) (h : H p = none) : Sub Z (L2.upd H p o) := s.trans (Sub.upd h)
theorem Sub.both {Z H : Hp} {p : Addr} {o : HO} (s : Sub Z H) : Sub (L2.upd Z p o) (L2.upd H p o) := fun a u e => by
  by_cases h : a = p
  · subst h; rw [upd_same] at e ⊢; exact e
  · rw [upd_ne h] at e ⊢; exact s _ _ e
theorem Sub.none {Z H : Hp} (s : Sub Z H) {p : Addr} (h : H p = none) : Z p = none := by
  cases e : Z p with
  | none => rfl
  | some o => rw [s _ _ e] at h; cases h
/-- what only new objects tell apart -/
structure Grow (Z H Z' H' : Hp) : Prop where
  sub : Sub Z' H'
  z : Sub Z Z'
  old : ∀ a, H a ≠ none → H' a = H a ∧ Z' a = Z a
theorem Grow.refl (s : Sub Z H) : Grow Z H Z H := ⟨s, Sub.refl Z, fun _ _ => ⟨rfl, rfl⟩⟩
theorem Grow.own {p : Addr} {o : HO} (s : Sub Z H) (h : H p = none) : Grow Z H Z (upd H p o) :=
  ⟨s.upd2 h, Sub.refl Z, fun a q => ⟨upd_ne fun e => q (by rw [e]; exact h), rfl⟩⟩
theorem Grow.fro {p : Addr} {o : HO} (s : Sub Z H) (h : H p = none) : Grow Z H (upd Z p o) (upd H p o) :=
  ⟨s.both, Sub.upd (s.none h), fun a q => have ne : a ≠ p := fun e => q (by rw [e]; exact h); ⟨upd_ne ne, upd_ne ne⟩⟩
theorem Grow.trans {Z1 H1 Z2 H2 : Hp} (a : Grow Z H Z1 H1) (b : Grow Z1 H1 Z2 H2) : Grow Z H Z2 H2 :=
  ⟨b.sub, a.z.trans b.z, fun c q => by
    obtain ⟨h1, h2⟩ := a.old c q
    obtain ⟨h3, h4⟩ := b.old c (by rw [h1]; exact q)
    exact ⟨h3.trans h1, h4.trans h2⟩⟩
theorem Grow.hsub (g : Grow Z H Z' H') : Sub H H' := fun a o e => by rw [(g.old a (by rw [e]; simp)).1]; exact e
theorem Sta.grow (s : Sta K B Z σD σ H) (g : Grow Z H Z' H') : Sta K B Z' σD σ H' where
  sub := g.sub
  len := s.len
  bz := fun a h => by
    obtain ⟨h1, h2⟩ := s.bz a h
    obtain ⟨h3, h4⟩ := g.old a h2
    exact ⟨by rw [h4]; exact h1, by rw [h3]; exact h2⟩
  fro := fun i d h => let ⟨v, e, q⟩ := s.fro i d h; ⟨v, e, q.mono g.z⟩
  own := fun i d h => by
    obtain ⟨a, e, nb, z, c⟩ := s.own i d h
    obtain ⟨u, hu, _⟩ := c.obj
    obtain ⟨h3, h4⟩ := g.old a (by rw [hu]; simp)
    exact ⟨a, e, nb, by rw [h4]; exact z, by rw [h3]; exact c.mono g.z⟩
  inj := s.inj
  pa := s.pa
theorem Ext.grow (s : Sta K B Z σD σ H) (g : Grow Z H Z' H') : Ext B Z H Z' H' := ⟨g.z, fun a h => (g.old a (s.bz a h).2).1⟩

/-! ### the results of an operation that changes nothing -/
/-- d (o: a new object of its own) -/
def ResP (K : PySem.W.Frag) (H Z' H' : Hp) (d : D) : Bool → V → Prop
  | false, v => Rp K Z' d v
  | true, v => ∃ a, v = .ref a ∧ H a = none ∧ Z' a = none ∧ Cont K Z' (H' a) d
def Pur (K : PySem.W.Frag) (Z H : Hp) (q : D × Bool) (Q : VK) : Prop := ∀ v Z' H', Grow Z H Z' H' → ResP K H Z' H' q.1 q.2 v → Q v H'
theorem RR.ofRes {o : Bool} (s : Sta K B Z σD σ H) (g : Grow Z H Z' H') (q : ResP K H Z' H' d o v) : RR K B Z' σD σ H' (.v d o) v := by
  cases o with
  | false => exact q
  | true =>
    obtain ⟨a, rfl, n, z, c⟩ := q
    refine ⟨a, rfl, fun h => (s.bz a h).2 n, z, c, fun i e h he => ?_⟩
    obtain ⟨b, h1, _, _, c'⟩ := s.own i e h
    rw [h1] at he; cases he
    obtain ⟨u, hu, _⟩ := c'.obj
    rw [hu] at n; cases n
/-- an operand -/
def RO (K : PySem.W.Frag) (Z H : Hp) (d : D) (v : V) : Prop := Rp K Z d v ∨ ∃ a, v = .ref a ∧ Cont K Z (H a) d
theorem RR.ro (s : Sta K B Z σD σ H) (q : RR K B Z σD σ H r v) (e : r.get σD = some d) : RO K Z H d v := by
  cases r with
  | v d' o =>
    have e' : d' = d := by simpa [R.get] using e
    subst e'
    cases o with
    | false => exact .inl q
    | true => obtain ⟨a, rfl, _, _, c, _⟩ := q; exact .inr ⟨a, rfl, c⟩
  | s i =>
    have q : σ[i]? = some (some v) := q
    simp only [R.get] at e
    cases h : σD[i]? with
    | none => simp [h] at e
    | some l =>
      rw [h] at e
      cases l with
      | no => simp at e
      | fro x =>
        simp at e; subst e
        obtain ⟨v', h1, h2⟩ := s.fro i x h
        rw [q] at h1; cases h1
        exact .inl h2
      | own x =>
        simp at e; subst e
        obtain ⟨a, h1, _, _, c⟩ := s.own i x (.inl h)
        rw [q] at h1; cases h1
        exact .inr ⟨a, rfl, c⟩
      | par x =>
        simp at e; subst e
        obtain ⟨a, h1, _, _, c⟩ := s.own i x (.inr h)
        rw [q] at h1; cases h1
        exact .inr ⟨a, rfl, c⟩
theorem RO.mono (h : RO K Z H d v) (g : Grow Z H Z' H') : RO K Z' H' d v := by
  rcases h with h | ⟨a, e, c⟩
  · exact .inl (h.mono g.z)
  · obtain ⟨u, hu, _⟩ := c.obj
    exact .inr ⟨a, e, by rw [(g.old a (by rw [hu]; simp)).1]; exact c.mono g.z⟩
theorem RO.lst {ds : List D} (s : Sub Z H) (h : RO K Z H (.lst ds) v) : ∃ a xs, v = .ref a ∧ SqL K H a xs ∧ RpL K Z ds xs := by
  rcases h with h | ⟨a, e, c⟩
  · simp only [Rp] at h
    obtain ⟨a, xs, e, q, r⟩ := h
    exact ⟨a, xs, e, s.sql q, r⟩
  · obtain ⟨xs, e', r⟩ := c
    exact ⟨a, xs, e, SqL.of e', r⟩
theorem RO.tup {ds : List D} (s : Sub Z H) (h : RO K Z H (.tup ds) v) : ∃ a xs, v = .ref a ∧ SqT K H a xs ∧ Z a = some (.tup xs) ∧ RpL K Z ds xs := by
  rcases h with h | ⟨a, e, c⟩
  · simp only [Rp] at h
    obtain ⟨a, xs, e, q, r⟩ := h
    exact ⟨a, xs, e, SqT.of (s _ _ q), q, r⟩
  · exact c.elim
theorem RO.int {i : Int} (h : RO K Z H (.int i) v) : v = .int i := by
  rcases h with h | ⟨a, e, c⟩
  · simpa only [Rp] using h
  · exact c.elim
theorem RO.bl {i : Bool} (h : RO K Z H (.bl i) v) : v = .bl i := by
  rcases h with h | ⟨a, e, c⟩
  · simpa only [Rp] using h
  · exact c.elim
theorem RO.str {i : List Nat} (h : RO K Z H (.str i) v) : v = .str ⟨i.toArray⟩ := by
  rcases h with h | ⟨a, e, c⟩
  · simpa only [Rp] using h
  · exact c.elim
theorem RO.non (h : RO K Z H .non v) : v = .non := by
  rcases h with h | ⟨a, e, c⟩
  · simpa only [Rp] using h
  · exact c.elim
theorem RO.dic {ps : List (D × D)} (s : Sub Z H) (h : RO K Z H (.dic ps) v) : ∃ a, v = .ref a ∧ ((∃ ks, H a = some (.dK ks) ∧ RpK K Z ps ks) ∨ ∃ ks, H a = some (.dT ks) ∧ RpS K Z ps ks) := by
  rcases h with h | ⟨a, e, c⟩
  · simp only [Rp] at h
    obtain ⟨a, e, h⟩ := h
    refine ⟨a, e, h.imp (fun ⟨ks, h, r⟩ => ⟨ks, s _ _ h, r⟩) fun ⟨ks, h, r⟩ => ⟨ks, s _ _ h, r⟩⟩
  · exact ⟨a, e, c⟩

/-! ### freezing -/
theorem Sta.freeze {a : Addr} {u : HO} (s : Sta K B Z σD σ H) (h : H a = some u) (z : Z a = none) (nb : ¬ B a) (n : ∀ (i : Nat) (e : D), Held σD i e → σ[i]? ≠ some (some (.ref a))) : Sta K B (upd Z a u) σD σ H where
  sub := fun b o e => by
    by_cases hb : b = a
    · subst hb; rw [upd_same] at e; cases e; exact h
    · rw [upd_ne hb] at e; exact s.sub _ _ e
  len := s.len
  bz := fun b hb => ⟨by rw [upd_ne fun e => nb (by rw [← e]; exact hb)]; exact (s.bz b hb).1, (s.bz b hb).2⟩
  fro := fun i d h => let ⟨v, e, q⟩ := s.fro i d h; ⟨v, e, q.mono (Sub.upd z)⟩
  own := fun i d h => by
    obtain ⟨b, e, nb', z', c⟩ := s.own i d h
    refine ⟨b, e, nb', ?_, c.mono (Sub.upd z)⟩
    rw [upd_ne fun eb => n i d h (by rw [e, eb])]
    exact z'
  inj := s.inj
  pa := s.pa
theorem Cont.froz {a : Addr} {u : HO} (c : Cont K Z (H a) d) (h : H a = some u) (z : Z a = none) : Rp K (upd Z a u) d (.ref a) := by
  have c' : Cont K (upd Z a u) (upd Z a u a) d := by rw [upd_same, ← h]; exact c.mono (Sub.upd z)
  exact c'.freeze
/-- the slot is given up: its object is frozen -/
theorem Sta.flip {i : Nat} (s : Sta K B Z σD σ H) (h : σD[i]? = some (.own d)) (q : σ[i]? = some (some v)) : ∃ Z', Sta K B Z' (List.set σD i (Sl.fro d)) σ H ∧ Ext B Z H Z' H ∧ Rp K Z' d v ∧ ∀ b, v ≠ .ref b → Z' b = Z b := by
  obtain ⟨a, e, nb, z, c⟩ := s.own i d (.inl h)
  rw [q] at e; cases e
  obtain ⟨u, hu, _⟩ := c.obj
  have hi : i < σD.length := (List.getElem?_eq_some_iff.mp h).1
  have r := c.froz hu z
  have held : ∀ (j : Nat) (e : D), Held (List.set σD i (Sl.fro d)) j e → j ≠ i ∧ Held σD j e := fun j e hj => by
    by_cases hji : j = i
    · subst hji
      unfold Held at hj
      rw [List.getElem?_set_self hi] at hj
      rcases hj with hj | hj <;> cases hj
    · unfold Held at hj ⊢
      rw [List.getElem?_set_ne (Ne.symm hji)] at hj
      exact ⟨hji, hj⟩
  refine ⟨upd Z a u, ⟨fun b o e => ?_, by simpa using s.len, fun b hb => ⟨by rw [upd_ne fun e => nb (by rw [← e]; exact hb)]; exact (s.bz b hb).1, (s.bz b hb).2⟩, fun j e hj => ?_, fun j e hj => ?_, fun j k e f b hj hk => ?_, fun j b hj => ?_⟩, ⟨Sub.upd z, fun _ _ => rfl⟩, r, fun b hb => upd_ne fun e => hb (by rw [e])⟩
  · by_cases hb : b = a
    · subst hb; rw [upd_same] at e; cases e; exact hu
    · rw [upd_ne hb] at e; exact s.sub _ _ e
  · by_cases hji : j = i
    · subst hji
      rw [List.getElem?_set_self hi] at hj
      cases hj
      exact ⟨_, q, r⟩
    · rw [List.getElem?_set_ne (Ne.symm hji)] at hj
      obtain ⟨w, e1, e2⟩ := s.fro j e hj
      exact ⟨w, e1, e2.mono (Sub.upd z)⟩
  · obtain ⟨hji, hj⟩ := held j e hj
    obtain ⟨b, e1, nb', z', c'⟩ := s.own j e hj
    refine ⟨b, e1, nb', ?_, c'.mono (Sub.upd z)⟩
    rw [upd_ne fun eb => hji (s.inj j i e d a hj (.inl h) (by rw [e1, eb]) q)]
    exact z'
  · obtain ⟨_, hj⟩ := held j e hj
    obtain ⟨_, hk⟩ := held k f hk
    exact s.inj j k e f b hj hk
  · obtain ⟨e1, d1, e2⟩ := s.pa j b hj
    have hji : j ≠ i := fun z => by subst z; rw [h] at e2; cases e2
    exact ⟨e1, d1, by rw [List.getElem?_set_ne (Ne.symm hji)]; exact e2⟩
theorem held_set {i j : Nat} {d e : D} (hj : Held (List.set σD i (Sl.fro d)) j e) : Held σD j e := by
  by_cases hji : i = j
  · subst hji
    unfold Held at hj
    by_cases hi : i < σD.length
    · rw [List.getElem?_set_self hi] at hj
      rcases hj with hj | hj <;> cases hj
    · rw [List.getElem?_eq_none (by simpa using Nat.le_of_not_lt hi)] at hj
      rcases hj with hj | hj <;> cases hj
  · unfold Held at hj ⊢
    rw [List.getElem?_set_ne hji] at hj
    exact hj
/-- a result is taken into another thing -/
theorem alias_ok (s : Sta K B Z σD σ H) (q : RR K B Z σD σ H r v) {o : Re D} (e : froz1 r σD = some (o, σD')) : ∃ d, o = .ok d ∧ ∃ Z', Sta K B Z' σD' σ H ∧ Ext B Z H Z' H ∧ Rp K Z' d v ∧
    (∀ a, ¬ Tmp B r v a → (∀ (i : Nat) (e : D), Held σD i e → σ[i]? ≠ some (some (.ref a))) → Z' a = Z a) ∧ ∀ (i : Nat) (e : D), Held σD' i e → Held σD i e := by
  cases r with
  | v d o' =>
    have e' : Re.ok d = o ∧ σD = σD' := by simpa [froz1] using e
    obtain ⟨rfl, rfl⟩ := e'
    refine ⟨d, rfl, ?_⟩
    cases o' with
    | false => exact ⟨Z, s, Ext.refl B Z H, q, fun _ _ _ => rfl, fun _ _ h => h⟩
    | true =>
      obtain ⟨a, rfl, nb, z, c, n⟩ := q
      obtain ⟨u, hu, _⟩ := c.obj
      exact ⟨upd Z a u, s.freeze hu z nb n, ⟨Sub.upd z, fun _ _ => rfl⟩, c.froz hu z, fun b hb _ => upd_ne fun e => hb (.inr ⟨⟨d, rfl⟩, by rw [e]⟩), fun _ _ h => h⟩
  | s i =>
    have q : σ[i]? = some (some v) := q
    unfold froz1 at e
    cases h : σD[i]? with
    | none => simp [h] at e
    | some l =>
      cases l with
      | no => simp [h] at e
      | par x => simp [h] at e
      | fro x =>
        simp [h] at e
        obtain ⟨rfl, rfl⟩ := e
        obtain ⟨v', h1, h2⟩ := s.fro i x h
        rw [q] at h1; cases h1
        exact ⟨x, rfl, Z, s, Ext.refl B Z H, h2, fun _ _ _ => rfl, fun _ _ h => h⟩
      | own x =>
        simp [h] at e
        obtain ⟨rfl, rfl⟩ := e
        obtain ⟨Z', s', x', r', n⟩ := s.flip h q
        exact ⟨x, rfl, Z', s', x', r', fun a _ hn => n a fun e => hn i x (.inl h) (by rw [q, e]), fun _ _ h => held_set h⟩
end

/-! ### several operands -/
def RRs (K : PySem.W.Frag) (Z : Hp) (σD : Fr) (σ : L2.St) (H : Hp) : Bd → List R → List V → Prop
  | _, [], vs => vs = []
  | B, r :: rs, vs => ∃ v t, vs = v :: t ∧ RR K B Z σD σ H r v ∧ RRs K Z σD σ H (Tmp B r v) rs t
def eAll : List SE → M (List R)
  | [] => M.pure []
  | f :: fs => M.bind f fun r => M.bind (eAll fs) fun rs => M.pure (r :: rs)
def aliasAll : List R → M (List D)
  | [] => M.pure []
  | r :: rs => M.bind (froz1 r) fun d => M.bind (aliasAll rs) fun ds => M.pure (d :: ds)
def getAll : List R → M (List D)
  | [] => M.pure []
  | r :: rs => M.bind (get r) fun d => M.bind (getAll rs) fun ds => M.pure (d :: ds)
def rdA (K : PySem.W.Frag) (W : WX) (fs : List SE) : TA := fun σ H Q => ∃ B Z σD, Sta K B Z σD σ H ∧ Aft K W (fun rs Z' σD' H' => ∀ vs, RRs K Z' σD' σ H' B rs vs → Q vs H') σ B Z H (eAll fs σD)
structure DA (p : Pl) (es : List Expr) (fs : List SE) : Prop where
  run : ∀ X W, p.at X → Takes X W → PA X es (rdA p.K W fs)
  star : ∀ env : Env, starEach es env = es.map fun e => (false, eval e env)

theorem M.bind_inv {α β : Type} {m : M α} {f : α → M β} {σ σ' : Fr} {b : β} (h : M.bind m f σ = some (.ok b, σ')) : ∃ a σ1, m σ = some (.ok a, σ1) ∧ f a σ1 = some (.ok b, σ') := by
  cases e : m σ with
  | none => rw [M.bind_none e] at h; cases h
  | some q =>
    obtain ⟨q, σ1⟩ := q
    cases q with
    | ex c => rw [M.bind_ex e] at h; cases h
    | ok a => rw [M.bind_ok e] at h; exact ⟨a, σ1, rfl, h⟩

section
variable {K : PySem.W.Frag} {W : WX} {B C : Bd} {Z Z' H H' : Hp} {σD σD' : Fr} {σ : L2.St} {r : R} {v : V} {d : D}
theorem rd_of {f : SE} {Q : VK} (s : Sta K B Z σD σ H) (h : Aft K W (fun r Z' σD' H' => ∀ v, RR K B Z' σD' σ H' r v → Q v H') σ B Z H (f σD)) : rd K W f σ H Q := ⟨B, Z, σD, s, h⟩
/-- one operand, then what is done with it -/
theorem rd_un {α : Type} {f : SE} {g : R → M α} {Post : α → Hp → Fr → Hp → Prop} {Q : VK} (s : Sta K B Z σD σ H) (h : Aft K W Post σ B Z H (M.bind f g σD))
    (k : ∀ r v Z' σD' H', Sta K B Z' σD' σ H' → Ext B Z H Z' H' → RR K B Z' σD' σ H' r v → Aft K W Post σ B Z' H' (g r σD') → Q v H') : rd K W f σ H Q :=
  rd_of s (h.bind.imp fun r Z' σD' H' s' x q v hv => k r v Z' σD' H' s' x hv q)
/-- two -/
theorem rd_bin {α : Type} {f g : SE} {m : R → R → M α} {Post : α → Hp → Fr → Hp → Prop} {Q : V → V → Hp → Prop} (s : Sta K B Z σD σ H) (h : Aft K W Post σ B Z H (M.bind f (fun a => M.bind g fun b => m a b) σD))
    (k : ∀ a b x y Z' σD' H', Sta K B Z' σD' σ H' → Ext B Z H Z' H' → RRs K Z' σD' σ H' B [a, b] [x, y] → Aft K W Post σ B Z' H' (m a b σD') → Q x y H') :
    rd K W f σ H fun x H1 => rd K W g σ H1 fun y H2 => Q x y H2 := by
  refine rd_un s h fun a x Z1 σD1 H1 s1 x1 q1 h1 => ?_
  have s1' := s1.tmp q1
  refine rd_of (B := Tmp B a x) s1' ?_
  refine (h1.bind).up (Tmp.base a x) fun b Z2 σD2 H2 s2 x2 h2 y hy => ?_
  refine k a b x y Z2 σD2 H2 (s2.less (Tmp.base a x)) (x1.trans (x2.mono (Tmp.base a x))) ?_ h2
  exact ⟨x, [y], rfl, q1.later s1 s2 x2, y, [], rfl, hy, rfl⟩
theorem RRs.nil {rs : List R} {vs : List V} (h : RRs K Z σD σ H B rs vs) (e : rs = []) : vs = [] := by subst e; exact h
/-- the operands, one after another -/
theorem da_nil {p : Pl} : DA p [] [] := ⟨fun X W c tk => PA_imp pa_nil fun σ H Q h => by
  obtain ⟨B, Z, σD, s, h⟩ := h
  exact h.now s [] rfl, fun _ => rfl⟩
theorem da_cons {p : Pl} {e : Expr} {es : List Expr} {f : SE} {fs : List SE} (he : DE p e f) (hes : DA p es fs) (hs : ∀ env : Env, starEach (e :: es) env = (false, eval e env) :: starEach es env := by intro _; rfl) : DA p (e :: es) (f :: fs) := ⟨fun X W c tk =>
  PA_imp (pa_cons (he X W c tk) (hes.run X W c tk) (hs X.env)) fun σ H Q h => by
    obtain ⟨B, Z, σD, s, h⟩ := h
    refine rd_un (g := fun r => M.bind (eAll fs) fun rs => M.pure (r :: rs)) s h fun r v Z1 σD1 H1 s1 x1 q1 h1 => ?_
    have s1' := s1.tmp q1
    refine ⟨Tmp B r v, Z1, σD1, s1', ?_⟩
    refine (h1.bind).up (Tmp.base r v) fun rs Z2 σD2 H2 s2 x2 h2 vs hv => ?_
    exact h2.now (s2.less (Tmp.base r v)) (v :: vs) ⟨v, vs, rfl, q1.later s1 s2 x2, hv⟩, fun env => by rw [hs env, hes.star env]; rfl⟩

theorem RR.turned (h : RR K C Z σD σ H r v) (hb : ∀ a, B a → C a) (hz : Sub Z Z') (n : ∀ a, ¬ C a → (∀ (i : Nat) (e : D), Held σD i e → σ[i]? ≠ some (some (.ref a))) → Z' a = Z a)
    (hh : ∀ (i : Nat) (e : D), Held σD' i e → Held σD i e) : RR K B Z' σD' σ H r v := by
  cases r with
  | s i => exact h
  | v d o =>
    cases o with
    | false => exact Rp.mono hz (show Rp K Z d v from h)
    | true =>
      obtain ⟨a, rfl, nb, z, c, m⟩ := h
      exact ⟨a, rfl, fun q => nb (hb a q), by rw [n a nb m]; exact z, c.mono hz, fun i e q => m i e (hh i e q)⟩
theorem RRs.turned : ∀ {rs : List R} {B C : Bd} {vs : List V}, RRs K Z σD σ H C rs vs → (∀ a, B a → C a) → Sub Z Z' → (∀ a, ¬ C a → (∀ (i : Nat) (e : D), Held σD i e → σ[i]? ≠ some (some (.ref a))) → Z' a = Z a) →
    (∀ (i : Nat) (e : D), Held σD' i e → Held σD i e) → RRs K Z' σD' σ H B rs vs
  | [], _, _, _, h, _, _, _, _ => h
  | r :: rs, B, C, vs, h, hb, hz, n, hh => by
    obtain ⟨v, t, rfl, h1, h2⟩ := h
    exact ⟨v, t, rfl, h1.turned hb hz n hh, RRs.turned h2 (fun a q => q.imp (hb a) id) hz (fun a q => n a fun z => q (.inl z)) hh⟩
theorem aliasAll_ok : ∀ {rs : List R} {B : Bd} {Z : Hp} {σD σD' : Fr} {vs : List V} {o : Re (List D)}, Sta K B Z σD σ H → RRs K Z σD σ H B rs vs → aliasAll rs σD = some (o, σD') →
    ∃ ds, o = .ok ds ∧ ∃ Z', Sta K B Z' σD' σ H ∧ Ext B Z H Z' H ∧ RpL K Z' ds vs
  | [], B, Z, σD, σD', vs, o, s, q, e => by
    have e' : Re.ok [] = o ∧ σD = σD' := by simpa [aliasAll, M.pure] using e
    obtain ⟨rfl, rfl⟩ := e'
    have q : vs = [] := q
    subst q
    exact ⟨[], rfl, Z, s, Ext.refl B Z H, .nil⟩
  | r :: rs, B, Z, σD, σD', vs, o, s, q, e => by
    obtain ⟨v, t, rfl, q1, q2⟩ := q
    unfold aliasAll at e
    have hx : ∃ d σ1, froz1 r σD = some (.ok d, σ1) ∧ M.bind (aliasAll rs) (fun ds => M.pure (d :: ds)) σ1 = some (o, σD') := by
      cases e1 : froz1 r σD with
      | none => rw [M.bind_none e1] at e; cases e
      | some q =>
        obtain ⟨q, σ1⟩ := q
        obtain ⟨d, rfl, _⟩ := alias_ok s q1 e1
        rw [M.bind_ok e1] at e
        exact ⟨d, σ1, rfl, e⟩
    obtain ⟨d, σ1, e1, e2⟩ := hx
    obtain ⟨d', ed, Z1, s1, x1, r1, n1, h1⟩ := alias_ok s q1 e1
    cases ed
    have q2' : RRs K Z1 σ1 σ H B rs t := q2.turned (Tmp.base r v).b x1.sub n1 h1
    have hy : ∃ o' σ2, aliasAll rs σ1 = some (o', σ2) := by
      cases e3 : aliasAll rs σ1 with
      | none => rw [M.bind_none e3] at e2; cases e2
      | some q => obtain ⟨q, σ2⟩ := q; exact ⟨q, σ2, rfl⟩
    obtain ⟨o', σ2, e3⟩ := hy
    obtain ⟨ds, rfl, Z2, s2, x2, r2⟩ := aliasAll_ok s1 q2' e3
    rw [M.bind_ok e3] at e2
    have e' : Re.ok (d :: ds) = o ∧ σ2 = σD' := by simpa [M.pure] using e2
    obtain ⟨rfl, rfl⟩ := e'
    exact ⟨d :: ds, rfl, Z2, s2, x1.trans x2, .cons (r1.mono x2.sub) r2⟩
end
end Ev

set_option Elab.async false
set_option linter.all false
set_option maxRecDepth 100000
/-! Ev, part D: names, constants, displays; operations that change nothing. -/
namespace Ev
open PySem PySem.Spec PyProof.Rows L2
abbrev LIM : Nat := 1000000
theorem lim_line {n : Nat} (h : n ≤ LIM) : n ≤ sizeLine := by rw [sizeLine_eq]; have : LIM = 1000000 := rfl; omega
theorem lim_line' {n : Nat} (h : n ≤ LIM) : n < sizeLine := by rw [sizeLine_eq]; have : LIM = 1000000 := rfl; omega

/-! ### names, constants -/
def eVar (i : Nat) : SE := fun σ => match σ[i]? with
  | some (.fro d) => some (.ok (.v d false), σ)
  | some (.own _) => some (.ok (.s i), σ)
  | some (.par _) => some (.ok (.s i), σ)
  | _ => none
def ec (d : D) : SE := M.pure (.v d false)
section
variable {p : Pl} {pos : Pos}
theorem Sta.slot {K : PySem.W.Frag} {B : Bd} {Z H : Hp} {σD : Fr} {σ : L2.St} (s : Sta K B Z σD σ H) {i : Nat} {d : D} (h : Held σD i d) : ∃ v, σ[i]? = some (some v) ∧ RR K B Z σD σ H (.s i) v := by
  obtain ⟨a, e, _⟩ := s.own i d h
  exact ⟨_, e, e⟩
theorem de_var (i : Nat) {x : Str} (hN : p.N[i]? = some x := by rfl) (hv : Vis p.sc x := by first | exact Or.inl rfl | exact Or.inr (Or.inl rfl) | exact Or.inr (Or.inr rfl)) (hd : (x == ("__debug__" : Str)) = false := by decide)
    (hcd : (x == ("__classdict__" : Str)) = false := by decide) : DE p (.Name x pos) (eVar i) := fun X W c tk => by
  refine PE_imp (pe_var (i := i) (by rw [c.hN]; exact hN) (by rw [c.hsc]; exact hv) hd hcd) fun σ H Q h => ?_
  obtain ⟨B, Z, σD, s, h⟩ := h
  unfold eVar at h
  cases e : σD[i]? with
  | none => rw [e] at h; exact h.elim
  | some l =>
    rw [e] at h
    cases l with
    | no => exact h.elim
    | fro d =>
      obtain ⟨v, e1, e2⟩ := s.fro i d e
      exact ⟨v, e1, h.now s v e2⟩
    | own d =>
      obtain ⟨v, e1, e2⟩ := s.slot (.inl e)
      exact ⟨v, e1, h.now s v e2⟩
    | par d =>
      obtain ⟨v, e1, e2⟩ := s.slot (.inr e)
      exact ⟨v, e1, h.now s v e2⟩
theorem rd_c {K : PySem.W.Frag} {W : WX} {d : D} {v : V} {σ : L2.St} {H : Hp} {Q : VK} (hd : ∀ Z, Rp K Z d v) (h : rd K W (ec d) σ H Q) : tC v σ H Q := by
  obtain ⟨B, Z, σD, s, h⟩ := h
  exact h.now s v (hd Z)
theorem de_int {i : Int} {k : Nat} : DE p (.Constant (.int i) k pos) (ec (.int i)) := fun X W c tk => PE_imp pe_int fun _ _ _ h => rd_c (fun _ => by simp [Rp]) h
theorem de_bl {b : Bool} {k : Nat} : DE p (.Constant (.bool b) k pos) (ec (.bl b)) := fun X W c tk => PE_imp pe_bl fun _ _ _ h => rd_c (fun _ => by simp [Rp]) h
theorem de_non {k : Nat} : DE p (.Constant .none k pos) (ec .non) := fun X W c tk => PE_imp pe_non fun _ _ _ h => rd_c (fun _ => by simp [Rp]) h
theorem de_str {x : Str} {s : List Nat} {k : Nat} (e : x.cps.toList = s := by decide) : DE p (.Constant (.str x) k pos) (ec (.str s)) := fun X W c tk => PE_imp pe_str fun _ _ _ h => rd_c (fun _ => by subst e; simp [Rp]) h

/-! ### displays -/
def eTup (fs : List SE) : SE := M.bind (eAll fs) fun rs => M.bind (aliasAll rs) fun ds => M.pure (.v (.tup ds) false)
def eLst (fs : List SE) : SE := M.bind (eAll fs) fun rs => M.bind (aliasAll rs) fun ds => M.pure (.v (.lst ds) true)
theorem RRs.length {K : PySem.W.Frag} {Z H : Hp} {σD : Fr} {σ : L2.St} : ∀ {rs : List R} {B : Bd} {vs : List V}, RRs K Z σD σ H B rs vs → vs.length = rs.length
  | [], _, _, h => by rw [show _ = [] from h]; rfl
  | r :: rs, _, _, h => by
    obtain ⟨v, t, rfl, _, h2⟩ := h
    simp [RRs.length h2]
theorem eAll_length : ∀ {fs : List SE} {σ σ' : Fr} {rs : List R}, eAll fs σ = some (.ok rs, σ') → rs.length = fs.length
  | [], σ, σ', rs, h => by
    have e : [] = rs ∧ σ = σ' := by simpa [eAll, M.pure] using h
    rw [← e.1]; rfl
  | f :: fs, σ, σ', rs, h => by
    obtain ⟨r, σ1, h1, h2⟩ := M.bind_inv h
    obtain ⟨rs', σ2, h3, h4⟩ := M.bind_inv h2
    have e : r :: rs' = rs ∧ σ2 = σ' := by simpa [M.pure] using h4
    rw [← e.1, List.length_cons, List.length_cons, eAll_length h3]
/-- the outcome with what the step gave -/
theorem Aft.val {K : PySem.W.Frag} {W : WX} {α : Type} {Post : α → Hp → Fr → Hp → Prop} {σ : L2.St} {B : Bd} {Z H : Hp} {o : Option (Re α × Fr)} (h : Aft K W Post σ B Z H o) : Aft K W (fun a Z' σD' H' => Post a Z' σD' H' ∧ o = some (.ok a, σD')) σ B Z H o := by
  match o, h with
  | some (.ok a, σD'), h => exact fun Z' H' s x => ⟨h Z' H' s x, rfl⟩
  | some (.ex c, σD'), h => exact h
theorem Sta.newF {K : PySem.W.Frag} {B : Bd} {Z H : Hp} {σD : Fr} {σ : L2.St} (s : Sta K B Z σD σ H) {p : Addr} {o : HO} (h : H p = none) : Sta K B (upd Z p o) σD σ (upd H p o) ∧ Ext B Z H (upd Z p o) (upd H p o) :=
  have g : Grow Z H (upd Z p o) (upd H p o) := Grow.fro s.sub h
  ⟨s.grow g, Ext.grow s g⟩
theorem Sta.newO {K : PySem.W.Frag} {B : Bd} {Z H : Hp} {σD : Fr} {σ : L2.St} (s : Sta K B Z σD σ H) {p : Addr} {o : HO} (h : H p = none) : Sta K B Z σD σ (upd H p o) ∧ Ext B Z H Z (upd H p o) :=
  have g : Grow Z H Z (upd H p o) := Grow.own s.sub h
  ⟨s.grow g, Ext.grow s g⟩
theorem de_tup {es : List Expr} {fs : List SE} {k : Nat} (h : DA p es fs) (hl : fs.length ≤ LIM := by exact Nat.le_of_ble_eq_true rfl) : DE p (.Tuple es k pos) (eTup fs) := fun X W c tk =>
  PE_imp (pe_tup (h.run X W c tk)) fun σ H Q h => by
    obtain ⟨B, Z, σD, s, h⟩ := h
    refine ⟨B, Z, σD, s, (h.bind).val.imp fun rs Z1 σD1 H1 s1 x1 ⟨h1, e1⟩ vs hv => ?_⟩
    have el : rs.length = fs.length := eAll_length e1
    refine ⟨lim_line (by rw [hv.length, el]; exact hl), fun q hq => ?_⟩
    cases e2 : aliasAll rs σD1 with
    | none => rw [M.bind_none e2] at h1; exact h1.elim
    | some o =>
      obtain ⟨o, σD2⟩ := o
      obtain ⟨ds, rfl, Z2, s2, x2, r2⟩ := aliasAll_ok s1 hv e2
      rw [M.bind_ok e2] at h1
      obtain ⟨s3, x3⟩ := s2.newF (o := .tup vs) hq
      refine h1 _ _ s3 (x2.trans x3) _ ?_
      show Rp p.K _ (.tup ds) _
      simp only [Rp]
      exact ⟨q, vs, rfl, upd_same, r2.mono x3.sub⟩
theorem de_lst {es : List Expr} {fs : List SE} (h : DA p es fs) (hl : fs.length ≤ LIM := by exact Nat.le_of_ble_eq_true rfl) : DE p (.List es pos) (eLst fs) := fun X W c tk =>
  PE_imp (pe_lst (h.run X W c tk)) fun σ H Q h => by
    obtain ⟨B, Z, σD, s, h⟩ := h
    refine ⟨B, Z, σD, s, (h.bind).val.imp fun rs Z1 σD1 H1 s1 x1 ⟨h1, e1⟩ vs hv => ?_⟩
    have el : rs.length = fs.length := eAll_length e1
    refine ⟨lim_line (by rw [hv.length, el]; exact hl), fun q hq => ?_⟩
    cases e2 : aliasAll rs σD1 with
    | none => rw [M.bind_none e2] at h1; exact h1.elim
    | some o =>
      obtain ⟨o, σD2⟩ := o
      obtain ⟨ds, rfl, Z2, s2, x2, r2⟩ := aliasAll_ok s1 hv e2
      rw [M.bind_ok e2] at h1
      have g : Grow Z2 H1 Z2 (upd H1 q (.lst vs)) := Grow.own s2.sub hq
      refine h1 _ _ (s2.grow g) (x2.trans (Ext.grow s2 g)) _ (RR.ofRes s2 g ?_)
      exact ⟨q, rfl, hq, s2.sub.none hq, vs, upd_same, r2⟩
end
/-! ### operations that change nothing -/
/-- two operands, by an operation on trees -/
def e2 (g : D → D → Option (D × Bool)) (f1 f2 : SE) : SE := M.bind f1 fun a => M.bind f2 fun b => M.bind (get a) fun x => M.bind (get b) fun y => M.bind (M.lift (g x y)) fun r => M.pure (.v r.1 r.2)
def e1 (g : D → Option (D × Bool)) (f1 : SE) : SE := M.bind f1 fun a => M.bind (get a) fun x => M.bind (M.lift (g x)) fun r => M.pure (.v r.1 r.2)
/-- how an operation g is kept by a rule on values -/
def Op2 (K : PySem.W.Frag) (g : D → D → Option (D × Bool)) : R2 := fun x y H Q => ∃ Z dx dy r, Sub Z H ∧ RO K Z H dx x ∧ RO K Z H dy y ∧ g dx dy = some r ∧ Pur K Z H r Q
def Op1 (K : PySem.W.Frag) (g : D → Option (D × Bool)) : V → Hp → VK → Prop := fun x H Q => ∃ Z dx r, Sub Z H ∧ RO K Z H dx x ∧ g dx = some r ∧ Pur K Z H r Q
section
variable {K : PySem.W.Frag} {W : WX} {B : Bd} {Z H : Hp} {σD : Fr} {σ : L2.St}
theorem get_of {r : R} {σD : Fr} {α : Type} {f : D → M α} {o : Option (Re α × Fr)} (e : M.bind (get r) f σD = o) (h : o ≠ none) : ∃ d, r.get σD = some d ∧ f d σD = o := by
  cases q : r.get σD with
  | none =>
    have : get r σD = none := by unfold get; rw [q]
    rw [M.bind_none this] at e; exact absurd e.symm h
  | some d =>
    have : get r σD = some (.ok d, σD) := by unfold get; rw [q]
    rw [M.bind_ok this] at e
    exact ⟨d, rfl, e⟩
theorem lift_of {β α : Type} {v : Option β} {σD : Fr} {f : β → M α} {o : Option (Re α × Fr)} (e : M.bind (M.lift v) f σD = o) (h : o ≠ none) : ∃ d, v = some d ∧ f d σD = o := by
  cases v with
  | none =>
    rw [M.bind_none (show M.lift (none : Option β) σD = none from rfl)] at e; exact absurd e.symm h
  | some d => rw [M.bind_ok (show M.lift (some d) σD = some (.ok d, σD) from rfl)] at e; exact ⟨d, rfl, e⟩
theorem Aft.some {α : Type} {Post : α → Hp → Fr → Hp → Prop} {o : Option (Re α × Fr)} (h : Aft K W Post σ B Z H o) : o ≠ none := fun e => by rw [e] at h; exact h
/-- the result of an operation that changes nothing, back in the state -/
theorem Pur.of {r : D × Bool} {Q : VK} (s : Sta K B Z σD σ H) (h : Aft K W (fun r Z' σD' H' => ∀ v, RR K B Z' σD' σ H' r v → Q v H') σ B Z H (some (.ok (.v r.1 r.2), σD))) : Pur K Z H r Q :=
  fun v Z' H' g q => h Z' H' (s.grow g) (Ext.grow s g) v (RR.ofRes s g q)
theorem rd_e2 {g : D → D → Option (D × Bool)} {f1 f2 : SE} {Q : VK} (h : rd K W (e2 g f1 f2) σ H Q) : tOp (Op2 K g) (rd K W f1) (rd K W f2) σ H Q := by
  obtain ⟨B, Z, σD, s, h⟩ := h
  refine rd_bin s h fun a b x y Z1 σD1 H1 s1 x1 hv h1 => ?_
  obtain ⟨dx, ex, h2⟩ := get_of rfl h1.some
  rw [← h2] at h1
  obtain ⟨dy, ey, h3⟩ := get_of rfl h1.some
  rw [← h3] at h1
  obtain ⟨r, er, h4⟩ := lift_of rfl h1.some
  rw [← h4] at h1
  obtain ⟨v1, t1, e1, q1, q2⟩ := hv
  cases e1
  obtain ⟨v2, t2, e2, q3, q4⟩ := q2
  cases e2
  exact ⟨Z1, dx, dy, r, s1.sub, q1.ro s1 ex, q3.ro (s1.tmp q1) ey, er, Pur.of s1 h1⟩
theorem rd_e1 {g : D → Option (D × Bool)} {f1 : SE} {Q : VK} (h : rd K W (e1 g f1) σ H Q) : tUn (Op1 K g) (rd K W f1) σ H Q := by
  obtain ⟨B, Z, σD, s, h⟩ := h
  refine rd_un s h fun a x Z1 σD1 H1 s1 x1 q1 h1 => ?_
  obtain ⟨dx, ex, h2⟩ := get_of rfl h1.some
  rw [← h2] at h1
  obtain ⟨r, er, h4⟩ := lift_of rfl h1.some
  rw [← h4] at h1
  exact ⟨Z1, dx, r, s1.sub, q1.ro s1 ex, er, Pur.of s1 h1⟩
theorem Pur.int {i : Int} {o : Bool} {Q : VK} (s : Sub Z H) (h : Pur K Z H (.int i, false) Q) : Q (.int i) H := h _ Z H (Grow.refl s) (show Rp K Z (.int i) _ by simp [Rp])
theorem Pur.bl {b : Bool} {Q : VK} (s : Sub Z H) (h : Pur K Z H (.bl b, false) Q) : Q (.bl b) H := h _ Z H (Grow.refl s) (show Rp K Z (.bl b) _ by simp [Rp])
theorem Pur.non {Q : VK} (s : Sub Z H) (h : Pur K Z H (.non, false) Q) : Q .non H := h _ Z H (Grow.refl s) (show Rp K Z .non _ by simp [Rp])
theorem Pur.str {x : List Nat} {Q : VK} (s : Sub Z H) (h : Pur K Z H (.str x, false) Q) : Q (.str ⟨x.toArray⟩) H := h _ Z H (Grow.refl s) (show Rp K Z (.str x) _ by simp [Rp])
/-- a new tuple, a new list of frozen items -/
theorem Pur.tup {ds : List D} {xs : List V} {Q : VK} (s : Sub Z H) (h : Pur K Z H (.tup ds, false) Q) (r : RpL K Z ds xs) {q : Addr} (hq : H q = none) : Q (.ref q) (upd H q (.tup xs)) := by
  have g : Grow Z H (upd Z q (.tup xs)) (upd H q (.tup xs)) := Grow.fro s hq
  refine h _ _ _ g ?_
  show Rp K _ (.tup ds) _
  simp only [Rp]
  exact ⟨q, xs, rfl, upd_same, r.mono g.z⟩
theorem Pur.lst {ds : List D} {xs : List V} {Q : VK} (s : Sub Z H) (h : Pur K Z H (.lst ds, true) Q) (r : RpL K Z ds xs) {q : Addr} (hq : H q = none) : Q (.ref q) (upd H q (.lst xs)) :=
  h _ _ _ (Grow.own s hq) ⟨q, rfl, hq, s.none hq, xs, upd_same, r⟩
/-- an old thing -/
theorem Pur.old {d : D} {v : V} {Q : VK} (s : Sub Z H) (h : Pur K Z H (d, false) Q) (r : Rp K Z d v) : Q v H := h _ _ _ (Grow.refl s) r
end
end Ev

set_option Elab.async false
set_option linter.all false
set_option maxRecDepth 100000
/-! Ev, part E: operators. -/
namespace Ev
open PySem PySem.Spec PyProof.Rows L2

/-! ### + - * // % ** and - -/
def addG : D → D → Option (D × Bool)
  | .int i, .int j => some (.int (i + j), false)
  | .str a, .str b => if a.length + b.length ≤ LIM then some (.str (a ++ b), false) else none
  | .lst a, .lst b => if a.length + b.length ≤ LIM then some (.lst (a ++ b), true) else none
  | .tup a, .tup b => if a.length + b.length ≤ LIM then some (.tup (a ++ b), false) else none
  | _, _ => none
def subG : D → D → Option (D × Bool)
  | .int i, .int j => some (.int (i - j), false)
  | _, _ => none
def mulOk (i j : Int) : Bool := decide (-18446744073709551616 < i ∧ i < 18446744073709551616) || decide (-18446744073709551616 < j ∧ j < 18446744073709551616)
def mulG : D → D → Option (D × Bool)
  | .int i, .int j => if mulOk i j = true then some (.int (i * j), false) else none
  | .tup a, .int k => if a ≠ [] ∧ 2 ≤ k ∧ k ≤ 1000 ∧ a.length ≤ 1000 then some (.tup (List.replicate k.toNat a).flatten, false) else none
  | .lst a, .int k => if 0 ≤ k ∧ k ≤ 1000000 ∧ a.length * k.toNat ≤ LIM then some (.lst (List.replicate k.toNat a).flatten, true) else none
  | _, _ => none
def divG : D → D → Option (D × Bool)
  | .int i, .int j => if 0 < j ∧ j < 1073741824 then some (.int (i / j), false) else none
  | _, _ => none
def modG : D → D → Option (D × Bool)
  | .int i, .int j => if 0 < j then some (.int (i % j), false) else none
  | _, _ => none
def powG : D → D → Option (D × Bool)
  | .int i, .int j => if 0 ≤ j ∧ j ≤ 1000 ∧ -1000000000 < i ∧ i < 1000000000 then some (.int (i ^ j.toNat), false) else none
  | _, _ => none
def negG : D → Option (D × Bool)
  | .int i => some (.int (-i), false)
  | _ => none

section
variable {X : Cx} {K : PySem.W.Frag}
/-- list + list, of any list that is read -/
theorem op_catL : OpR X (binaryOp .Add) (fun x y H Q => ∃ l b xs zs, x = .ref l ∧ y = .ref b ∧ SqL X.K H l xs ∧ SqL X.K H b zs ∧ xs.length + zs.length ≤ sizeLine ∧ ∀ p, H p = none → Q (.ref p) (upd H p (.lst (xs ++ zs)))) := by
  intro pins s σ H x y v u Q I rx ry h
  obtain ⟨l, b, xs, zs, rfl, rfl, hH, hB, hz, q⟩ := h
  cases rx
  cases ry
  obtain ⟨its, r, p, hl⟩ := I.list hH
  obtain ⟨its2, r2, p2, hl2⟩ := I.list hB
  obtain ⟨⟨cls, dd, data, sl⟩, ho, hc, n, hd⟩ := p.isList
  obtain ⟨⟨cls2, dd2, data2, sl2⟩, ho2, hc2, n2, hd2⟩ := p2.isList
  simp only at hc hd hc2 hd2
  subst hc hd hc2 hd2
  have e : its.toArray ++ its2.toArray = (its ++ its2).toArray := by simp
  refine PySem.concat_meets ⟨_, ho, rfl⟩ ⟨_, ho2, rfl⟩ PySem.noFill_list_add PySem.seq_list_add PySem.F.slot_list_add PySem.F.entry_list_add (PySem.F.args_list_add_2 _ _) (PyProof.Rows.list_addW l b its.toArray its2.toArray n n2 dd dd2 sl sl2 (by rw [List.size_toArray, List.size_toArray, ← r.length, ← r2.length]; exact hz)) ⟨ho, ho2, ?_⟩
  rw [e]
  exact ⟨.ref _, _, I.lnew (t' := s.toks) (r.append r2) (by rw [List.length_append]; exact hz), rfl, q _ I.fresh⟩
theorem op_repL : OpR X (binaryOp .Mult) (fun x y H Q => ∃ l k xs, x = .ref l ∧ y = .int k ∧ SqL X.K H l xs ∧ 0 ≤ k ∧ k ≤ 1000000 ∧ xs.length * k.toNat ≤ sizeLine ∧ ∀ p, H p = none → Q (.ref p) (upd H p (.lst (List.replicate k.toNat xs).flatten))) := by
  intro pins s σ H x y v u Q I rx ry h
  obtain ⟨l, k, xs, rfl, rfl, hH, h0, h1, hz, q⟩ := h
  cases rx
  obtain ⟨t, rfl⟩ := ry
  obtain ⟨its, r, p, hl⟩ := I.list hH
  obtain ⟨⟨cls, d, data, sl⟩, ho, hcl, n, hd⟩ := p.isList
  simp only at hcl hd
  subst hcl hd
  have hlen : its.toArray.size * k.toNat ≤ sizeLine := by rw [List.size_toArray, ← r.length]; exact hz
  refine PySem.wpAny_binaryOp_repeat_ref (T := "list") (U := "int") (by decide) ⟨_, ho, rfl⟩ (fun s' => PySem.typeIs_int s' k t) PySem.noFill_list_mul PySem.F.fills_int_mul PySem.F.slot_int_rmul PySem.repeat_list PySem.F.slot_int_index.lookup
    (PySem.call_meets PySem.F.slot_int_rmul (PySem.typeIs_int s k t) PySem.F.entry_int_rmul (PySem.F.args_int_rmul_2 _ _) (PySem.lm_int_rmul_list_any k t l its.toArray n d sl)
      ⟨ho, rfl, ⟨_, ho, rfl⟩, PySem.call_meets PySem.F.slot_list_mul ⟨_, ho, rfl⟩ PySem.F.entry_list_mul (PySem.F.args_list_mul_2 _ _)
        (PySem.lm_list_mul_any l its.toArray n d sl k t (by simp [Builtin.List.listFitsIndex]; omega) (by rw [sizeLine_eq] at hlen; omega) (by rw [notLongL hlen]; exact Bool.false_ne_true))
        ⟨ho, ?_⟩⟩)
  rw [PyProof.Rows.listMul_foldl_if]
  refine ⟨.ref _, _, I.lnew (t' := s.toks) (Vals.rep r k.toNat) ?_, rfl, q _ I.fresh⟩
  have e : (List.replicate k.toNat xs).flatten.length = xs.length * k.toNat := by simp [Nat.mul_comm]
  rw [e]; exact hz
theorem str_app (a b : List Nat) : ((⟨a.toArray⟩ : Str) ++ (⟨b.toArray⟩ : Str)) = ⟨(a ++ b).toArray⟩ := by
  show Str.append _ _ = _
  unfold Str.append
  simp
theorem str_len (a : List Nat) : (⟨a.toArray⟩ : Str).length = a.length := by simp [Str.length]
theorem op_addD (hK : X.K = K) : OpR X (binaryOp .Add) (Op2 K addG) := by
  subst hK
  intro pins s σ H x y v u Q I rx ry h
  obtain ⟨Z, dx, dy, r, sub, hx, hy, e, q⟩ := h
  match dx, dy, e with
  | .int i, .int j, e =>
    cases e
    exact op_add pins s σ H x y v u Q I rx ry ⟨i, j, hx.int, hy.int, q.int (o := false) sub⟩
  | .str a, .str b, e =>
    simp only [addG] at e
    split at e
    · rename_i hl
      cases e
      refine op_add_str pins s σ H x y v u Q I rx ry ⟨_, _, hx.str, hy.str, ?_, ?_⟩
      · rw [str_len, str_len]; exact lim_line hl
      · rw [str_app]; exact q.str sub
    · cases e
  | .lst a, .lst b, e =>
    simp only [addG] at e
    split at e
    · rename_i hl
      cases e
      obtain ⟨l, xs, rfl, h1, r1⟩ := hx.lst sub
      obtain ⟨m, ys, rfl, h2, r2⟩ := hy.lst sub
      refine op_catL pins s σ H _ _ v u Q I rx ry ⟨l, m, xs, ys, rfl, rfl, h1, h2, ?_, fun p hp => q.lst sub (r1.append r2) hp⟩
      rw [r1.length, r2.length]; exact lim_line hl
    · cases e
  | .tup a, .tup b, e =>
    simp only [addG] at e
    split at e
    · rename_i hl
      cases e
      obtain ⟨l, xs, rfl, h1, h1z, r1⟩ := hx.tup sub
      obtain ⟨m, ys, rfl, h2, h2z, r2⟩ := hy.tup sub
      refine op_catA pins s σ H _ _ v u Q I rx ry ⟨l, m, xs, ys, rfl, rfl, h1, h2, ?_, fun e => ?_, fun _ e => ?_, fun _ _ p hp => q.tup sub (r1.append r2) hp⟩
      · rw [r1.length, r2.length]; exact lim_line hl
      · subst e
        refine q.old sub ?_
        have ea : a = [] := List.eq_nil_of_length_eq_zero (by rw [← r1.length]; rfl)
        subst ea
        show Rp _ Z (.tup ([] ++ b)) _
        simp only [Rp, List.nil_append]
        exact ⟨m, ys, rfl, h2z, r2⟩
      · subst e
        refine q.old sub ?_
        have ea : b = [] := List.eq_nil_of_length_eq_zero (by rw [← r2.length]; rfl)
        subst ea
        show Rp _ Z (.tup (a ++ [])) _
        simp only [Rp, List.append_nil]
        exact ⟨l, xs, rfl, h1z, r1⟩
    · cases e
theorem op_subD (hK : X.K = K) : OpR X (binaryOp .Sub) (Op2 K subG) := by
  subst hK
  intro pins s σ H x y v u Q I rx ry h
  obtain ⟨Z, dx, dy, r, sub, hx, hy, e, q⟩ := h
  match dx, dy, e with
  | .int i, .int j, e =>
    cases e
    exact op_sub pins s σ H x y v u Q I rx ry ⟨i, j, hx.int, hy.int, q.int (o := false) sub⟩
theorem RpL.rep {Z : Hp} {ds : List D} {xs : List V} (h : RpL K Z ds xs) : ∀ k : Nat, RpL K Z (List.replicate k ds).flatten (List.replicate k xs).flatten
  | 0 => by simpa using RpL.nil
  | k + 1 => by
    rw [List.replicate_succ, List.replicate_succ, List.flatten_cons, List.flatten_cons]
    exact h.append (RpL.rep h k)
theorem op_mulD (hK : X.K = K) : OpR X (binaryOp .Mult) (Op2 K mulG) := by
  subst hK
  intro pins s σ H x y v u Q I rx ry h
  obtain ⟨Z, dx, dy, r, sub, hx, hy, e, q⟩ := h
  match dx, dy, e with
  | .int i, .int j, e =>
    simp only [mulG] at e
    split at e
    · rename_i hl
      cases e
      refine op_mul pins s σ H x y v u Q I rx ry ⟨i, j, hx.int, hy.int, ?_, q.int (o := false) sub⟩
      unfold mulOk at hl
      rw [Bool.or_eq_true, decide_eq_true_eq, decide_eq_true_eq] at hl
      exact hl
    · cases e
  | .tup a, .int k, e =>
    simp only [mulG] at e
    split at e
    · rename_i hl
      cases e
      obtain ⟨l, xs, rfl, h1, h1z, r1⟩ := hx.tup sub
      refine op_repT pins s σ H _ _ v u Q I rx ry ⟨l, k, xs, rfl, hy.int, h1, fun e => hl.1 ?_, hl.2.1, hl.2.2.1, ?_, fun p hp => q.tup sub (r1.rep k.toNat) hp⟩
      · exact List.eq_nil_of_length_eq_zero (by rw [← r1.length, e]; rfl)
      · rw [r1.length]; exact hl.2.2.2
    · cases e
  | .lst a, .int k, e =>
    simp only [mulG] at e
    split at e
    · rename_i hl
      cases e
      obtain ⟨l, xs, rfl, h1, r1⟩ := hx.lst sub
      refine op_repL pins s σ H _ _ v u Q I rx ry ⟨l, k, xs, rfl, hy.int, h1, hl.1, hl.2.1, ?_, fun p hp => q.lst sub (r1.rep k.toNat) hp⟩
      rw [r1.length]; exact lim_line hl.2.2
    · cases e
theorem op_divD (hK : X.K = K) : OpR X (binaryOp .FloorDiv) (Op2 K divG) := by
  subst hK
  intro pins s σ H x y v u Q I rx ry h
  obtain ⟨Z, dx, dy, r, sub, hx, hy, e, q⟩ := h
  match dx, dy, e with
  | .int i, .int j, e =>
    simp only [divG] at e
    split at e
    · rename_i hl
      cases e
      exact op_fdiv pins s σ H x y v u Q I rx ry ⟨i, j, hx.int, hy.int, hl, q.int (o := false) sub⟩
    · cases e
theorem op_modD (hK : X.K = K) : OpR X (binaryOp .Mod) (Op2 K modG) := by
  subst hK
  intro pins s σ H x y v u Q I rx ry h
  obtain ⟨Z, dx, dy, r, sub, hx, hy, e, q⟩ := h
  match dx, dy, e with
  | .int i, .int j, e =>
    simp only [modG] at e
    split at e
    · rename_i hl
      cases e
      exact op_mod pins s σ H x y v u Q I rx ry ⟨i, j, hx.int, hy.int, hl, q.int (o := false) sub⟩
    · cases e
theorem op_powD (hK : X.K = K) : OpR X (binaryOp .Pow) (Op2 K powG) := by
  subst hK
  intro pins s σ H x y v u Q I rx ry h
  obtain ⟨Z, dx, dy, r, sub, hx, hy, e, q⟩ := h
  match dx, dy, e with
  | .int i, .int j, e =>
    simp only [powG] at e
    split at e
    · rename_i hl
      cases e
      exact op_pow pins s σ H x y v u Q I rx ry ⟨i, j, hx.int, hy.int, ⟨hl.1, by omega, by omega⟩, q.int (o := false) sub⟩
    · cases e
theorem un_negD (hK : X.K = K) : UnR X (unaryOp .USub) (Op1 K negG) := by
  subst hK
  intro pins s σ H x v Q I rx h
  obtain ⟨Z, dx, r, sub, hx, e, q⟩ := h
  match dx, e with
  | .int i, e =>
    cases e
    exact un_neg pins s σ H x v Q I rx ⟨i, hx.int, q.int (o := false) sub⟩
end
section
variable {p : Pl} {a b : Expr} {fa fb : SE} {pos : Pos}
theorem de_op {op : Operator} {g : D → D → Option (D × Bool)} (ho : ∀ X : Cx, X.K = p.K → OpR X (binaryOp op) (Op2 p.K g)) (ha : DE p a fa) (hb : DE p b fb) : DE p (.BinOp a op b pos) (e2 g fa fb) := fun X W c tk =>
  PE_imp (pe_op (ho X c.hK) (ha X W c tk) (hb X W c tk)) fun _ _ _ h => rd_e2 h
theorem de_add (ha : DE p a fa) (hb : DE p b fb) : DE p (.BinOp a .Add b pos) (e2 addG fa fb) := de_op (fun _ h => op_addD h) ha hb
theorem de_sub (ha : DE p a fa) (hb : DE p b fb) : DE p (.BinOp a .Sub b pos) (e2 subG fa fb) := de_op (fun _ h => op_subD h) ha hb
theorem de_mul (ha : DE p a fa) (hb : DE p b fb) : DE p (.BinOp a .Mult b pos) (e2 mulG fa fb) := de_op (fun _ h => op_mulD h) ha hb
theorem de_div (ha : DE p a fa) (hb : DE p b fb) : DE p (.BinOp a .FloorDiv b pos) (e2 divG fa fb) := de_op (fun _ h => op_divD h) ha hb
theorem de_mod (ha : DE p a fa) (hb : DE p b fb) : DE p (.BinOp a .Mod b pos) (e2 modG fa fb) := de_op (fun _ h => op_modD h) ha hb
theorem de_pow (ha : DE p a fa) (hb : DE p b fb) : DE p (.BinOp a .Pow b pos) (e2 powG fa fb) := de_op (fun _ h => op_powD h) ha hb
theorem de_neg (ha : DE p a fa) : DE p (.UnaryOp .USub a pos) (e1 negG fa) := fun X W c tk =>
  PE_imp (pe_un (un_negD c.hK) (ha X W c tk)) fun _ _ _ h => rd_e1 h
end
end Ev

set_option Elab.async false
set_option linter.all false
set_option maxRecDepth 100000
/-! Ev, part F: comparisons, truth, and, or, not. -/
namespace Ev
open PySem PySem.Spec PyProof.Rows L2

/-! ### trees as the library's data -/
mutual
def toPy : D → PyData
  | .non => .none
  | .bl b => .bool b
  | .int i => .int i
  | .str s => .str ⟨s.toArray⟩
  | .tup l => .tuple (toPyL l)
  | .lst l => .list (toPyL l)
  | .dic _ => .dict []
def toPyL : List D → List PyData
  | [] => []
  | d :: ds => toPy d :: toPyL ds
end
mutual
def shp : Nat → D → Bool
  | _, .non => true
  | _, .bl _ => true
  | _, .int _ => true
  | _, .str s => s.all (fun c => decide (c < 1114112))
  | 0, .tup _ => false
  | n + 1, .tup l => shpL n l
  | 0, .lst _ => false
  | n + 1, .lst l => shpL n l
  | _, .dic _ => false
def shpL : Nat → List D → Bool
  | _, [] => true
  | n, d :: ds => shp n d && shpL n ds
end
mutual
def eqv : D → D → Bool
  | .non, .non => true
  | .bl a, .bl b => decide (a = b)
  | .bl a, .int j => decide ((if a then 1 else 0) = j)
  | .int i, .bl b => decide (i = (if b then 1 else 0))
  | .int i, .int j => decide (i = j)
  | .str x, .str y => decide (x = y)
  | .lst xs, .lst ys => eqvL xs ys
  | .tup xs, .tup ys => eqvL xs ys
  | _, _ => false
def eqvL : List D → List D → Bool
  | [], [] => true
  | x :: xs, y :: ys => eqv x y && eqvL xs ys
  | _, _ => false
end
theorem toPyL_map : ∀ l : List D, toPyL l = l.map toPy
  | [] => rfl
  | d :: ds => by simp [toPyL, toPyL_map ds]
mutual
theorem shp_lay : ∀ (n : Nat) (d : D), shp n d = true → (toPy d).canLay0 = true ∧ (toPy d).depth ≤ n
  | _, .non, _ => by simp [toPy, PyData.canLay0, PyData.depth]
  | _, .bl _, _ => by simp [toPy, PyData.canLay0, PyData.depth]
  | _, .int _, _ => by simp [toPy, PyData.canLay0, PyData.depth]
  | n, .str s, h => by
    simp only [shp] at h
    simp only [toPy, PyData.canLay0, PyData.depth, PyData.strOk]
    refine ⟨?_, Nat.zero_le _⟩
    simpa using h
  | 0, .tup l, h => by simp [shp] at h
  | n + 1, .tup l, h => by
    simp only [shp] at h
    obtain ⟨h1, h2⟩ := shpL_lay n l h
    simp only [toPy, PyData.canLay0, PyData.depth]
    exact ⟨h1, by omega⟩
  | 0, .lst l, h => by simp [shp] at h
  | n + 1, .lst l, h => by
    simp only [shp] at h
    obtain ⟨h1, h2⟩ := shpL_lay n l h
    simp only [toPy, PyData.canLay0, PyData.depth]
    exact ⟨h1, by omega⟩
  | _, .dic _, h => by simp [shp] at h
theorem shpL_lay : ∀ (n : Nat) (d : List D), shpL n d = true → PyData.canLayAll0 (toPyL d) = true ∧ PyData.depthAll (toPyL d) ≤ n
  | _, [], _ => by simp [toPyL, PyData.canLayAll0, PyData.depthAll]
  | n, d :: ds, h => by
    simp only [shpL, Bool.and_eq_true] at h
    obtain ⟨h1, h2⟩ := shp_lay n d h.1
    obtain ⟨h3, h4⟩ := shpL_lay n ds h.2
    simp only [toPyL, PyData.canLayAll0, PyData.depthAll, h1, h3, Bool.and_self, true_and]
    omega
end
theorem shaped_of {d : D} (h : shp 64 d = true) : SeqAt.shaped (toPy d) = true := by
  obtain ⟨h1, h2⟩ := shp_lay 64 d h
  unfold SeqAt.shaped
  rw [h1, decide_eq_true h2]; rfl
theorem dec_b (a b : Bool) : (a == b) = decide (a = b) := by cases a <;> cases b <;> rfl
theorem dec_s (x y : List Nat) : ((⟨x.toArray⟩ : Str) == ⟨y.toArray⟩) = decide (x = y) := by
  by_cases h : x = y
  · subst h; simp
  · rw [decide_eq_false h]
    refine beq_eq_false_iff_ne.mpr fun e => h ?_
    injection e with e
    exact congrArg Array.toList e
mutual
theorem eqv_py : ∀ (a b : D) (n : Nat), shp n a = true → PyData.eqv (toPy a) (toPy b) = eqv a b
  | .non, b, n, h => by cases b <;> simp [toPy, PyData.eqv, eqv]
  | .bl x, b, n, h => by cases b <;> simp [toPy, PyData.eqv, eqv, dec_b]; (try rfl); (try exact dec_b _ _); all_goals exact Int.instDecidableEq.decEq_eq _ _
  | .int x, b, n, h => by cases b <;> simp [toPy, PyData.eqv, eqv]; all_goals rfl
  | .str x, b, n, h => by cases b <;> simp [toPy, PyData.eqv, eqv]; all_goals exact dec_s _ _
  | .tup x, b, n, h => by
    cases b with
    | tup y =>
      cases n with
      | zero => simp [shp] at h
      | succ n => simp only [shp] at h; simp only [toPy, PyData.eqv, eqv]; exact eqvL_py x y n h
    | _ => simp [toPy, PyData.eqv, eqv]
  | .lst x, b, n, h => by
    cases b with
    | lst y =>
      cases n with
      | zero => simp [shp] at h
      | succ n => simp only [shp] at h; simp only [toPy, PyData.eqv, eqv]; exact eqvL_py x y n h
    | _ => simp [toPy, PyData.eqv, eqv]
  | .dic _, b, n, h => by simp [shp] at h
theorem eqvL_py : ∀ (a b : List D) (n : Nat), shpL n a = true → PyData.eqvAll (toPyL a) (toPyL b) = eqvL a b
  | [], b, n, h => by cases b <;> simp [toPyL, PyData.eqvAll, eqvL]
  | x :: xs, b, n, h => by
    cases b with
    | nil => simp [toPyL, PyData.eqvAll, eqvL]
    | cons y ys =>
      simp only [shpL, Bool.and_eq_true] at h
      simp only [toPyL, PyData.eqvAll, eqvL, eqv_py x y n h.1, eqvL_py xs ys n h.2]
end
section
variable {K : PySem.W.Frag} {Z H : Hp}
mutual
theorem Rp.dp : ∀ {d : D} {v : V} (n : Nat), shp n d = true → Rp K Z d v → Dp K Z v (toPy d)
  | .non, v, n, _, h => by simp only [Rp] at h; subst h; simp only [toPy]; exact .non
  | .bl b, v, n, _, h => by simp only [Rp] at h; subst h; simp only [toPy]; exact .bl b
  | .int b, v, n, _, h => by simp only [Rp] at h; subst h; simp only [toPy]; exact .int b
  | .str b, v, n, _, h => by simp only [Rp] at h; subst h; simp only [toPy]; exact .str _
  | .tup l, v, 0, s, h => by simp [shp] at s
  | .tup l, v, n + 1, s, h => by
    simp only [shp] at s
    simp only [Rp] at h
    obtain ⟨a, xs, rfl, q, r⟩ := h
    simp only [toPy]
    exact .tup (SqT.of q) (RpL.dp n s r)
  | .lst l, v, 0, s, h => by simp [shp] at s
  | .lst l, v, n + 1, s, h => by
    simp only [shp] at s
    simp only [Rp] at h
    obtain ⟨a, xs, rfl, q, r⟩ := h
    simp only [toPy]
    exact .lst q (RpL.dp n s r)
  | .dic _, v, n, s, h => by simp [shp] at s
theorem RpL.dp : ∀ {d : List D} {v : List V} (n : Nat), shpL n d = true → RpL K Z d v → DpAll K Z v (toPyL d)
  | [], v, n, _, h => by rw [h.inv0]; simp only [toPyL]; exact .nil
  | d :: ds, v, n, s, h => by
    obtain ⟨x, r, rfl, h1, h2⟩ := h.inv
    simp only [shpL, Bool.and_eq_true] at s
    simp only [toPyL]
    exact .cons (Rp.dp n s.1 h1) (RpL.dp n s.2 h2)
end
theorem RO.dp {d : D} {v : V} (s : Sub Z H) (h : RO K Z H d v) {n : Nat} (hn : shp n d = true) : Dp K H v (toPy d) := by
  rcases h with h | ⟨a, rfl, c⟩
  · exact Rp.dp n hn (h.mono s)
  · cases d with
    | lst ds =>
      obtain ⟨xs, e, r⟩ := c
      cases n with
      | zero => simp [shp] at hn
      | succ n =>
        simp only [shp] at hn
        simp only [toPy]
        exact .lst (SqL.of e) (RpL.dp n hn (r.mono s))
    | dic ps => simp [shp] at hn
    | _ => exact c.elim
end
end Ev

set_option Elab.async false
set_option linter.all false
set_option maxRecDepth 100000
/-! Ev, part G: tests. -/
namespace Ev
open PySem PySem.Spec PyProof.Rows L2

def eB (m : M Bool) : SE := M.bind m fun b => M.pure (.v (.bl b) false)
def cmp2 (g : D → D → Option Bool) (f1 f2 : SE) : M Bool := M.bind f1 fun a => M.bind f2 fun b => M.bind (get a) fun x => M.bind (get b) fun y => M.lift (g x y)
def gB (g : D → D → Option Bool) : D → D → Option (D × Bool) := fun x y => (g x y).map fun b => (.bl b, false)
def tr (f : SE) (t : D → Option Bool) : M Bool := M.bind f fun r => M.bind (get r) fun d => M.lift (t d)
def eIf (m : M Bool) (f g : SE) : SE := M.bind m fun b => if b = true then f else g
def andB (m n : M Bool) : M Bool := M.bind m fun b => if b = true then n else M.pure false
def orB (m n : M Bool) : M Bool := M.bind m fun b => if b = true then M.pure true else n
def notB (m : M Bool) : M Bool := M.bind m fun b => M.pure (!b)
def eAnd (t : D → Option Bool) (f g : SE) : SE := M.bind f fun r => M.bind (get r) fun d => M.bind (M.lift (t d)) fun k => if k = true then g else M.pure r
def eOr (t : D → Option Bool) (f g : SE) : SE := M.bind f fun r => M.bind (get r) fun d => M.bind (M.lift (t d)) fun k => if k = true then M.pure r else g
def chain (g g' : D → D → Option Bool) (f1 f2 f3 : SE) : M Bool := M.bind f1 fun a => M.bind f2 fun b => M.bind (get a) fun x => M.bind (get b) fun y => M.bind (M.lift (g x y)) fun k =>
  if k = true then M.bind f3 fun c => M.bind (get b) fun y => M.bind (get c) fun z => M.lift (g' y z) else M.pure false

/-! ### what they compare -/
def ltG : D → D → Option Bool
  | .int i, .int j => some (decide (i < j))
  | _, _ => none
def leG : D → D → Option Bool
  | .int i, .int j => some (decide (i ≤ j))
  | _, _ => none
def gtG : D → D → Option Bool
  | .int i, .int j => some (decide (j < i))
  | _, _ => none
def geG : D → D → Option Bool
  | .int i, .int j => some (decide (j ≤ i))
  | _, _ => none
def eqG (x y : D) : Option Bool := if shp 64 x = true ∧ shp 64 y = true then some (eqv x y) else none
def neG (x y : D) : Option Bool := if shp 64 x = true ∧ shp 64 y = true then some (!eqv x y) else none
def isNon : D → Bool
  | .non => true
  | _ => false
def isG : D → D → Option Bool
  | x, .non => some (isNon x)
  | .bl a, .bl b => some (decide (a = b))
  | _, _ => none
def notG (g : D → D → Option Bool) : D → D → Option Bool := fun x y => (g x y).map not
def inG : D → D → Option Bool
  | x, .lst ds => if shp 64 x = true ∧ shp 64 (.lst ds) = true then some (ds.any fun z => eqv z x) else none
  | x, .tup ds => if shp 64 x = true ∧ shp 64 (.tup ds) = true then some (ds.any fun z => eqv z x) else none
  | _, _ => none
def truG : D → Option Bool
  | .non => some false
  | .bl b => some b
  | .int i => some (decide (i ≠ 0))
  | .str s => if s.length ≤ LIM then some (!s.isEmpty) else none
  | .tup l => some (!l.isEmpty)
  | .lst l => some (!l.isEmpty)
  | .dic _ => none

section
variable {K : PySem.W.Frag} {W : WX} {B : Bd} {Z H : Hp} {σD : Fr} {σ : L2.St}
theorem eB_cmp2 (g : D → D → Option Bool) (f1 f2 : SE) : eB (cmp2 g f1 f2) = e2 (gB g) f1 f2 := by
  funext σ
  unfold eB cmp2 e2 gB M.bind M.lift M.pure
  cases f1 σ with
  | none => rfl
  | some q =>
    obtain ⟨a, σ1⟩ := q
    cases a with
    | ex c => rfl
    | ok a =>
      dsimp only
      cases f2 σ1 with
      | none => rfl
      | some q =>
        obtain ⟨b, σ2⟩ := q
        cases b with
        | ex c => rfl
        | ok b =>
          dsimp only [get]
          cases a.get σ2 with
          | none => rfl
          | some x =>
            dsimp only
            cases b.get σ2 with
            | none => rfl
            | some y =>
              dsimp only
              cases g x y <;> rfl
theorem Aft.ite {α : Type} {Post : α → Hp → Fr → Hp → Prop} {b : Bool} {m n : M α} (h : Aft K W Post σ B Z H ((if b = true then m else n) σD)) : if b = true then Aft K W Post σ B Z H (m σD) else Aft K W Post σ B Z H (n σD) := by
  cases b
  · exact h
  · exact h
theorem rdT_rd {m : M Bool} {Q : Bool → Hp → Prop} (h : rdT K W m σ H Q) : rd K W (eB m) σ H (fun x H' => ∃ k, x = .bl k ∧ Q k H') := by
  obtain ⟨B, Z, σD, s, h⟩ := h
  refine ⟨B, Z, σD, s, ?_⟩
  unfold eB
  match e : m σD, h with
  | some (.ok b, σD'), h =>
    rw [M.bind_ok e]
    intro Z' H' s' x v hv
    have hv : Rp K Z' (.bl b) v := hv
    simp only [Rp] at hv
    exact ⟨b, hv, h Z' H' s' x⟩
  | some (.ex c, σD'), h =>
    rw [M.bind_ex e]
    exact h
theorem rd_rdT {m : M Bool} {Q : VK} (h : rd K W (eB m) σ H Q) : rdT K W m σ H fun b H' => Q (.bl b) H' := by
  obtain ⟨B, Z, σD, s, h⟩ := h
  exact ⟨B, Z, σD, s, h.bind.imp fun b Z' σD' H' s' x q => q.now s' _ (show Rp K Z' (.bl b) _ by simp [Rp])⟩
theorem rdT_bind {α : Type} {m : M Bool} {f : Bool → M α} {Post : α → Hp → Fr → Hp → Prop} {Q : Bool → Hp → Prop} (s : Sta K B Z σD σ H) (h : Aft K W Post σ B Z H (M.bind m f σD))
    (k : ∀ b Z' σD' H', Sta K B Z' σD' σ H' → Ext B Z H Z' H' → Aft K W Post σ B Z' H' (f b σD') → Q b H') : rdT K W m σ H Q :=
  ⟨B, Z, σD, s, h.bind.imp fun b Z' σD' H' s' x q => k b Z' σD' H' s' x q⟩
end
section
variable {X : Cx} {K : PySem.W.Frag}
theorem op_ltD (hK : X.K = K) : OpR X (compareOp .Lt) (Op2 K (gB ltG)) := by
  subst hK
  intro pins s σ H x y v u Q I rx ry h
  obtain ⟨Z, dx, dy, r, sub, hx, hy, e, q⟩ := h
  match dx, dy, e with
  | .int i, .int j, e => cases e; exact op_lt pins s σ H x y v u Q I rx ry ⟨i, j, hx.int, hy.int, q.bl sub⟩
theorem op_leD (hK : X.K = K) : OpR X (compareOp .LtE) (Op2 K (gB leG)) := by
  subst hK
  intro pins s σ H x y v u Q I rx ry h
  obtain ⟨Z, dx, dy, r, sub, hx, hy, e, q⟩ := h
  match dx, dy, e with
  | .int i, .int j, e => cases e; exact op_le pins s σ H x y v u Q I rx ry ⟨i, j, hx.int, hy.int, q.bl sub⟩
theorem op_gtD (hK : X.K = K) : OpR X (compareOp .Gt) (Op2 K (gB gtG)) := by
  subst hK
  intro pins s σ H x y v u Q I rx ry h
  obtain ⟨Z, dx, dy, r, sub, hx, hy, e, q⟩ := h
  match dx, dy, e with
  | .int i, .int j, e => cases e; exact op_gt pins s σ H x y v u Q I rx ry ⟨i, j, hx.int, hy.int, q.bl sub⟩
theorem op_geD (hK : X.K = K) : OpR X (compareOp .GtE) (Op2 K (gB geG)) := by
  subst hK
  intro pins s σ H x y v u Q I rx ry h
  obtain ⟨Z, dx, dy, r, sub, hx, hy, e, q⟩ := h
  match dx, dy, e with
  | .int i, .int j, e => cases e; exact op_ge pins s σ H x y v u Q I rx ry ⟨i, j, hx.int, hy.int, q.bl sub⟩
theorem op_eqDD (hK : X.K = K) (hu : X.A.units + 64 < cLine) : OpR X (compareOp .Eq) (Op2 K (gB eqG)) := by
  subst hK
  intro pins s σ H x y v u Q I rx ry h
  obtain ⟨Z, dx, dy, r, sub, hx, hy, e, q⟩ := h
  unfold gB eqG at e
  split at e
  · rename_i hs
    cases e
    refine op_eqD hu pins s σ H x y v u Q I rx ry ⟨_, _, hx.dp sub hs.1, hy.dp sub hs.2, shaped_of hs.1, shaped_of hs.2, ?_⟩
    rw [eqv_py dx dy 64 hs.1]
    exact q.bl sub
  · cases e
theorem op_neDD (hK : X.K = K) (hu : X.A.units + 64 < cLine) : OpR X (compareOp .NotEq) (Op2 K (gB neG)) := by
  subst hK
  intro pins s σ H x y v u Q I rx ry h
  obtain ⟨Z, dx, dy, r, sub, hx, hy, e, q⟩ := h
  unfold gB neG at e
  split at e
  · rename_i hs
    cases e
    refine op_neD hu pins s σ H x y v u Q I rx ry ⟨_, _, hx.dp sub hs.1, hy.dp sub hs.2, shaped_of hs.1, shaped_of hs.2, ?_⟩
    rw [eqv_py dx dy 64 hs.1]
    exact q.bl sub
  · cases e
theorem RO.isNon {Z H : Hp} {d : D} {v : V} (h : RO K Z H d v) : decide (v = .non) = isNon d := by
  rcases h with h | ⟨a, rfl, c⟩
  · cases d with
    | non => simp only [Rp] at h; subst h; rfl
    | bl b => simp only [Rp] at h; subst h; rfl
    | int b => simp only [Rp] at h; subst h; rfl
    | str b => simp only [Rp] at h; subst h; rfl
    | tup b => simp only [Rp] at h; obtain ⟨a, _, rfl, _⟩ := h; rfl
    | lst b => simp only [Rp] at h; obtain ⟨a, _, rfl, _⟩ := h; rfl
    | dic b => simp only [Rp] at h; obtain ⟨a, rfl, _⟩ := h; rfl
  · cases d with
    | lst b => rfl
    | dic b => rfl
    | _ => exact c.elim
theorem op_isD (hK : X.K = K) : OpR X (compareOp .Is) (Op2 K (gB isG)) := by
  subst hK
  intro pins s σ H x y v u Q I rx ry h
  obtain ⟨Z, dx, dy, r, sub, hx, hy, e, q⟩ := h
  match dx, dy, e with
  | dx, .non, e =>
    have e : some (D.bl (isNon dx), false) = some r := by cases dx <;> exact e
    cases e
    refine op_isN pins s σ H x y v u Q I rx ry ⟨hy.non, ?_⟩
    rw [hx.isNon]
    exact q.bl sub
  | .bl a, .bl b, e => cases e; exact op_isBl pins s σ H x y v u Q I rx ry ⟨a, b, hx.bl, hy.bl, q.bl sub⟩
theorem op_isnotD (hK : X.K = K) : OpR X (compareOp .IsNot) (Op2 K (gB (notG isG))) := by
  subst hK
  intro pins s σ H x y v u Q I rx ry h
  obtain ⟨Z, dx, dy, r, sub, hx, hy, e, q⟩ := h
  match dx, dy, e with
  | dx, .non, e =>
    have e : some (D.bl (!isNon dx), false) = some r := by cases dx <;> exact e
    cases e
    refine op_notN pins s σ H x y v u Q I rx ry ⟨hy.non, ?_⟩
    rw [hx.isNon]
    exact q.bl sub
  | .bl a, .bl b, e => cases e; exact op_notBl pins s σ H x y v u Q I rx ry ⟨a, b, hx.bl, hy.bl, q.bl sub⟩
theorem any_py {d : D} (hd : shp 64 d = true) : ∀ {ds : List D} {n : Nat}, shpL n ds = true → ((toPyL ds).any fun z => PyData.eqv z (toPy d)) = ds.any fun z => eqv z d
  | [], _, _ => rfl
  | x :: xs, n, h => by
    simp only [shpL, Bool.and_eq_true] at h
    simp only [toPyL, List.any_cons, eqv_py x d n h.1, any_py hd h.2]
theorem op_inDD (hK : X.K = K) (hu : X.A.units + 65 < cLine) : OpR X (compareOp .In) (Op2 K (gB inG)) := by
  subst hK
  intro pins s σ H x y v u Q I rx ry h
  obtain ⟨Z, dx, dy, r, sub, hx, hy, e, q⟩ := h
  match dy, e with
  | .lst ds, e =>
    simp only [gB, inG] at e
    split at e
    · rename_i hs
      cases e
      have q' := q.bl sub
      rw [← any_py hs.1 (n := 63) (by simpa only [shp] using hs.2)] at q'
      obtain ⟨as, r1⟩ := Dp.reads I _ x v (hx.dp sub hs.1) rx
      obtain ⟨bs, r2⟩ := Dp.reads I (toPy (.lst ds)) y u (hy.dp sub hs.2) ry
      have se := shaped_of hs.2
      simp only [toPy] at r2 se
      exact SeqAt.in_list_reads r2 r1 (SeqAt.canLay_of_shaped se) (SeqAt.canLay_of_shaped (shaped_of hs.1)) (room_in_shaped (shaped_of hs.1) hu) ⟨.bl _, H, I, rfl, q'⟩
    · cases e
  | .tup ds, e =>
    simp only [gB, inG] at e
    split at e
    · rename_i hs
      cases e
      have q' := q.bl sub
      rw [← any_py hs.1 (n := 63) (by simpa only [shp] using hs.2)] at q'
      obtain ⟨as, r1⟩ := Dp.reads I _ x v (hx.dp sub hs.1) rx
      obtain ⟨bs, r2⟩ := Dp.reads I (toPy (.tup ds)) y u (hy.dp sub hs.2) ry
      have se := shaped_of hs.2
      simp only [toPy] at r2 se
      exact SeqAt.in_tuple_reads r2 r1 (SeqAt.canLay_of_shaped se) (SeqAt.canLay_of_shaped (shaped_of hs.1)) (room_in_shaped (shaped_of hs.1) hu) ⟨.bl _, H, I, rfl, q'⟩
    · cases e
theorem op_notinDD (hK : X.K = K) (hu : X.A.units + 65 < cLine) : OpR X (compareOp .NotIn) (Op2 K (gB (notG inG))) := by
  subst hK
  intro pins s σ H x y v u Q I rx ry h
  obtain ⟨Z, dx, dy, r, sub, hx, hy, e, q⟩ := h
  match dy, e with
  | .lst ds, e =>
    simp only [gB, notG, inG] at e
    split at e
    · rename_i hs
      cases e
      have q' := q.bl sub
      rw [← any_py hs.1 (n := 63) (by simpa only [shp] using hs.2)] at q'
      obtain ⟨as, r1⟩ := Dp.reads I _ x v (hx.dp sub hs.1) rx
      obtain ⟨bs, r2⟩ := Dp.reads I (toPy (.lst ds)) y u (hy.dp sub hs.2) ry
      have se := shaped_of hs.2
      simp only [toPy] at r2 se
      exact SeqAt.notIn_list_reads r2 r1 (SeqAt.canLay_of_shaped se) (SeqAt.canLay_of_shaped (shaped_of hs.1)) (room_in_shaped (shaped_of hs.1) hu) ⟨.bl _, H, I, rfl, q'⟩
    · cases e
  | .tup ds, e =>
    simp only [gB, notG, inG] at e
    split at e
    · rename_i hs
      cases e
      have q' := q.bl sub
      rw [← any_py hs.1 (n := 63) (by simpa only [shp] using hs.2)] at q'
      obtain ⟨as, r1⟩ := Dp.reads I _ x v (hx.dp sub hs.1) rx
      obtain ⟨bs, r2⟩ := Dp.reads I (toPy (.tup ds)) y u (hy.dp sub hs.2) ry
      have se := shaped_of hs.2
      simp only [toPy] at r2 se
      exact SeqAt.notIn_tuple_reads r2 r1 (SeqAt.canLay_of_shaped se) (SeqAt.canLay_of_shaped (shaped_of hs.1)) (room_in_shaped (shaped_of hs.1) hu) ⟨.bl _, H, I, rfl, q'⟩
    · cases e
theorem RO.tru {Z H : Hp} {d : D} {v : V} {k : Bool} (s : Sub Z H) (h : RO K Z H d v) (e : truG d = some k) : TruV K v H k := by
  cases d with
  | non => cases e; rw [h.non]; exact rfl
  | bl b => cases e; rw [h.bl]; exact rfl
  | int i => cases e; rw [h.int]; show _ = (i != 0); simp [bne, Bool.beq_eq_decide_eq]
  | str x =>
    simp only [truG] at e
    split at e
    · rename_i hl
      cases e
      rw [h.str]
      refine ⟨by rw [str_len]; exact lim_line hl, ?_⟩
      rw [str_len]
      cases x <;> simp
      omega
    · cases e
  | tup l =>
    cases e
    obtain ⟨a, xs, rfl, h1, _, r⟩ := h.tup s
    refine .inr (.inl ⟨xs, h1, ?_⟩)
    have := r.length
    cases l <;> cases xs <;> simp_all
  | lst l =>
    cases e
    obtain ⟨a, xs, rfl, h1, r⟩ := h.lst s
    refine .inl ⟨xs, h1, ?_⟩
    have := r.length
    cases l <;> cases xs <;> simp_all
  | dic l => cases e
end
section
variable {p : Pl} {a b c : Expr} {fa fb fc : SE} {m n : M Bool} {pos : Pos}
/-- a comparison, as a value and as a test -/
theorem de_cmp {op : CmpOp} {g : D → D → Option Bool} (ho : ∀ X : Cx, X.K = p.K → X.A.units + 65 < cLine → OpR X (compareOp op) (Op2 p.K (gB g))) (ha : DE p a fa) (hb : DE p b fb) (hm : behindInMarks op b = false) :
    DE p (.Compare a [op] [b] pos) (eB (cmp2 g fa fb)) := fun X W k tk =>
  PE_imp (pe_cmpR (ho X k.hK (by have := k.room.un; omega)) (ha X W k tk) (hb X W k tk) hm) fun _ _ _ h => by rw [eB_cmp2] at h; exact rd_e2 h
theorem dt_cmp {op : CmpOp} {g : D → D → Option Bool} (ho : ∀ X : Cx, X.K = p.K → X.A.units + 65 < cLine → OpR X (compareOp op) (Op2 p.K (gB g))) (ha : DE p a fa) (hb : DE p b fb) (hm : behindInMarks op b = false) :
    DT p (.Compare a [op] [b] pos) (cmp2 g fa fb) := fun X W k tk =>
  PT_imp (pt_cmpR (ho X k.hK (by have := k.room.un; omega)) (ha X W k tk) (hb X W k tk) hm) fun _ _ _ h => by
    have h := rdT_rd h
    rw [eB_cmp2] at h
    exact rd_e2 h
theorem ho_lt (X : Cx) (h : X.K = p.K) (hu : X.A.units + 65 < cLine) : OpR X (compareOp .Lt) (Op2 p.K (gB ltG)) := op_ltD h
theorem ho_le (X : Cx) (h : X.K = p.K) (hu : X.A.units + 65 < cLine) : OpR X (compareOp .LtE) (Op2 p.K (gB leG)) := op_leD h
theorem ho_gt (X : Cx) (h : X.K = p.K) (hu : X.A.units + 65 < cLine) : OpR X (compareOp .Gt) (Op2 p.K (gB gtG)) := op_gtD h
theorem ho_ge (X : Cx) (h : X.K = p.K) (hu : X.A.units + 65 < cLine) : OpR X (compareOp .GtE) (Op2 p.K (gB geG)) := op_geD h
theorem ho_eq (X : Cx) (h : X.K = p.K) (hu : X.A.units + 65 < cLine) : OpR X (compareOp .Eq) (Op2 p.K (gB eqG)) := op_eqDD h (by omega)
theorem ho_ne (X : Cx) (h : X.K = p.K) (hu : X.A.units + 65 < cLine) : OpR X (compareOp .NotEq) (Op2 p.K (gB neG)) := op_neDD h (by omega)
theorem ho_is (X : Cx) (h : X.K = p.K) (hu : X.A.units + 65 < cLine) : OpR X (compareOp .Is) (Op2 p.K (gB isG)) := op_isD h
theorem ho_isnot (X : Cx) (h : X.K = p.K) (hu : X.A.units + 65 < cLine) : OpR X (compareOp .IsNot) (Op2 p.K (gB (notG isG))) := op_isnotD h
theorem ho_in (X : Cx) (h : X.K = p.K) (hu : X.A.units + 65 < cLine) : OpR X (compareOp .In) (Op2 p.K (gB inG)) := op_inDD h hu
theorem ho_notin (X : Cx) (h : X.K = p.K) (hu : X.A.units + 65 < cLine) : OpR X (compareOp .NotIn) (Op2 p.K (gB (notG inG))) := op_notinDD h hu
/-- a expression of another form, as a test -/
theorem dt_tru (ha : DE p a fa) (he : ∀ (X : Cx) whole, isTrue a X.env whole = (do let v ← whole; standAt a.pos; holding [v] (truthy v)) := by intro _ _; rfl) : DT p a (tr fa truG) := fun X W k tk =>
  PT_imp (pt_truth (ha X W k tk) (he X)) fun σ H Q h => by
    obtain ⟨B, Z, σD, s, h⟩ := h
    refine rd_un s h fun r v Z1 σD1 H1 s1 x1 q1 h1 => ?_
    obtain ⟨d, ed, h2⟩ := get_of rfl h1.some
    rw [← h2] at h1
    cases e : truG d with
    | none => rw [e] at h1; exact h1.elim
    | some b =>
      rw [e] at h1
      exact ⟨b, by rw [k.hK]; exact (q1.ro s1 ed).tru s1.sub e, h1.now s1⟩
theorem de_if (hm : DT p c m) (ha : DE p a fa) (hb : DE p b fb) : DE p (.IfExp c a b pos) (eIf m fa fb) := fun X W k tk =>
  PE_imp (pe_ifExp (hm X W k tk) (ha X W k tk) (hb X W k tk)) fun σ H Q h => by
    obtain ⟨B, Z, σD, s, h⟩ := h
    refine rdT_bind s h fun b Z1 σD1 H1 s1 x1 h1 => ?_
    cases b with
    | true => exact rd_of s1 h1
    | false => exact rd_of s1 h1
theorem dt_not (hm : DT p c m) : DT p (.UnaryOp .Not c pos) (notB m) := fun X W k tk =>
  PT_imp (pt_not (hm X W k tk)) fun σ H Q h => by
    obtain ⟨B, Z, σD, s, h⟩ := h
    exact rdT_bind s h fun b Z1 σD1 H1 s1 x1 h1 => h1.now s1
theorem de_not (ha : DE p a fa) : DE p (.UnaryOp .Not a pos) (eB (notB (tr fa truG))) := fun X W k tk =>
  PE_imp (pe_notT (ha X W k tk)) fun σ H Q h => by
    obtain ⟨B, Z, σD, s, h⟩ := rd_rdT h
    have h := h.bind
    refine rd_un s h fun r v Z1 σD1 H1 s1 x1 q1 h1 => ?_
    obtain ⟨d, ed, h2⟩ := get_of rfl h1.some
    rw [← h2] at h1
    cases e : truG d with
    | none => rw [e] at h1; exact h1.elim
    | some b =>
      rw [e] at h1
      exact ⟨b, by rw [k.hK]; exact (q1.ro s1 ed).tru s1.sub e, (h1.now s1).now s1⟩
/-- and, or as tests -/
theorem dw_and1 (ha : DT p a m) : DW p (.BoolOp .And [a] pos) m := fun X W k tk => pw_and1 (ha X W k tk)
theorem dw_or1 (ha : DT p a m) : DW p (.BoolOp .Or [a] pos) m := fun X W k tk => pw_or1 (ha X W k tk)
theorem dw_and {rest : List Expr} (ha : DT p a m) (hb : DW p (.BoolOp .And (b :: rest) pos) n) : DW p (.BoolOp .And (a :: b :: rest) pos) (andB m n) := fun X W k tk =>
  PW_imp (pw_and (ha X W k tk) (hb X W k tk)) fun σ H Q h => by
    obtain ⟨B, Z, σD, s, h⟩ := h
    refine rdT_bind s h fun b Z1 σD1 H1 s1 x1 h1 => ?_
    cases b with
    | true => exact ⟨B, Z1, σD1, s1, h1⟩
    | false => exact h1.now s1
theorem dw_or {rest : List Expr} (ha : DT p a m) (hb : DW p (.BoolOp .Or (b :: rest) pos) n) : DW p (.BoolOp .Or (a :: b :: rest) pos) (orB m n) := fun X W k tk =>
  PW_imp (pw_or (ha X W k tk) (hb X W k tk)) fun σ H Q h => by
    obtain ⟨B, Z, σD, s, h⟩ := h
    refine rdT_bind s h fun b Z1 σD1 H1 s1 x1 h1 => ?_
    cases b with
    | true => exact h1.now s1
    | false => exact ⟨B, Z1, σD1, s1, h1⟩
theorem dt_w (h : DW p a m) : DT p a m := fun X W k tk => (h X W k tk).pt
/-- .. as values -/
theorem de_one {op} (ha : DE p a fa) : DE p (.BoolOp op [a] pos) fa := fun X W k tk => pe_one (ha X W k tk)
theorem de_and {rest : List Expr} (ha : DE p a fa) (hb : DE p (.BoolOp .And (b :: rest) pos) fb) : DE p (.BoolOp .And (a :: b :: rest) pos) (eAnd truG fa fb) := fun X W k tk =>
  PE_imp (pe_andT (ha X W k tk) (hb X W k tk)) fun σ H Q h => by
    obtain ⟨B, Z, σD, s, h⟩ := h
    refine rd_un s h fun r v Z1 σD1 H1 s1 x1 q1 h1 => ?_
    obtain ⟨d, ed, h2⟩ := get_of rfl h1.some
    rw [← h2] at h1
    obtain ⟨t, et, h3⟩ := lift_of rfl h1.some
    rw [← h3] at h1
    refine ⟨t, by rw [k.hK]; exact (q1.ro s1 ed).tru s1.sub et, ?_⟩
    cases t with
    | true => exact rd_of s1 h1
    | false => exact h1.now s1 v q1
theorem de_or {rest : List Expr} (ha : DE p a fa) (hb : DE p (.BoolOp .Or (b :: rest) pos) fb) : DE p (.BoolOp .Or (a :: b :: rest) pos) (eOr truG fa fb) := fun X W k tk =>
  PE_imp (pe_orT (ha X W k tk) (hb X W k tk)) fun σ H Q h => by
    obtain ⟨B, Z, σD, s, h⟩ := h
    refine rd_un s h fun r v Z1 σD1 H1 s1 x1 q1 h1 => ?_
    obtain ⟨d, ed, h2⟩ := get_of rfl h1.some
    rw [← h2] at h1
    obtain ⟨t, et, h3⟩ := lift_of rfl h1.some
    rw [← h3] at h1
    refine ⟨t, by rw [k.hK]; exact (q1.ro s1 ed).tru s1.sub et, ?_⟩
    cases t with
    | true => exact h1.now s1 v q1
    | false => exact rd_of s1 h1
/-- a op b op' c -/
theorem rd_chain {K : PySem.W.Frag} {W : WX} {σ : L2.St} {H : Hp} {Q : VK} {g g' : D → D → Option Bool} (h : rdT K W (chain g g' fa fb fc) σ H fun k H' => Q (.bl k) H') :
    tChain (Op2 K (gB g)) (Op2 K (gB g')) (rd K W fa) (rd K W fb) (rd K W fc) σ H Q := by
  obtain ⟨B, Z, σD, s, h⟩ := h
  refine rd_bin s h fun a b x y Z1 σD1 H1 s1 x1 hv h1 => ?_
  obtain ⟨dx, ex, h2⟩ := get_of rfl h1.some
  rw [← h2] at h1
  obtain ⟨dy, ey, h3⟩ := get_of rfl h1.some
  rw [← h3] at h1
  obtain ⟨t, er, h4⟩ := lift_of rfl h1.some
  rw [← h4] at h1
  obtain ⟨v1, t1, e1, q1, q2⟩ := hv
  cases e1
  obtain ⟨v2, t2, e2, q3, q4⟩ := q2
  cases e2
  have s1' := s1.tmp q1
  have s1'' := s1'.tmp q3
  refine ⟨Z1, dx, dy, (.bl t, false), s1.sub, q1.ro s1 ex, q3.ro s1' ey, by unfold gB; rw [er]; rfl, fun v Z2 H2 gr hr => ?_⟩
  have hr : Rp K Z2 (.bl t) v := hr
  simp only [Rp] at hr
  refine ⟨t, hr, ?_⟩
  have s2 := s1''.grow gr
  have x2 := Ext.grow s1'' gr
  have q3' := q3.later s1' s2 x2
  cases t with
  | false =>
    exact (h1.back (Ext.mono x2 ((Tmp.base _ _).trans (Tmp.base _ _))) fun _ _ _ _ _ _ q => q).now ((s2.less (Tmp.base _ _)).less (Tmp.base _ _))
  | true =>
    have h1 := h1.back (Ext.mono x2 ((Tmp.base _ _).trans (Tmp.base _ _))) fun _ _ _ _ _ _ q => q
    refine rd_of (B := Tmp (Tmp B a x) b y) s2 ?_
    refine (Aft.bind h1).up ((Tmp.base _ _).trans (Tmp.base _ _)) fun c Z3 σD3 H3 s3 x3 h5 z hz => ?_
    obtain ⟨dy', ey', h6⟩ := get_of rfl h5.some
    rw [← h6] at h5
    obtain ⟨dz, ez, h7⟩ := get_of rfl h5.some
    rw [← h7] at h5
    cases e : g' dy' dz with
    | none => rw [e] at h5; exact h5.elim
    | some t' =>
      rw [e] at h5
      have q3'' := q3'.later (s2.less (Tmp.base _ _)) s3 x3
      have s3' := s3.less (Tmp.base b y)
      refine ⟨Z3, dy', dz, (.bl t', false), s3.sub, q3''.ro s3' ey', hz.ro s3 ez, by unfold gB; rw [e]; rfl, fun w Z4 H4 g4 hw => ?_⟩
      have hw : Rp K Z4 (.bl t') w := hw
      simp only [Rp] at hw
      have s4 := s3.grow g4
      subst hw
      exact (h5.back (Ext.mono (Ext.grow s3 g4) ((Tmp.base _ _).trans (Tmp.base _ _))) fun _ _ _ _ _ _ q => q).now ((s4.less (Tmp.base _ _)).less (Tmp.base _ _))
theorem dt_chain {op op' : CmpOp} {g g' : D → D → Option Bool} (ho : ∀ X : Cx, X.K = p.K → X.A.units + 65 < cLine → OpR X (compareOp op) (Op2 p.K (gB g))) (ho' : ∀ X : Cx, X.K = p.K → X.A.units + 65 < cLine → OpR X (compareOp op') (Op2 p.K (gB g')))
    (ha : DE p a fa) (hb : DE p b fb) (hc : DE p c fc) (hm : lastMarks [op, op'] [b, c] = false := by with_unfolding_all rfl) : DT p (.Compare a [op, op'] [b, c] pos) (chain g g' fa fb fc) := fun X W k tk =>
  PT_imp (pt_chain (ho X k.hK (by have := k.room.un; omega)) (ho' X k.hK (by have := k.room.un; omega)) (ha X W k tk) (hb X W k tk) (hc X W k tk) hm) fun σ H Q h => by
    obtain ⟨B, Z, σD, s, h⟩ := h
    exact rd_chain ⟨B, Z, σD, s, h.imp fun k Z' σD' H' _ _ q => ⟨k, rfl, q⟩⟩
theorem de_chain {op op' : CmpOp} {g g' : D → D → Option Bool} (ho : ∀ X : Cx, X.K = p.K → X.A.units + 65 < cLine → OpR X (compareOp op) (Op2 p.K (gB g))) (ho' : ∀ X : Cx, X.K = p.K → X.A.units + 65 < cLine → OpR X (compareOp op') (Op2 p.K (gB g')))
    (ha : DE p a fa) (hb : DE p b fb) (hc : DE p c fc) (hm : lastMarks [op, op'] [b, c] = false := by with_unfolding_all rfl) : DE p (.Compare a [op, op'] [b, c] pos) (eB (chain g g' fa fb fc)) := fun X W k tk =>
  PE_imp (pe_chain (ho X k.hK (by have := k.room.un; omega)) (ho' X k.hK (by have := k.room.un; omega)) (ha X W k tk) (hb X W k tk) (hc X W k tk) hm) fun σ H Q h => rd_chain (rd_rdT h)
end
end Ev

set_option Elab.async false
set_option linter.all false
set_option maxRecDepth 100000
/-! Ev, part H: subscripts, slices. -/
namespace Ev
open PySem PySem.Spec PyProof.Rows L2

def ixG : D → D → Option (D × Bool)
  | .tup l, .int i => (atI l i).map fun d => (d, false)
  | .lst l, .int i => (atI l i).map fun d => (d, false)
  | .str s, .int i => if s.length ≤ LIM then (atI s i).map fun c => (.str [c], false) else none
  | _, _ => none
def cutL {α : Type} (l : List α) (lo hi : Option Int) : List α := (l.drop (HT.sIx l.length 0 lo)).take (HT.sIx l.length l.length hi - HT.sIx l.length 0 lo)
def sliceG (lo hi : Option Int) : D → Option (D × Bool)
  | .tup l => some (.tup (cutL l lo hi), false)
  | .lst l => some (.lst (cutL l lo hi), true)
  | .str l => if l.length ≤ LIM then some (.str (cutL l lo hi), false) else none
  | _ => none
def revG : D → Option (D × Bool)
  | .tup l => some (.tup l.reverse, false)
  | .lst l => some (.lst l.reverse, true)
  | .str l => if l.length ≤ LIM then some (.str l.reverse, false) else none
  | _ => none
def intOf : D → Option Int
  | .int i => some i
  | _ => none
def oNone : M (Option Int) := M.pure none
def oSome (f : SE) : M (Option Int) := M.bind f fun r => M.bind (get r) fun d => M.bind (M.lift (intOf d)) fun i => M.pure (some i)
def eSl (f : SE) (lo hi : M (Option Int)) : SE := M.bind f fun r => M.bind lo fun l => M.bind hi fun h => M.bind (get r) fun d => M.bind (M.lift (sliceG l h d)) fun q => M.pure (.v q.1 q.2)

section
variable {K : PySem.W.Frag} {Z H : Hp}
theorem RpL.atI {ds : List D} {xs : List V} {i : Int} {d : D} (h : RpL K Z ds xs) (e : L2.atI ds i = some d) : ∃ x, L2.atI xs i = some x ∧ Rp K Z d x := by
  unfold L2.atI at e ⊢
  rw [h.length]
  cases q : ixN ds.length i with
  | none => rw [q] at e; cases e
  | some j =>
    rw [q] at e
    exact h.get e
theorem RpL.cut {ds : List D} {xs : List V} (h : RpL K Z ds xs) (lo hi : Option Int) : RpL K Z (cutL ds lo hi) (cutV xs lo hi) := by
  unfold cutL cutV
  rw [h.length]
  exact (h.drop _).take _
end
section
variable {X : Cx} {K : PySem.W.Frag}
theorem ix_D (hK : X.K = K) : IxR X (Op2 K ixG) := by
  subst hK
  intro va sl pins s σ H x y v u Q I rx ry h hs
  obtain ⟨Z, dx, dy, r, sub, hx, hy, e, q⟩ := h
  match dx, dy, e with
  | .tup l, .int i, e =>
    simp only [ixG] at e
    cases ea : atI l i with
    | none => rw [ea] at e; cases e
    | some d =>
      rw [ea] at e; cases e
      obtain ⟨a, xs, rfl, h1, _, r⟩ := hx.tup sub
      obtain ⟨z, e1, e2⟩ := r.atI ea
      exact ix_tup va sl pins s σ H _ _ v u Q I rx ry ⟨a, xs, i, z, rfl, hy.int, h1, e1, q.old sub e2⟩ hs
  | .lst l, .int i, e =>
    simp only [ixG] at e
    cases ea : atI l i with
    | none => rw [ea] at e; cases e
    | some d =>
      rw [ea] at e; cases e
      obtain ⟨a, xs, rfl, h1, r⟩ := hx.lst sub
      obtain ⟨z, e1, e2⟩ := r.atI ea
      exact ix_list va sl pins s σ H _ _ v u Q I rx ry ⟨a, xs, i, z, rfl, hy.int, h1, e1, q.old sub e2⟩ hs
  | .str l, .int i, e =>
    simp only [ixG] at e
    split at e
    · rename_i hl
      cases ea : atI l i with
      | none => rw [ea] at e; cases e
      | some c =>
        rw [ea] at e; cases e
        exact ix_str va sl pins s σ H _ _ v u Q I rx ry ⟨⟨l.toArray⟩, i, c, hx.str, hy.int, by rw [str_len]; exact lim_line hl, by simpa using ea, q.str sub⟩ hs
    · cases e
/-- a slice, by values -/
def SlD (K : PySem.W.Frag) : V → Option Int → Option Int → Hp → VK → Prop := fun x lo hi H Q => ∃ Z d r, Sub Z H ∧ RO K Z H d x ∧ sliceG lo hi d = some r ∧ Pur K Z H r Q
theorem cutS_eq (l : List Nat) (lo hi : Option Int) : cutS ⟨l.toArray⟩ lo hi = ⟨(cutL l lo hi).toArray⟩ := by
  unfold cutS cutL
  simp [Str.length]
theorem sl_D (hK : X.K = K) : SlR X (SlD K) := by
  subst hK
  intro pins s σ H x v vl vu lo hi sl Q I rx hs pl pu h
  obtain ⟨Z, d, r, sub, hx, e, q⟩ := h
  cases d with
  | tup l =>
    cases e
    obtain ⟨a, xs, rfl, h1, h1z, r⟩ := hx.tup sub
    refine sl_tupA pins s σ H _ v vl vu lo hi sl Q I rx hs pl pu ⟨a, xs, rfl, h1, fun hw => ?_, fun _ p hp => q.tup sub (r.cut lo hi) hp⟩
    refine q.old sub ?_
    have e : cutL l lo hi = l := by
      unfold cutL
      rw [r.length] at hw
      rw [hw.1, hw.2]; simp
    rw [e]
    show Rp X.K Z (.tup l) _
    simp only [Rp]
    exact ⟨a, xs, rfl, h1z, r⟩
  | lst l =>
    cases e
    obtain ⟨a, xs, rfl, h1, r⟩ := hx.lst sub
    exact sl_list pins s σ H _ v vl vu lo hi sl Q I rx hs pl pu ⟨a, xs, rfl, h1, fun p hp => q.lst sub (r.cut lo hi) hp⟩
  | str l =>
    simp only [sliceG] at e
    split at e
    · rename_i hl
      cases e
      refine sl_str pins s σ H _ v vl vu lo hi sl Q I rx hs pl pu ⟨_, hx.str, by rw [str_len]; exact lim_line hl, ?_⟩
      rw [cutS_eq]
      exact q.str sub
    · cases e
  | _ => cases e
/-! ### x[::-1] -/
theorem sliceApplied_rev {prog : Program} {w : World} {A : Around} {E : Value → Shared → Prop} {s : Shared} {sl : Addr} {vl vu vs : Value} {n : Nat} {Q : Int × Int × Nat → Shared → Prop} (hs : s.heap.IsSliceOf sl vl vu vs) (pl : IsPart vl none) (pu : IsPart vu none) (ps : IsPart vs (some (-1)))
    (h : Q (((n : Int) - 1), -1, n) s) : wpAny (model prog w) A (Builtin.Slice.sliceApplied (.ref sl) (pure (n : Int))) Q E s := by
  obtain ⟨os, hos, hcs, hds⟩ := id hs
  unfold Builtin.Slice.sliceApplied Builtin.Slice.sliceFields
  refine wpAny_bind (wpAny_bind (wpAny_field hos hds (x := vl) rfl (wpAny_bind (wpAny_field hos hds (x := vu) rfl (wpAny_bind (wpAny_field hos hds (x := vs) rfl (wpAny_pure ?_)))))))
  refine wpAny_bind (HT.slicePart_ ps ?_)
  show wpAny _ _ (if ((-1 : Int) == 0) = true then _ else _) _ _ s
  rw [if_neg (by decide)]
  refine wpAny_bind (HT.slicePart_ pl (wpAny_bind (HT.slicePart_ pu (wpAny_bind (wpAny_pure ?_)))))
  show wpAny _ _ (match Builtin.Slice.sliceAdjust none none (-1) (n : Int) with | (lo, hi) => pure (lo, (-1 : Int), Builtin.Slice.slicePlaces lo hi (-1))) _ _ s
  have e : Builtin.Slice.sliceAdjust none none (-1) (n : Int) = ((n : Int) - 1, -1) := rfl
  rw [e]
  have e2 : Builtin.Slice.slicePlaces ((n : Int) - 1) (-1) (-1) = n := by
    unfold Builtin.Slice.slicePlaces
    rw [if_neg (by decide)]
    split
    · rw [show (- -1 : Int) = 1 by decide, Int.ediv_one]; omega
    · omega
  show wpAny _ _ (pure (((n : Int) - 1), (-1 : Int), Builtin.Slice.slicePlaces ((n : Int) - 1) (-1) (-1))) _ _ s
  rw [e2]
  exact wpAny_pure h
theorem fm_congr {α β : Type} {f g : α → Option β} : ∀ {l : List α}, (∀ a ∈ l, f a = g a) → l.filterMap f = l.filterMap g
  | [], _ => rfl
  | a :: l, h => by
    rw [List.filterMap_cons, List.filterMap_cons, h a List.mem_cons_self, fm_congr fun b hb => h b (List.mem_cons_of_mem _ hb)]
theorem pick_rev (xs : Array Value) : ((List.range xs.size).filterMap fun (m : Nat) => xs[((xs.size : Int) - 1 + (m : Int) * -1).toNat]?).toArray = xs.toList.reverse.toArray := by
  have e : (List.range xs.size).filterMap (fun (m : Nat) => xs[((xs.size : Int) - 1 + (m : Int) * -1).toNat]?) = (List.range xs.size).filterMap ((xs[·]?) ∘ fun m => xs.size - 1 - m) := by
    apply fm_congr
    intro m hm
    have := List.mem_range.mp hm
    have e : ((xs.size : Int) - 1 + (m : Int) * -1).toNat = xs.size - 1 - m := by omega
    simp only [Function.comp, e]
  rw [e, ← List.filterMap_map, PySem.W.krv_range, List.filterMap_reverse, PySem.W.krv_all]
theorem getItem_tuple_rev {prog : Program} {w : World} {A : Around} {E : Value → Shared → Prop} {s : Shared} {t sl : Addr} {items : Array Value} {vl vu vs : Value} {Q : Value → Shared → Prop} (ht : IsTup s.heap t items) (hs : s.heap.IsSliceOf sl vl vu vs) (pl : IsPart vl none) (pu : IsPart vu none) (ps : IsPart vs (some (-1)))
    (h : Q (.ref s.heap.objs.size) { s with heap := s.heap.push { cls := .type "tuple", data := .seq items.toList.reverse.toArray } })
    (hsz : items.size ≤ sizeLine) : wpAny (model prog w) A (getItem (.ref t) (.ref sl)) Q E s := by
  have htake : sizeOk (.seq items.toList.reverse.toArray) := by
    show items.toList.reverse.toArray.size ≤ sizeLine
    simpa using hsz
  obtain ⟨os, hos, hcs, hds⟩ := id hs
  have hTs : s.TypeIs (.ref sl) "slice" := ⟨os, hos, hcs⟩
  unfold getItem
  try with_reducible refine wpAny_holding ?_
  first | refine wpAny_bind (wpAny_pure ?_) | skip
  refine wpAny_bind (wpAny_sequenceKey ht.typeIs (by decide) ?_)
  refine wpAny_bind (wpAny_callSpecial?_slot (name := Str.ofString "__getitem__") ht.typeIs PyProof.Rows.slot_tuple_getitem
    (wpAny_call_entry PyProof.Rows.slot_tuple_getitem ht.typeIs entry_tuple_getitem ?_ (args_tuple_getitem _ _)))
  show wpAny _ _ (Builtin.Tuple.tupleItemsOf (.ref t) >>= _) _ _ s
  refine wpAny_bind (tupleItemsOf_ ht ?_)
  refine wpAny_bind (wpAny_typeOf hTs ?_)
  rw [if_pos (by decide)]
  refine wpAny_bind (sliceApplied_rev hs pl pu ps ?_)
  have hno : ¬ ((((items.size : Int) - 1) == 0 && (-1 : Int) == 1 && items.size == items.size) = true) := by
    intro q
    rw [Bool.and_eq_true, Bool.and_eq_true] at q
    exact absurd q.1.2 (by decide)
  show wpAny _ _ (if (((items.size : Int) - 1) == 0 && (-1 : Int) == 1 && items.size == items.size) = true then _ else _) _ _ s
  rw [if_neg hno, pick_rev]
  first
    | exact wpAny_bind (m := Builtin.Tuple.tupleExact _) (wpAny_newObj_type (wpAny_pure ⟨_, rfl, wpAny_pure h⟩) htake)
    | exact wpAny_bind (m := Builtin.Tuple.tupleExact _) (wpAny_newObj_type (wpAny_bind (wpAny_pure (wpAny_pure ⟨_, rfl, wpAny_pure h⟩))) htake)
    | exact wpAny_bind (wpAny_bind (m := Builtin.Tuple.tupleExact _) (wpAny_newObj_type (wpAny_pure (wpAny_pure ⟨_, rfl, wpAny_pure h⟩)) htake))
    | exact wpAny_bind (wpAny_bind (m := Builtin.Tuple.tupleExact _) (wpAny_newObj_type (wpAny_pure ⟨_, rfl, wpAny_pure h⟩) htake))
/-- .. of a list, a tuple, a text -/
theorem pe_revD {e : Expr} {te : TE} {k : Nat} {p1 p2 p3 pos : Pos} (hK : X.K = K) (he : PE X e te) : PE X (.Subscript e (.Slice none none (some (.UnaryOp .USub (.Constant (.int 1) k p1) p2)) p3) pos) (tUn (Op1 K revG) te) := by
  subst hK
  refine ⟨fun pins s σ H Q I h => ?_⟩
  refine Subscript_ (thn (he.run pins s σ H _ I h) fun v s1 ⟨x, H1, I1, r1, q1⟩ => ?_)
  obtain ⟨Z, d, r, sub, hx, eg, q⟩ := q1
  have hst : PO X (some (.UnaryOp .USub (.Constant (.int 1) k p1) p2)) (tPart (tUn (rU fun i => .int (-i)) (tC (.int 1)))) := po_some (pe_un un_neg pe_int)
  refine wpAny_Slice (thn (po_none.run pins s1 σ H1 (fun o H2 => o = none ∧ H2 = H1) I1 ⟨rfl, rfl⟩) fun vl s2 ⟨l, H2, I2, pl, el, e2⟩ => ?_)
  subst el e2
  refine thn (po_none.run pins s2 σ H2 (fun o H3 => o = none ∧ H3 = H2) I2 ⟨rfl, rfl⟩) fun vu s3 ⟨u, H3, I3, pu, eu, e3⟩ => ?_
  subst eu e3
  refine thn (hst.run pins s3 σ H3 (fun o H4 => o = some (-1) ∧ H4 = H3) I3 ⟨1, rfl, -1, rfl, rfl, rfl⟩) fun vs s4 ⟨o, H4, I4, ps, eo, e4⟩ => ?_
  subst eo e4
  have I5 : Inv X pins σ H4 { s4 with heap := s4.heap.push { cls := .type "slice", data := .fields #[vl, vu, vs] } } := I4.kept (t' := s4.toks) fun b ob q => Heap.get?_push_of_some _ q
  show wpAny (model X.prog X.w) X.A (subscriptTail e (.Slice none none (some (.UnaryOp .USub (.Constant (.int 1) k p1) p2)) p3) v (.ref s4.heap.objs.size)) (EP X pins σ Q) X.xe { s4 with heap := s4.heap.push { cls := .type "slice", data := .fields #[vl, vu, vs] } }
  cases d with
  | lst l =>
    cases eg
    obtain ⟨a, xs, rfl, h1, r⟩ := hx.lst sub
    cases r1
    obtain ⟨its, r', ht, hz⟩ := I5.list h1
    have hlen := r'.length
    refine tail_any (ops := [.ref a, .ref s4.heap.objs.size]) ht.isList.typeIs (PySem.slot_list_getitem.lookup) ?_ (by with_unfolding_all rfl)
    refine wpAny_getItem_list_slice ht.isList (Heap.IsSliceOf.new _ vl vu vs) pl pu ps (by decide) ?_ (by rw [List.size_toArray]; omega)
    rw [PySem.W.krv_pick]
    refine ⟨.ref _, _, I5.laid (t' := s4.toks) (o := .lst xs.reverse) (fun b ob q => Heap.get?_push_of_some _ q) (Nat.le_refl _) ?_, rfl, q.lst sub r.reverse (I5.hok.fresh (Nat.le_refl _))⟩
    exact ⟨by rw [List.length_reverse]; exact hz, _, 0, r'.reverse, Heap.get?_push_size _ rfl⟩
  | tup l =>
    cases eg
    obtain ⟨a, xs, rfl, h1, _, r⟩ := hx.tup sub
    cases r1
    obtain ⟨its, r', ht, hz⟩ := I5.tuple h1
    have hlen := r'.length
    refine tail_any (ops := [.ref a, .ref s4.heap.objs.size]) (show Shared.TypeIs _ (.ref a) "tuple" from ht.typeIs) (PyProof.Rows.slot_tuple_getitem.lookup) ?_ (by with_unfolding_all rfl)
    refine getItem_tuple_rev ht (Heap.IsSliceOf.new _ vl vu vs) pl pu ps ?_ (by rw [List.size_toArray]; omega)
    refine ⟨.ref _, _, I5.laid (t' := s4.toks) (o := .tup xs.reverse) (fun b ob q => Heap.get?_push_of_some _ q) (Nat.le_refl _) ?_, rfl, q.tup sub r.reverse (I5.hok.fresh (Nat.le_refl _))⟩
    exact ⟨by rw [List.length_reverse]; exact hz, _, r'.reverse, ⟨_, Heap.get?_push_size _ rfl, rfl, _, rfl⟩⟩
  | str l =>
    simp only [revG] at eg
    split at eg
    · rename_i hl
      cases eg
      have ex := hx.str
      subst ex
      obtain ⟨t, rfl⟩ := r1
      obtain ⟨a1, e1, e1'⟩ := IsPart.raw pl
      obtain ⟨a2, e2, e2'⟩ := IsPart.raw pu
      obtain ⟨a3, e3, e3'⟩ := IsPart.raw ps
      subst e1 e2 e3
      refine tail_any (ops := [.str ⟨l.toArray⟩ t, .ref s4.heap.objs.size]) (typeIs_str _ _ _) (PySem.F.slot_str_getitem.lookup) ?_ (by with_unfolding_all rfl)
      refine wpAny_getItem_str_slice (l := a1) (u := a2) (st := a3) (Heap.IsSliceOf.new _ _ _ _) (by rw [e3']; rfl) ?_
      unfold sliceMade
      have c : ¬ (((a3.map (·.1)).getD 1 == 1 && (slicePicked ⟨l.toArray⟩ a1 a2 a3).length == (⟨l.toArray⟩ : Str).length) = true) := by
        rw [e3']
        intro q
        rw [Bool.and_eq_true] at q
        exact absurd q.1 (by decide)
      rw [if_neg c]
      have ep : ((slicePicked ⟨l.toArray⟩ a1 a2 a3).filterMap ((⟨l.toArray⟩ : Str).cps[·]?)).toArray = l.reverse.toArray := by
        unfold slicePicked
        rw [e1', e2', e3']
        have z2 : Builtin.Str.strSliceIndices none none (-1) (⟨l.toArray⟩ : Str).length = sliceRange ((l.length : Int) - 1) (-1) (-1) := by
          unfold Builtin.Str.strSliceIndices
          rw [str_len]; rfl
        rw [show (some (-1) : Option Int).getD 1 = -1 from rfl, z2, PySem.W.krv_sliceRange, PySem.W.krv_range, List.filterMap_reverse]
        have z3 := PySem.W.krv_all l.toArray
        rw [show l.toArray.size = l.length by simp] at z3
        rw [z3]
      rw [ep]
      exact ⟨by rw [str_len, List.length_reverse]; exact lim_line hl, .str _, _, I5.tok _, ⟨_, rfl⟩, q.str sub⟩
    · cases eg
  | _ => cases eg
end
section
variable {p : Pl} {a b : Expr} {fa fb : SE} {pos : Pos}
theorem de_ix (ha : DE p a fa) (hb : DE p b fb) (hs : PlainIx b := by exact fun _ _ => rfl) : DE p (.Subscript a b pos) (e2 ixG fa fb) := fun X W c tk =>
  PE_imp (pe_ix (ix_D c.hK) (ha X W c tk) (hb X W c tk) hs) fun _ _ _ h => rd_e2 h
theorem de_rev {k : Nat} {p1 p2 p3 : Pos} (ha : DE p a fa) : DE p (.Subscript a (.Slice none none (some (.UnaryOp .USub (.Constant (.int 1) k p1) p2)) p3) pos) (e1 revG fa) := fun X W c tk =>
  PE_imp (pe_revD c.hK (ha X W c tk)) fun _ _ _ h => rd_e1 h
def rdO (K : PySem.W.Frag) (W : WX) (f : M (Option Int)) : TO := fun σ H Q => ∃ B Z σD, Sta K B Z σD σ H ∧ Aft K W (fun o Z' σD' H' => Q o H') σ B Z H (f σD)
def DO (p : Pl) (e : Option Expr) (f : M (Option Int)) : Prop := ∀ X W, p.at X → Takes X W → PO X e (rdO p.K W f)
theorem do_none : DO p none oNone := fun X W c tk => ⟨fun pins s σ H Q I h => by
  obtain ⟨B, Z, σD, st, h⟩ := h
  exact po_none.run pins s σ H Q I (h.now st)⟩
theorem do_some (ha : DE p a fa) : DO p (some a) (oSome fa) := fun X W c tk => ⟨fun pins s σ H Q I h => by
  refine (po_some (ha X W c tk)).run pins s σ H Q I ?_
  obtain ⟨B, Z, σD, st, h⟩ := h
  refine rd_un st h fun r v Z1 σD1 H1 s1 x1 q1 h1 => ?_
  obtain ⟨d, ed, h2⟩ := get_of rfl h1.some
  rw [← h2] at h1
  obtain ⟨i, ei, h3⟩ := lift_of rfl h1.some
  rw [← h3] at h1
  cases d with
  | int j =>
    cases ei
    exact ⟨i, (q1.ro s1 ed).int, h1.now s1⟩
  | _ => cases ei⟩
theorem rdO_bind {K : PySem.W.Frag} {W : WX} {B : Bd} {Z H : Hp} {σD : Fr} {σ : L2.St} {α : Type} {m : M (Option Int)} {f : Option Int → M α} {Post : α → Hp → Fr → Hp → Prop} {Q : Option Int → Hp → Prop} (s : Sta K B Z σD σ H) (h : Aft K W Post σ B Z H (M.bind m f σD))
    (k : ∀ b Z' σD' H', Sta K B Z' σD' σ H' → Ext B Z H Z' H' → Aft K W Post σ B Z' H' (f b σD') → Q b H') : rdO K W m σ H Q :=
  ⟨B, Z, σD, s, h.bind.imp fun b Z' σD' H' s' x q => k b Z' σD' H' s' x q⟩
theorem de_sl {lo hi : Option Expr} {fl fh : M (Option Int)} {p2 : Pos} (ha : DE p a fa) (hl : DO p lo fl) (hh : DO p hi fh) : DE p (.Subscript a (.Slice lo hi none p2) pos) (eSl fa fl fh) := fun X W c tk =>
  PE_imp (pe_slice (sl_D c.hK) (ha X W c tk) (hl X W c tk) (hh X W c tk)) fun σ H Q h => by
    obtain ⟨B, Z, σD, s, h⟩ := h
    refine rd_un s h fun r v Z1 σD1 H1 s1 x1 q1 h1 => ?_
    have s1' := s1.tmp q1
    refine ⟨Tmp B r v, Z1, σD1, s1', (Aft.bind h1).up (Tmp.base r v) fun l Z2 σD2 H2 s2 x2 h2 => ?_⟩
    refine ⟨Tmp B r v, Z2, σD2, s2, (Aft.bind h2).up (Tmp.base r v) fun u Z3 σD3 H3 s3 x3 h3 => ?_⟩
    have q3 := q1.later s1 s3 (x2.trans x3)
    have s3' := s3.less (Tmp.base r v)
    obtain ⟨d, ed, h4⟩ := get_of rfl h3.some
    rw [← h4] at h3
    obtain ⟨q, eq, h5⟩ := lift_of rfl h3.some
    rw [← h5] at h3
    exact ⟨Z3, d, q, s3.sub, q3.ro s3' ed, eq, Pur.of s3' h3⟩
end
end Ev

set_option Elab.async false
set_option linter.all false
set_option maxRecDepth 100000
/-! Ev, part I: calls of built-ins that change nothing. -/
namespace Ev
open PySem PySem.Spec PyProof.Rows L2

def eN (g : List D → Option (D × Bool)) (fs : List SE) : SE := M.bind (eAll fs) fun rs => M.bind (getAll rs) fun ds => M.bind (M.lift (g ds)) fun r => M.pure (.v r.1 r.2)
def ROs (K : PySem.W.Frag) (Z H : Hp) : List D → List V → Prop
  | [], xs => xs = []
  | d :: ds, xs => ∃ x r, xs = x :: r ∧ RO K Z H d x ∧ ROs K Z H ds r
def OpN (K : PySem.W.Frag) (g : List D → Option (D × Bool)) : List V → Hp → VK → Prop := fun xs H Q => ∃ Z ds r, Sub Z H ∧ ROs K Z H ds xs ∧ g ds = some r ∧ Pur K Z H r Q
section
variable {K : PySem.W.Frag} {W : WX} {B : Bd} {Z H : Hp} {σD : Fr} {σ : L2.St}
theorem getAll_ok : ∀ {rs : List R} {B : Bd} {vs : List V} {o : Option (Re (List D) × Fr)}, Sta K B Z σD σ H → RRs K Z σD σ H B rs vs → getAll rs σD = o → o ≠ none → ∃ ds, o = some (.ok ds, σD) ∧ ROs K Z H ds vs
  | [], B, vs, o, s, h, e, n => by
    have h : vs = [] := h
    subst h
    exact ⟨[], e.symm, rfl⟩
  | r :: rs, B, vs, o, s, h, e, n => by
    obtain ⟨v, t, rfl, h1, h2⟩ := h
    unfold getAll at e
    obtain ⟨d, ed, e2⟩ := get_of e n
    have hn : getAll rs σD ≠ none := fun z => n (by rw [← e2, M.bind_none z])
    obtain ⟨ds, e3, q⟩ := getAll_ok (s.tmp h1) h2 rfl hn
    rw [M.bind_ok e3] at e2
    exact ⟨d :: ds, e2.symm, v, t, rfl, h1.ro s ed, q⟩
theorem rd_eN {g : List D → Option (D × Bool)} {fs : List SE} {Q : VK} (h : rd K W (eN g fs) σ H Q) : tCB (OpN K g) (rdA K W fs) σ H Q := by
  obtain ⟨B, Z, σD, s, h⟩ := h
  refine ⟨B, Z, σD, s, (h.bind).imp fun rs Z1 σD1 H1 s1 x1 h1 vs hv => ?_⟩
  have hn : getAll rs σD1 ≠ none := fun z => by rw [M.bind_none z] at h1; exact h1
  obtain ⟨ds, e, q⟩ := getAll_ok s1 hv rfl hn
  rw [M.bind_ok e] at h1
  obtain ⟨r, er, h4⟩ := lift_of rfl h1.some
  rw [← h4] at h1
  exact ⟨Z1, ds, r, s1.sub, q, er, Pur.of s1 h1⟩
theorem ROs.one {ds : List D} {x : V} (h : ROs K Z H ds [x]) : ∃ d, ds = [d] ∧ RO K Z H d x := by
  match ds, h with
  | [d], h => obtain ⟨y, r, e, h1, h2⟩ := h; cases e; exact ⟨d, rfl, h1⟩
  | d :: e :: ds, h => obtain ⟨y, r, e1, h1, y2, r2, e2, _⟩ := h; cases e1; cases e2
theorem ROs.inv {d : D} {ds : List D} {xs : List V} (h : ROs K Z H (d :: ds) xs) : ∃ x r, xs = x :: r ∧ RO K Z H d x ∧ ROs K Z H ds r := h
end
/-- the built-ins that the top does not name anew -/
structure BI (mg : Str → Option Value) : Prop where
  len : mg "len" = none
  range : mg "range" = none
  isinstance : mg "isinstance" = none
  tuple : mg "tuple" = none
  list : mg "list" = none
  int : mg "int" = none
  str : mg "str" = none
  bool : mg "bool" = none
  dict : mg "dict" = none
  set : mg "set" = none
  sum : mg "sum" = none
  min : mg "min" = none
  max : mg "max" = none
  abs : mg "abs" = none
  sorted : mg "sorted" = none
  repr : mg "repr" = none
  zip : mg "zip" = none
  enumerate : mg "enumerate" = none
  valueError : mg "ValueError" = none

/-! ### what they do -/
def un1 (g : D → Option (D × Bool)) : List D → Option (D × Bool)
  | [d] => g d
  | _ => none
def lenG : D → Option (D × Bool)
  | .tup l => some (.int l.length, false)
  | .lst l => some (.int l.length, false)
  | .str l => if l.length ≤ LIM then some (.int l.length, false) else none
  | _ => none
def absG : D → Option (D × Bool)
  | .int i => some (.int (if i < 0 then -i else i), false)
  | _ => none
def intG : D → Option (D × Bool)
  | .int i => some (.int i, false)
  | .bl b => some (.int (if b then 1 else 0), false)
  | _ => none
def intL (i : Int) : List Nat := (Str.ofString (toString i)).cps.toList
def strG : D → Option (D × Bool)
  | .int i => if i.natAbs < 1000000000000 then some (.str (intL i), false) else none
  | .non => some (.str [78, 111, 110, 101], false)
  | .str s => some (.str s, false)
  | _ => none
def tupG : D → Option (D × Bool)
  | .tup l => some (.tup l, false)
  | .lst l => some (.tup l, false)
  | .str l => if l.length ≤ LIM then some (.tup (l.map fun c => .str [c]), false) else none
  | _ => none
def lstG : D → Option (D × Bool)
  | .tup l => some (.lst l, true)
  | .lst l => some (.lst l, true)
  | _ => none
def isInts : List D → Option (List Int)
  | [] => some []
  | .int i :: r => (isInts r).map fun l => i :: l
  | _ :: _ => none
def sumG : D → Option (D × Bool)
  | .lst l => (isInts l).map fun ns => (.int ns.sum, false)
  | _ => none
def maxL : List Int → Option Int
  | [] => none
  | i :: r => some (r.foldl (fun a b => if a < b then b else a) i)
def minL : List Int → Option Int
  | [] => none
  | i :: r => some (r.foldl (fun a b => if b < a then b else a) i)
def maxG : D → Option (D × Bool)
  | .lst l => ((isInts l).bind maxL).map fun i => (.int i, false)
  | .tup l => ((isInts l).bind maxL).map fun i => (.int i, false)
  | _ => none
def minG : D → Option (D × Bool)
  | .lst l => ((isInts l).bind minL).map fun i => (.int i, false)
  | .tup l => ((isInts l).bind minL).map fun i => (.int i, false)
  | _ => none
/-- max of four -/
def max4G (ds : List D) : Option (D × Bool) := if ds.length = 4 then ((isInts ds).bind maxL).map fun i => (.int i, false) else none
def max2G : List D → Option (D × Bool)
  | [.int i, .int j] => some (.int (if j > i then j else i), false)
  | _ => none
def min2G : List D → Option (D × Bool)
  | [.int i, .int j] => some (.int (if j < i then j else i), false)
  | _ => none
def shownL (d : D) : List Nat := (toPy d).shown.cps.toList
mutual
def shw : D → Bool
  | .non => true
  | .bl _ => true
  | .int i => decide (i.natAbs < 1000000000000)
  | .str _ => true
  | .tup l => shwL l
  | .lst l => shwL l
  | .dic _ => false
def shwL : List D → Bool
  | [] => true
  | d :: ds => shw d && shwL ds
end
def reprG : D → Option (D × Bool)
  | .tup l => if shp 64 (.tup l) = true ∧ shw (.tup l) = true ∧ (shownL (.tup l)).length ≤ LIM then some (.str (shownL (.tup l)), false) else none
  | _ => none


section
variable {prog : Program} {w : World} {A : Around} {E : Value → Shared → Prop} {s : Shared} {l : Addr} {its : List Value} {ns : List Int} {Q : Value → Shared → Prop}
theorem max_rawT (hh : A.handled = none) (hl : s.heap.IsTuple l its.toArray) (hi : IntsAre its ns) (hne : 0 < ns.length)
    (h : ∀ h' tk M t', (∀ b o, s.heap.get? b = some o → h'.get? b = some o) → M ∈ ns → (∀ a, a ∈ ns → a ≤ M) → Q (.int M t') { s with heap := h', toks := tk }) : wpAny (model prog w) A (call (.builtin "max") [.ref l]) Q E s := by
  obtain ⟨xs, e⟩ := hi.allInts.items
  have hn : numsOf (intItems xs).toList = ns := by rw [← e]; exact hi.numsOf
  rw [nums_intItems] at hn
  subst hn
  rw [e] at hl
  have hsz : 0 < xs.size := by simpa using hne
  obtain ⟨o, hg, _⟩ := id hl
  have hlt := Heap.lt_size hg
  refine call_max_walk (wpAny_pyIter_tuple hl ?_)
  refine ⟨_, [_, l], [_], _, _, _, _, rfl, Walks.tuple (A := A.in1) hh _ l (Nat.ne_of_lt hlt) (intItems xs), ⟨⟨_, Heap.get?_push_size _ rfl, rfl, rfl⟩, hl.push _⟩, fun d hd => ?_, by simpa [intItems] using hsz, CmpOf.ints_gt (numAt xs) (fun _ _ => intItems_at), fun v h' tk hP hk => ?_⟩
  · show d < (s.heap.push _).objs.size
    rw [Heap.size_push]
    rcases List.mem_cons.mp hd with rfl | hd
    · exact Nat.lt_succ_self _
    · rcases List.mem_cons.mp hd with rfl | hd
      · exact Nat.lt_succ_of_lt hlt
      · cases hd
  · have hv : (intItems xs)[argBest (fun i j => decide (numAt xs i > numAt xs j)) (xs.size - 1)]? = some v := by simpa [intItems] using hP
    obtain ⟨t, rfl⟩ := intItems_at hv
    obtain ⟨h1, h2⟩ := argBest_gt (numAt xs) (xs.size - 1)
    refine h h' tk _ t (fun d o e => hk d o (fun hm => ?_) (Heap.get?_push_of_some _ e)) ?_ fun a ha => ?_
    · rcases List.mem_cons.mp hm with e1 | hm
      · have := Heap.lt_size e; rw [e1] at this; exact Nat.lt_irrefl _ this
      · cases hm
    · rw [numAt_eq]; exact PySem.getD_mem (by rw [List.length_map, Array.length_toList]; omega)
    · obtain ⟨j, hj, rfl⟩ := mem_getD ha
      rw [List.length_map, Array.length_toList] at hj
      rw [← numAt_eq]; exact h2 j (by omega)
end

section
variable {prog : Program} {w : World} {A : Around} {E : Value → Shared → Prop} {s : Shared} {l : Addr} {its : List Value} {ns : List Int} {Q : Value → Shared → Prop}
theorem min_rawT (hh : A.handled = none) (hl : s.heap.IsTuple l its.toArray) (hi : IntsAre its ns) (hne : 0 < ns.length)
    (h : ∀ h' tk M t', (∀ b o, s.heap.get? b = some o → h'.get? b = some o) → M ∈ ns → (∀ a, a ∈ ns → M ≤ a) → Q (.int M t') { s with heap := h', toks := tk }) : wpAny (model prog w) A (call (.builtin "min") [.ref l]) Q E s := by
  obtain ⟨xs, e⟩ := hi.allInts.items
  have hn : numsOf (intItems xs).toList = ns := by rw [← e]; exact hi.numsOf
  rw [nums_intItems] at hn
  subst hn
  rw [e] at hl
  have hsz : 0 < xs.size := by simpa using hne
  obtain ⟨o, hg, _⟩ := id hl
  have hlt := Heap.lt_size hg
  refine call_min_walk (wpAny_pyIter_tuple hl ?_)
  refine ⟨_, [_, l], [_], _, _, _, _, rfl, Walks.tuple (A := A.in1) hh _ l (Nat.ne_of_lt hlt) (intItems xs), ⟨⟨_, Heap.get?_push_size _ rfl, rfl, rfl⟩, hl.push _⟩, fun d hd => ?_, by simpa [intItems] using hsz, CmpOf.ints_lt (numAt xs) (fun _ _ => intItems_at), fun v h' tk hP hk => ?_⟩
  · show d < (s.heap.push _).objs.size
    rw [Heap.size_push]
    rcases List.mem_cons.mp hd with rfl | hd
    · exact Nat.lt_succ_self _
    · rcases List.mem_cons.mp hd with rfl | hd
      · exact Nat.lt_succ_of_lt hlt
      · cases hd
  · have hv : (intItems xs)[argBest (fun i j => decide (numAt xs i < numAt xs j)) (xs.size - 1)]? = some v := by simpa [intItems] using hP
    obtain ⟨t, rfl⟩ := intItems_at hv
    obtain ⟨h1, h2⟩ := argBest_lt (numAt xs) (xs.size - 1)
    refine h h' tk _ t (fun d o e => hk d o (fun hm => ?_) (Heap.get?_push_of_some _ e)) ?_ fun a ha => ?_
    · rcases List.mem_cons.mp hm with e1 | hm
      · have := Heap.lt_size e; rw [e1] at this; exact Nat.lt_irrefl _ this
      · cases hm
    · rw [numAt_eq]; exact PySem.getD_mem (by rw [List.length_map, Array.length_toList]; omega)
    · obtain ⟨j, hj, rfl⟩ := mem_getD ha
      rw [List.length_map, Array.length_toList] at hj
      rw [← numAt_eq]; exact h2 j (by omega)
end

section
variable {prog : Program} {w : World} {A : Around} {E : Value → Shared → Prop} {s : Shared}
theorem args_max4 (a b c d : Value) : argsOk "max" ⟨[a, b, c, d], []⟩ := by unfold argsOk; kernel_rfl
theorem call_max_four {a b c d : Value} {Q : Value → Shared → Prop}
    (h : wpAny (model prog w) A.in1 (pyIter (.ref s.heap.objs.size)) (fun it s₂ => ∃ I fp wr n P St bt, it = .ref I ∧ Walks prog w A.in1 I fp wr n P St ∧ St 0 s₂.heap ∧ (∀ b ∈ fp, b < s₂.heap.objs.size) ∧ 0 < n ∧ CmpOf prog w A.in1 .Gt P bt ∧
      ∀ v h' tk, P (argBest bt (n - 1)) v → (∀ b o, b ∉ wr → s₂.heap.get? b = some o → h'.get? b = some o) → Q v { s₂ with heap := h', toks := tk }) E
      { s with heap := s.heap.push { cls := .type "tuple", data := .seq #[a, b, c, d] } }) :
    wpAny (model prog w) A (call (.builtin "max") [a, b, c, d]) Q E s := by
  have hname : (toString "max" ++ toString ".loop" : String) = "max.loop" := by decide
  refine call_function_tree F.kind_max F.plain_max F.entry_max (args_max4 _ _ _ _) ?_
  show wpAny _ A.in1 (Builtin.Builtins.bindParams "max" ["key", "default"] 0 ⟨[], []⟩ >>= _) _ _ s
  refine wpAny_bind (wpAny_of_eq (show Builtin.Builtins.bindParams "max" ["key", "default"] 0 ⟨[], []⟩ = pure [none, none] from rfl) ?_)
  show wpAny _ A.in1 (newTuple [a, b, c, d] >>= _) _ _ s
  refine wpAny_bind (wpAny_newObj_type ?_)
  refine wpAny_bind (wpAny_mono h (fun it s₂ h₂ => ?_) fun _ _ e => e)
  obtain ⟨I, fp, wr, n, P, St, bt, rfl, W, hst, hfp, hn, hcmp, hQ⟩ := h₂
  refine wpAny_bind (wpAny_newObj_type ?_)
  have hSf : s₂.heap.objs.size ∉ fp := fun hm => Nat.lt_irrefl _ (hfp _ hm)
  rw [hname]
  refine wpAny_pure ⟨plainId_quiet F.plain_max_loop _, codeAny_max_loop_first W bt hcmp s₂.heap.objs.size hSf hn (W.frame _ _ _ hst fun b _ o e => Heap.get?_push_of_some _ e) (Heap.get?_push_size _ rfl) fun v h' tk hP hk => ?_⟩
  exact hQ v h' tk hP fun b o hbw e => hk b o hbw (Nat.ne_of_lt (Heap.lt_size e)) (Heap.get?_push_of_some _ e)
theorem max_four_ints {a b c d : Int} {t u x y : Tok} {Q : Value → Shared → Prop} (hh : A.handled = none)
    (h : ∀ h' tk M t', (∀ b o, s.heap.get? b = some o → h'.get? b = some o) → M ∈ [a, b, c, d] → (∀ z, z ∈ [a, b, c, d] → z ≤ M) → Q (.int M t') { s with heap := h', toks := tk }) :
    wpAny (model prog w) A (call (.builtin "max") [.int a t, .int b u, .int c x, .int d y]) Q E s := by
  have hT : (s.heap.push { cls := .type "tuple", data := .seq #[.int a t, .int b u, .int c x, .int d y] }).IsTuple s.heap.objs.size (intItems #[(a, t), (b, u), (c, x), (d, y)]) := ⟨_, Heap.get?_push_size _ rfl, rfl, 0, by simp [intItems]⟩
  refine call_max_four (wpAny_pyIter_tuple hT ?_)
  have hsz : (s.heap.push { cls := .type "tuple", data := .seq #[.int a t, .int b u, .int c x, .int d y] }).objs.size = s.heap.objs.size + 1 := Heap.size_push ..
  refine ⟨_, [_, s.heap.objs.size], [_], _, _, _, _, rfl, Walks.tuple (A := A.in1) hh _ s.heap.objs.size (by rw [hsz]; exact Nat.ne_of_lt (Nat.lt_succ_self _)) (intItems #[(a, t), (b, u), (c, x), (d, y)]),
    ⟨⟨_, Heap.get?_push_size _ rfl, rfl, rfl⟩, hT.push _⟩, fun e he => ?_, by simp [intItems], CmpOf.ints_gt (numAt #[(a, t), (b, u), (c, x), (d, y)]) (fun _ _ => intItems_at), fun v h' tk hP hk => ?_⟩
  · show e < ((s.heap.push _).push _).objs.size
    rw [Heap.size_push, hsz]
    rcases List.mem_cons.mp he with rfl | he
    · rw [hsz]; exact Nat.lt_succ_self _
    · rcases List.mem_cons.mp he with rfl | he
      · exact Nat.lt_succ_of_lt (Nat.lt_succ_self _)
      · cases he
  · have hv : (intItems #[(a, t), (b, u), (c, x), (d, y)])[argBest (fun i j => decide (numAt #[(a, t), (b, u), (c, x), (d, y)] i > numAt #[(a, t), (b, u), (c, x), (d, y)] j)) 3]? = some v := by
      have hsz2 : (intItems #[(a, t), (b, u), (c, x), (d, y)]).size - 1 = 3 := by simp [intItems]
      rw [← hsz2]; exact hP
    obtain ⟨t', rfl⟩ := intItems_at hv
    obtain ⟨h1, h2⟩ := argBest_gt (numAt #[(a, t), (b, u), (c, x), (d, y)]) 3
    refine h h' tk _ t' (fun d o e => hk d o (fun hm => ?_) (Heap.get?_push_of_some _ (Heap.get?_push_of_some _ e))) ?_ fun z hz => ?_
    · rcases List.mem_cons.mp hm with e1 | hm
      · have := Heap.lt_size e; rw [e1, hsz] at this; exact Nat.lt_irrefl _ (Nat.lt_of_succ_lt this)
      · cases hm
    · generalize argBest (fun i j => decide (numAt #[(a, t), (b, u), (c, x), (d, y)] i > numAt #[(a, t), (b, u), (c, x), (d, y)] j)) 3 = k at h1 ⊢
      match k, h1 with
      | 0, _ => simp [numAt]
      | 1, _ => simp [numAt]
      | 2, _ => simp [numAt]
      | 3, _ => simp [numAt]
    · have g0 := h2 0 (by omega)
      have g1 := h2 1 (by omega)
      have g2 := h2 2 (by omega)
      have g3 := h2 3 (by omega)
      simp only [List.mem_cons, List.not_mem_nil, or_false] at hz
      rcases hz with rfl | rfl | rfl | rfl
      · exact g0
      · exact g1
      · exact g2
      · exact g3
end
/-! ### the rules on values -/
theorem un1_inv {g : D → Option (D × Bool)} {ds : List D} {q : D × Bool} (h : un1 g ds = some q) : ∃ d, ds = [d] ∧ g d = some q := by
  match ds, h with
  | [d], h => exact ⟨d, rfl, h⟩
section
variable {X : Cx} {K : PySem.W.Frag}
theorem cd_len (hK : X.K = K) : CallR X (.builtin "len") (OpN K (un1 lenG)) := by
  subst hK
  intro pins s σ H xs us Q I r h
  obtain ⟨Z, ds, q, sub, ho, e, hq⟩ := h
  match ds, e with
  | [d], e =>
    obtain ⟨x, _, rfl, hx, e0⟩ := ho.inv
    cases e0
    match d, e with
    | .tup l, e =>
      cases e
      obtain ⟨a, xs, rfl, h1, _, r1⟩ := hx.tup sub
      exact call_len pins s σ H _ us Q I r ⟨_, l.length, rfl, .inr ⟨xs, h1, r1.length.symm⟩, hq.int (o := false) sub⟩
    | .lst l, e =>
      cases e
      obtain ⟨a, xs, rfl, h1, r1⟩ := hx.lst sub
      exact call_len pins s σ H _ us Q I r ⟨_, l.length, rfl, .inl ⟨xs, h1, r1.length.symm⟩, hq.int (o := false) sub⟩
    | .str l, e =>
      simp only [un1, lenG] at e
      split at e
      · rename_i hl
        cases e
        have ex := hx.str
        subst ex
        exact call_len pins s σ H _ us Q I r ⟨_, l.length, rfl, ⟨by rw [str_len]; exact lim_line hl, (str_len l).symm⟩, hq.int (o := false) sub⟩
      · cases e
theorem cd_abs (hK : X.K = K) : CallR X (.builtin "abs") (OpN K (un1 absG)) := by
  subst hK
  intro pins s σ H xs us Q I r h
  obtain ⟨Z, ds, q, sub, ho, e, hq⟩ := h
  replace e := un1_inv e
  obtain ⟨d, rfl, e⟩ := e
  obtain ⟨x, _, rfl, hx, e0⟩ := ho.inv
  cases e0
  cases d with
  | int i =>
    cases e
    exact call_abs pins s σ H _ us Q I r ⟨i, by rw [hx.int], hq.int (o := false) sub⟩
  | _ => cases e
theorem cd_int (hK : X.K = K) : CallR X (.type "int") (OpN K (un1 intG)) := by
  subst hK
  intro pins s σ H xs us Q I r h
  obtain ⟨Z, ds, q, sub, ho, e, hq⟩ := h
  replace e := un1_inv e
  obtain ⟨d, rfl, e⟩ := e
  obtain ⟨x, _, rfl, hx, e0⟩ := ho.inv
  cases e0
  cases d with
  | int i =>
    cases e
    exact call_int1 pins s σ H _ us Q I r (.inl ⟨i, by rw [hx.int], hq.int (o := false) sub⟩)
  | bl i =>
    cases e
    exact call_int1 pins s σ H _ us Q I r (.inr ⟨i, by rw [hx.bl], hq.int (o := false) sub⟩)
  | _ => cases e
theorem log_small {n : Nat} (h : n < 1000000000000) : n.log2 < 1920 := by
  by_cases e : n = 0
  · subst e; decide
  · have := (Nat.log2_lt e).mpr (show n < 2 ^ 40 from Nat.lt_of_lt_of_le h (by decide))
    omega
theorem cd_str (hK : X.K = K) : CallR X (.type "str") (OpN K (un1 strG)) := by
  subst hK
  intro pins s σ H xs us Q I r h
  obtain ⟨Z, ds, q, sub, ho, e, hq⟩ := h
  replace e := un1_inv e
  obtain ⟨d, rfl, e⟩ := e
  obtain ⟨x, _, rfl, hx, e0⟩ := ho.inv
  cases e0
  cases d with
  | int i =>
    simp only [strG] at e
    split at e
    · rename_i hl
      cases e
      refine call_str_int pins s σ H _ us Q I r ⟨i, by rw [hx.int], log_small hl, ?_⟩
      have z := hq.str sub
      unfold intL at z
      simpa using z
    · cases e
  | non =>
    cases e
    have ex := hx.non
    subst ex
    obtain ⟨u, rfl, ru⟩ := vals1 r
    cases ru
    exact PySem.P.str_of_none ⟨.str _, H, I.tok _, ⟨_, rfl⟩, hq.str sub⟩
  | str x =>
    cases e
    exact SkE.call_str_str pins s σ H _ us Q I r ⟨_, by rw [hx.str], hq.str sub⟩
  | _ => cases e
theorem vals_signs {x : Str} : ∀ {acc : Array Value}, ItemsOf (SignAt x) acc x.cps.size → Vals (x.cps.toList.map fun c => V.str ⟨#[c]⟩) acc.toList := by
  intro acc h
  obtain ⟨hz, hp⟩ := h
  have gen : ∀ (l : List Nat) (a : List Value), a.length = l.length → (∀ (j : Nat) (v : Value), a[j]? = some v → ∃ c u, l[j]? = some c ∧ v = .str ⟨#[c]⟩ u) → Vals (l.map fun c => V.str ⟨#[c]⟩) a := by
    intro l
    induction l with
    | nil => intro a ha _; rw [List.eq_nil_of_length_eq_zero ha]; exact .nil
    | cons c l ih =>
      intro a ha hv
      cases a with
      | nil => cases ha
      | cons v a =>
        obtain ⟨c', u, e1, rfl⟩ := hv 0 v rfl
        cases e1
        exact .cons ⟨u, rfl⟩ (ih a (by simpa using ha) fun j w e => by simpa using hv (j + 1) w (by simpa using e))
  refine gen _ _ (by simpa using hz) fun j v e => ?_
  obtain ⟨c, u, e1, e2⟩ := hp j v (by simpa using e)
  exact ⟨c, u, by simpa using e1, e2⟩
theorem RpL.signs {Z : Hp} : ∀ (l : List Nat), RpL K Z (l.map fun c => .str [c]) (l.map fun c => V.str ⟨#[c]⟩)
  | [] => .nil
  | c :: l => .cons (by simp [Rp]) (RpL.signs l)
theorem cd_tuple (hK : X.K = K) (hc : X.calm = true) : CallR X (.type "tuple") (OpN K (un1 tupG)) := by
  subst hK
  intro pins s σ H xs us Q I r h
  obtain ⟨Z, ds, q, sub, ho, e, hq⟩ := h
  replace e := un1_inv e
  obtain ⟨d, rfl, e⟩ := e
  obtain ⟨x, _, rfl, hx, e0⟩ := ho.inv
  cases e0
  cases d with
  | tup l =>
    cases e
    obtain ⟨a, xs, rfl, h1, h1z, r1⟩ := hx.tup sub
    exact call_tuple_of pins s σ H _ us Q I r ⟨a, xs, rfl, .inr ⟨h1, hq.old sub (by simp only [Rp]; exact ⟨a, xs, rfl, h1z, r1⟩)⟩⟩
  | lst l =>
    cases e
    obtain ⟨a, xs, rfl, h1, r1⟩ := hx.lst sub
    exact call_tuple_of pins s σ H _ us Q I r ⟨a, xs, rfl, .inl ⟨h1, fun p hp => hq.tup sub r1 hp⟩⟩
  | str l =>
    simp only [tupG] at e
    split at e
    · rename_i hl
      cases e
      have ex := hx.str
      subst ex
      obtain ⟨u, rfl, t, rfl⟩ := vals1 r
      refine PySem.call_tuple_str (I.ok.hd hc) _ t (fun h' tk acc k hi => ?_) (by simpa using lim_line hl)
      have I1 : Inv X pins σ H { s with heap := h', toks := tk } := I.kept k
      have hv := vals_signs hi
      refine ⟨.ref _, _, I1.laid (t' := tk) (o := .tup (l.map fun c => V.str ⟨#[c]⟩)) (fun b ob q => Heap.get?_push_of_some _ q) (Nat.le_refl _) ?_, rfl, hq.tup sub (RpL.signs l) (I1.hok.fresh (Nat.le_refl _))⟩
      exact ⟨by rw [List.length_map]; exact lim_line hl, acc.toList, by simpa using hv, ⟨_, Heap.get?_push_size _ rfl, rfl, 0, by simp⟩⟩
    · cases e
  | _ => cases e
theorem cd_list (hK : X.K = K) : CallR X (.type "list") (OpN K (un1 lstG)) := by
  subst hK
  intro pins s σ H xs us Q I r h
  obtain ⟨Z, ds, q, sub, ho, e, hq⟩ := h
  replace e := un1_inv e
  obtain ⟨d, rfl, e⟩ := e
  obtain ⟨x, _, rfl, hx, e0⟩ := ho.inv
  cases e0
  cases d with
  | tup l =>
    cases e
    obtain ⟨a, xs, rfl, h1, _, r1⟩ := hx.tup sub
    exact call_list_of pins s σ H _ us Q I r ⟨a, xs, rfl, .inr h1, fun p hp => hq.lst sub r1 hp⟩
  | lst l =>
    cases e
    obtain ⟨a, xs, rfl, h1, r1⟩ := hx.lst sub
    exact call_list_of pins s σ H _ us Q I r ⟨a, xs, rfl, .inl h1, fun p hp => hq.lst sub r1 hp⟩
  | _ => cases e
theorem isInts_map : ∀ {l : List D} {ns : List Int}, isInts l = some ns → l = ns.map D.int
  | [], ns, h => by cases h; rfl
  | .int i :: r, ns, h => by
    simp only [isInts] at h
    cases e : isInts r with
    | none => rw [e] at h; cases h
    | some m => rw [e] at h; cases h; rw [isInts_map e]; rfl
theorem cd_sum (hK : X.K = K) (hc : X.calm = true) : CallR X (.builtin "sum") (OpN K (un1 sumG)) := by
  subst hK
  intro pins s σ H xs us Q I r h
  obtain ⟨Z, ds, q, sub, ho, e, hq⟩ := h
  replace e := un1_inv e
  obtain ⟨d, rfl, e⟩ := e
  obtain ⟨x, _, rfl, hx, e0⟩ := ho.inv
  cases e0
  cases d with
  | lst l =>
    simp only [sumG] at e
    cases ei : isInts l with
    | none => rw [ei] at e; cases e
    | some ns =>
      rw [ei] at e; cases e
      obtain ⟨a, xs, rfl, h1, r1⟩ := hx.lst sub
      have el := isInts_map ei
      subst el
      have ex := r1.ints
      subst ex
      exact cr_sum hc pins s σ H _ us Q I r ⟨a, ns, rfl, h1, hq.int (o := false) sub⟩
  | _ => cases e
theorem maxL_ok : ∀ {ns : List Int} {m : Int}, m ∈ ns → (∀ y ∈ ns, y ≤ m) → maxL ns = some m := by
  have aux : ∀ (r : List Int) (i m : Int), (m = i ∨ m ∈ r) → i ≤ m → (∀ y ∈ r, y ≤ m) → r.foldl (fun a b => if a < b then b else a) i = m := by
    intro r
    induction r with
    | nil => intro i m h h1 _; rcases h with h | h; exact h.symm; cases h
    | cons a r ih =>
      intro i m h h1 h2
      rw [List.foldl_cons]
      have ha := h2 a List.mem_cons_self
      have h2' : ∀ y ∈ r, y ≤ m := fun y hy => h2 y (List.mem_cons_of_mem _ hy)
      split
      · rename_i hia
        refine ih a m ?_ ha h2'
        rcases h with h | h
        · omega
        · rcases List.mem_cons.mp h with h | h
          · exact .inl h
          · exact .inr h
      · rename_i hia
        refine ih i m ?_ h1 h2'
        rcases h with h | h
        · exact .inl h
        · rcases List.mem_cons.mp h with h | h
          · left; omega
          · exact .inr h
  intro ns m h1 h2
  cases ns with
  | nil => cases h1
  | cons i r =>
    have : m = i ∨ m ∈ r := List.mem_cons.mp h1
    simp only [maxL]
    rw [aux r i m this (h2 i List.mem_cons_self) fun y hy => h2 y (List.mem_cons_of_mem _ hy)]
theorem minL_ok : ∀ {ns : List Int} {m : Int}, m ∈ ns → (∀ y ∈ ns, m ≤ y) → minL ns = some m := by
  have aux : ∀ (r : List Int) (i m : Int), (m = i ∨ m ∈ r) → m ≤ i → (∀ y ∈ r, m ≤ y) → r.foldl (fun a b => if b < a then b else a) i = m := by
    intro r
    induction r with
    | nil => intro i m h h1 _; rcases h with h | h; exact h.symm; cases h
    | cons a r ih =>
      intro i m h h1 h2
      rw [List.foldl_cons]
      have ha := h2 a List.mem_cons_self
      have h2' : ∀ y ∈ r, m ≤ y := fun y hy => h2 y (List.mem_cons_of_mem _ hy)
      split
      · rename_i hia
        refine ih a m ?_ ha h2'
        rcases h with h | h
        · omega
        · rcases List.mem_cons.mp h with h | h
          · exact .inl h
          · exact .inr h
      · rename_i hia
        refine ih i m ?_ h1 h2'
        rcases h with h | h
        · exact .inl h
        · rcases List.mem_cons.mp h with h | h
          · left; omega
          · exact .inr h
  intro ns m h1 h2
  cases ns with
  | nil => cases h1
  | cons i r =>
    have : m = i ∨ m ∈ r := List.mem_cons.mp h1
    simp only [minL]
    rw [aux r i m this (h2 i List.mem_cons_self) fun y hy => h2 y (List.mem_cons_of_mem _ hy)]
theorem cd_max (hK : X.K = K) (hc : X.calm = true) : CallR X (.builtin "max") (OpN K (un1 maxG)) := by
  subst hK
  intro pins s σ H xs us Q I r h
  obtain ⟨Z, ds, q, sub, ho, e, hq⟩ := h
  replace e := un1_inv e
  obtain ⟨d, rfl, e⟩ := e
  obtain ⟨x, _, rfl, hx, e0⟩ := ho.inv
  cases e0
  cases d with
  | lst l =>
    simp only [maxG] at e
    cases ei : isInts l with
    | none => rw [ei] at e; cases e
    | some ns =>
      rw [ei] at e
      cases em : maxL ns with
      | none => simp only [Option.bind, em] at e; cases e
      | some m0 =>
        simp only [Option.bind, em] at e; cases e
        obtain ⟨a, xs, rfl, h1, r1⟩ := hx.lst sub
        have el := isInts_map ei
        subst el
        have ex := r1.ints
        subst ex
        refine cr_max hc pins s σ H _ us Q I r ⟨a, ns, rfl, h1, ?_, fun m hm hle => ?_⟩
        · cases ns with
          | nil => cases em
          | cons _ _ => simp
        · have := maxL_ok hm hle
          rw [em] at this; cases this
          exact hq.int (o := false) sub
  | tup l =>
    simp only [maxG] at e
    cases ei : isInts l with
    | none => rw [ei] at e; cases e
    | some ns =>
      rw [ei] at e
      cases em : maxL ns with
      | none => simp only [Option.bind, em] at e; cases e
      | some m0 =>
        simp only [Option.bind, em] at e; cases e
        obtain ⟨a, xs, rfl, h1, _, r1⟩ := hx.tup sub
        have el := isInts_map ei
        subst el
        have ex := r1.ints
        subst ex
        obtain ⟨its, rv, hl, _⟩ := I.tuple h1
        rw [Vals.ref1 r]
        refine max_rawT (I.ok.hd hc) hl rv.ints ?_ fun h' tk m t' hk hm hle => ⟨.int _, H, I.kept hk, ⟨_, rfl⟩, ?_⟩
        · cases ns with
          | nil => cases em
          | cons _ _ => simp
        · have := maxL_ok hm hle
          rw [em] at this; cases this
          exact hq.int (o := false) sub
  | _ => cases e
theorem cd_min (hK : X.K = K) (hc : X.calm = true) : CallR X (.builtin "min") (OpN K (un1 minG)) := by
  subst hK
  intro pins s σ H xs us Q I r h
  obtain ⟨Z, ds, q, sub, ho, e, hq⟩ := h
  replace e := un1_inv e
  obtain ⟨d, rfl, e⟩ := e
  obtain ⟨x, _, rfl, hx, e0⟩ := ho.inv
  cases e0
  cases d with
  | lst l =>
    simp only [minG] at e
    cases ei : isInts l with
    | none => rw [ei] at e; cases e
    | some ns =>
      rw [ei] at e
      cases em : minL ns with
      | none => simp only [Option.bind, em] at e; cases e
      | some m0 =>
        simp only [Option.bind, em] at e; cases e
        obtain ⟨a, xs, rfl, h1, r1⟩ := hx.lst sub
        have el := isInts_map ei
        subst el
        have ex := r1.ints
        subst ex
        refine cr_min hc pins s σ H _ us Q I r ⟨a, ns, rfl, h1, ?_, fun m hm hle => ?_⟩
        · cases ns with
          | nil => cases em
          | cons _ _ => simp
        · have := minL_ok hm hle
          rw [em] at this; cases this
          exact hq.int (o := false) sub
  | tup l =>
    simp only [minG] at e
    cases ei : isInts l with
    | none => rw [ei] at e; cases e
    | some ns =>
      rw [ei] at e
      cases em : minL ns with
      | none => simp only [Option.bind, em] at e; cases e
      | some m0 =>
        simp only [Option.bind, em] at e; cases e
        obtain ⟨a, xs, rfl, h1, _, r1⟩ := hx.tup sub
        have el := isInts_map ei
        subst el
        have ex := r1.ints
        subst ex
        obtain ⟨its, rv, hl, _⟩ := I.tuple h1
        rw [Vals.ref1 r]
        refine min_rawT (I.ok.hd hc) hl rv.ints ?_ fun h' tk m t' hk hm hle => ⟨.int _, H, I.kept hk, ⟨_, rfl⟩, ?_⟩
        · cases ns with
          | nil => cases em
          | cons _ _ => simp
        · have := minL_ok hm hle
          rw [em] at this; cases this
          exact hq.int (o := false) sub
  | _ => cases e
theorem cd_max4 (hK : X.K = K) (hc : X.calm = true) : CallR X (.builtin "max") (OpN K max4G) := by
  subst hK
  intro pins s σ H xs us Q I r h
  obtain ⟨Z, ds, q, sub, ho, e, hq⟩ := h
  unfold max4G at e
  split at e
  · rename_i h4
    cases ei : isInts ds with
    | none => rw [ei] at e; cases e
    | some ns =>
      rw [ei] at e
      cases em : maxL ns with
      | none => simp only [Option.bind, em] at e; cases e
      | some m0 =>
        simp only [Option.bind, em] at e; cases e
        have el := isInts_map ei
        subst el
        match ns, h4 with
        | [a, b, c, d], _ =>
          obtain ⟨x1, _, rfl, k1, x2, _, rfl, k2, x3, _, rfl, k3, x4, _, rfl, k4, e0⟩ := ho
          cases e0
          cases k1.int; cases k2.int; cases k3.int; cases k4.int
          obtain ⟨t1, t2, t3, t4, rfl⟩ : ∃ t1 t2 t3 t4, us = [Value.int a t1, .int b t2, .int c t3, .int d t4] := by
            cases r with
            | cons r1 r =>
              cases r with
              | cons r2 r =>
                cases r with
                | cons r3 r =>
                  cases r with
                  | cons r4 r =>
                    cases r
                    obtain ⟨t1, rfl⟩ := r1
                    obtain ⟨t2, rfl⟩ := r2
                    obtain ⟨t3, rfl⟩ := r3
                    obtain ⟨t4, rfl⟩ := r4
                    exact ⟨t1, t2, t3, t4, rfl⟩
          refine max_four_ints (I.ok.hd hc) fun h' tk m t' hk hm hle => ⟨.int _, H, I.kept hk, ⟨_, rfl⟩, ?_⟩
          have := maxL_ok hm hle
          rw [em] at this; cases this
          exact hq.int (o := false) sub
  · cases e
theorem cd_max2 (hK : X.K = K) (hc : X.calm = true) : CallR X (.builtin "max") (OpN K max2G) := by
  subst hK
  intro pins s σ H xs us Q I r h
  obtain ⟨Z, ds, q, sub, ho, e, hq⟩ := h
  match ds, e with
  | [.int i, .int j], e =>
    obtain ⟨x, _, rfl, hx, y, _, rfl, hy, e0⟩ := ho
    cases e0
    cases e
    exact call_max2 hc pins s σ H _ us Q I r ⟨i, j, by rw [hx.int, hy.int], hq.int (o := false) sub⟩
theorem cd_min2 (hK : X.K = K) (hc : X.calm = true) : CallR X (.builtin "min") (OpN K min2G) := by
  subst hK
  intro pins s σ H xs us Q I r h
  obtain ⟨Z, ds, q, sub, ho, e, hq⟩ := h
  match ds, e with
  | [.int i, .int j], e =>
    obtain ⟨x, _, rfl, hx, y, _, rfl, hy, e0⟩ := ho
    cases e0
    cases e
    exact call_min2 hc pins s σ H _ us Q I r ⟨i, j, by rw [hx.int, hy.int], hq.int (o := false) sub⟩
mutual
theorem shw_ok : ∀ {d : D}, shw d = true → (toPy d).showable = true
  | .non, _ => by simp [toPy, PyData.showable]
  | .bl _, _ => by simp [toPy, PyData.showable]
  | .int i, h => by simp only [shw, decide_eq_true_eq] at h; simp only [toPy, PyData.showable, decide_eq_true_eq]; exact log_small h
  | .str _, _ => by simp [toPy, PyData.showable]
  | .tup l, h => by simp only [shw] at h; simp only [toPy, PyData.showable]; exact shwL_ok h
  | .lst l, h => by simp only [shw] at h; simp only [toPy, PyData.showable]; exact shwL_ok h
  | .dic _, h => by simp [shw] at h
theorem shwL_ok : ∀ {d : List D}, shwL d = true → PyData.showableAll (toPyL d) = true
  | [], _ => by simp [toPyL, PyData.showableAll]
  | d :: ds, h => by
    simp only [shwL, Bool.and_eq_true] at h
    simp only [toPyL, PyData.showableAll, shw_ok h.1, shwL_ok h.2, Bool.and_self]
end
theorem cd_repr (hK : X.K = K) (hg : X.A.guards = some []) (hu : X.A.units + 66 < cLine) : CallR X (.builtin "repr") (OpN K (un1 reprG)) := by
  subst hK
  intro pins s σ H xs us Q I r h
  obtain ⟨Z, ds, q, sub, ho, e, hq⟩ := h
  replace e := un1_inv e
  obtain ⟨d, rfl, e⟩ := e
  obtain ⟨x, _, rfl, hx, e0⟩ := ho.inv
  cases e0
  cases d with
  | tup l =>
    simp only [reprG] at e
    split at e
    · rename_i hs
      cases e
      obtain ⟨u, rfl, ru⟩ := vals1 r
      obtain ⟨as, rd⟩ := Dp.reads I _ x u (hx.dp sub hs.1) ru
      obtain ⟨a, xs, rfl, _⟩ := hx.tup sub
      cases ru
      obtain ⟨l1, l2⟩ := shp_lay 64 _ hs.1
      have hd := PyData.hasDict_of_canLay _ l1
      refine PySem.repr_of_reads' rd (shw_ok hs.2.1) (fun z => by rw [hd] at z; cases z) hg (by omega) (fun _ _ e => e) (fun h' u tk k => ⟨.str _, H, I.kept k, ⟨_, rfl⟩, ?_⟩) ?_
      · have z := hq.str sub
        unfold shownL at z
        simpa using z
      · have : (toPy (.tup l)).shown.length = (shownL (.tup l)).length := by simp [shownL, Str.length]
        rw [this]; exact lim_line hs.2.2
    · cases e
  | _ => cases e
end

section
variable {p : Pl} {e e' : Expr} {es : List Expr} {fs : List SE} {f : SE} {pos q : Pos} {x : Str} {id : String} {g : List D → Option (D × Bool)}
theorem DA.cons1 (ha : DA p (e :: es) fs) (env : Env) : starEach (e :: es) env = (false, eval e env) :: starEach es env ∧ (backTo pos (starEach es env)).any (·.1) = false := by
  have h1 := ha.star env
  have h2 : starEach es env = es.map fun e => (false, eval e env) := by
    have h3 : (starEach (e :: es) env).tail = es.map fun e => (false, eval e env) := by rw [h1]; rfl
    have h4 : (starEach (e :: es) env).tail = starEach es env := by cases e <;> rfl
    rw [← h4]; exact h3
  refine ⟨by rw [h1, h2]; rfl, ?_⟩
  rw [h2]
  unfold backTo
  rw [List.map_map, List.any_map]
  simp
abbrev Glo (p : Pl) (x : Str) : Prop := p.sc.names.lookup x = some NameKind.globalImplicit
theorem Plc.gl {X : Cx} (c : p.at X) (h : Glo p x) : Gl X x := by
  show X.env.scope.names.lookup x = _
  rw [c.hsc]; exact h
theorem de_callB (hc : ∀ X : Cx, p.at X → CallR X (.builtin id) (OpN p.K g)) (hm : p.mg x = none) (hv : bootBuiltins x = some (.builtin id)) (hg : Glo p x) (ha : DA p (e :: es) fs) (hn : x ≠ "__name__" := by decide) (hdb : (x == ("__debug__" : Str)) = false := by decide) :
    DE p (.Call (.Name x q) (e :: es) [] pos) (eN g fs) := fun X W c tk =>
  PE_imp (pe_callB (hc X c) (c.gl hg) (by rw [c.hmg]; exact hm) hv (ha.run X W c tk) hn hdb (ha.cons1 (pos := pos) X.env).1 (ha.cons1 X.env).2) fun _ _ _ h => rd_eN h
theorem de_callT (hc : ∀ X : Cx, p.at X → CallR X (.type id) (OpN p.K g)) (hm : p.mg x = none) (hv : bootBuiltins x = some (.type id)) (hg : Glo p x) (ha : DA p (e :: es) fs) (hn : x ≠ "__name__" := by decide) (hdb : (x == ("__debug__" : Str)) = false := by decide) :
    DE p (.Call (.Name x q) (e :: es) [] pos) (eN g fs) := fun X W c tk =>
  PE_imp (pe_callTy (hc X c) (c.gl hg) (by rw [c.hmg]; exact hm) hv (ha.run X W c tk) hn hdb (ha.cons1 (pos := pos) X.env).1 (ha.cons1 X.env).2) fun _ _ _ h => rd_eN h
theorem de_len (b : BI p.mg) (ha : DA p [e] fs) (hg : Glo p "len" := by rfl) : DE p (.Call (.Name "len" q) [e] [] pos) (eN (un1 lenG) fs) := de_callB (fun X c => cd_len c.hK) b.len (by decide +kernel) hg ha
theorem de_abs (b : BI p.mg) (ha : DA p [e] fs) (hg : Glo p "abs" := by rfl) : DE p (.Call (.Name "abs" q) [e] [] pos) (eN (un1 absG) fs) := de_callB (fun X c => cd_abs c.hK) b.abs (by decide +kernel) hg ha
theorem de_intc (b : BI p.mg) (ha : DA p [e] fs) (hg : Glo p "int" := by rfl) : DE p (.Call (.Name "int" q) [e] [] pos) (eN (un1 intG) fs) := de_callT (fun X c => cd_int c.hK) b.int (by decide +kernel) hg ha
theorem de_strc (b : BI p.mg) (ha : DA p [e] fs) (hg : Glo p "str" := by rfl) : DE p (.Call (.Name "str" q) [e] [] pos) (eN (un1 strG) fs) := de_callT (fun X c => cd_str c.hK) b.str (by decide +kernel) hg ha
theorem de_tuple (b : BI p.mg) (ha : DA p [e] fs) (hg : Glo p "tuple" := by rfl) : DE p (.Call (.Name "tuple" q) [e] [] pos) (eN (un1 tupG) fs) := de_callT (fun X c => cd_tuple c.hK c.calm) b.tuple (by decide +kernel) hg ha
theorem de_list (b : BI p.mg) (ha : DA p [e] fs) (hg : Glo p "list" := by rfl) : DE p (.Call (.Name "list" q) [e] [] pos) (eN (un1 lstG) fs) := de_callT (fun X c => cd_list c.hK) b.list (by decide +kernel) hg ha
theorem de_sum (b : BI p.mg) (ha : DA p [e] fs) (hg : Glo p "sum" := by rfl) : DE p (.Call (.Name "sum" q) [e] [] pos) (eN (un1 sumG) fs) := de_callB (fun X c => cd_sum c.hK c.calm) b.sum (by decide +kernel) hg ha
theorem de_max (b : BI p.mg) (ha : DA p [e] fs) (hg : Glo p "max" := by rfl) : DE p (.Call (.Name "max" q) [e] [] pos) (eN (un1 maxG) fs) := de_callB (fun X c => cd_max c.hK c.calm) b.max (by decide +kernel) hg ha
theorem de_min (b : BI p.mg) (ha : DA p [e] fs) (hg : Glo p "min" := by rfl) : DE p (.Call (.Name "min" q) [e] [] pos) (eN (un1 minG) fs) := de_callB (fun X c => cd_min c.hK c.calm) b.min (by decide +kernel) hg ha
theorem de_max4 {e3 e4 : Expr} (b : BI p.mg) (ha : DA p [e, e', e3, e4] fs) (hg : Glo p "max" := by rfl) : DE p (.Call (.Name "max" q) [e, e', e3, e4] [] pos) (eN (max4G) fs) := de_callB (fun X c => cd_max4 c.hK c.calm) b.max (by decide +kernel) hg ha
theorem de_max2 (b : BI p.mg) (ha : DA p [e, e'] fs) (hg : Glo p "max" := by rfl) : DE p (.Call (.Name "max" q) [e, e'] [] pos) (eN (max2G) fs) := de_callB (fun X c => cd_max2 c.hK c.calm) b.max (by decide +kernel) hg ha
theorem de_min2 (b : BI p.mg) (ha : DA p [e, e'] fs) (hg : Glo p "min" := by rfl) : DE p (.Call (.Name "min" q) [e, e'] [] pos) (eN (min2G) fs) := de_callB (fun X c => cd_min2 c.hK c.calm) b.min (by decide +kernel) hg ha
theorem de_repr (b : BI p.mg) (ha : DA p [e] fs) (hg : Glo p "repr" := by rfl) : DE p (.Call (.Name "repr" q) [e] [] pos) (eN (un1 reprG) fs) := de_callB (fun X c => cd_repr c.hK c.gds (by have := c.room.un; omega)) b.repr (by decide +kernel) hg ha
end
end Ev

set_option Elab.async false
set_option linter.all false
set_option maxRecDepth 100000
/-! Ev, part J: isinstance, methods of texts and lists that change nothing. -/
namespace Ev
open PySem PySem.Spec PyProof.Rows L2

/-! ### isinstance -/
def tyN : D → String
  | .non => "NoneType"
  | .bl _ => "bool"
  | .int _ => "int"
  | .str _ => "str"
  | .tup _ => "tuple"
  | .lst _ => "list"
  | .dic _ => "dict"
def subT (a b : String) : Bool := a == b || (a == "bool" && b == "int")
def isiG (ts : List String) (d : D) : Option (D × Bool) := some (.bl (ts.any (subT (tyN d))), false)
def tyAll : List String := ["NoneType", "bool", "int", "str", "tuple", "list", "dict"]
theorem kit_all : ∀ a ∈ tyAll, ∀ b ∈ tyAll, kitB a b = some (subT a b) := by decide +kernel
theorem tyN_mem (d : D) : tyN d ∈ tyAll := by cases d <;> simp [tyN, tyAll]
theorem sqt_ty {K : PySem.W.Frag} {H : Hp} {a : Addr} {xs : List V} (h : SqT K H a xs) : TyX K H (.ref a) (.type "tuple") := by
  rcases h with (h | ⟨o, h⟩) | ⟨o, its, n, h, c, _⟩
  · exact .base (.tup h)
  · exact .fTuple h
  · exact .kTuple h c
theorem sql_ty {K : PySem.W.Frag} {H : Hp} {a : Addr} {xs : List V} (h : SqL K H a xs) : TyX K H (.ref a) (.type "list") := by
  rcases h with (h | ⟨o, h⟩) | ⟨o, its, n, h, c, _⟩
  · exact .base (.lst h)
  · exact .base (.frz h)
  · exact .kList h c
theorem RO.ty {K : PySem.W.Frag} {Z H : Hp} {d : D} {v : V} (s : Sub Z H) (h : RO K Z H d v) : TyX K H v (.type (tyN d)) := by
  cases d with
  | non => rw [h.non]; exact .base .non
  | bl b => rw [h.bl]; exact .base (.bl b)
  | int b => rw [h.int]; exact .base (.int b)
  | str b => rw [h.str]; exact .base (.str _)
  | tup l => obtain ⟨a, xs, rfl, h1, _⟩ := h.tup s; exact sqt_ty h1
  | lst l => obtain ⟨a, xs, rfl, h1, _⟩ := h.lst s; exact sql_ty h1
  | dic l =>
    obtain ⟨a, rfl, h2⟩ := h.dic s
    rcases h2 with ⟨ks, h, _⟩ | ⟨ks, h, _⟩
    · exact .base (.dK h)
    · exact .base (.dT h)
theorem kit_any {K : PySem.W.Frag} {a : String} (ha : a ∈ tyAll) : ∀ {ts : List String}, (∀ t ∈ ts, t ∈ tyAll) → PySem.W.kitAny K (.type a) (ts.map Value.type) = some (ts.any (subT a))
  | [], _ => rfl
  | t :: ts, h => by
    have k1 := kit_ty (K := K) (kit_all a ha t (h t List.mem_cons_self))
    have k2 := kit_any (K := K) ha (ts := ts) fun x hx => h x (List.mem_cons_of_mem _ hx)
    rw [List.any_cons]
    rw [List.map_cons]
    refine kitAny_cons k1 (fun e => ?_) fun e => ?_
    · rw [e, Bool.false_or]; exact k2
    · rw [e, Bool.true_or]
theorem rd_mono {K : PySem.W.Frag} {W : WX} {f : SE} {σ : L2.St} {H : Hp} {Q Q' : VK} (h : rd K W f σ H Q) (i : ∀ v H', Q v H' → Q' v H') : rd K W f σ H Q' := by
  obtain ⟨B, Z, σD, s, h⟩ := h
  exact ⟨B, Z, σD, s, h.imp fun r Z' σD' H' s' x q v hv => i v H' (q v hv)⟩
section
variable {p : Pl} {e : Expr} {f : SE} {pos q q1 q2 : Pos}
theorem de_isi (b : BI p.mg) {x : Str} {t : String} (he : DE p e f) (hx : p.mg x = none) (hv : bootBuiltins x = some (.type t) := by decide +kernel) (ht : t ∈ tyAll := by decide) (hgx : Glo p x := by rfl) (hg : Glo p "isinstance" := by rfl) (hn : x ≠ "__name__" := by decide) (hdb : (x == ("__debug__" : Str)) = false := by decide)
    (hs : ∀ env : Env, starEach [e, .Name x q1] env = (false, eval e env) :: starEach [.Name x q1] env := by intro _; rfl) : DE p (.Call (.Name "isinstance" q) [e, .Name x q1] [] pos) (e1 (isiG [t]) f) := fun X W c tk =>
  PE_imp (pe_callB (call_isi (X := X)) (c.gl hg) (by rw [c.hmg]; exact b.isinstance) (by decide +kernel) (pa_cons (he X W c tk) (pa_cons (pe_bltn (v := .ty t) (c.gl hgx) (by rw [c.hmg]; exact hx) hv rfl hn hdb) pa_nil) (hs X.env)) (by decide) (by decide) (hs X.env) rfl) fun σ H Q h => by
    refine rd_mono (rd_e1 h) fun x H1 q => ?_
    obtain ⟨Z, d, r, sub, hx, eg, hq⟩ := q
    cases eg
    refine ⟨x, .ty t, .type (tyN d), .type t, [t].any (subT (tyN d)), rfl, .ty t, hx.ty (by exact sub) |> fun z => by rw [c.hK]; exact z, ?_, hq.bl sub⟩
    rw [List.any_cons, List.any_nil, Bool.or_false]
    exact kit_ty (kit_all _ (tyN_mem d) _ ht)
/-- the types of a written tuple -/
structure TyE (p : Pl) (es : List Expr) (ts : List String) : Prop where
  run : ∀ X, p.at X → PA X es (fun _ H Q => Q (ts.map V.ty) H)
  mem : ∀ t ∈ ts, t ∈ tyAll
  len : ts.length ≤ 100
theorem ty_nil : TyE p [] [] := ⟨fun X c => PA_imp pa_nil (fun _ _ _ h => h), (fun _ h => by cases h), by decide⟩
theorem ty_cons {es : List Expr} {ts : List String} {x : Str} {t : String} (h : TyE p es ts) (hx : p.mg x = none) (hv : bootBuiltins x = some (.type t) := by decide +kernel) (ht : t ∈ tyAll := by decide) (hgx : Glo p x := by rfl) (hn : x ≠ "__name__" := by decide) (hdb : (x == ("__debug__" : Str)) = false := by decide)
    (hs : ∀ env : Env, starEach (.Name x q1 :: es) env = (false, eval (.Name x q1) env) :: starEach es env := by intro _; rfl) (hl : (t :: ts).length ≤ 100 := by decide) : TyE p (.Name x q1 :: es) (t :: ts) :=
  ⟨fun X c => PA_imp (pa_cons (pe_bltn (v := .ty t) (c.gl hgx) (by rw [c.hmg]; exact hx) hv rfl hn hdb) (h.run X c) (hs X.env)) fun _ _ _ h => h, fun y hy => (List.mem_cons.mp hy).elim (fun z => by rw [z]; exact ht) (h.mem y), hl⟩
theorem de_isiT (b : BI p.mg) {es : List Expr} {ts : List String} {k : Nat} (he : DE p e f) (ht : TyE p es ts) (hg : Glo p "isinstance" := by rfl)
    (hs : ∀ env : Env, starEach [e, .Tuple es k q1] env = (false, eval e env) :: starEach [.Tuple es k q1] env := by intro _; rfl) : DE p (.Call (.Name "isinstance" q) [e, .Tuple es k q1] [] pos) (e1 (isiG ts) f) := fun X W c tk =>
  PE_imp (pe_callB (call_isiT (X := X)) (c.gl hg) (by rw [c.hmg]; exact b.isinstance) (by decide +kernel) (pa_cons (he X W c tk) (pa_cons (pe_tup (ht.run X c)) pa_nil) (hs X.env)) (by decide) (by decide) (hs X.env) rfl) fun σ H Q h => by
    refine rd_mono (rd_e1 h) fun x H1 q => ?_
    obtain ⟨Z, d, r, sub, hx, eg, hq⟩ := q
    cases eg
    refine ⟨by rw [List.length_map]; exact lim_line (Nat.le_trans ht.len (by decide)), fun tp htp => ?_⟩
    have g : Grow Z H1 Z (upd H1 tp (.tup (ts.map V.ty))) := Grow.own sub htp
    refine ⟨x, tp, ts.map V.ty, .type (tyN d), ts.map Value.type, ts.any (subT (tyN d)), rfl, upd_same, ?_, ?_, kit_any (tyN_mem d) ht.mem, ?_⟩
    · clear hq
      have : ∀ l : List String, Paired ClsV (l.map V.ty) (l.map Value.type) := fun l => by
        induction l with
        | nil => exact .nil
        | cons a l ih => exact .cons (.ty a) ih
      exact this ts
    · rw [c.hK]; exact (hx.mono g).ty g.sub
    · exact hq (.bl (ts.any (subT (tyN d)))) Z _ g (show Rp p.K Z (.bl _) _ by simp [Rp])
end

/-! ### methods of texts -/
def strOf : D → Option (List Nat)
  | .str s => some s
  | _ => none
def isStrs : List D → Option (List (List Nat))
  | [] => some []
  | .str i :: r => (isStrs r).map fun l => i :: l
  | _ :: _ => none
def joinG (s : List Nat) (d : D) : Option (D × Bool) :=
  let go := fun l => (isStrs l).bind fun ss => if (ss.map (·.length)).sum + ss.length * s.length ≤ LIM then some (D.str (TL.joinL s ss), false) else none
  match d with
  | .lst l => go l
  | .tup l => go l
  | _ => none
def eM1s (g : List Nat → D → Option (D × Bool)) (f1 f2 : SE) : SE := M.bind f1 fun a => M.bind (get a) fun x => M.bind (M.lift (strOf x)) fun s => M.bind f2 fun b => M.bind (get b) fun y => M.bind (M.lift (g s y)) fun r => M.pure (.v r.1 r.2)
section
variable {K : PySem.W.Frag} {W : WX} {σ : L2.St} {H : Hp}
theorem isStrs_map : ∀ {l : List D} {ns : List (List Nat)}, isStrs l = some ns → l = ns.map D.str
  | [], ns, h => by cases h; rfl
  | .str i :: r, ns, h => by
    simp only [isStrs] at h
    cases e : isStrs r with
    | none => rw [e] at h; cases h
    | some m => rw [e] at h; cases h; rw [isStrs_map e]; rfl
theorem RpL.strs {Z : Hp} : ∀ {ns : List (List Nat)} {xs : List V}, RpL K Z (ns.map D.str) xs → xs = (ns.map fun n => (⟨n.toArray⟩ : Str)).map V.str
  | [], _, h => h.inv0
  | n :: ns, _, h => by
    obtain ⟨x, r, rfl, h1, h2⟩ := h.inv
    rw [RpL.strs h2]
    simp only [Rp] at h1
    rw [h1]; rfl
theorem join_eq' (s : List Nat) (ss : List (List Nat)) : Txt.join ⟨s.toArray⟩ (ss.map fun n => (⟨n.toArray⟩ : Str)) = ⟨(TL.joinL s ss).toArray⟩ := by
  have h := TL.tl_join ⟨s.toArray⟩ (ss.map fun n => (⟨n.toArray⟩ : Str))
  rw [← TL.join_eq] at h
  rw [List.map_map] at h
  have e : (TL.tl ∘ fun (n : List Nat) => (⟨n.toArray⟩ : Str)) = id := by funext n; simp [TL.tl]
  rw [e, List.map_id] at h
  have e2 : TL.tl ⟨s.toArray⟩ = s := by simp [TL.tl]
  rw [e2] at h
  rw [← h]
end
theorem de_join {p : Pl} {o e : Expr} {f g : SE} {apos pos : Pos} (ho : DE p o f) (he : DE p e g) (hs : ∀ env : Env, starEach [e] env = [(false, eval e env)] := by intro _; rfl) (hbase : ∀ X : Cx, attributeBase o "join" X.env (eval o X.env) = eval o X.env := by intro _; rfl)
    (hline : (apos.endLine == pos.line) = true := by rfl) : DE p (.Call (.Attribute o "join" apos) [e] [] pos) (eM1s joinG f g) := fun X W c tk =>
  PE_imp (pe_join (ho X W c tk) (he X W c tk) (hs X.env) (hbase X) hline) fun σ H Q h => by
    obtain ⟨B, Z, σD, s, h⟩ := h
    refine rd_un s h fun r v Z1 σD1 H1 s1 x1 q1 h1 => ?_
    obtain ⟨d, ed, h2⟩ := get_of rfl h1.some
    rw [← h2] at h1
    obtain ⟨t, et, h3⟩ := lift_of rfl h1.some
    rw [← h3] at h1
    have hd : d = .str t := by cases d <;> first | (cases et; rfl) | cases et
    subst hd
    have ev := (q1.ro s1 ed).str
    refine ⟨⟨_, ev⟩, ?_⟩
    refine rd_un s1 h1 fun b y Z2 σD2 H2 s2 x2 q2 h4 => ?_
    obtain ⟨dy, ey, h5⟩ := get_of rfl h4.some
    rw [← h5] at h4
    obtain ⟨z, ez, h6⟩ := lift_of rfl h4.some
    rw [← h6] at h4
    have hy := q2.ro s2 ey
    have hq := Pur.of s2 h4
    subst ev
    have fin : ∀ (l : List D) (a : Addr) (xs : List V), (SqL p.K H2 a xs ∨ SqT p.K H2 a xs) → RpL p.K Z2 l xs → ((isStrs l).bind fun ss => if (ss.map (·.length)).sum + ss.length * t.length ≤ LIM then some (D.str (TL.joinL t ss), false) else none) = some z →
        ∃ a' p', ∃ ys : List Str, V.str ⟨t.toArray⟩ = .str a' ∧ [V.ref a] = [.ref p'] ∧ (SqL X.K H2 p' (ys.map V.str) ∨ SqT X.K H2 p' (ys.map V.str)) ∧ (ys.map (·.length)).sum + ys.length * a'.length ≤ 16777216 ∧ Q (.str (Txt.join a' ys)) H2 := by
      intro l a xs hx hl hz
      cases el : isStrs l with
      | none => rw [el] at hz; cases hz
      | some ss =>
        rw [el] at hz
        simp only [Option.bind] at hz
        split at hz
        · rename_i hsz
          cases hz
          have := isStrs_map el
          subst this
          have := hl.strs
          subst this
          refine ⟨_, a, ss.map fun n => ⟨n.toArray⟩, rfl, rfl, by rw [c.hK]; exact hx, ?_, ?_⟩
          · rw [List.map_map, List.length_map, str_len]
            have e : ((fun x : Str => x.length) ∘ fun (n : List Nat) => (⟨n.toArray⟩ : Str)) = List.length := by funext n; simp [Str.length]
            rw [show ((·.length) ∘ fun (n : List Nat) => (⟨n.toArray⟩ : Str)) = List.length from e]
            have : LIM = 1000000 := rfl
            have hsz' : (ss.map List.length).sum + ss.length * t.length ≤ LIM := hsz
            omega
          · rw [join_eq']; exact hq.str s2.sub
        · cases hz
    cases dy with
    | lst l =>
      obtain ⟨a, xs, rfl, k1, k2⟩ := hy.lst s2.sub
      exact fin l a xs (.inl k1) k2 ez
    | tup l =>
      obtain ⟨a, xs, rfl, k1, _, k2⟩ := hy.tup s2.sub
      exact fin l a xs (.inr k1) k2 ez
    | _ => cases ez
end Ev

set_option Elab.async false
set_option linter.all false
set_option maxRecDepth 100000
/-! Ev, part K: slots set, pinned, hidden; what is walked; targets. -/
namespace Ev
open PySem PySem.Spec PyProof.Rows L2

theorem lset_get {α : Type} {l : List α} {i j : Nat} {x : α} : (l.set i x)[j]? = if i = j then (if i < l.length then some x else none) else l[j]? := by
  rw [List.getElem?_set]
theorem Held.inj {σ : Fr} {i : Nat} {d e : D} (h : Held σ i d) (h' : Held σ i e) : d = e := by
  rcases h with h | h <;> rcases h' with h' | h' <;> rw [h] at h' <;> cases h' <;> rfl
theorem Held.lt {σ : Fr} {i : Nat} {d : D} (h : Held σ i d) : i < σ.length := by
  rcases h with h | h <;> exact (List.getElem?_eq_some_iff.mp h).1
section
variable {K : PySem.W.Frag} {B C : Bd} {Z Z' H H' : Hp} {σD σD' : Fr} {σ σ' : L2.St} {r : R} {v : V} {d : D}
def NPar (σD : Fr) (i : Nat) : Prop := i < σD.length ∧ ∀ d, σD[i]? ≠ some (.par d)
/-- what held slots are, by a slot set to something that is not held -/
theorem held_put {i j : Nat} {d e : D} (hj : Held (List.set σD i (Sl.fro d)) j e) : j ≠ i ∧ Held σD j e := by
  by_cases hji : j = i
  · subst hji
    unfold Held at hj
    rw [lset_get] at hj
    rw [if_pos rfl] at hj
    split at hj <;> rcases hj with hj | hj <;> cases hj
  · refine ⟨hji, ?_⟩
    unfold Held at hj ⊢
    rw [List.getElem?_set_ne (Ne.symm hji)] at hj
    exact hj
theorem Sta.setF {i : Nat} (s : Sta K B Z σD σ H) (hi : NPar σD i) (r : Rp K Z d v) : Sta K B Z (σD.set i (.fro d)) (σ.set i (some v)) H where
  sub := s.sub
  len := by simpa using s.len
  bz := s.bz
  fro := fun j e hj => by
    by_cases h : i = j
    · subst h
      rw [List.getElem?_set_self hi.1] at hj
      cases hj
      exact ⟨v, List.getElem?_set_self (by rw [← s.len]; exact hi.1), r⟩
    · rw [List.getElem?_set_ne h] at hj ⊢
      exact s.fro j e hj
  own := fun j e hj => by
    obtain ⟨h1, h2⟩ := held_put hj
    rw [List.getElem?_set_ne (Ne.symm h1)]
    exact s.own j e h2
  inj := fun j k e f a hj hk ej ek => by
    obtain ⟨h1, h2⟩ := held_put hj
    obtain ⟨h3, h4⟩ := held_put hk
    rw [List.getElem?_set_ne (Ne.symm h1)] at ej
    rw [List.getElem?_set_ne (Ne.symm h3)] at ek
    exact s.inj j k e f a h2 h4 ej ek
  pa := fun j a hj => by
    obtain ⟨h1, e, h2⟩ := s.pa j a hj
    have hne : i ≠ j := fun z => by subst z; exact hi.2 e h2
    rw [List.getElem?_set_ne hne, List.getElem?_set_ne hne]
    exact ⟨h1, e, h2⟩
theorem Sta.setO {i : Nat} {a : Addr} (s : Sta K B Z σD σ H) (hi : NPar σD i) (nb : ¬ B a) (z : Z a = none) (c : Cont K Z (H a) d) (n : ∀ (j : Nat) (e : D), j ≠ i → Held σD j e → σ[j]? ≠ some (some (.ref a))) :
    Sta K B Z (σD.set i (.own d)) (σ.set i (some (.ref a))) H where
  sub := s.sub
  len := by simpa using s.len
  bz := s.bz
  fro := fun j e hj => by
    by_cases h : i = j
    · subst h
      rw [List.getElem?_set_self hi.1] at hj
      cases hj
    · rw [List.getElem?_set_ne h] at hj ⊢
      exact s.fro j e hj
  own := fun j e hj => by
    by_cases h : i = j
    · subst h
      unfold Held at hj
      rw [List.getElem?_set_self hi.1] at hj
      rcases hj with hj | hj <;> cases hj
      exact ⟨a, List.getElem?_set_self (by rw [← s.len]; exact hi.1), nb, z, c⟩
    · unfold Held at hj
      rw [List.getElem?_set_ne h] at hj ⊢
      exact s.own j e hj
  inj := fun j k e f b hj hk ej ek => by
    have side : ∀ {j : Nat} {e : D}, Held (σD.set i (.own d)) j e → i ≠ j → Held σD j e := fun hj h => by
      unfold Held at hj ⊢
      rw [List.getElem?_set_ne h] at hj
      exact hj
    by_cases h : i = j
    · by_cases h' : i = k
      · exact h.symm.trans h'
      · subst h
        rw [List.getElem?_set_self (by rw [← s.len]; exact hi.1)] at ej
        cases ej
        rw [List.getElem?_set_ne h'] at ek
        exact absurd ek (n k f (Ne.symm h') (side hk h'))
    · by_cases h' : i = k
      · subst h'
        rw [List.getElem?_set_self (by rw [← s.len]; exact hi.1)] at ek
        cases ek
        rw [List.getElem?_set_ne h] at ej
        exact absurd ej (n j e (Ne.symm h) (side hj h))
      · rw [List.getElem?_set_ne h] at ej
        rw [List.getElem?_set_ne h'] at ek
        exact s.inj j k e f b (side hj h) (side hk h') ej ek
  pa := fun j b hj => by
    obtain ⟨h1, e, h2⟩ := s.pa j b hj
    have hne : i ≠ j := fun z => by subst z; exact hi.2 e h2
    rw [List.getElem?_set_ne hne, List.getElem?_set_ne hne]
    exact ⟨h1, e, h2⟩

/-! ### pins -/
def pinD (σ : Fr) : List (Nat × D) → Fr
  | [] => σ
  | (i, d) :: ws => (pinD σ ws).set i (.par d)
def pinB (B : Bd) (σ : L2.St) (ws : List (Nat × D)) : Bd :=
  ⟨B.b, fun j => if j ∈ ws.map (·.1) then (match σ[j]? with | some (some (.ref a)) => some a | _ => none) else B.pa j⟩
def okW (σ : Fr) (ws : List (Nat × D)) : Prop := ∀ w ∈ ws, σ[w.1]? = some (.par w.2)
instance (σ : Fr) (ws : List (Nat × D)) : Decidable (okW σ ws) := inferInstanceAs (Decidable (∀ w ∈ ws, σ[w.1]? = some (.par w.2)))
def PinOk (σ : L2.St) (C : Bd) (ws : List (Nat × D)) : Prop := ∀ w ∈ ws, ∀ a, σ[w.1]? = some (some (.ref a)) → C.pa w.1 = some a
def restore (σ0 : Fr) : List Nat → Fr → Fr
  | [], σ => σ
  | j :: js, σ => match σ0[j]? with
    | some l => (restore σ0 js σ).set j l
    | none => restore σ0 js σ
theorem pinD_len {ws : List (Nat × D)} : (pinD σD ws).length = σD.length := by
  induction ws with
  | nil => rfl
  | cons w ws ih => obtain ⟨i, d⟩ := w; simp [pinD, ih]
theorem pinD_out {ws : List (Nat × D)} {j : Nat} (h : j ∉ ws.map (·.1)) : (pinD σD ws)[j]? = σD[j]? := by
  induction ws with
  | nil => rfl
  | cons w ws ih =>
    obtain ⟨i, d⟩ := w
    simp only [List.map_cons, List.mem_cons, not_or] at h
    rw [pinD, List.getElem?_set_ne (Ne.symm h.1), ih h.2]
theorem pinD_in {ws : List (Nat × D)} (hw : ∀ w ∈ ws, Held σD w.1 w.2) : ∀ w ∈ ws, (pinD σD ws)[w.1]? = some (.par w.2) := by
  induction ws with
  | nil => intro w h; cases h
  | cons w ws ih =>
    obtain ⟨i, d⟩ := w
    intro x hx
    have hd := hw (i, d) List.mem_cons_self
    by_cases h : i = x.1
    · have e : x.2 = d := by
        have := hw x hx
        rw [← h] at this
        exact this.inj hd
      rw [pinD, ← h, List.getElem?_set_self (by rw [pinD_len]; exact hd.lt), e]
    · rw [pinD, List.getElem?_set_ne h]
      rcases List.mem_cons.mp hx with rfl | hx
      · exact absurd rfl h
      · exact ih (fun w h => hw w (List.mem_cons_of_mem _ h)) x hx
theorem pinD_held {ws : List (Nat × D)} (hw : ∀ w ∈ ws, Held σD w.1 w.2) {j : Nat} {e : D} : Held (pinD σD ws) j e ↔ Held σD j e := by
  by_cases h : j ∈ ws.map (·.1)
  · obtain ⟨w, hm, rfl⟩ := List.mem_map.mp h
    have h1 := pinD_in hw w hm
    constructor
    · intro q
      have : Held (pinD σD ws) w.1 w.2 := .inr h1
      rw [q.inj this]; exact hw w hm
    · intro q
      rw [q.inj (hw w hm)]; exact .inr h1
  · unfold Held; rw [pinD_out h]
theorem restore_len {σ0 : Fr} {js : List Nat} : (restore σ0 js σD).length = σD.length := by
  induction js with
  | nil => rfl
  | cons j js ih =>
    unfold restore
    cases σ0[j]? with
    | none => exact ih
    | some l => simpa using ih
theorem restore_get2 {σ0 : Fr} {js : List Nat} (hl : ∀ j ∈ js, (j < σD.length ↔ j < σ0.length)) (j : Nat) : (restore σ0 js σD)[j]? = if j ∈ js then σ0[j]? else σD[j]? := by
  induction js with
  | nil => simp [restore]
  | cons i js ih =>
    have ih := ih fun j h => hl j (List.mem_cons_of_mem _ h)
    have hi := hl i List.mem_cons_self
    unfold restore
    cases e : σ0[i]? with
    | none =>
      show (restore σ0 js σD)[j]? = _
      rw [ih]
      by_cases h : j = i
      · subst h
        have : σD.length ≤ j := by have := List.getElem?_eq_none_iff.mp e; omega
        rw [e, List.getElem?_eq_none this]; simp
      · simp [h]
    | some l =>
      show (List.set (restore σ0 js σD) i l)[j]? = _
      rw [lset_get]
      by_cases h : i = j
      · subst h
        have hi : i < (restore σ0 js σD).length := by rw [restore_len]; exact hi.mpr (List.getElem?_eq_some_iff.mp e).1
        rw [if_pos rfl, if_pos hi, e]; simp
      · rw [if_neg h, ih]; simp [Ne.symm h]
theorem restore_get {σ0 : Fr} {js : List Nat} (hl : σD.length = σ0.length) (j : Nat) : (restore σ0 js σD)[j]? = if j ∈ js then σ0[j]? else σD[j]? :=
  restore_get2 (fun j _ => by rw [hl]) j
theorem restore_getW {σ0 : Fr} {ws : List (Nat × D)} (hw : ∀ w ∈ ws, Held σ0 w.1 w.2) (ok : okW σD ws) (j : Nat) : (restore σ0 (ws.map (·.1)) σD)[j]? = if j ∈ ws.map (·.1) then σ0[j]? else σD[j]? :=
  restore_get2 (fun j h => by
    obtain ⟨w, hm, rfl⟩ := List.mem_map.mp h
    exact ⟨fun _ => (hw w hm).lt, fun _ => (List.getElem?_eq_some_iff.mp (ok w hm)).1⟩) j
theorem pinB_le {ws : List (Nat × D)} (s : Sta K B Z σD σ H) : Bd.Le B (pinB B σ ws) := ⟨fun _ h => h, fun i a h => by
  show (if i ∈ ws.map (·.1) then _ else B.pa i) = some a
  split
  · rw [(s.pa i a h).1]
  · exact h⟩
theorem pinB_ok {ws : List (Nat × D)} : PinOk σ (pinB B σ ws) ws := fun w hw a e => by
  show (if w.1 ∈ ws.map (·.1) then _ else B.pa w.1) = some a
  rw [if_pos (List.mem_map_of_mem hw), e]
theorem Sta.pin {ws : List (Nat × D)} (s : Sta K B Z σD σ H) (hw : ∀ w ∈ ws, Held σD w.1 w.2) : Sta K (pinB B σ ws) Z (pinD σD ws) σ H where
  sub := s.sub
  len := by rw [pinD_len]; exact s.len
  bz := s.bz
  fro := fun i d h => by
    by_cases hi : i ∈ ws.map (·.1)
    · obtain ⟨w, hm, rfl⟩ := List.mem_map.mp hi
      rw [pinD_in hw w hm] at h; cases h
    · rw [pinD_out hi] at h; exact s.fro i d h
  own := fun i d h => s.own i d ((pinD_held hw).mp h)
  inj := fun i j d e a h h' => s.inj i j d e a ((pinD_held hw).mp h) ((pinD_held hw).mp h')
  pa := fun i a h => by
    have h : (if i ∈ ws.map (·.1) then (match σ[i]? with | some (some (.ref a)) => some a | _ => none) else B.pa i) = some a := h
    split at h
    · rename_i hi
      obtain ⟨w, hm, rfl⟩ := List.mem_map.mp hi
      obtain ⟨b, e, _⟩ := s.own _ _ (hw w hm)
      rw [e] at h
      cases h
      exact ⟨e, w.2, pinD_in hw w hm⟩
    · rename_i hi
      obtain ⟨h1, d, h2⟩ := s.pa i a h
      exact ⟨h1, d, by rw [pinD_out hi]; exact h2⟩
theorem Sta.unpin {ws : List (Nat × D)} {Z0 H0 : Hp} {σD0 : Fr} {σ0 : L2.St} (s0 : Sta K B Z0 σD0 σ0 H0) (hw : ∀ w ∈ ws, Held σD0 w.1 w.2) (s : Sta K (pinB B σ0 ws) Z σD σ H) (ok : okW σD ws) :
    Sta K B Z (restore σD0 (ws.map (·.1)) σD) σ H := by
  have hh : ∀ {i : Nat} {d : D}, Held (restore σD0 (ws.map (·.1)) σD) i d → Held σD i d := fun {i d} h => by
    by_cases hi : i ∈ ws.map (·.1)
    · obtain ⟨w, hm, rfl⟩ := List.mem_map.mp hi
      unfold Held at h
      rw [restore_getW hw ok, if_pos hi] at h
      rw [Held.inj (show Held σD0 w.1 d from h) (hw w hm)]
      exact .inr (ok w hm)
    · unfold Held at h ⊢
      rw [restore_getW hw ok, if_neg hi] at h
      exact h
  refine ⟨s.sub, by rw [restore_len]; exact s.len, s.bz, fun i d h => ?_, fun i d h => s.own i d (hh h), fun i j d e a h h' => s.inj i j d e a (hh h) (hh h'), fun i a h => ?_⟩
  · by_cases hi : i ∈ ws.map (·.1)
    · obtain ⟨w, hm, rfl⟩ := List.mem_map.mp hi
      rw [restore_getW hw ok, if_pos hi] at h
      rcases hw w hm with q | q <;> rw [h] at q <;> cases q
    · rw [restore_getW hw ok, if_neg hi] at h
      exact s.fro i d h
  · obtain ⟨h1, d, h2⟩ := s.pa i a ((pinB_le s0).pa i a h)
    refine ⟨h1, ?_⟩
    rw [restore_getW hw ok]
    split
    · exact (s0.pa i a h).2
    · exact ⟨d, h2⟩

/-! ### a block's slots -/
def wipeD (σ : Fr) : List Nat → Fr
  | [] => σ
  | v :: vs => (wipeD σ vs).set v .no
theorem wipeD_len {vs : List Nat} : (wipeD σD vs).length = σD.length := by
  induction vs with
  | nil => rfl
  | cons v vs ih => simp [wipeD, ih]
theorem wipeD_in {vs : List Nat} {i : Nat} (h : i ∈ vs) : (wipeD σD vs)[i]? = none ∨ (wipeD σD vs)[i]? = some .no := by
  induction vs with
  | nil => cases h
  | cons v vs ih =>
    rw [wipeD, lset_get]
    by_cases e : v = i
    · rw [if_pos e]; split
      · exact .inr rfl
      · exact .inl rfl
    · rw [if_neg e]
      exact ih ((List.mem_cons.mp h).resolve_left fun z => e z.symm)
theorem wipeD_out {vs : List Nat} {i : Nat} (h : i ∉ vs) : (wipeD σD vs)[i]? = σD[i]? := by
  induction vs with
  | nil => rfl
  | cons v vs ih =>
    simp only [List.mem_cons, not_or] at h
    rw [wipeD, List.getElem?_set_ne (Ne.symm h.1), ih h.2]
theorem wipeD_held {vs : List Nat} {i : Nat} {d : D} (h : Held (wipeD σD vs) i d) : i ∉ vs ∧ Held σD i d := by
  by_cases hi : i ∈ vs
  · unfold Held at h
    rcases wipeD_in (σD := σD) hi with e | e <;> rw [e] at h <;> rcases h with h | h <;> cases h
  · refine ⟨hi, ?_⟩
    unfold Held at h ⊢
    rw [wipeD_out hi] at h
    exact h
theorem wipe_at {vs : List Nat} {i : Nat} (h : i ∉ vs) : (wipe σ vs)[i]? = σ[i]? := by
  induction vs with
  | nil => rfl
  | cons v vs ih =>
    simp only [List.mem_cons, not_or] at h
    rw [wipe, List.getElem?_set_ne (Ne.symm h.1), ih h.2]
theorem wipe_same {σ σ' : L2.St} {vs : List Nat} (hl : σ'.length = σ.length) (h : ∀ j, j ∉ vs → σ'[j]? = σ[j]?) : wipe σ' vs = wipe σ vs := by
  apply List.ext_getElem?
  intro j
  by_cases hj : j ∈ vs
  · have side : ∀ (σ : L2.St) (vs : List Nat), j ∈ vs → (wipe σ vs)[j]? = if j < σ.length then some none else none := fun σ vs hj => by
      induction vs with
      | nil => cases hj
      | cons v vs ih =>
        rw [wipe, lset_get, wipe_length]
        by_cases e : v = j
        · rw [if_pos e, e]
        · rw [if_neg e]
          exact ih ((List.mem_cons.mp hj).resolve_left fun z => e z.symm)
    rw [side σ' vs hj, side σ vs hj, hl]
  · rw [wipe_at hj, wipe_at hj, h j hj]
/-- slots given up -/
theorem Sta.wipe {vs : List Nat} (s : Sta K B Z σD σ H) (hp : ∀ i ∈ vs, B.pa i = none) : Sta K B Z (wipeD σD vs) (L2.wipe σ vs) H where
  sub := s.sub
  len := by rw [wipeD_len, wipe_length]; exact s.len
  bz := s.bz
  fro := fun i d h => by
    by_cases hi : i ∈ vs
    · rcases wipeD_in (σD := σD) hi with e | e <;> rw [e] at h <;> cases h
    · rw [wipeD_out hi] at h; rw [wipe_at hi]; exact s.fro i d h
  own := fun i d h => by
    obtain ⟨hi, h⟩ := wipeD_held h
    rw [wipe_at hi]; exact s.own i d h
  inj := fun i j d e a h h' q q' => by
    obtain ⟨hi, h⟩ := wipeD_held h
    obtain ⟨hj, h'⟩ := wipeD_held h'
    rw [wipe_at hi] at q
    rw [wipe_at hj] at q'
    exact s.inj i j d e a h h' q q'
  pa := fun i a h => by
    have hi : i ∉ vs := fun z => by rw [hp i z] at h; cases h
    rw [wipe_at hi, wipeD_out hi]
    exact s.pa i a h
/-- the bounds of a block: the objects of its own slots are hidden -/
def blkB (B : Bd) (σD : Fr) (σ : L2.St) (vs : List Nat) : Bd :=
  ⟨fun a => B a ∨ ∃ i ∈ vs, ∃ d, Held σD i d ∧ σ[i]? = some (some (.ref a)), fun j => if j ∈ vs then none else B.pa j⟩
theorem blkB_pa {vs : List Nat} : ∀ i ∈ vs, (blkB B σD σ vs).pa i = none := fun i hi => by
  show (if i ∈ vs then none else B.pa i) = none
  rw [if_pos hi]
theorem Sta.hide {vs : List Nat} (s : Sta K B Z σD σ H) : Sta K (blkB B σD σ vs) Z (wipeD σD vs) (L2.wipe σ vs) H where
  sub := s.sub
  len := by rw [wipeD_len, wipe_length]; exact s.len
  bz := fun a h => by
    rcases h with h | ⟨i, hi, d, h, e⟩
    · exact s.bz a h
    · obtain ⟨b, eb, nb, z, c⟩ := s.own i d h
      rw [e] at eb; cases eb
      obtain ⟨u, hu, _⟩ := c.obj
      exact ⟨z, by rw [hu]; simp⟩
  fro := fun i d h => by
    by_cases hi : i ∈ vs
    · rcases wipeD_in (σD := σD) hi with e | e <;> rw [e] at h <;> cases h
    · rw [wipeD_out hi] at h; rw [wipe_at hi]; exact s.fro i d h
  own := fun i d h => by
    obtain ⟨hi, h⟩ := wipeD_held h
    rw [wipe_at hi]
    obtain ⟨a, e, nb, z, c⟩ := s.own i d h
    refine ⟨a, e, fun q => ?_, z, c⟩
    rcases q with q | ⟨j, hj, d', h', e'⟩
    · exact nb q
    · have := s.inj i j d d' a h h' e e'
      subst this
      exact hi hj
  inj := fun i j d e a h h' q q' => by
    obtain ⟨hi, h⟩ := wipeD_held h
    obtain ⟨hj, h'⟩ := wipeD_held h'
    rw [wipe_at hi] at q
    rw [wipe_at hj] at q'
    exact s.inj i j d e a h h' q q'
  pa := fun i a h => by
    have h : (if i ∈ vs then none else B.pa i) = some a := h
    split at h
    · cases h
    · rename_i hi
      rw [wipe_at hi, wipeD_out hi]
      exact s.pa i a h
theorem Sta.unhide {vs : List Nat} {Z0 H0 : Hp} {σD0 : Fr} (s0 : Sta K B Z0 σD0 σ H0) (s : Sta K (blkB B σD0 σ vs) Z σD (L2.wipe σ vs) H) (xs : Sub Z0 Z) (xk : ∀ a i, i ∈ vs → ∀ d, Held σD0 i d → σ[i]? = some (some (.ref a)) → H a = H0 a) : Sta K B Z (restore σD0 vs σD) σ H := by
  have hl : σD.length = σD0.length := by have := s.len; rw [wipe_length] at this; rw [this, s0.len]
  have at_in : ∀ {i : Nat}, i ∈ vs → (restore σD0 vs σD)[i]? = σD0[i]? := fun hi => by rw [restore_get hl, if_pos hi]
  have at_out : ∀ {i : Nat}, i ∉ vs → (restore σD0 vs σD)[i]? = σD[i]? := fun hi => by rw [restore_get hl, if_neg hi]
  have own : ∀ (i : Nat) (d : D), Held (restore σD0 vs σD) i d → ∃ a, σ[i]? = some (some (.ref a)) ∧ ¬ B a ∧ Z a = none ∧ Cont K Z (H a) d ∧ ((i ∈ vs ∧ Held σD0 i d) ∨ (i ∉ vs ∧ Held σD i d ∧ ¬ blkB B σD0 σ vs a)) := fun i d h => by
    by_cases hi : i ∈ vs
    · have h' : Held σD0 i d := by unfold Held at h ⊢; rw [at_in hi] at h; exact h
      obtain ⟨a, e, nb, z, c⟩ := s0.own i d h'
      have hb : blkB B σD0 σ vs a := .inr ⟨i, hi, d, h', e⟩
      exact ⟨a, e, nb, (s.bz a hb).1, by rw [xk a i hi d h' e]; exact c.mono xs, .inl ⟨hi, h'⟩⟩
    · have h' : Held σD i d := by unfold Held at h ⊢; rw [at_out hi] at h; exact h
      obtain ⟨a, e, nb, z, c⟩ := s.own i d h'
      rw [wipe_at hi] at e
      exact ⟨a, e, fun q => nb (.inl q), z, c, .inr ⟨hi, h', nb⟩⟩
  refine ⟨s.sub, by rw [restore_len, s.len, wipe_length], fun a h => s.bz a (.inl h), fun i d h => ?_, fun i d h => ?_, fun i j d e a h h' q q' => ?_, fun i a h => ?_⟩
  · by_cases hi : i ∈ vs
    · rw [at_in hi] at h
      obtain ⟨v, e, q⟩ := s0.fro i d h
      exact ⟨v, e, q.mono xs⟩
    · rw [at_out hi] at h
      obtain ⟨v, e, q⟩ := s.fro i d h
      rw [wipe_at hi] at e
      exact ⟨v, e, q⟩
  · obtain ⟨a, e, nb, z, c, _⟩ := own i d h
    exact ⟨a, e, nb, z, c⟩
  · obtain ⟨b, eb, _, _, _, k1⟩ := own i d h
    obtain ⟨c, ec, _, _, _, k2⟩ := own j e h'
    rw [q] at eb; cases eb
    rw [q'] at ec; cases ec
    rcases k1 with ⟨i1, i2⟩ | ⟨i1, i2, i3⟩
    · rcases k2 with ⟨j1, j2⟩ | ⟨j1, j2, j3⟩
      · exact s0.inj i j d e a i2 j2 q q'
      · exact absurd (Or.inr ⟨i, i1, d, i2, q⟩) j3
    · rcases k2 with ⟨j1, j2⟩ | ⟨j1, j2, j3⟩
      · exact absurd (Or.inr ⟨j, j1, e, j2, q'⟩) i3
      · exact s.inj i j d e a i2 j2 (by rw [wipe_at i1]; exact q) (by rw [wipe_at j1]; exact q')
  · obtain ⟨h1, d, h2⟩ := s0.pa i a h
    refine ⟨h1, ?_⟩
    by_cases hi : i ∈ vs
    · exact ⟨d, by rw [at_in hi]; exact h2⟩
    · have hb : (blkB B σD0 σ vs).pa i = some a := by
        show (if i ∈ vs then none else B.pa i) = some a
        rw [if_neg hi]; exact h
      obtain ⟨_, e, h3⟩ := s.pa i a hb
      exact ⟨e, by rw [at_out hi]; exact h3⟩
/-- one more object of others -/
def Bd.add (B : Bd) (a : Addr) : Bd := ⟨fun b => B b ∨ b = a, B.pa⟩
theorem Sta.add {a : Addr} (s : Sta K B Z σD σ H) (h : H a ≠ none) (z : Z a = none) (n : ∀ (i : Nat) (e : D), Held σD i e → σ[i]? ≠ some (some (.ref a))) : Sta K (B.add a) Z σD σ H where
  sub := s.sub
  len := s.len
  bz := fun b hb => hb.elim (s.bz b) fun e => by subst e; exact ⟨z, h⟩
  fro := s.fro
  own := fun i d q => let ⟨b, e, nb, z, c⟩ := s.own i d q; ⟨b, e, fun w => w.elim nb fun eb => n i d q (by rw [e, eb]), z, c⟩
  inj := s.inj
  pa := s.pa
theorem Bd.add_le {a : Addr} : Bd.Le B (B.add a) := ⟨fun _ h => .inl h, fun _ _ h => h⟩
/-- an object of others is changed by its owner -/
theorem Sta.upd {a : Addr} {o : HO} (s : Sta K B Z σD σ H) (h : B a) : Sta K B Z σD σ (L2.upd H a o) where
  sub := fun b u e => by
    have hb : b ≠ a := fun z => by subst z; rw [(s.bz b h).1] at e; cases e
    rw [upd_ne hb]; exact s.sub b u e
  len := s.len
  bz := fun b hb => by
    refine ⟨(s.bz b hb).1, ?_⟩
    by_cases e : b = a
    · subst e; rw [upd_same]; simp
    · rw [upd_ne e]; exact (s.bz b hb).2
  fro := s.fro
  own := fun i d q => by
    obtain ⟨b, e, nb, z, c⟩ := s.own i d q
    have hb : b ≠ a := fun z => nb (by rw [z]; exact h)
    exact ⟨b, e, nb, z, by rw [upd_ne hb]; exact c⟩
  inj := s.inj
  pa := s.pa
end
end Ev

set_option Elab.async false
set_option linter.all false
set_option maxRecDepth 100000
/-! Ev, part L: what a loop walks; targets. -/
namespace Ev
open PySem PySem.Spec PyProof.Rows L2

def M.no {α : Type} : M α := fun _ => none
/-- what is walked: the items; the slots whose lists are walked, with their trees -/
structure Src where
  items : List D
  ws : List (Nat × D)
structure Walk (K : PySem.W.Frag) (Z0 : Hp) (σ0 : L2.St) (s : Src) (J : It) : Prop where
  go : ∀ C Z σD σ H, Sta K C Z σD σ H → Sub Z0 Z → PinOk σ0 C s.ws → okW σD s.ws → ∀ i x, s.items[i]? = some x → J.go i H ∧ ∀ v H', J.yld i H v H' → ∃ Z', Grow Z H Z' H' ∧ Rp K Z' x v
  stop : ∀ C Z σD σ H, Sta K C Z σD σ H → Sub Z0 Z → PinOk σ0 C s.ws → okW σD s.ws → J.stop s.items.length H
def rdI (K : PySem.W.Frag) (W : WX) (m : M Src) : TI := fun σ H R => ∃ B Z σD, Sta K B Z σD σ H ∧ Aft K W (fun s Z' σD' H' => ∀ J, Walk K Z' σ s J → R J H') σ B Z H (m σD)
def DI (p : Pl) (tg e : Expr) (m : M Src) : Prop := ∀ X W, p.at X → Takes X W → PI X tg e (rdI p.K W m)
theorem PI_imp {X : Cx} {tg e : Expr} {w w' : TI} (h : PI X tg e w) (i : ∀ σ H R, w' σ H R → w σ H R) : PI X tg e w' := ⟨fun pins s σ H R I q => h.run pins s σ H R I (i σ H R q)⟩
theorem PI_or {X : Cx} {tg e : Expr} {w w' : TI} (h : PI X tg e w) (h' : PI X tg e w') : PI X tg e (fun σ H R => w σ H R ∨ w' σ H R) :=
  ⟨fun pins s σ H R I q => q.elim (h.run pins s σ H R I) (h'.run pins s σ H R I)⟩

/-- the tree of what is walked; a list that a slot holds is watched -/
def take1 (r : R) : M (D × List (Nat × D)) := fun σ => match r with
  | .v d _ => some (.ok (d, []), σ)
  | .s i => match σ[i]? with
    | some (.fro d) => some (.ok (d, []), σ)
    | some (.own d) => some (.ok (d, [(i, d)]), σ)
    | some (.par d) => some (.ok (d, [(i, d)]), σ)
    | _ => none
def Fol (K : PySem.W.Frag) (Z0 : Hp) (σ0 : L2.St) (d : D) (v : V) (ws : List (Nat × D)) : Prop :=
  ∀ C Z σD σ H, Sta K C Z σD σ H → Sub Z0 Z → PinOk σ0 C ws → okW σD ws → RO K Z H d v
section
variable {K : PySem.W.Frag} {W : WX} {B C : Bd} {Z Z' H H' : Hp} {σD σD' : Fr} {σ : L2.St} {r : R} {v : V} {d : D}
theorem Fol.of (h : Rp K Z d v) {ws : List (Nat × D)} : Fol K Z σ d v ws := fun C Z1 σD1 σ1 H1 s x p o => .inl (h.mono x)
theorem Fol.later {ws : List (Nat × D)} (h : Fol K Z σ d v ws) (x : Sub Z Z') : Fol K Z' σ d v ws := fun C Z1 σD1 σ1 H1 s x' p o => h C Z1 σD1 σ1 H1 s (x.trans x') p o
theorem Fol.left {ws ws' : List (Nat × D)} (h : Fol K Z σ d v ws) : Fol K Z σ d v (ws ++ ws') := fun C Z1 σD1 σ1 H1 s x' p o =>
  h C Z1 σD1 σ1 H1 s x' (fun w hw => p w (List.mem_append_left _ hw)) fun w hw => o w (List.mem_append_left _ hw)
theorem Fol.right {ws ws' : List (Nat × D)} (h : Fol K Z σ d v ws') : Fol K Z σ d v (ws ++ ws') := fun C Z1 σD1 σ1 H1 s x' p o =>
  h C Z1 σD1 σ1 H1 s x' (fun w hw => p w (List.mem_append_right _ hw)) fun w hw => o w (List.mem_append_right _ hw)
theorem take1_ok (s : Sta K B Z σD σ H) (q : RR K B Z σD σ H r v) {o : Re (D × List (Nat × D))} (e : take1 r σD = some (o, σD')) : ∃ d ws, o = .ok (d, ws) ∧ σD' = σD ∧ ∃ Z', Sta K B Z' σD σ H ∧ Ext B Z H Z' H ∧ Fol K Z' σ d v ws ∧ RO K Z' H d v ∧
    (∀ a, ¬ Tmp B r v a → (∀ (i : Nat) (e : D), Held σD i e → σ[i]? ≠ some (some (.ref a))) → Z' a = Z a) := by
  cases r with
  | v d o' =>
    have e' : Re.ok (d, []) = o ∧ σD = σD' := by simpa [take1] using e
    obtain ⟨rfl, rfl⟩ := e'
    obtain ⟨d', ed, Z', s', x', r', n', _⟩ := alias_ok (o := .ok d) (σD' := σD) s q rfl
    cases ed
    exact ⟨d, [], rfl, rfl, Z', s', x', Fol.of r', .inl r', n'⟩
  | s i =>
    have q : σ[i]? = some (some v) := q
    unfold take1 at e
    have held : ∀ d, Held σD i d → Fol K Z σ d v [(i, d)] := fun d hd C Z1 σD1 σ1 H1 s1 x p o => by
      obtain ⟨a, e1, nb, z, c⟩ := s.own i d hd
      rw [q] at e1; cases e1
      obtain ⟨h1, d', h2⟩ := s1.pa i a (p (i, d) (by simp) a q)
      have h3 := o (i, d) (by simp)
      obtain ⟨b, e2, _, _, c2⟩ := s1.own i d (.inr h3)
      rw [h1] at e2; cases e2
      exact .inr ⟨a, rfl, c2⟩
    have now : ∀ d, Held σD i d → RO K Z H d v := fun d hd => by
      obtain ⟨a, e1, nb, z, c⟩ := s.own i d hd
      rw [q] at e1; cases e1
      exact .inr ⟨a, rfl, c⟩
    cases h : σD[i]? with
    | none => simp [h] at e
    | some l =>
      cases l with
      | no => simp [h] at e
      | fro x =>
        simp [h] at e
        obtain ⟨rfl, rfl⟩ := e
        obtain ⟨v', h1, h2⟩ := s.fro i x h
        rw [q] at h1; cases h1
        exact ⟨x, [], rfl, rfl, Z, s, Ext.refl B Z H, Fol.of h2, .inl h2, fun _ _ _ => rfl⟩
      | own x =>
        simp [h] at e
        obtain ⟨rfl, rfl⟩ := e
        exact ⟨x, [(i, x)], rfl, rfl, Z, s, Ext.refl B Z H, held x (.inl h), now x (.inl h), fun _ _ _ => rfl⟩
      | par x =>
        simp [h] at e
        obtain ⟨rfl, rfl⟩ := e
        exact ⟨x, [(i, x)], rfl, rfl, Z, s, Ext.refl B Z H, held x (.inr h), now x (.inr h), fun _ _ _ => rfl⟩

/-! ### over a list, a tuple, a text -/
def itemsOf : D → Option (List D)
  | .lst l => some l
  | .tup l => some l
  | .str s => some (s.map fun c => .str [c])
  | _ => none
def srcL (f : SE) : M Src := M.bind f fun r => M.bind (take1 r) fun q => M.bind (M.lift (itemsOf q.1)) fun l => M.pure ⟨l, q.2⟩
theorem walk_list {l : List D} {a : Addr} {ws : List (Nat × D)} (h : Fol K Z σ (.lst l) (.ref a) ws) : Walk K Z σ ⟨l, ws⟩ (Itl K a) where
  go := fun C Z1 σD1 σ1 H1 s x p o i y hy => by
    obtain ⟨b, xs, e, q, r⟩ := (h C Z1 σD1 σ1 H1 s x p o).lst s.sub
    cases e
    obtain ⟨u, hu, ru⟩ := r.get hy
    refine ⟨⟨xs, u, q, hu⟩, fun v H' hv => ?_⟩
    obtain ⟨rfl, hv⟩ := hv
    have := hv xs q
    rw [hu] at this; cases this
    exact ⟨Z1, Grow.refl s.sub, ru⟩
  stop := fun C Z1 σD1 σ1 H1 s x p o => by
    obtain ⟨b, xs, e, q, r⟩ := (h C Z1 σD1 σ1 H1 s x p o).lst s.sub
    cases e
    exact ⟨xs, q, Nat.le_of_eq r.length⟩
theorem walk_tup {l : List D} {a : Addr} {ws : List (Nat × D)} (h : Fol K Z σ (.tup l) (.ref a) ws) : Walk K Z σ ⟨l, ws⟩ (Itt K a) where
  go := fun C Z1 σD1 σ1 H1 s x p o i y hy => by
    obtain ⟨b, xs, e, q, _, r⟩ := (h C Z1 σD1 σ1 H1 s x p o).tup s.sub
    cases e
    obtain ⟨u, hu, ru⟩ := r.get hy
    refine ⟨⟨xs, u, q, hu⟩, fun v H' hv => ?_⟩
    obtain ⟨rfl, hv⟩ := hv
    have := hv xs q
    rw [hu] at this; cases this
    exact ⟨Z1, Grow.refl s.sub, ru⟩
  stop := fun C Z1 σD1 σ1 H1 s x p o => by
    obtain ⟨b, xs, e, q, _, r⟩ := (h C Z1 σD1 σ1 H1 s x p o).tup s.sub
    cases e
    exact ⟨xs, q, Nat.le_of_eq r.length⟩
theorem walk_str {l : List Nat} {ws : List (Nat × D)} : Walk K Z σ ⟨l.map fun c => .str [c], ws⟩ (Its ⟨l.toArray⟩) where
  go := fun C Z1 σD1 σ1 H1 s x p o i y hy => by
    rw [List.getElem?_map] at hy
    cases e : l[i]? with
    | none => rw [e] at hy; cases hy
    | some c =>
      rw [e] at hy; cases hy
      have hi : i < l.length := (List.getElem?_eq_some_iff.mp e).1
      refine ⟨by show i < l.toArray.size; simpa using hi, fun v H' hv => ?_⟩
      obtain ⟨rfl, c', h1, rfl⟩ := hv
      have h2 : l.toArray[i]? = some c' := h1
      rw [List.getElem?_toArray, e] at h2
      cases h2
      exact ⟨Z1, Grow.refl s.sub, by simp [Rp]⟩
  stop := fun C Z1 σD1 σ1 H1 s x p o => by
    show l.toArray.size ≤ _
    simp
theorem walk_rng {lo : Int} {n : Nat} {ws : List (Nat × D)} : Walk K Z σ ⟨(List.range n).map fun (k : Nat) => .int (lo + (k : Int)), ws⟩ (Itr lo n) where
  go := fun C Z1 σD1 σ1 H1 s x p o i y hy => by
    rw [List.getElem?_map] at hy
    by_cases hi : i < n
    · rw [List.getElem?_range hi] at hy
      cases hy
      refine ⟨hi, fun v H' hv => ?_⟩
      obtain ⟨rfl, rfl⟩ := hv
      exact ⟨Z1, Grow.refl s.sub, by simp [Rp]⟩
    · rw [List.getElem?_eq_none (by simpa using Nat.le_of_not_lt hi)] at hy; cases hy
  stop := fun C Z1 σD1 σ1 H1 s x p o => by
    show n ≤ _
    simp
theorem RO.up {Z' : Hp} (h : RO K Z H d v) (x : Sub Z Z') : RO K Z' H d v := h.imp (fun q => q.mono x) fun ⟨a, e, c⟩ => ⟨a, e, c.mono x⟩
theorem RO.lstv {l : List D} (h : RO K Z H (.lst l) v) (s : Sub Z H) : ∃ a, v = .ref a ∧ ∃ xs, SqL K H a xs := by
  obtain ⟨a, xs, e, q, _⟩ := h.lst s
  exact ⟨a, e, xs, q⟩
theorem wpick {m : M Src} {R : It → Hp → Prop} {f : SE} {σD0 : Fr} {B0 : Bd} {Z0 H0 : Hp} {rest : D × List (Nat × D) → M Src} (h : Aft K W (fun s Z' σD' H' => ∀ J, Walk K Z' σ s J → R J H') σ B0 Z0 H0 (M.bind f (fun r => M.bind (take1 r) rest) σD0))
    (Q : VK) (k : ∀ r v Z σD H d ws, f σD0 = some (.ok r, σD) → take1 r σD = some (.ok (d, ws), σD) → Sta K B0 Z σD σ H → Fol K Z σ d v ws → RO K Z H d v → Aft K W (fun s Z' σD' H' => ∀ J, Walk K Z' σ s J → R J H') σ B0 Z H (rest (d, ws) σD) → Q v H) :
    Aft K W (fun r Z' σD' H' => ∀ v, RR K B0 Z' σD' σ H' r v → Q v H') σ B0 Z0 H0 (f σD0) := by
  refine (h.bind).val.imp fun r Z1 σD1 H1 s1 x1 ⟨h1, e1⟩ v hv => ?_
  cases e2 : take1 r σD1 with
  | none => rw [M.bind_none e2] at h1; exact h1.elim
  | some o =>
    obtain ⟨o, σD2⟩ := o
    obtain ⟨d, ws, rfl, rfl, Z2, s2, x2, fl, ro, n2⟩ := take1_ok s1 hv e2
    rw [M.bind_ok e2] at h1
    exact k r v Z2 σD2 H1 d ws e1 e2 s2 fl ro (h1.back x2 fun _ _ _ _ _ _ q => q)
theorem rdI_seq {f : SE} {H : Hp} {R : It → Hp → Prop} (h : rdI K W (srcL f) σ H R) : (iList K (rd K W f) σ H R ∨ iTup K (rd K W f) σ H R) ∨ iStr (rd K W f) σ H R := by
  obtain ⟨B, Z, σD, s, h⟩ := h
  by_cases ht : ∃ r σD1 l ws, f σD = some (.ok r, σD1) ∧ take1 r σD1 = some (.ok (.tup l, ws), σD1)
  · obtain ⟨r, σD1, l, ws, e1, e2⟩ := ht
    refine .inl (.inr ⟨B, Z, σD, s, wpick (m := M.lift none) h _ fun r' v Z1 σD2 H1 d ws' e1' e2' s1 fl ro h1 => ?_⟩)
    rw [e1] at e1'; cases e1'
    rw [e2] at e2'; cases e2'
    obtain ⟨a, xs, rfl, q, _, _⟩ := ro.tup s1.sub
    exact ⟨a, rfl, ⟨xs, q⟩, (h1.now s1) (Itt K a) (walk_tup fl)⟩
  · by_cases hs : ∃ r σD1 l ws, f σD = some (.ok r, σD1) ∧ take1 r σD1 = some (.ok (.str l, ws), σD1)
    · obtain ⟨r, σD1, l, ws, e1, e2⟩ := hs
      refine .inr ⟨B, Z, σD, s, wpick (m := M.lift none) h _ fun r' v Z1 σD2 H1 d ws' e1' e2' s1 fl ro h1 => ?_⟩
      rw [e1] at e1'; cases e1'
      rw [e2] at e2'; cases e2'
      rw [ro.str]
      exact ⟨_, rfl, (h1.now s1) (Its ⟨l.toArray⟩) walk_str⟩
    · refine .inl (.inl ⟨B, Z, σD, s, wpick (m := M.lift none) h _ fun r' v Z1 σD2 H1 d ws' e1' e2' s1 fl ro h1 => ?_⟩)
      cases d with
      | tup l => exact absurd ⟨_, _, _, _, e1', e2'⟩ ht
      | str l => exact absurd ⟨_, _, _, _, e1', e2'⟩ hs
      | lst l =>
        obtain ⟨a, xs, rfl, q, _⟩ := ro.lst s1.sub
        exact ⟨a, rfl, ⟨xs, q⟩, (h1.now s1) (Itl K a) (walk_list fl)⟩
      | _ => exact h1.elim
variable {p : Pl} {tg e : Expr} {pos q : Pos}
theorem di_seq {f : SE} (he : DE p e f) : DI p tg e (srcL f) := fun X W c tk => PI_imp (PI_or (PI_or (pi_list (he X W c tk)) (pi_tup (he X W c tk))) (pi_str (he X W c tk))) fun σ H R h => by
  rw [c.hK]; exact rdI_seq h

/-! ### range -/
def okR (i : Int) : Prop := -1000000 ≤ i ∧ i ≤ 1000000
instance (i : Int) : Decidable (okR i) := inferInstanceAs (Decidable (_ ∧ _))
def rngG : D → D → Option (List D)
  | .int lo, .int hi => if okR lo ∧ okR hi then some ((List.range (hi - lo).toNat).map fun (k : Nat) => .int (lo + (k : Int))) else none
  | _, _ => none
def srcR1 (f : SE) : M Src := M.bind f fun r => M.bind (get r) fun d => M.bind (M.lift (rngG (.int 0) d)) fun l => M.pure ⟨l, []⟩
def rng2 : List D → Option (List D)
  | [a, b] => rngG a b
  | _ => none
def srcR2 (f g : SE) : M Src := M.bind (eAll [f, g]) fun rs => M.bind (getAll rs) fun ds => M.bind (M.lift (rng2 ds)) fun l => M.pure ⟨l, []⟩
theorem rngG_of {a b : D} {l : List D} (h : rngG a b = some l) : ∃ lo hi, a = .int lo ∧ b = .int hi ∧ okR lo ∧ okR hi ∧ l = (List.range (hi - lo).toNat).map fun (k : Nat) => .int (lo + (k : Int)) := by
  unfold rngG at h
  split at h
  · split at h
    · rename_i lo hi hc
      cases h
      exact ⟨lo, hi, rfl, rfl, hc.1, hc.2, rfl⟩
    · cases h
  · cases h
theorem di_range1 (b : BI p.mg) {f : SE} (he : DE p e f) (hg : Glo p "range" := by rfl) (hs : ∀ env : Env, starEach [e] env = [(false, eval e env)] := by intro _; rfl) : DI p tg (.Call (.Name "range" q) [e] [] pos) (srcR1 f) := fun X W c tk =>
  PI_imp (pi_range1 (c.gl hg) (by rw [c.hmg]; exact b.range) (pa_cons (he X W c tk) pa_nil (hs X.env)) (hs X.env)) fun σ H R h => by
    obtain ⟨B, Z, σD, s, h⟩ := h
    refine ⟨B, Z, σD, s, (h.bind).imp fun r Z1 σD1 H1 s1 x1 h1 v hv => ?_⟩
    obtain ⟨d, ex, h2⟩ := get_of rfl h1.some
    rw [← h2] at h1
    obtain ⟨l, el, h3⟩ := lift_of rfl h1.some
    rw [← h3] at h1
    obtain ⟨lo, hi, e1, rfl, o1, o2, rfl⟩ := rngG_of el
    cases e1
    rw [(hv.ro s1 ex).int]
    refine ⟨hi, rfl, ?_, ?_, (h1.now s1) (Itr 0 hi.toNat) ?_⟩
    · have := o2.1; omega
    · have := o2.2; omega
    · rw [show (hi - 0).toNat = hi.toNat by simp]; exact walk_rng
theorem star0 (env : Env) : starEach [] env = [] := rfl
theorem di_range2 (b : BI p.mg) {e2 : Expr} {f g : SE} (he : DE p e f) (he2 : DE p e2 g) (hg : Glo p "range" := by rfl) (hs : ∀ env : Env, starEach [e, e2] env = (false, eval e env) :: starEach [e2] env := by intro _; rfl)
    (hs2 : ∀ env : Env, starEach [e2] env = (false, eval e2 env) :: starEach [] env := by intro _; rfl) : DI p tg (.Call (.Name "range" q) [e, e2] [] pos) (srcR2 f g) := fun X W c tk =>
  PI_imp (pi_range2 (c.gl hg) (by rw [c.hmg]; exact b.range) ((da_cons he (da_cons he2 da_nil hs2) hs).run X W c tk) ((hs X.env).trans (by rw [hs2, star0])) ((hs2 X.env).trans (by rw [star0]))) fun σ H R h => by
    obtain ⟨B, Z, σD, s, h⟩ := h
    refine ⟨B, Z, σD, s, (h.bind).imp fun rs Z1 σD1 H1 s1 x1 h1 vs hv => ?_⟩
    have hn : getAll rs σD1 ≠ none := fun z => by rw [M.bind_none z] at h1; exact h1
    obtain ⟨ds, eg, q⟩ := getAll_ok s1 hv rfl hn
    rw [M.bind_ok eg] at h1
    obtain ⟨l, el, h4⟩ := lift_of rfl h1.some
    rw [← h4] at h1
    have hd : ∃ x y, ds = [x, y] ∧ rngG x y = some l := by
      unfold rng2 at el
      split at el
      · exact ⟨_, _, rfl, el⟩
      · cases el
    obtain ⟨x, y, rfl, el⟩ := hd
    obtain ⟨u, r, rfl, hu, w, r', rfl, hw, rfl⟩ := q
    obtain ⟨lo, hi, rfl, rfl, o1, o2, rfl⟩ := rngG_of el
    rw [hu.int, hw.int]
    have a1 := o1.1; have a2 := o1.2; have a3 := o2.1; have a4 := o2.2
    exact ⟨lo, hi, rfl, ⟨by omega, by omega, by omega, by omega⟩, (h1.now s1) (Itr lo (hi - lo).toNat) walk_rng⟩

/-! ### two at once -/
def zipG : D → D → Option (List D)
  | .lst a, .lst b => some (List.zipWith (fun x y => .tup [x, y]) a b)
  | .tup a, .tup b => some (List.zipWith (fun x y => .tup [x, y]) a b)
  | _, _ => none
theorem zipG_of {a b : D} {l : List D} (h : zipG a b = some l) : (∃ la lb, a = .lst la ∧ b = .lst lb ∧ l = List.zipWith (fun x y => .tup [x, y]) la lb) ∨ ∃ la lb, a = .tup la ∧ b = .tup lb ∧ l = List.zipWith (fun x y => .tup [x, y]) la lb := by
  unfold zipG at h
  split at h
  · cases h; exact .inl ⟨_, _, rfl, rfl, rfl⟩
  · cases h; exact .inr ⟨_, _, rfl, rfl, rfl⟩
  · cases h
def srcZ (f g : SE) : M Src := M.bind (eAll [f, g]) fun rs => match rs with
  | [a, b] => M.bind (take1 a) fun x => M.bind (take1 b) fun y => M.bind (M.lift (zipG x.1 y.1)) fun l => M.pure ⟨l, x.2 ++ y.2⟩
  | _ => M.no
theorem zipW_get {a b : List D} {i : Nat} {x : D} (h : (List.zipWith (fun x y => D.tup [x, y]) a b)[i]? = some x) : ∃ y z, a[i]? = some y ∧ b[i]? = some z ∧ x = .tup [y, z] := by
  rw [List.getElem?_zipWith] at h
  cases e : a[i]? with
  | none => rw [e] at h; simp at h
  | some y =>
    cases e' : b[i]? with
    | none => rw [e, e'] at h; simp at h
    | some z => rw [e, e'] at h; simp at h; exact ⟨y, z, rfl, rfl, h.symm⟩
theorem walk_zip {l m : List D} {a b : Addr} {ws : List (Nat × D)} (h : Fol K Z σ (.lst l) (.ref a) ws) (h' : Fol K Z σ (.lst m) (.ref b) ws) : Walk K Z σ ⟨List.zipWith (fun x y => .tup [x, y]) l m, ws⟩ (Itz K a b) where
  go := fun C Z1 σD1 σ1 H1 s x p o i y hy => by
    obtain ⟨a', xs, e, q, r⟩ := (h C Z1 σD1 σ1 H1 s x p o).lst s.sub
    cases e
    obtain ⟨b', ys, e, q', r'⟩ := (h' C Z1 σD1 σ1 H1 s x p o).lst s.sub
    cases e
    obtain ⟨d1, d2, e1, e2, rfl⟩ := zipW_get hy
    obtain ⟨u, hu, ru⟩ := r.get e1
    obtain ⟨u', hu', ru'⟩ := r'.get e2
    refine ⟨⟨xs, ys, u, u', q, q', hu, hu'⟩, fun v H' hv => ?_⟩
    obtain ⟨T, x1, y1, rfl, hT, rfl, hx, hy'⟩ := hv
    have k1 := hx xs q
    have k2 := hy' ys q'
    rw [hu] at k1; cases k1
    rw [hu'] at k2; cases k2
    refine ⟨upd Z1 T (.tup [u, u']), Grow.fro s.sub hT, ?_⟩
    have sb : Sub Z1 (upd Z1 T (.tup [u, u'])) := Sub.upd (s.sub.none hT)
    simp only [Rp]
    exact ⟨T, [u, u'], rfl, upd_same, .cons (ru.mono sb) (.cons (ru'.mono sb) .nil)⟩
  stop := fun C Z1 σD1 σ1 H1 s x p o => by
    obtain ⟨a', xs, e, q, r⟩ := (h C Z1 σD1 σ1 H1 s x p o).lst s.sub
    cases e
    obtain ⟨b', ys, e, q', r'⟩ := (h' C Z1 σD1 σ1 H1 s x p o).lst s.sub
    cases e
    refine ⟨xs, ys, q, q', ?_⟩
    rw [r.length, r'.length]
    simp only [List.length_zipWith]
    omega
theorem walk_zipT {l m : List D} {a b : Addr} {ws : List (Nat × D)} (h : Fol K Z σ (.tup l) (.ref a) ws) (h' : Fol K Z σ (.tup m) (.ref b) ws) : Walk K Z σ ⟨List.zipWith (fun x y => .tup [x, y]) l m, ws⟩ (RZ.ItzT K a b) where
  go := fun C Z1 σD1 σ1 H1 s x p o i y hy => by
    obtain ⟨a', xs, e, q, _, r⟩ := (h C Z1 σD1 σ1 H1 s x p o).tup s.sub
    cases e
    obtain ⟨b', ys, e, q', _, r'⟩ := (h' C Z1 σD1 σ1 H1 s x p o).tup s.sub
    cases e
    obtain ⟨d1, d2, e1, e2, rfl⟩ := zipW_get hy
    obtain ⟨u, hu, ru⟩ := r.get e1
    obtain ⟨u', hu', ru'⟩ := r'.get e2
    refine ⟨⟨xs, ys, u, u', q, q', hu, hu'⟩, fun v H' hv => ?_⟩
    obtain ⟨T, x1, y1, rfl, hT, rfl, hx, hy'⟩ := hv
    have k1 := hx xs q
    have k2 := hy' ys q'
    rw [hu] at k1; cases k1
    rw [hu'] at k2; cases k2
    refine ⟨upd Z1 T (.tup [u, u']), Grow.fro s.sub hT, ?_⟩
    have sb : Sub Z1 (upd Z1 T (.tup [u, u'])) := Sub.upd (s.sub.none hT)
    simp only [Rp]
    exact ⟨T, [u, u'], rfl, upd_same, .cons (ru.mono sb) (.cons (ru'.mono sb) .nil)⟩
  stop := fun C Z1 σD1 σ1 H1 s x p o => by
    obtain ⟨a', xs, e, q, _, r⟩ := (h C Z1 σD1 σ1 H1 s x p o).tup s.sub
    cases e
    obtain ⟨b', ys, e, q', _, r'⟩ := (h' C Z1 σD1 σ1 H1 s x p o).tup s.sub
    cases e
    refine ⟨xs, ys, q, q', ?_⟩
    rw [r.length, r'.length]
    simp only [List.length_zipWith]
    omega
theorem di_zip (b : BI p.mg) {e2 : Expr} {f g : SE} {elts : List Expr} {kk : Nat} {tpos : Pos} (he : DE p e f) (he2 : DE p e2 g) (hg : Glo p "zip" := by rfl) (hs : ∀ env : Env, starEach [e, e2] env = (false, eval e env) :: starEach [e2] env := by intro _; rfl)
    (hs2 : ∀ env : Env, starEach [e2] env = (false, eval e2 env) :: starEach [] env := by intro _; rfl) (hpl : ∀ env : Env, (backTo pos (starEach [e2] env)).any (·.1) = false := by intro _; rfl) : DI p (.Tuple elts kk tpos) (.Call (.Name "zip" q) [e, e2] [] pos) (srcZ f g) := fun X W c tk =>
  PI_imp (RZ.pi_zipA (c.gl hg) (by rw [c.hmg]; exact b.zip) ((da_cons he (da_cons he2 da_nil hs2) hs).run X W c tk) (hs X.env) (hpl X.env)) fun σ H R h => by
    rw [c.hK]
    obtain ⟨B, Z, σD, s, h⟩ := h
    refine ⟨B, Z, σD, s, (h.bind).imp fun rs Z1 σD1 H1 s1 x1 h1 vs hv => ?_⟩
    have hr : ∃ r1 r2, rs = [r1, r2] := by
      rcases rs with _ | ⟨r1, _ | ⟨r2, _ | ⟨r3, rs⟩⟩⟩
      · exact h1.elim
      · exact h1.elim
      · exact ⟨r1, r2, rfl⟩
      · exact h1.elim
    obtain ⟨r1, r2, rfl⟩ := hr
    have h1 : Aft p.K W (fun s Z' σD' H' => ∀ J, Walk p.K Z' σ s J → R J H') σ B Z1 H1 (M.bind (take1 r1) (fun x => M.bind (take1 r2) fun y => M.bind (M.lift (zipG x.1 y.1)) fun l => M.pure ⟨l, x.2 ++ y.2⟩) σD1) := h1
    obtain ⟨v1, t, rfl, q1, v2, t2, rfl, q2, rfl⟩ := hv
    cases e2 : take1 r1 σD1 with
    | none => rw [M.bind_none e2] at h1; exact h1.elim
    | some o =>
      obtain ⟨o, σD2⟩ := o
      obtain ⟨d, ws, rfl, rfl, Z2, s2, x2, fl, ro, n2⟩ := take1_ok s1 q1 e2
      rw [M.bind_ok e2] at h1
      have q2' : RR p.K B Z2 σD2 σ H1 r2 v2 := q2.turned (Tmp.base r1 v1).b x2.sub n2 fun _ _ h => h
      cases e3 : take1 r2 σD2 with
      | none => rw [M.bind_none e3] at h1; exact h1.elim
      | some o =>
        obtain ⟨o, σD3⟩ := o
        obtain ⟨d', ws', rfl, rfl, Z3, s3, x3, fl', ro', n3⟩ := take1_ok s2 q2' e3
        rw [M.bind_ok e3] at h1
        obtain ⟨l, el, h4⟩ := lift_of rfl h1.some
        rw [← h4] at h1
        have h2 := (h1.back (x2.trans x3) fun _ _ _ _ _ _ q => q).now s3
        have f1 := (fl.later x3.sub).left (ws' := ws')
        have f2 := fl'.right (ws := ws)
        rcases zipG_of el with ⟨la, lb, rfl, rfl, rfl⟩ | ⟨la, lb, rfl, rfl, rfl⟩
        · obtain ⟨a1, xs, rfl, qx, _⟩ := (ro.up x3.sub).lst s3.sub
          obtain ⟨b1, ys, rfl, qy, _⟩ := ro'.lst s3.sub
          exact ⟨a1, b1, xs, ys, rfl, .inl ⟨qx, qy, h2 _ (walk_zip f1 f2)⟩⟩
        · obtain ⟨a1, xs, rfl, qx, _⟩ := (ro.up x3.sub).tup s3.sub
          obtain ⟨b1, ys, rfl, qy, _⟩ := ro'.tup s3.sub
          exact ⟨a1, b1, xs, ys, rfl, .inr ⟨qx, qy, h2 _ (walk_zipT f1 f2)⟩⟩

/-! ### targets -/
def Chg (is : List Nat) (σ σ' : L2.St) : Prop := σ'.length = σ.length ∧ ∀ j, j ∉ is → σ'[j]? = σ[j]?
theorem Chg.refl {is : List Nat} (σ : L2.St) : Chg is σ σ := ⟨rfl, fun _ _ => rfl⟩
theorem Chg.trans {is js : List Nat} {σ1 σ2 σ3 : L2.St} (a : Chg is σ1 σ2) (b : Chg js σ2 σ3) : Chg (is ++ js) σ1 σ3 := ⟨b.1.trans a.1, fun j h => by
  rw [List.mem_append, not_or] at h
  rw [b.2 j h.2, a.2 j h.1]⟩
theorem Chg.set {i : Nat} {σ : L2.St} {v : Option V} : Chg [i] σ (σ.set i v) := ⟨by simp, fun j h => List.getElem?_set_ne fun e => h (by simp [e])⟩
def rdG (K : PySem.W.Frag) (g : D → M Unit) (is : List Nat) : TG := fun v σ H Q => ∃ B Z σD d, Sta K B Z σD σ H ∧ Rp K Z d v ∧ match g d σD with
  | some (.ok _, σD') => ∀ σ', Sta K B Z σD' σ' H → Chg is σ σ' → Q σ' H
  | _ => False
def rdGs (K : PySem.W.Frag) (g : List D → M Unit) (is : List Nat) : TGs := fun vs σ H Q => ∃ B Z σD ds, Sta K B Z σD σ H ∧ RpL K Z ds vs ∧ match g ds σD with
  | some (.ok _, σD') => ∀ σ', Sta K B Z σD' σ' H → Chg is σ σ' → Q σ' H
  | _ => False
theorem PG_imp {X : Cx} {tg : Expr} {g g' : TG} (h : PG X tg g) (i : ∀ v σ H Q, g' v σ H Q → g v σ H Q) : PG X tg g' := ⟨fun pins s σ H v u Q I r q => h.run pins s σ H v u Q I r (i v σ H Q q)⟩
theorem PGs_imp {X : Cx} {ts : List Expr} {g g' : TGs} (h : PGs X ts g) (i : ∀ v σ H Q, g' v σ H Q → g v σ H Q) : PGs X ts g' := ⟨fun pins s σ H v u Q I r q => h.run pins s σ H v u Q I r (i v σ H Q q)⟩
theorem PG_or {X : Cx} {tg : Expr} {g g' : TG} (h : PG X tg g) (h' : PG X tg g') : PG X tg (fun v σ H Q => g v σ H Q ∨ g' v σ H Q) :=
  ⟨fun pins s σ H v u Q I r q => q.elim (h.run pins s σ H v u Q I r) (h'.run pins s σ H v u Q I r)⟩
def DG (p : Pl) (tg : Expr) (g : D → M Unit) (is : List Nat) : Prop := ∀ X, p.at X → PG X tg (rdG p.K g is)
structure DGs (p : Pl) (ts : List Expr) (g : List D → M Unit) (is : List Nat) (n : Nat) : Prop where
  run : ∀ X, p.at X → PGs X ts (rdGs p.K g is)
  len : ∀ env : Env, (assignEach ts env).length = n
  star : ∀ env : Env, (assignEach ts env).findIdx? (·.1) = none
def gN (i : Nat) : D → M Unit := fun d σ => match σ[i]? with
  | none => none
  | some (.par _) => none
  | some _ => some (.ok (), σ.set i (.fro d))
def gsNil : List D → M Unit
  | [] => M.pure ()
  | _ => M.no
def gsCons (g : D → M Unit) (gs : List D → M Unit) : List D → M Unit
  | d :: ds => M.bind (g d) fun _ => gs ds
  | _ => M.no
def gT (n : Nat) (gs : List D → M Unit) : D → M Unit
  | .tup ds => if ds.length = n then gs ds else M.no
  | .lst ds => if ds.length = n then gs ds else M.no
  | _ => M.no
theorem npar_of {i : Nat} {d : D} {o : Re Unit} (h : gN i d σD = some (o, σD')) : NPar σD i ∧ σD' = σD.set i (.fro d) ∧ o = .ok () := by
  unfold gN at h
  cases e : σD[i]? with
  | none => rw [e] at h; cases h
  | some l =>
    rw [e] at h
    have hi : i < σD.length := (List.getElem?_eq_some_iff.mp e).1
    cases l with
    | par x => cases h
    | no => cases h; exact ⟨⟨hi, fun d q => by rw [e] at q; cases q⟩, rfl, rfl⟩
    | fro x => cases h; exact ⟨⟨hi, fun d q => by rw [e] at q; cases q⟩, rfl, rfl⟩
    | own x => cases h; exact ⟨⟨hi, fun d q => by rw [e] at q; cases q⟩, rfl, rfl⟩
theorem dg_name (i : Nat) {x : Str} (hN : p.N[i]? = some x := by rfl) (hx : Loc p.sc x := by first | exact Or.inl rfl | exact Or.inr rfl) (hf : p.fn x = true ∨ p.sc.names.lookup x = some NameKind.local := by first | exact Or.inl rfl | exact Or.inr rfl) : DG p (.Name x pos) (gN i) [i] := fun X c =>
  PG_imp (pg_name (i := i) (by rw [c.hN]; exact c.nd) (by rw [c.hN]; exact hN) (by rw [c.hsc]; exact hx) (by rw [c.hsc, c.hfn]; exact hf)) fun v σ H Q h => by
    obtain ⟨B, Z, σD, d, s, r, h⟩ := h
    cases e : gN i d σD with
    | none => rw [e] at h; exact h.elim
    | some o =>
      obtain ⟨o, σD'⟩ := o
      obtain ⟨np, rfl, rfl⟩ := npar_of e
      rw [e] at h
      exact h _ (s.setF np r) Chg.set
theorem dgs_nil : DGs p [] gsNil [] 0 := ⟨fun X c => PGs_imp pgs_nil fun v σ H Q h => by
  obtain ⟨B, Z, σD, ds, s, r, h⟩ := h
  cases ds with
  | nil => exact ⟨r.inv0, h σ s (Chg.refl σ)⟩
  | cons d ds => exact h.elim, fun _ => rfl, fun _ => rfl⟩
theorem dgs_cons {es : List Expr} {g : D → M Unit} {gs : List D → M Unit} {is js : List Nat} {n : Nat} (h1 : DG p e g is) (h2 : DGs p es gs js n)
    (hs : ∀ env : Env, (assignEach (e :: es) env).map (·.2) = assign e env :: (assignEach es env).map (·.2) := by intro _; rfl) (hl : ∀ env : Env, (assignEach (e :: es) env).length = n + 1 := by intro _; rfl)
    (hst : ∀ env : Env, (assignEach (e :: es) env).findIdx? (·.1) = none := by intro _; rfl) : DGs p (e :: es) (gsCons g gs) (is ++ js) (n + 1) := ⟨fun X c =>
  PGs_imp (pgs_cons (h1 X c) (h2.run X c) (hs X.env)) fun vs σ H Q h => by
    obtain ⟨B, Z, σD, ds, s, r, h⟩ := h
    cases ds with
    | nil => exact h.elim
    | cons d ds =>
      obtain ⟨v, t, rfl, r1, r2⟩ := r.inv
      have h : (match M.bind (g d) (fun _ => gs ds) σD with
        | some (.ok _, σD') => ∀ σ', Sta p.K B Z σD' σ' H → Chg (is ++ js) σ σ' → Q σ' H
        | _ => False) := h
      refine ⟨v, t, rfl, B, Z, σD, d, s, r1, ?_⟩
      cases e1 : g d σD with
      | none => rw [M.bind_none e1] at h; exact h.elim
      | some o =>
        obtain ⟨o, σD1⟩ := o
        cases o with
        | ex c => rw [M.bind_ex e1] at h; exact h.elim
        | ok a =>
          rw [M.bind_ok e1] at h
          intro σ1 s1 c1
          refine ⟨B, Z, σD1, ds, s1, r2, ?_⟩
          cases e2 : gs ds σD1 with
          | none => rw [e2] at h; exact h.elim
          | some o =>
            obtain ⟨o, σD2⟩ := o
            rw [e2] at h
            cases o with
            | ex c => exact h.elim
            | ok b => exact fun σ2 s2 c2 => h σ2 s2 (c1.trans c2), hl, hst⟩
theorem dg_tup {es : List Expr} {k n : Nat} {gs : List D → M Unit} {is : List Nat} (h : DGs p es gs is n) : DG p (.Tuple es k pos) (gT n gs) is := fun X c =>
  PG_imp (PG_or (pg_tup c.calm (h.run X c) (h.len X.env) (h.star X.env)) (pg_lst c.calm (h.run X c) (h.len X.env) (h.star X.env))) fun v σ H Q q => by
    rw [c.hK]
    obtain ⟨B, Z, σD, d, s, r, q⟩ := q
    cases d with
    | tup ds =>
      have q : (match (if ds.length = n then gs ds else M.no) σD with
        | some (.ok _, σD') => ∀ σ', Sta p.K B Z σD' σ' H → Chg is σ σ' → Q σ' H
        | _ => False) := q
      by_cases hn : ds.length = n
      · rw [if_pos hn] at q
        simp only [Rp] at r
        obtain ⟨a, xs, rfl, sq, r⟩ := r
        exact .inl ⟨a, xs, rfl, SqT.of (s.sub _ _ sq), by rw [r.length, hn], B, Z, σD, ds, s, r, q⟩
      · rw [if_neg hn] at q; exact q.elim
    | lst ds =>
      have q : (match (if ds.length = n then gs ds else M.no) σD with
        | some (.ok _, σD') => ∀ σ', Sta p.K B Z σD' σ' H → Chg is σ σ' → Q σ' H
        | _ => False) := q
      by_cases hn : ds.length = n
      · rw [if_pos hn] at q
        simp only [Rp] at r
        obtain ⟨a, xs, rfl, sq, r⟩ := r
        exact .inr ⟨a, xs, rfl, s.sub.sql sq, by rw [r.length, hn], B, Z, σD, ds, s, r, q⟩
      · rw [if_neg hn] at q; exact q.elim
    | _ => exact q.elim
end
end Ev

set_option Elab.async false
set_option linter.all false
set_option maxRecDepth 100000
/-! Ev, part M: list comprehensions. -/
namespace Ev
open PySem PySem.Spec PyProof.Rows L2

def lcTurn (g : D → M Unit) (tt : M Bool) (te : SE) (x : D) : M (Option D) := M.bind (g x) fun _ => M.bind tt fun b => match b with
  | true => M.bind te fun r => M.bind (froz1 r) fun d => M.pure (some d)
  | false => M.pure none
def lcGo (ws : List (Nat × D)) (vs : List Nat) (turn : D → M (Option D)) : List D → List D → Fr → Option (List D × Fr)
  | [], acc, σ => if okW σ ws then some (acc, σ) else none
  | x :: xs, acc, σ => if okW σ ws ∧ acc.length < LIM then (match turn x σ with
    | some (.ok (some d), σ1) => lcGo ws vs turn xs (acc ++ [d]) (wipeD σ1 vs)
    | some (.ok none, σ1) => lcGo ws vs turn xs acc (wipeD σ1 vs)
    | _ => none) else none
def wOk (σ : Fr) (ws : List (Nat × D)) (vs : List Nat) : Prop := ∀ w ∈ ws, w.1 ∉ vs ∧ (σ[w.1]? = some (.own w.2) ∨ σ[w.1]? = some (.par w.2))
instance (σ : Fr) (ws : List (Nat × D)) (vs : List Nat) : Decidable (wOk σ ws vs) := inferInstanceAs (Decidable (∀ w ∈ ws, w.1 ∉ vs ∧ (σ[w.1]? = some (.own w.2) ∨ σ[w.1]? = some (.par w.2))))
def lcRun (s : Src) (vs : List Nat) (turn : D → M (Option D)) : SE := fun σ => if wOk σ s.ws vs then (match lcGo s.ws vs turn s.items [] (wipeD (pinD σ s.ws) vs) with
  | some (out, σ') => some (.ok (.v (.lst out) true), restore σ (s.ws.map (·.1)) (restore (pinD σ s.ws) vs σ'))
  | none => none) else none
def eLc (src : M Src) (vs : List Nat) (g : D → M Unit) (tt : M Bool) (te : SE) : SE := M.bind src fun s => lcRun s vs (lcTurn g tt te)

theorem wipe_wipe {σ : L2.St} {vs : List Nat} : wipe (wipe σ vs) vs = wipe σ vs := wipe_same (by simp [wipe_length]) fun j hj => wipe_at hj
section
variable {K : PySem.W.Frag} {W : WX} {B C : Bd} {Z Z' H H' : Hp} {σD σD' : Fr} {σ : L2.St} {r : R} {v : V} {d : D}
/-- the state of a loop at turn i -/
def LcI (K : PySem.W.Frag) (C : Bd) (Zs Hs : Hp) (Da : Addr) (ws : List (Nat × D)) (vs : List Nat) (turn : D → M (Option D)) (items out : List D) (σE : Fr) (σ : L2.St) (i m : Nat) (H : Hp) : Prop :=
  m = items.length - i ∧ i ≤ items.length ∧ ∃ Z σt acc accV, Sta K C Z σt σ H ∧ Sub Zs Z ∧ (∀ a, C a → a ≠ Da → H a = Hs a) ∧ H Da = some (.lst accV) ∧ RpL K Z acc accV ∧ lcGo ws vs turn (items.drop i) acc σt = some (out, σE)
theorem lc_loop {Zs Hs : Hp} {Da : Addr} {ws : List (Nat × D)} {vs is : List Nat} {g : D → M Unit} {tt : M Bool} {te : SE} {items out : List D} {σE : Fr} {σ0 σo : L2.St} {J : It} (hw : Walk K Zs σ0 ⟨items, ws⟩ J) (pin : PinOk σ0 C ws) (hC : C Da)
    (hp : ∀ j ∈ vs, C.pa j = none) (hi : ∀ i ∈ is, i ∈ vs) (i m : Nat) (H : Hp) (w : LcI K C Zs Hs Da ws vs (lcTurn g tt te) items out σE (wipe σo vs) i m H) :
    (J.stop i H ∧ ∃ Z accV, Sta K C Z σE (wipe σo vs) H ∧ Sub Zs Z ∧ (∀ a, C a → a ≠ Da → H a = Hs a) ∧ H Da = some (.lst accV) ∧ RpL K Z out accV ∧ okW σE ws) ∨
    (J.go i H ∧ ∃ Nx : Hp → Prop, (∀ H', Nx H' → ∃ m', m' < m ∧ LcI K C Zs Hs Da ws vs (lcTurn g tt te) items out σE (wipe σo vs) (i + 1) m' H') ∧ ∀ x H', J.yld i H x H' →
      rdG K g is x (wipe σo vs) H' fun σ2 H2 => wipe σ2 vs = wipe σo vs ∧ rdT K W tt σ2 H2 fun b H3 =>
        if b = true then rd K W te σ2 H3 fun y H4 => ∃ acc, H4 Da = some (.lst acc) ∧ acc.length < sizeLine ∧ Nx (upd H4 Da (.lst (acc ++ [y]))) else Nx H3) := by
  obtain ⟨hm, hle, Z, σt, acc, accV, s, sub, keep, hD, ra, go⟩ := w
  by_cases hn : i = items.length
  · left
    subst hn
    rw [List.drop_length] at go
    unfold lcGo at go
    split at go
    · rename_i ok
      cases go
      exact ⟨hw.stop C Z _ _ H s sub pin ok, Z, accV, s, sub, keep, hD, ra, ok⟩
    · cases go
  · right
    have hlt : i < items.length := by omega
    have hx : items[i]? = some items[i] := List.getElem?_eq_getElem hlt
    rw [List.drop_eq_getElem_cons hlt] at go
    unfold lcGo at go
    split at go
    · rename_i ok
      obtain ⟨gogo, yl⟩ := hw.go C Z _ _ H s sub pin ok.1 i _ hx
      refine ⟨gogo, fun H' => LcI K C Zs Hs Da ws vs (lcTurn g tt te) items out σE (wipe σo vs) (i + 1) (items.length - (i + 1)) H', fun H' h => ⟨_, by omega, h⟩, fun x H' hy => ?_⟩
      obtain ⟨Z', gr, rx⟩ := yl x H' hy
      have s1 := s.grow gr
      have keep1 : ∀ a, C a → a ≠ Da → H' a = Hs a := fun a h1 h2 => ((gr.old a (s.bz a h1).2).1).trans (keep a h1 h2)
      have hD1 : H' Da = some (.lst accV) := ((gr.old Da (s.bz Da hC).2).1).trans hD
      have ra1 := ra.mono gr.z
      have sub1 := sub.trans gr.z
      -- what the turn does
      have next : ∀ {o : Option D} {σ1 : Fr}, lcTurn g tt te items[i] σt = some (.ok o, σ1) → lcGo ws vs (lcTurn g tt te) (items.drop (i + 1)) (acc ++ o.toList) (wipeD σ1 vs) = some (out, σE) := fun {o σ1} e => by
        rw [e] at go
        cases o with
        | none => simpa using go
        | some d => simpa using go
      have turn : ∃ o σ1, lcTurn g tt te items[i] σt = some (.ok o, σ1) := by
        cases e : lcTurn g tt te items[i] σt with
        | none => rw [e] at go; cases go
        | some q =>
          obtain ⟨q, σ1⟩ := q
          cases q with
          | ok o => exact ⟨o, σ1, rfl⟩
          | ex c => rw [e] at go; cases go
      obtain ⟨o, σ1, et⟩ := turn
      have go1 := next et
      unfold lcTurn at et
      obtain ⟨u1, σ2, e1, et⟩ := M.bind_inv et
      obtain ⟨b, σ3, e2, et⟩ := M.bind_inv et
      refine ⟨C, Z', σt, items[i], s1, rx, ?_⟩
      rw [e1]
      intro σ' s2 chg
      have wp : wipe σ' vs = wipe σo vs := wipe_same (by rw [chg.1, wipe_length]) fun j hj => (chg.2 j fun z => hj (hi j z)).trans (wipe_at hj)
      refine ⟨wp, C, Z', σ2, s2, ?_⟩
      rw [e2]
      intro Z2 H2 s3 x3
      have keep2 : ∀ a, C a → a ≠ Da → H2 a = Hs a := fun a h1 h2 => (x3.keep a h1).trans (keep1 a h1 h2)
      have hD2 : H2 Da = some (.lst accV) := (x3.keep Da hC).trans hD1
      have ra2 := ra1.mono x3.sub
      have sub2 := sub1.trans x3.sub
      cases b with
      | false =>
        show LcI K C Zs Hs Da ws vs (lcTurn g tt te) items out σE (wipe σo vs) (i + 1) (items.length - (i + 1)) H2
        have et : some (Re.ok none, σ3) = some (Re.ok o, σ1) := et
        cases et
        refine ⟨rfl, hlt, Z2, wipeD σ1 vs, acc, accV, ?_, sub2, keep2, hD2, ra2, by simpa using go1⟩
        rw [← wp]
        exact s3.wipe hp
      | true =>
        show rd K W te σ' H2 _
        obtain ⟨r, σ4, e3, et⟩ := M.bind_inv et
        obtain ⟨d, σ5, e4, et⟩ := M.bind_inv et
        have et : some (Re.ok (some d), σ5) = some (Re.ok o, σ1) := et
        cases et
        refine ⟨C, Z2, σ3, s3, ?_⟩
        rw [e3]
        intro Z3 H3 s4 x4 y hy
        obtain ⟨d', ed, Z4, s5, x5, rd, _, _⟩ := alias_ok s4 hy e4
        cases ed
        have hD3 : H3 Da = some (.lst accV) := (x4.keep Da hC).trans hD2
        refine ⟨accV, hD3, by rw [ra.length]; exact lim_line' (Nat.le_of_lt ok.2), rfl, hlt, Z4, wipeD σ1 vs, acc ++ [d], accV ++ [y], ?_, sub2.trans (x4.sub.trans x5.sub), fun a h1 h2 => ?_, upd_same, ?_, by simpa using go1⟩
        · rw [← wp]
          exact (s5.wipe hp).upd hC
        · rw [upd_ne h2]
          exact (x4.keep a h1).trans (keep2 a h1 h2)
        · exact (ra2.mono (x4.sub.trans x5.sub)).append (.cons rd .nil)
    · cases go
/-- the start of a loop in a block, and its end -/
theorem lc_start {Da : Addr} {ws : List (Nat × D)} {vs : List Nat} (s : Sta K B Z σD σ H) (ok : wOk σD ws vs) (hD : H Da = none) :
    ∃ C : Bd, C Da ∧ PinOk σ C ws ∧ (∀ j ∈ vs, C.pa j = none) ∧ Sta K C Z (wipeD (pinD σD ws) vs) (wipe σ vs) (upd H Da (.lst [])) ∧
      ∀ Z' H' σE out accV, Sta K C Z' σE (wipe σ vs) H' → Sub Z Z' → (∀ a, C a → a ≠ Da → H' a = upd H Da (.lst []) a) → H' Da = some (.lst accV) → RpL K Z' out accV → okW σE ws →
        Sta K B Z' (restore σD (ws.map (·.1)) (restore (pinD σD ws) vs σE)) σ H' ∧ Ext B Z H Z' H' ∧ RR K B Z' (restore σD (ws.map (·.1)) (restore (pinD σD ws) vs σE)) σ H' (.v (.lst out) true) (.ref Da) := by
  have hw : ∀ w ∈ ws, Held σD w.1 w.2 := fun w h => (ok w h).2
  have zD : Z Da = none := s.sub.none hD
  have sA : Sta K (B.add Da) Z σD σ (upd H Da (.lst [])) := (s.newO (o := .lst []) hD).1.add (by rw [upd_same]; simp) zD fun i e h q => by
    obtain ⟨a, e1, _, _, c⟩ := s.own i e h
    rw [q] at e1; cases e1
    obtain ⟨u, hu, _⟩ := c.obj
    rw [hD] at hu; cases hu
  have sP := sA.pin hw
  have sH := sP.hide (vs := vs)
  refine ⟨blkB (pinB (B.add Da) σ ws) (pinD σD ws) σ vs, .inl (.inr rfl), fun w hm a e => ?_, blkB_pa, sH, fun Z' H' σE out accV s' sub keep hD' ra okE => ?_⟩
  · show (if w.1 ∈ vs then none else _) = some a
    rw [if_neg (ok w hm).1]
    exact pinB_ok w hm a e
  · have hl : σE.length = (pinD σD ws).length := by
      have := s'.len
      rw [wipe_length] at this
      rw [this, ← sP.len]
    have s2 := sP.unhide s' sub fun a i hiv d hd e => by
      refine keep a (.inr ⟨i, hiv, d, hd, e⟩) fun z => ?_
      subst z
      obtain ⟨b, e1, nb, _⟩ := sP.own i d hd
      rw [e] at e1; cases e1
      exact nb (.inr rfl)
    have ok2 : okW (restore (pinD σD ws) vs σE) ws := fun w hm => by
      rw [restore_get hl, if_neg (ok w hm).1]
      exact okE w hm
    have s3 := sA.unpin hw s2 ok2
    refine ⟨s3.less Bd.add_le, ⟨sub, fun a h => ?_⟩, Da, rfl, fun h => ?_, (s3.bz Da (.inr rfl)).1, ⟨accV, hD', ra⟩, fun i e h q => ?_⟩
    · have hne : a ≠ Da := fun z => (s.bz a h).2 (by rw [z]; exact hD)
      rw [keep a (.inl (.inl h)) hne, upd_ne hne]
    · exact (s.bz Da h).2 hD
    · obtain ⟨b, e1, nb, _⟩ := s3.own i e h
      rw [q] at e1; cases e1
      exact nb (.inr rfl)
theorem rd_lc {src : M Src} {vs is : List Nat} {g : D → M Unit} {tt : M Bool} {te : SE} {Q : VK} (hi : ∀ i ∈ is, i ∈ vs) (h : rd K W (eLc src vs g tt te) σ H Q) :
    tLc (rdI K W src) (rdG K g is) (rdT K (fun _ _ _ _ => False) tt) (rd K (fun _ _ _ _ => False) te) vs σ H Q := by
  obtain ⟨B, Z, σD, s, h⟩ := h
  refine ⟨B, Z, σD, s, (h.bind).imp fun sr Z1 σD1 H1 s1 x1 h1 J hw Da hD => ?_⟩
  unfold lcRun at h1
  split at h1
  · rename_i ok
    cases e : lcGo sr.ws vs (lcTurn g tt te) sr.items [] (wipeD (pinD σD1 sr.ws) vs) with
    | none => rw [e] at h1; exact h1.elim
    | some q =>
      obtain ⟨out, σE⟩ := q
      rw [e] at h1
      obtain ⟨C, hC, pin, hp, sH, fin⟩ := lc_start s1 ok hD
      refine ⟨LcI K C Z1 (upd H1 Da (.lst [])) Da sr.ws vs (lcTurn g tt te) sr.items out σE (wipe σ vs), ⟨_, rfl, Nat.zero_le _, Z1, _, [], [], sH, Sub.refl _, fun _ _ _ => rfl, upd_same, .nil, by simpa using e⟩, fun i m H2 w => ?_⟩
      refine (lc_loop (W := fun _ _ _ _ => False) (σo := σ) (is := is) hw pin hC hp hi i m H2 w).imp (fun ⟨st, Z3, accV, s3, sub, keep, hD3, ra, ok3⟩ => ⟨st, ?_⟩) id
      obtain ⟨sF, xF, rF⟩ := fin Z3 H2 σE out accV s3 sub keep hD3 ra ok3
      exact h1 Z3 H2 sF xF _ rF
  · exact h1.elim
end
end Ev

set_option Elab.async false
set_option linter.all false
set_option maxRecDepth 100000
/-! Ev, part N: comprehensions of two clauses; the rules. -/
namespace Ev
open PySem PySem.Spec PyProof.Rows L2

def lc2Turn (g : D → M Unit) (tt : M Bool) (src1 : M Src) (x : D) : M (Option Src) := M.bind (g x) fun _ => M.bind tt fun b => match b with
  | true => M.bind src1 fun s => M.pure (some s)
  | false => M.pure none
def lc2Go (ws : List (Nat × D)) (vs vs1 : List Nat) (head : D → M (Option Src)) (turn : D → M (Option D)) : List D → List D → Fr → Option (List D × Fr)
  | [], acc, σ => if okW σ ws then some (acc, σ) else none
  | x :: xs, acc, σ => if okW σ ws then (match head x σ with
    | some (.ok (some s), σ1) => if wOk σ1 s.ws vs1 then (match lcGo s.ws vs1 turn s.items acc (wipeD (pinD σ1 s.ws) vs1) with
      | some (acc', σ2) => lc2Go ws vs vs1 head turn xs acc' (wipeD (restore σ1 (s.ws.map (·.1)) σ2) vs)
      | none => none) else none
    | some (.ok none, σ1) => lc2Go ws vs vs1 head turn xs acc (wipeD σ1 vs)
    | _ => none) else none
def lc2Run (s : Src) (vs vs1 : List Nat) (head : D → M (Option Src)) (turn : D → M (Option D)) : SE := fun σ => if wOk σ s.ws vs then (match lc2Go s.ws vs vs1 head turn s.items [] (wipeD (pinD σ s.ws) vs) with
  | some (out, σ') => some (.ok (.v (.lst out) true), restore σ (s.ws.map (·.1)) (restore (pinD σ s.ws) vs σ'))
  | none => none) else none
def eLc2 (src : M Src) (vs : List Nat) (g : D → M Unit) (tt : M Bool) (src1 : M Src) (vs1 : List Nat) (g1 : D → M Unit) (tt1 : M Bool) (te : SE) : SE := M.bind src fun s => lc2Run s vs vs1 (lc2Turn g tt src1) (lcTurn g1 tt1 te)
section
variable {K : PySem.W.Frag} {W : WX} {B C : Bd} {Z Z' H H' : Hp} {σD σD' : Fr} {σ : L2.St} {r : R} {v : V} {d : D}
def Lc2I (K : PySem.W.Frag) (C : Bd) (Zs Hs : Hp) (Da : Addr) (ws : List (Nat × D)) (vs vs1 : List Nat) (head : D → M (Option Src)) (turn : D → M (Option D)) (items out : List D) (σE : Fr) (σ : L2.St) (i m : Nat) (H : Hp) : Prop :=
  m = items.length - i ∧ i ≤ items.length ∧ ∃ Z σt acc accV, Sta K C Z σt σ H ∧ Sub Zs Z ∧ (∀ a, C a → a ≠ Da → H a = Hs a) ∧ H Da = some (.lst accV) ∧ RpL K Z acc accV ∧ lc2Go ws vs vs1 head turn (items.drop i) acc σt = some (out, σE)
abbrev W0 : WX := fun _ _ _ _ => False
theorem lc2_loop {Zs Hs : Hp} {Da : Addr} {ws : List (Nat × D)} {vs vs1 is is1 : List Nat} {g g1 : D → M Unit} {tt tt1 : M Bool} {src1 : M Src} {te : SE} {items out : List D} {σE : Fr} {σ0 σo : L2.St} {J : It} (hw : Walk K Zs σ0 ⟨items, ws⟩ J) (pin : PinOk σ0 C ws) (hC : C Da)
    (hp : ∀ j ∈ vs, C.pa j = none) (hi : ∀ i ∈ is, i ∈ vs) (hi1 : ∀ i ∈ is1, i ∈ vs1) (hv : ∀ i ∈ vs1, i ∈ vs) (i m : Nat) (H : Hp) (w : Lc2I K C Zs Hs Da ws vs vs1 (lc2Turn g tt src1) (lcTurn g1 tt1 te) items out σE (wipe σo vs) i m H) :
    (J.stop i H ∧ ∃ Z accV, Sta K C Z σE (wipe σo vs) H ∧ Sub Zs Z ∧ (∀ a, C a → a ≠ Da → H a = Hs a) ∧ H Da = some (.lst accV) ∧ RpL K Z out accV ∧ okW σE ws) ∨
    (J.go i H ∧ ∃ Nx : Hp → Prop, (∀ H', Nx H' → ∃ m', m' < m ∧ Lc2I K C Zs Hs Da ws vs vs1 (lc2Turn g tt src1) (lcTurn g1 tt1 te) items out σE (wipe σo vs) (i + 1) m' H') ∧ ∀ x H', J.yld i H x H' →
      rdG K g is x (wipe σo vs) H' fun σ2 H2 => wipe σ2 vs = wipe σo vs ∧ rdT K W0 tt σ2 H2 fun b H3 =>
        if b = true then rdI K W0 src1 σ2 H3 fun J1 H4 => ∃ W1 : Nat → Nat → Hp → Prop, (∃ m, W1 0 m H4) ∧ ∀ j k H, W1 j k H →
          (J1.stop j H ∧ Nx H) ∨ (J1.go j H ∧ ∃ Nx1 : Hp → Prop, (∀ H', Nx1 H' → ∃ k', k' < k ∧ W1 (j + 1) k' H') ∧ ∀ x H', J1.yld j H x H' → rdG K g1 is1 x (wipe σ2 vs1) H' fun σ3 H5 => wipe σ3 vs1 = wipe σ2 vs1 ∧ rdT K W0 tt1 σ3 H5 fun b H6 =>
            if b = true then rd K W0 te σ3 H6 fun y H7 => ∃ acc, H7 Da = some (.lst acc) ∧ acc.length < sizeLine ∧ Nx1 (upd H7 Da (.lst (acc ++ [y]))) else Nx1 H6)
        else Nx H3) := by
  obtain ⟨hm, hle, Z, σt, acc, accV, s, sub, keep, hD, ra, go⟩ := w
  by_cases hn : i = items.length
  · left
    subst hn
    rw [List.drop_length] at go
    unfold lc2Go at go
    split at go
    · rename_i ok
      cases go
      exact ⟨hw.stop C Z _ _ H s sub pin ok, Z, accV, s, sub, keep, hD, ra, ok⟩
    · cases go
  · right
    have hlt : i < items.length := by omega
    have hx : items[i]? = some items[i] := List.getElem?_eq_getElem hlt
    rw [List.drop_eq_getElem_cons hlt] at go
    unfold lc2Go at go
    split at go
    · rename_i ok
      obtain ⟨gogo, yl⟩ := hw.go C Z _ _ H s sub pin ok i _ hx
      refine ⟨gogo, fun H' => Lc2I K C Zs Hs Da ws vs vs1 (lc2Turn g tt src1) (lcTurn g1 tt1 te) items out σE (wipe σo vs) (i + 1) (items.length - (i + 1)) H', fun H' h => ⟨_, by omega, h⟩, fun x H' hy => ?_⟩
      obtain ⟨Z', gr, rx⟩ := yl x H' hy
      have s1 := s.grow gr
      have keep1 : ∀ a, C a → a ≠ Da → H' a = Hs a := fun a h1 h2 => ((gr.old a (s.bz a h1).2).1).trans (keep a h1 h2)
      have hD1 : H' Da = some (.lst accV) := ((gr.old Da (s.bz Da hC).2).1).trans hD
      have ra1 := ra.mono gr.z
      have sub1 := sub.trans gr.z
      have turn : ∃ o σ1, lc2Turn g tt src1 items[i] σt = some (.ok o, σ1) := by
        cases e : lc2Turn g tt src1 items[i] σt with
        | none => rw [e] at go; cases go
        | some q =>
          obtain ⟨q, σ1⟩ := q
          cases q with
          | ok o => exact ⟨o, σ1, rfl⟩
          | ex c => rw [e] at go; cases go
      obtain ⟨o, σ1, et⟩ := turn
      rw [et] at go
      unfold lc2Turn at et
      obtain ⟨u1, σ2, e1, et⟩ := M.bind_inv et
      obtain ⟨b, σ3, e2, et⟩ := M.bind_inv et
      refine ⟨C, Z', σt, items[i], s1, rx, ?_⟩
      rw [e1]
      intro σ' s2 chg
      have wp : wipe σ' vs = wipe σo vs := wipe_same (by rw [chg.1, wipe_length]) fun j hj => (chg.2 j fun z => hj (hi j z)).trans (wipe_at hj)
      refine ⟨wp, C, Z', σ2, s2, ?_⟩
      rw [e2]
      intro Z2 H2 s3 x3
      have keep2 : ∀ a, C a → a ≠ Da → H2 a = Hs a := fun a h1 h2 => (x3.keep a h1).trans (keep1 a h1 h2)
      have hD2 : H2 Da = some (.lst accV) := (x3.keep Da hC).trans hD1
      have ra2 := ra1.mono x3.sub
      have sub2 := sub1.trans x3.sub
      cases b with
      | false =>
        show Lc2I K C Zs Hs Da ws vs vs1 (lc2Turn g tt src1) (lcTurn g1 tt1 te) items out σE (wipe σo vs) (i + 1) (items.length - (i + 1)) H2
        have et : some (Re.ok none, σ3) = some (Re.ok o, σ1) := et
        cases et
        refine ⟨rfl, hlt, Z2, wipeD σ1 vs, acc, accV, ?_, sub2, keep2, hD2, ra2, go⟩
        rw [← wp]
        exact s3.wipe hp
      | true =>
        show rdI K W0 src1 σ' H2 _
        obtain ⟨sr, σ4, e3, et⟩ := M.bind_inv et
        have et : some (Re.ok (some sr), σ4) = some (Re.ok o, σ1) := et
        cases et
        refine ⟨C, Z2, σ3, s3, ?_⟩
        rw [e3]
        intro Z3 H3 s4 x4 J1 hw1
        have go : (if wOk σ1 sr.ws vs1 then (match lcGo sr.ws vs1 (lcTurn g1 tt1 te) sr.items acc (wipeD (pinD σ1 sr.ws) vs1) with
          | some (acc', σ2) => lc2Go ws vs vs1 (lc2Turn g tt src1) (lcTurn g1 tt1 te) (items.drop (i + 1)) acc' (wipeD (restore σ1 (sr.ws.map (·.1)) σ2) vs)
          | none => none) else none) = some (out, σE) := go
        by_cases ok1 : wOk σ1 sr.ws vs1
        · rw [if_pos ok1] at go
          cases e4 : lcGo sr.ws vs1 (lcTurn g1 tt1 te) sr.items acc (wipeD (pinD σ1 sr.ws) vs1) with
          | none => rw [e4] at go; cases go
          | some q =>
            obtain ⟨acc', σI⟩ := q
            rw [e4] at go
            have go : lc2Go ws vs vs1 (lc2Turn g tt src1) (lcTurn g1 tt1 te) (items.drop (i + 1)) acc' (wipeD (restore σ1 (sr.ws.map (·.1)) σI) vs) = some (out, σE) := go
            have hh : ∀ w ∈ sr.ws, Held σ1 w.1 w.2 := fun w h => (ok1 w h).2
            have sP := s4.pin hh
            have hp1 : ∀ j ∈ vs1, (pinB C σ' sr.ws).pa j = none := fun j hj => by
              show (if j ∈ sr.ws.map (·.1) then _ else C.pa j) = none
              rw [if_neg fun z => by
                obtain ⟨w, hm, rfl⟩ := List.mem_map.mp z
                exact (ok1 w hm).1 hj]
              exact hp j (hv j hj)
            have keep3 : ∀ a, (pinB C σ' sr.ws) a → a ≠ Da → H3 a = Hs a := fun a h1 h2 => (x4.keep a h1).trans (keep2 a h1 h2)
            refine ⟨LcI K (pinB C σ' sr.ws) Z3 Hs Da sr.ws vs1 (lcTurn g1 tt1 te) sr.items acc' σI (wipe σ' vs1), ⟨_, rfl, Nat.zero_le _, Z3, _, acc, accV, sP.wipe hp1, Sub.refl _, keep3, (x4.keep Da hC).trans hD2, ra2.mono x4.sub, by simpa using e4⟩, fun j k H4 w4 => ?_⟩
            refine (lc_loop (W := W0) (σo := σ') (is := is1) hw1 pinB_ok hC hp1 hi1 j k H4 w4).imp (fun ⟨st, Z5, accV5, s5, sub5, keep5, hD5, ra5, ok5⟩ => ⟨st, ?_⟩) id
            have hl : σI.length = σ1.length := by rw [s5.len, wipe_length, s4.len]
            have s6 := (s4.unpin hh s5 ok5).wipe (vs := vs) hp
            have wp2 : wipe (wipe σ' vs1) vs = wipe σo vs := by
              rw [← wp]
              exact wipe_same (by rw [wipe_length]) fun j hj => wipe_at fun z => hj (hv j z)
            rw [wp2] at s6
            exact ⟨rfl, hlt, Z5, _, acc', accV5, s6, sub2.trans (x4.sub.trans sub5), keep5, hD5, ra5, go⟩
        · rw [if_neg ok1] at go; cases go
    · cases go
theorem rd_lc2 {src src1 : M Src} {vs vs1 is is1 : List Nat} {g g1 : D → M Unit} {tt tt1 : M Bool} {te : SE} {Q : VK} (hi : ∀ i ∈ is, i ∈ vs) (hi1 : ∀ i ∈ is1, i ∈ vs1) (hv : ∀ i ∈ vs1, i ∈ vs) (h : rd K W (eLc2 src vs g tt src1 vs1 g1 tt1 te) σ H Q) :
    tLc2 (rdI K W src) (rdG K g is) (rdT K W0 tt) (rdI K W0 src1) (rdG K g1 is1) (rdT K W0 tt1) (rd K W0 te) vs vs1 σ H Q := by
  obtain ⟨B, Z, σD, s, h⟩ := h
  refine ⟨B, Z, σD, s, (h.bind).imp fun sr Z1 σD1 H1 s1 x1 h1 J hw Da hD => ?_⟩
  unfold lc2Run at h1
  split at h1
  · rename_i ok
    cases e : lc2Go sr.ws vs vs1 (lc2Turn g tt src1) (lcTurn g1 tt1 te) sr.items [] (wipeD (pinD σD1 sr.ws) vs) with
    | none => rw [e] at h1; exact h1.elim
    | some q =>
      obtain ⟨out, σE⟩ := q
      rw [e] at h1
      obtain ⟨C, hC, pin, hp, sH, fin⟩ := lc_start s1 ok hD
      refine ⟨Lc2I K C Z1 (upd H1 Da (.lst [])) Da sr.ws vs vs1 (lc2Turn g tt src1) (lcTurn g1 tt1 te) sr.items out σE (wipe σ vs), ⟨_, rfl, Nat.zero_le _, Z1, _, [], [], sH, Sub.refl _, fun _ _ _ => rfl, upd_same, .nil, by simpa using e⟩, fun i m H2 w => ?_⟩
      refine (lc2_loop (σo := σ) (is := is) (is1 := is1) hw pin hC hp hi hi1 hv i m H2 w).imp (fun ⟨st, Z3, accV, s3, sub, keep, hD3, ra, ok3⟩ => ⟨st, ?_⟩) id
      obtain ⟨sF, xF, rF⟩ := fin Z3 H2 σE out accV s3 sub keep hD3 ra ok3
      exact h1 Z3 H2 sF xF _ rF
  · exact h1.elim
end

/-! ### the rules -/
def Pl.blk (p : Pl) (scope : Scope) : Pl := { p with sc := relS scope p.sc, fn := fun x => scope.names.lookup x == some .cell, top := false }
theorem Plc.blk {p : Pl} {X : Cx} (c : p.at X) (s : Shared) (H : Hp) (scope : Scope) (C : Addr) (cl : List (Str × Addr)) (fp : List Addr) : (p.blk scope).at (X.blk s H scope (compEnvC scope cl C X.env) fp) :=
  ⟨c.hP, c.hw, c.hK, c.hmg, c.hbase, c.hN, c.nd, by
    show relabel scope X.env = relS scope p.sc
    rw [← c.hsc]; rfl, c.calm, c.room, c.gds, rfl, (fun _ _ h => h.elim), (fun h => by cases h)⟩
theorem takesN {X : Cx} : Takes X W0 := fun u s' ⟨a, B, sI, pins, σ, H, cls, d, e, I, nb, up, sky, na, os, ag, w⟩ => w.elim
def DTs (p : Pl) (ifs : List Expr) (f : M Bool) : Prop := ∀ X W, p.at X → Takes X W → PTs X ifs (rdT p.K W f)
theorem PTs_imp {X : Cx} {e : List Expr} {t t' : TT} (h : PTs X e t) (i : ∀ σ H Q, t' σ H Q → t σ H Q) : PTs X e t' := ⟨fun pins s σ H Q I q => h.run pins s σ H Q I (i σ H Q q)⟩
section
variable {p : Pl} {pos : Pos}
theorem dts_nil : DTs p [] (M.pure true) := fun X W c tk => PTs_imp pts_nil fun σ H Q h => by
  obtain ⟨B, Z, σD, s, h⟩ := h
  exact h.now s
theorem dts_one {e : Expr} {f : M Bool} (h : DT p e f) : DTs p [e] f := fun X W c tk => pts_one (h X W c tk)
theorem de_lc {elt tg iter : Expr} {ifs : List Expr} {scope : Scope} (own : List (Str × Nat)) {vs is : List Nat} {src : M Src} {g : D → M Unit} {tt : M Bool} {te : SE} (hi : DI p tg iter src) (hg : DG (p.blk scope) tg g is) (ht : DTs (p.blk scope) ifs tt) (he : DE (p.blk scope) elt te)
    (ok : blkC p.N p.sc scope own = true := by dsimp only [Pl.blk]; decide +kernel) (hv : own.map (·.2) = vs := by rfl) (his : ∀ i ∈ is, i ∈ vs := by decide) (hs : ∀ (env : Env) x, foldedSetIterable iter env x = pure x := by intro _ _; rfl) :
    DE p (.ListComp elt [⟨tg, iter, ifs, 0⟩] scope pos) (eLc src vs g tt te) := fun X W c tk => by
  subst hv
  exact PE_imp (pe_lc c.calm (by rw [c.hN]; exact c.nd) (hi X W c tk) (by rw [c.hN, c.hsc]; exact blkOk_by ok) (fun s H C cl fp => hg _ (c.blk s H scope C cl fp)) (fun s H C cl fp => ht _ W0 (c.blk s H scope C cl fp) takesN) (fun s H C cl fp => he _ W0 (c.blk s H scope C cl fp) takesN) (hs X.env)) fun σ H Q h => rd_lc his h
theorem de_lc2 {elt tg iter tg1 iter1 : Expr} {ifs ifs1 : List Expr} {scope : Scope} (own : List (Str × Nat)) {vs vs1 is is1 : List Nat} {src src1 : M Src} {g g1 : D → M Unit} {tt tt1 : M Bool} {te : SE} (hi : DI p tg iter src) (hg : DG (p.blk scope) tg g is) (ht : DTs (p.blk scope) ifs tt)
    (hi1 : DI (p.blk scope) tg1 iter1 src1) (hg1 : DG (p.blk scope) tg1 g1 is1) (ht1 : DTs (p.blk scope) ifs1 tt1) (he : DE (p.blk scope) elt te)
    (ok : blkC p.N p.sc scope own = true := by dsimp only [Pl.blk]; decide +kernel) (hv : own.map (·.2) = vs := by rfl) (his : ∀ i ∈ is, i ∈ vs := by decide) (his1 : ∀ i ∈ is1, i ∈ vs1 := by decide) (hvs : ∀ i ∈ vs1, i ∈ vs := by decide)
    (hs : ∀ (env : Env) x, foldedSetIterable iter env x = pure x := by intro _ _; rfl) (hs1 : ∀ (env : Env) x, foldedSetIterable iter1 env x = pure x := by intro _ _; rfl) :
    DE p (.ListComp elt [⟨tg, iter, ifs, 0⟩, ⟨tg1, iter1, ifs1, 0⟩] scope pos) (eLc2 src vs g tt src1 vs1 g1 tt1 te) := fun X W c tk => by
  subst hv
  exact PE_imp (pe_lc2 c.calm (by rw [c.hN]; exact c.nd) (hi X W c tk) (by rw [c.hN, c.hsc]; exact blkOk_by ok) hvs (fun s H C cl fp => hg _ (c.blk s H scope C cl fp)) (fun s H C cl fp => ht _ W0 (c.blk s H scope C cl fp) takesN)
    (fun s H C cl fp => hi1 _ W0 (c.blk s H scope C cl fp) takesN) (fun s H C cl fp => hg1 _ (c.blk s H scope C cl fp)) (fun s H C cl fp => ht1 _ W0 (c.blk s H scope C cl fp) takesN) (fun s H C cl fp => he _ W0 (c.blk s H scope C cl fp) takesN) (hs X.env) hs1) fun σ H Q h => rd_lc2 his his1 hvs h
end
end Ev

set_option Elab.async false
set_option linter.all false
set_option maxRecDepth 100000
/-! Ev, part P: statements. -/
namespace Ev
open PySem PySem.Spec PyProof.Rows L2

inductive Fl where
  | nx | rt (r : R) | bk | ct | ex (c : Str)
def S : Type := Fr → Option (Fl × Fr)
def AftS (K : PySem.W.Frag) (W : WX) (D : Ends) (B : Bd) (Z H : Hp) : Option (Fl × Fr) → Prop
  | none => False
  | some (.nx, σD') => ∀ σ' Z' H', Sta K B Z' σD' σ' H' → Ext B Z H Z' H' → D.nx σ' H'
  | some (.rt r, σD') => ∀ σ' Z' H', Sta K B Z' σD' σ' H' → Ext B Z H Z' H' → ∀ v, RR K B Z' σD' σ' H' r v → D.rt v H'
  | some (.bk, σD') => ∀ σ' Z' H', Sta K B Z' σD' σ' H' → Ext B Z H Z' H' → D.bk σ' H'
  | some (.ct, σD') => ∀ σ' Z' H', Sta K B Z' σD' σ' H' → Ext B Z H Z' H' → D.ct σ' H'
  | some (.ex c, σD') => ∀ σ' Z' H', Sta K B Z' σD' σ' H' → Ext B Z H Z' H' → W (exc K c) none σ' H'
def rdS (K : PySem.W.Frag) (W : WX) (f : S) : TS := fun D σ H => ∃ B Z σD, Sta K B Z σD σ H ∧ AftS K W D B Z H (f σD)
def DS (p : Pl) (st : Stmt) (f : S) : Prop := ∀ X W, p.at X → Takes X W → PS X st (rdS p.K W f)
def DSs (p : Pl) (st : List Stmt) (f : S) : Prop := ∀ X W, p.at X → Takes X W → PSs X st (rdS p.K W f)
def sNx : S := fun σ => some (.nx, σ)
def sNo : S := fun _ => none
def sSeq (f g : S) : S := fun σ => match f σ with
  | some (.nx, σ1) => g σ1
  | o => o
def sM {α : Type} (m : M α) (k : α → S) : S := fun σ => match m σ with
  | some (.ok a, σ1) => k a σ1
  | some (.ex c, σ1) => some (.ex c, σ1)
  | none => none
section
variable {K : PySem.W.Frag} {W : WX} {B : Bd} {Z H Z1 H1 : Hp} {σ : L2.St} {σD σD' : Fr} {T : Ends} {v : V} {r : R}
theorem AftS.back {o : Option (Fl × Fr)} (x : Ext B Z H Z1 H1) (h : AftS K W T B Z H o) : AftS K W T B Z1 H1 o := by
  match o, h with
  | some (.nx, σD'), h => exact fun σ' Z' H' s e => h σ' Z' H' s (x.trans e)
  | some (.rt r, σD'), h => exact fun σ' Z' H' s e => h σ' Z' H' s (x.trans e)
  | some (.bk, σD'), h => exact fun σ' Z' H' s e => h σ' Z' H' s (x.trans e)
  | some (.ct, σD'), h => exact fun σ' Z' H' s e => h σ' Z' H' s (x.trans e)
  | some (.ex c, σD'), h => exact fun σ' Z' H' s e => h σ' Z' H' s (x.trans e)
theorem AftS.nn {o : Option (Fl × Fr)} (h : AftS K W T B Z H o) : o ≠ none := fun e => by rw [e] at h; exact h
/-- an expression first -/
theorem AftS.m {α : Type} {m : M α} {k : α → S} (h : AftS K W T B Z H (sM m k σD)) : Aft K W (fun a Z' σD' H' => AftS K W T B Z' H' (k a σD')) σ B Z H (m σD) := by
  unfold sM at h
  cases e : m σD with
  | none => rw [e] at h; exact h
  | some q =>
    obtain ⟨q, σD'⟩ := q
    rw [e] at h
    cases q with
    | ok a => exact fun Z' H' s x => h.back x
    | ex c => exact fun Z' H' s x => h σ Z' H' s x
theorem AftS.nx (s : Sta K B Z σD σ H) (h : AftS K W T B Z H (some (.nx, σD))) : T.nx σ H := h σ Z H s (Ext.refl B Z H)
theorem rdS_m {α : Type} {m : M α} {k : α → S} {t : TS} (h : rdS K W (sM m k) T σ H) : ∃ B Z σD, Sta K B Z σD σ H ∧ Aft K W (fun a Z' σD' H' => AftS K W T B Z' H' (k a σD')) σ B Z H (m σD) := by
  obtain ⟨B, Z, σD, s, h⟩ := h
  exact ⟨B, Z, σD, s, h.m⟩
/-- a slot takes a value -/
def put1 (i : Nat) (r : R) (σ : Fr) : Option Fr := match r with
  | .v d false => some (σ.set i (.fro d))
  | .v d true => some (σ.set i (.own d))
  | .s j => match froz1 (.s j) σ with
    | some (.ok d, σ') => some (σ'.set i (.fro d))
    | _ => none
def put (i : Nat) (r : R) (σ : Fr) : Option Fr := match σ[i]? with
  | none => none
  | some (.par _) => none
  | some _ => put1 i r σ
theorem froz1_npar {j : Nat} {σD σD' : Fr} {i : Nat} {o : Re D} (e : froz1 (.s j) σD = some (o, σD')) (h : NPar σD i) : NPar σD' i := by
  unfold froz1 at e
  cases q : σD[j]? with
  | none => simp [q] at e
  | some l =>
    cases l with
    | no => simp [q] at e
    | par x => simp [q] at e
    | fro x =>
      simp [q] at e
      obtain ⟨rfl, rfl⟩ := e
      exact h
    | own x =>
      simp [q] at e
      obtain ⟨rfl, rfl⟩ := e
      refine ⟨by simpa using h.1, fun d hd => ?_⟩
      rw [lset_get] at hd
      split at hd
      · split at hd <;> cases hd
      · exact h.2 d hd
theorem put_ok {i : Nat} (s : Sta K B Z σD σ H) (q : RR K B Z σD σ H r v) (e : put i r σD = some σD') : ∃ Z', Sta K B Z' σD' (σ.set i (some v)) H ∧ Ext B Z H Z' H := by
  unfold put at e
  have np : ∀ l, σD[i]? = some l → (∀ d, l ≠ .par d) → NPar σD i := fun l h1 h2 => ⟨(List.getElem?_eq_some_iff.mp h1).1, fun d h3 => h2 d (by rw [h1] at h3; exact Option.some.inj h3)⟩
  have go : NPar σD i → put1 i r σD = some σD' → ∃ Z', Sta K B Z' σD' (σ.set i (some v)) H ∧ Ext B Z H Z' H := fun hn e => by
    unfold put1 at e
    cases r with
    | v d o =>
      cases o with
      | false => cases e; exact ⟨Z, s.setF hn q, Ext.refl B Z H⟩
      | true =>
        cases e
        obtain ⟨a, rfl, nb, z, c, n⟩ := q
        exact ⟨Z, s.setO hn nb z c fun j e _ hj => n j e hj, Ext.refl B Z H⟩
    | s j =>
      cases e2 : froz1 (.s j) σD with
      | none => simp [e2] at e
      | some o =>
        obtain ⟨o, σ'⟩ := o
        obtain ⟨d, rfl, Z', s', x', r', _, _⟩ := alias_ok s q e2
        simp [e2] at e
        subst e
        exact ⟨Z', s'.setF (froz1_npar e2 hn) r', x'⟩
  cases h : σD[i]? with
  | none => rw [h] at e; cases e
  | some l =>
    rw [h] at e
    cases l with
    | par d => cases e
    | no => exact go (np _ h fun _ z => by cases z) e
    | fro d => exact go (np _ h fun _ z => by cases z) e
    | own d => exact go (np _ h fun _ z => by cases z) e
end
def sPut (i : Nat) (r : R) : S := fun σ => match put i r σ with
  | some σ' => some (.nx, σ')
  | none => none
def sSet (i : Nat) (f : SE) : S := sM f (sPut i)
def sRet (f : SE) : S := sM f fun r σ => some (.rt r, σ)
def sRetN : S := fun σ => some (.rt (.v .non false), σ)
def sDrop (f : SE) : S := sM f fun _ => sNx
def sIf (c : M Bool) (a b : S) : S := sM c fun t => match t with
  | true => a
  | false => b
def sBk : S := fun σ => some (.bk, σ)
def sCt : S := fun σ => some (.ct, σ)
def sRaise (c : Str) : S := fun σ => some (.ex c, σ)
section
variable {p : Pl} {pos : Pos} {e : Expr} {f : SE} {st : Stmt} {sts : List Stmt} {s t u : S}
theorem dss_nil : DSs p [] sNx := fun X W c tk => PSs_imp pss_nil fun D σ H h => by
  obtain ⟨B, Z, σD, s, h⟩ := h
  exact h.nx s
theorem dss_cons (h1 : DS p st s) (h2 : DSs p sts t) : DSs p (st :: sts) (sSeq s t) := fun X W c tk => PSs_imp (pss_cons (h1 X W c tk) (h2 X W c tk)) fun D σ H h => by
  obtain ⟨B, Z, σD, s0, h⟩ := h
  refine ⟨B, Z, σD, s0, ?_⟩
  unfold sSeq at h
  cases e : s σD with
  | none => rw [e] at h; exact h
  | some q =>
    obtain ⟨q, σD'⟩ := q
    rw [e] at h
    cases q with
    | nx => exact fun σ' Z' H' s' x => ⟨B, Z', σD', s', h.back x⟩
    | rt r => exact h
    | bk => exact h
    | ct => exact h
    | ex c => exact h
theorem dss_one (h1 : DS p st s) : DSs p [st] s := fun X W c tk => pss_one (h1 X W c tk)
theorem ds_pass : DS p (.Pass pos) sNx := fun X W c tk => PS_imp ps_pass fun D σ H h => by
  obtain ⟨B, Z, σD, s, h⟩ := h
  exact h.nx s
theorem ds_break : DS p (.Break pos) sBk := fun X W c tk => PS_imp ps_break fun D σ H h => by
  obtain ⟨B, Z, σD, s, h⟩ := h
  exact h σ Z H s (Ext.refl B Z H)
theorem ds_continue : DS p (.Continue pos) sCt := fun X W c tk => PS_imp ps_continue fun D σ H h => by
  obtain ⟨B, Z, σD, s, h⟩ := h
  exact h σ Z H s (Ext.refl B Z H)
theorem ds_ret (he : DE p e f) : DS p (.Return (some e) pos) (sRet f) := fun X W c tk => PS_imp (ps_ret (he X W c tk)) fun D σ H h => by
  obtain ⟨B, Z, σD, s, h⟩ := h
  exact ⟨B, Z, σD, s, h.m.imp fun r Z' σD' H' s' x q v hv => q σ Z' H' s' (Ext.refl B Z' H') v hv⟩
theorem ds_retN : DS p (.Return none pos) sRetN := fun X W c tk => PS_imp ps_retN fun D σ H h => by
  obtain ⟨B, Z, σD, s, h⟩ := h
  exact h σ Z H s (Ext.refl B Z H) .non (show Rp p.K Z .non .non by simp [Rp])
theorem ds_expr (he : DE p e f) (hs : ∀ env : Env, swapsWith e none pos.line env = pure false := by intro _; rfl) : DS p (.Expr e pos) (sDrop f) := fun X W c tk => PS_imp (ps_expr (he X W c tk) (hs X.env)) fun D σ H h => by
  obtain ⟨B, Z, σD, s, h⟩ := h
  exact ⟨B, Z, σD, s, h.m.imp fun r Z' σD' H' s' x q v hv => q.nx s'⟩
theorem ds_if {c : Expr} {a b : List Stmt} {m : M Bool} (hc : DT p c m) (ha : DSs p a s) (hb : DSs p b t) : DS p (.If c a b pos) (sIf m s t) := fun X W x tk => PS_imp (ps_if (hc X W x tk) (ha X W x tk) (hb X W x tk)) fun D σ H h => by
  obtain ⟨B, Z, σD, s0, h⟩ := h
  refine ⟨B, Z, σD, s0, h.m.imp fun r Z' σD' H' s' x q => ?_⟩
  cases r with
  | true => exact ⟨B, Z', σD', s', q⟩
  | false => exact ⟨B, Z', σD', s', q⟩
theorem AftS.put {K : PySem.W.Frag} {W : WX} {D : Ends} {B : Bd} {Z H : Hp} {σ : L2.St} {σD : Fr} {r : R} {v : V} {i : Nat} (s : Sta K B Z σD σ H) (q : RR K B Z σD σ H r v) (h : AftS K W D B Z H (sPut i r σD)) : D.nx (σ.set i (some v)) H := by
  unfold sPut at h
  cases e : Ev.put i r σD with
  | none => rw [e] at h; exact h.elim
  | some σD' =>
    rw [e] at h
    obtain ⟨Z', s', x'⟩ := put_ok s q e
    exact h _ _ _ s' x'
theorem rd_set {K : PySem.W.Frag} {W : WX} {D : Ends} {σ : L2.St} {H : Hp} {i : Nat} (h : rdS K W (sSet i f) D σ H) : tAsg (rd K W f) (gName i) D σ H := by
  obtain ⟨B, Z, σD, s, h⟩ := h
  exact ⟨B, Z, σD, s, h.m.imp fun r Z' σD' H' s' x q v hv => q.put s' hv⟩
theorem ds_set (i : Nat) {x : Str} {pos' : Pos} (he : DE p e f) (hN : p.N[i]? = some x := by rfl) (hx : Loc p.sc x := by first | exact Or.inl rfl | exact Or.inr rfl) (hf : p.fn x = true ∨ p.sc.names.lookup x = some NameKind.local := by first | exact Or.inl rfl | exact Or.inr rfl)
    (hs : ∀ env : Env, env.scope = p.sc → swapsWith e (some (.Name x pos')) pos.line env = pure false := by first | (intro _ _; rfl) | (rintro ⟨⟩ rfl; rfl)) : DS p (.Assign [.Name x pos'] e pos) (sSet i f) := fun X W c tk =>
  PS_imp (ps_set (i := i) (by rw [c.hN]; exact c.nd) (by rw [c.hN]; exact hN) (by rw [c.hsc]; exact hx) (he X W c tk) (hs X.env c.hsc) (by rw [c.hsc, c.hfn]; exact hf)) fun D σ H h => rd_set h
theorem ds_setLc (i : Nat) {y : Str} {py spos : Pos} {elt tg iter : Expr} {ifs : List Expr} {scope : Scope} (own : List (Str × Nat)) {vs is : List Nat} {src : M Src} {g : D → M Unit} {tt : M Bool} {te : SE} (hi : DI p tg iter src) (hg : DG (p.blk scope) tg g is) (ht : DTs (p.blk scope) ifs tt) (he : DE (p.blk scope) elt te)
    (hN : p.N[i]? = some y := by rfl) (hx : p.sc.names.lookup y = some NameKind.local := by rfl)
    (hsw : ∀ env : Env, env.scope = p.sc → swapsWith (.ListComp elt [⟨tg, iter, ifs, 0⟩] scope pos) (some (.Name y py)) spos.line env = pure true := by rintro ⟨⟩ rfl; rfl)
    (ok : blkC p.N p.sc scope own = true := by dsimp only [Pl.blk]; decide +kernel) (hv : own.map (·.2) = vs := by rfl) (his : ∀ i ∈ is, i ∈ vs := by decide) (hs : ∀ (env : Env) x, foldedSetIterable iter env x = pure x := by intro _ _; rfl) :
    DS p (.Assign [.Name y py] (.ListComp elt [⟨tg, iter, ifs, 0⟩] scope pos) spos) (sSet i (eLc src vs g tt te)) := fun X W c tk => by
  subst hv
  refine PS_imp (ps_setLc (i := i) c.calm (by rw [c.hN]; exact c.nd) (by rw [c.hN]; exact hN) (by rw [c.hsc]; exact hx) (hsw X.env c.hsc) (hi X W c tk) (by rw [c.hN, c.hsc]; exact blkOk_by ok) (fun s H C cl fp => hg _ (c.blk s H scope C cl fp)) (fun s H C cl fp => ht _ W0 (c.blk s H scope C cl fp) takesN) (fun s H C cl fp => he _ W0 (c.blk s H scope C cl fp) takesN) (hs X.env)) fun D σ H h => ?_
  exact rd_lc his (rd_set h)
theorem ds_setLc2 (i : Nat) {y : Str} {py spos : Pos} {elt tg iter tg1 iter1 : Expr} {ifs ifs1 : List Expr} {scope : Scope} (own : List (Str × Nat)) {vs vs1 is is1 : List Nat} {src src1 : M Src} {g g1 : D → M Unit} {tt tt1 : M Bool} {te : SE} (hi : DI p tg iter src) (hg : DG (p.blk scope) tg g is) (ht : DTs (p.blk scope) ifs tt)
    (hi1 : DI (p.blk scope) tg1 iter1 src1) (hg1 : DG (p.blk scope) tg1 g1 is1) (ht1 : DTs (p.blk scope) ifs1 tt1) (he : DE (p.blk scope) elt te)
    (hN : p.N[i]? = some y := by rfl) (hx : p.sc.names.lookup y = some NameKind.local := by rfl)
    (hsw : ∀ env : Env, env.scope = p.sc → swapsWith (.ListComp elt [⟨tg, iter, ifs, 0⟩, ⟨tg1, iter1, ifs1, 0⟩] scope pos) (some (.Name y py)) spos.line env = pure true := by rintro ⟨⟩ rfl; rfl)
    (ok : blkC p.N p.sc scope own = true := by dsimp only [Pl.blk]; decide +kernel) (hv : own.map (·.2) = vs := by rfl) (his : ∀ i ∈ is, i ∈ vs := by decide) (his1 : ∀ i ∈ is1, i ∈ vs1 := by decide) (hvs : ∀ i ∈ vs1, i ∈ vs := by decide)
    (hs : ∀ (env : Env) x, foldedSetIterable iter env x = pure x := by intro _ _; rfl) (hs1 : ∀ (env : Env) x, foldedSetIterable iter1 env x = pure x := by intro _ _; rfl) :
    DS p (.Assign [.Name y py] (.ListComp elt [⟨tg, iter, ifs, 0⟩, ⟨tg1, iter1, ifs1, 0⟩] scope pos) spos) (sSet i (eLc2 src vs g tt src1 vs1 g1 tt1 te)) := fun X W c tk => by
  subst hv
  refine PS_imp (ps_setLc2 (i := i) c.calm (by rw [c.hN]; exact c.nd) (by rw [c.hN]; exact hN) (by rw [c.hsc]; exact hx) (hsw X.env c.hsc) (hi X W c tk) (by rw [c.hN, c.hsc]; exact blkOk_by ok) hvs (fun s H C cl fp => hg _ (c.blk s H scope C cl fp)) (fun s H C cl fp => ht _ W0 (c.blk s H scope C cl fp) takesN)
    (fun s H C cl fp => hi1 _ W0 (c.blk s H scope C cl fp) takesN) (fun s H C cl fp => hg1 _ (c.blk s H scope C cl fp)) (fun s H C cl fp => ht1 _ W0 (c.blk s H scope C cl fp) takesN) (fun s H C cl fp => he _ W0 (c.blk s H scope C cl fp) takesN) (hs X.env) hs1) fun D σ H h => ?_
  exact rd_lc2 his his1 hvs (rd_set h)

/-! ### a, b = .. -/
def sG (g : M Unit) : S := fun σ => match g σ with
  | some (.ok _, σ1) => some (.nx, σ1)
  | _ => none
def sAsg (f : SE) (g : D → M Unit) : S := sM f fun r => sM (froz1 r) fun d => sG (g d)
theorem AftS.froz {K : PySem.W.Frag} {W : WX} {N : Ends} {B : Bd} {Z H : Hp} {σ : L2.St} {σD : Fr} {r : R} {v : V} {k : D → S} (s : Sta K B Z σD σ H) (q : RR K B Z σD σ H r v) (h : AftS K W N B Z H (sM (froz1 r) k σD)) :
    ∃ d Z' σD', Sta K B Z' σD' σ H ∧ Ext B Z H Z' H ∧ Rp K Z' d v ∧ froz1 r σD = some (.ok d, σD') ∧ AftS K W N B Z' H (k d σD') := by
  unfold sM at h
  cases e : froz1 r σD with
  | none => rw [e] at h; exact h.elim
  | some o =>
    obtain ⟨o, σD'⟩ := o
    obtain ⟨d, rfl, Z', s', x', r', _, _⟩ := alias_ok s q e
    rw [e] at h
    exact ⟨d, Z', σD', s', x', r', rfl, AftS.back x' h⟩
theorem AftS.g {K : PySem.W.Frag} {W : WX} {N : Ends} {B : Bd} {Z H : Hp} {σD : Fr} {g : M Unit} (h : AftS K W N B Z H (sG g σD)) : ∃ σD', g σD = some (.ok (), σD') ∧ AftS K W N B Z H (some (.nx, σD')) := by
  unfold sG at h
  cases e : g σD with
  | none => rw [e] at h; exact h.elim
  | some o =>
    obtain ⟨o, σD'⟩ := o
    rw [e] at h
    cases o with
    | ok a => exact ⟨σD', rfl, h⟩
    | ex c => exact h.elim
theorem ds_asg {tg : Expr} {g : D → M Unit} {is : List Nat} (he : DE p e f) (hg : DG p tg g is) (hs : ∀ env : Env, env.scope = p.sc → swapsWithSole [tg] e pos.line env = pure false := by intro _ _; rfl) (hw : ∀ env : Env, env.scope = p.sc → swappedStores [tg] e env = pure none := by first | (intro _ _; rfl) | (rintro ⟨⟩ rfl; rfl))
    (h1 : ∀ env : Env, (assignEach [tg] env).map (·.2) = [assign tg env] := by intro _; rfl) : DS p (.Assign [tg] e pos) (sAsg f g) := fun X W c tk =>
  PS_imp (ps_asg (he X W c tk) (hg X c) (hs X.env c.hsc) (hw X.env c.hsc) (h1 X.env)) fun D σ H h => by
    obtain ⟨B, Z, σD, s, h⟩ := h
    refine ⟨B, Z, σD, s, h.m.imp fun r Z' σD' H' s' x q v hv => ?_⟩
    obtain ⟨d, Z2, σD2, s2, x2, r2, _, q⟩ := AftS.froz s' hv q
    refine ⟨B, Z2, σD2, d, s2, r2, ?_⟩
    obtain ⟨σD3, e3, q⟩ := q.g
    rw [e3]
    exact fun σ' s3 _ => q σ' Z2 H' s3 (Ext.refl _ _ _)
def sPar (i j : Nat) (fs : List SE) : S := sM (eAll fs) fun rs => sM (aliasAll rs) fun ds => match ds with
  | [a, b] => sSeq (sG (gN i a)) (sG (gN j b))
  | _ => sNo
def sPar3 (i j k : Nat) (fs : List SE) : S := sM (eAll fs) fun rs => sM (aliasAll rs) fun ds => match ds with
  | [a, b, c] => sSeq (sG (gN i a)) (sSeq (sG (gN j b)) (sG (gN k c)))
  | _ => sNo
theorem AftS.gn {K : PySem.W.Frag} {W : WX} {N : Ends} {B : Bd} {Z H : Hp} {σ : L2.St} {σD : Fr} {v : V} {d : D} {i : Nat} {t : S} (s : Sta K B Z σD σ H) (r : Rp K Z d v) (h : AftS K W N B Z H (sSeq (sG (gN i d)) t σD)) :
    ∃ σD', Sta K B Z σD' (σ.set i (some v)) H ∧ AftS K W N B Z H (t σD') := by
  unfold sSeq at h
  cases e : sG (gN i d) σD with
  | none => rw [e] at h; exact h.elim
  | some o =>
    obtain ⟨fl, σD'⟩ := o
    rw [e] at h
    unfold sG at e
    cases e2 : gN i d σD with
    | none => rw [e2] at e; cases e
    | some o =>
      obtain ⟨o, σD2⟩ := o
      obtain ⟨np, rfl, rfl⟩ := npar_of e2
      rw [e2] at e
      cases e
      exact ⟨_, s.setF np r, h⟩
theorem AftS.frozA {K : PySem.W.Frag} {W : WX} {N : Ends} {B : Bd} {Z H : Hp} {σ : L2.St} {σD : Fr} {rs : List R} {vs : List V} {k : List D → S} (s : Sta K B Z σD σ H) (q : RRs K Z σD σ H B rs vs) (h : AftS K W N B Z H (sM (aliasAll rs) k σD)) :
    ∃ ds Z' σD', Sta K B Z' σD' σ H ∧ Ext B Z H Z' H ∧ RpL K Z' ds vs ∧ AftS K W N B Z' H (k ds σD') := by
  unfold sM at h
  cases e : aliasAll rs σD with
  | none => rw [e] at h; exact h.elim
  | some o =>
    obtain ⟨o, σD'⟩ := o
    obtain ⟨ds, rfl, Z', s', x', r'⟩ := aliasAll_ok s q e
    rw [e] at h
    exact ⟨ds, Z', σD', s', x', r', AftS.back x' h⟩
theorem ds_par (i j : Nat) {x y : Str} {a b : Expr} {px py pt : Pos} {kt k2 pt2} {fs : List SE} (ha : DA p [a, b] fs) (hi : p.N[i]? = some x := by rfl) (hj : p.N[j]? = some y := by rfl) (hij : i ≠ j := by decide)
    (hx : p.sc.names.lookup x = some .local := by rfl) (hy : p.sc.names.lookup y = some .local := by rfl)
    (hw : ∀ env : Env, env.scope = p.sc → swappedStores [.Tuple [.Name x px, .Name y py] kt pt] (.Tuple [a, b] k2 pt2) env = pure (some [x, y]) := by rintro ⟨⟩ rfl; rfl)
    (hs : ∀ env : Env, env.scope = p.sc → swapsWithSole [.Tuple [.Name x px, .Name y py] kt pt] (.Tuple [a, b] k2 pt2) pos.line env = pure false := by intro _ _; rfl) :
    DS p (.Assign [.Tuple [.Name x px, .Name y py] kt pt] (.Tuple [a, b] k2 pt2) pos) (sPar i j fs) := fun X W c tk =>
  PS_imp (ps_par (i := i) (j := j) c.calm (by rw [c.hN]; exact c.nd) (by rw [c.hN]; exact hi) (by rw [c.hN]; exact hj) hij (by rw [c.hsc]; exact hx) (by rw [c.hsc]; exact hy) (ha.run X W c tk) (hw X.env c.hsc) (hs X.env c.hsc)) fun D σ H h => by
    obtain ⟨B, Z, σD, s, h⟩ := h
    refine ⟨B, Z, σD, s, h.m.imp fun rs Z' σD' H' s' x q vs hv => ?_⟩
    obtain ⟨ds, Z2, σD2, s2, x2, r2, q⟩ := AftS.frozA s' hv q
    rcases ds with _ | ⟨d1, _ | ⟨d2, _ | ⟨d3, ds⟩⟩⟩
    · exact q.elim
    · exact q.elim
    · obtain ⟨v, t, rfl, h1, h2⟩ := r2.inv
      obtain ⟨w, t, rfl, h3, h4⟩ := h2.inv
      cases h4.inv0
      obtain ⟨σD3, s3, q⟩ := AftS.gn s2 h1 q
      have q : AftS p.K W D B Z2 H' (sSeq (sG (gN j d2)) sNx σD3) := by
        have e : sSeq (sG (gN j d2)) sNx σD3 = sG (gN j d2) σD3 := by
          unfold sSeq
          cases e : sG (gN j d2) σD3 with
          | none => rfl
          | some o => obtain ⟨fl, σ⟩ := o; cases fl <;> rfl
        rw [e]; exact q
      obtain ⟨σD4, s4, q⟩ := AftS.gn s3 h3 q
      exact ⟨v, w, rfl, q.nx s4⟩
    · exact q.elim
theorem sSeq_nx (f : S) (σ : Fr) : sSeq f sNx σ = f σ := by
  unfold sSeq
  cases e : f σ with
  | none => rfl
  | some o => obtain ⟨fl, σ⟩ := o; cases fl <;> rfl
theorem ds_par3 (i j l : Nat) {x y z : Str} {a b d : Expr} {px py pz pt : Pos} {kt k2 pt2} {fs : List SE} (ha : DA p [a, b, d] fs) (hi : p.N[i]? = some x := by rfl) (hj : p.N[j]? = some y := by rfl) (hl : p.N[l]? = some z := by rfl) (hij : i ≠ j := by decide) (hil : i ≠ l := by decide) (hjl : j ≠ l := by decide)
    (hx : p.sc.names.lookup x = some .local := by rfl) (hy : p.sc.names.lookup y = some .local := by rfl) (hz : p.sc.names.lookup z = some .local := by rfl)
    (hw : ∀ env : Env, env.scope = p.sc → swappedStores [.Tuple [.Name x px, .Name y py, .Name z pz] kt pt] (.Tuple [a, b, d] k2 pt2) env = pure (some [x, y, z]) := by rintro ⟨⟩ rfl; rfl)
    (hs : ∀ env : Env, env.scope = p.sc → swapsWithSole [.Tuple [.Name x px, .Name y py, .Name z pz] kt pt] (.Tuple [a, b, d] k2 pt2) pos.line env = pure false := by intro _ _; rfl) :
    DS p (.Assign [.Tuple [.Name x px, .Name y py, .Name z pz] kt pt] (.Tuple [a, b, d] k2 pt2) pos) (sPar3 i j l fs) := fun X W c tk =>
  PS_imp (ps_par3 (i := i) (j := j) (l := l) c.calm (by rw [c.hN]; exact c.nd) (by rw [c.hN]; exact hi) (by rw [c.hN]; exact hj) (by rw [c.hN]; exact hl) hij hil hjl (by rw [c.hsc]; exact hx) (by rw [c.hsc]; exact hy) (by rw [c.hsc]; exact hz) (ha.run X W c tk) (hw X.env c.hsc) (hs X.env c.hsc)) fun D σ H h => by
    obtain ⟨B, Z, σD, s, h⟩ := h
    refine ⟨B, Z, σD, s, h.m.imp fun rs Z' σD' H' s' x q vs hv => ?_⟩
    obtain ⟨ds, Z2, σD2, s2, x2, r2, q⟩ := AftS.frozA s' hv q
    rcases ds with _ | ⟨d1, _ | ⟨d2, _ | ⟨d3, _ | ⟨d4, ds⟩⟩⟩⟩
    · exact q.elim
    · exact q.elim
    · exact q.elim
    · obtain ⟨v, t, rfl, h1, h2⟩ := r2.inv
      obtain ⟨w, t, rfl, h3, h4⟩ := h2.inv
      obtain ⟨u, t, rfl, h5, h6⟩ := h4.inv
      cases h6.inv0
      obtain ⟨σD3, s3, q⟩ := AftS.gn s2 h1 q
      obtain ⟨σD4, s4, q⟩ := AftS.gn s3 h3 q
      have q : AftS p.K W D B Z2 H' (sSeq (sG (gN l d3)) sNx σD4) := by rw [sSeq_nx]; exact q
      obtain ⟨σD5, s5, q⟩ := AftS.gn s4 h5 q
      exact ⟨v, w, u, rfl, q.nx s5⟩
    · exact q.elim

/-! ### for -/
def forGo (ws : List (Nat × D)) (g : D → M Unit) (b : S) : List D → S
  | [], σ => if okW σ ws then some (.nx, σ) else none
  | x :: xs, σ => if okW σ ws then (match g x σ with
    | some (.ok _, σ1) => (match b σ1 with
      | some (.nx, σ2) => forGo ws g b xs σ2
      | some (.ct, σ2) => forGo ws g b xs σ2
      | some (.bk, σ2) => some (.nx, σ2)
      | o => o)
    | _ => none) else none
def sFor (src : M Src) (g : D → M Unit) (b : S) : S := sM src fun s σ => if wOk σ s.ws [] then (match forGo s.ws g b s.items (pinD σ s.ws) with
  | some (fl, σ') => if okW σ' s.ws then some (fl, restore σ (s.ws.map (·.1)) σ') else none
  | none => none) else none
theorem RR.pins {K : PySem.W.Frag} {B : Bd} {Z H : Hp} {σD σD' : Fr} {σ : L2.St} {r : R} {v : V} (q : RR K B Z σD σ H r v) (h : ∀ i e, Held σD' i e → Held σD i e) : RR K B Z σD' σ H r v := by
  cases r with
  | s i => exact q
  | v d o =>
    cases o with
    | false => exact q
    | true =>
      obtain ⟨a, rfl, nb, z, c, n⟩ := q
      exact ⟨a, rfl, nb, z, c, fun i e hh => n i e (h i e hh)⟩
theorem held_restore {ws : List (Nat × D)} {σD0 σD : Fr} (hw : ∀ w ∈ ws, Held σD0 w.1 w.2) (ok : okW σD ws) {i : Nat} {d : D} (h : Held (restore σD0 (ws.map (·.1)) σD) i d) : Held σD i d := by
  by_cases hi : i ∈ ws.map (·.1)
  · obtain ⟨w, hm, rfl⟩ := List.mem_map.mp hi
    unfold Held at h
    rw [restore_getW hw ok, if_pos hi] at h
    rw [Held.inj (show Held σD0 w.1 d from h) (hw w hm)]
    exact .inr (ok w hm)
  · unfold Held at h ⊢
    rw [restore_getW hw ok, if_neg hi] at h
    exact h
theorem RR.up {K : PySem.W.Frag} {B C : Bd} {Z H : Hp} {σD : Fr} {σ : L2.St} {r : R} {v : V} (q : RR K C Z σD σ H r v) (h : ∀ a, B a → C a) : RR K B Z σD σ H r v := by
  cases r with
  | s i => exact q
  | v d o =>
    cases o with
    | false => exact q
    | true =>
      obtain ⟨a, rfl, nb, z, c, n⟩ := q
      exact ⟨a, rfl, fun z => nb (h a z), z, c, n⟩
/-- a loop's outcome seen from behind it: the pins off, the frame's slots back -/
theorem AftS.unpin {K : PySem.W.Frag} {W : WX} {N : Ends} {B : Bd} {Z0 H0 Z H : Hp} {σ0 : L2.St} {σD0 : Fr} {ws : List (Nat × D)} {fl : Fl} {σE : Fr} (s0 : Sta K B Z0 σD0 σ0 H0) (hw : ∀ w ∈ ws, Held σD0 w.1 w.2) (ok : okW σE ws)
    (x : Ext B Z0 H0 Z H) (h : AftS K W N B Z0 H0 (some (fl, restore σD0 (ws.map (·.1)) σE))) : AftS K W N (pinB B σ0 ws) Z H (some (fl, σE)) := by
  have h := h.back x
  have up : ∀ {σ' Z' H'}, Sta K (pinB B σ0 ws) Z' σE σ' H' → Sta K B Z' (restore σD0 (ws.map (·.1)) σE) σ' H' := fun s => s0.unpin hw s ok
  cases fl with
  | nx => exact fun σ' Z' H' s e => h σ' Z' H' (up s) (e.mono (pinB_le s0))
  | bk => exact fun σ' Z' H' s e => h σ' Z' H' (up s) (e.mono (pinB_le s0))
  | ct => exact fun σ' Z' H' s e => h σ' Z' H' (up s) (e.mono (pinB_le s0))
  | ex c => exact fun σ' Z' H' s e => h σ' Z' H' (up s) (e.mono (pinB_le s0))
  | rt r => exact fun σ' Z' H' s e v hv => h σ' Z' H' (up s) (e.mono (pinB_le s0)) v ((hv.up (B := B) fun _ q => q).pins fun i e hh => held_restore hw ok hh)
/-- the end of a loop -/
def fin1 (σ : Fr) (ws : List (Nat × D)) : Option (Fl × Fr) → Option (Fl × Fr)
  | some (fl, σ') => if okW σ' ws then some (fl, restore σ (ws.map (·.1)) σ') else none
  | none => none
theorem sFor_eq {src : M Src} {g : D → M Unit} {b : S} : sFor src g b = sM src fun s σ => if wOk σ s.ws [] then fin1 σ s.ws (forGo s.ws g b s.items (pinD σ s.ws)) else none := by
  unfold sFor fin1
  rfl
theorem for_loop {K : PySem.W.Frag} {W : WX} {N : Ends} {C : Bd} {Zs Hs : Hp} {ws : List (Nat × D)} {is : List Nat} {g : D → M Unit} {b : S} {items : List D} {σ0 : L2.St} {J : It} {out : Option (Fl × Fr)} (hw : Walk K Zs σ0 ⟨items, ws⟩ J) (pin : PinOk σ0 C ws)
    (hout : AftS K W N C Zs Hs out) : ∀ i m σ H, (m = items.length - i ∧ i ≤ items.length ∧ ∃ Z σt, Sta K C Z σt σ H ∧ Ext C Zs Hs Z H ∧ forGo ws g b (items.drop i) σt = out) →
    (J.stop i H ∧ N.nx σ H) ∨ (J.go i H ∧ ∃ N' : L2.St → Hp → Prop, (∀ σ' H', N' σ' H' → ∃ m', m' < m ∧ (m' = items.length - (i + 1) ∧ i + 1 ≤ items.length ∧ ∃ Z σt, Sta K C Z σt σ' H' ∧ Ext C Zs Hs Z H' ∧ forGo ws g b (items.drop (i + 1)) σt = out)) ∧
      ∀ x H', J.yld i H x H' → rdG K g is x σ H' fun σ2 H2 => rdS K W b { N with nx := N', ct := N', bk := N.nx } σ2 H2) := by
  rintro i m σ H ⟨hm, hle, Z, σt, s, x, go⟩
  by_cases hn : i = items.length
  · left
    subst hn
    rw [List.drop_length] at go
    unfold forGo at go
    split at go
    · rename_i ok
      rw [← go] at hout
      exact ⟨hw.stop C Z _ _ H s x.sub pin ok, hout σ Z H s x⟩
    · rw [← go] at hout; exact hout.elim
  · right
    have hlt : i < items.length := by omega
    have hx : items[i]? = some items[i] := List.getElem?_eq_getElem hlt
    rw [List.drop_eq_getElem_cons hlt] at go
    unfold forGo at go
    split at go
    · rename_i ok
      obtain ⟨gogo, yl⟩ := hw.go C Z _ _ H s x.sub pin ok i _ hx
      refine ⟨gogo, fun σ' H' => i + 1 ≤ items.length ∧ ∃ Z σt, Sta K C Z σt σ' H' ∧ Ext C Zs Hs Z H' ∧ forGo ws g b (items.drop (i + 1)) σt = out, fun σ' H' h => ⟨_, by omega, rfl, h⟩, fun v H' hy => ?_⟩
      obtain ⟨Z', gr, rx⟩ := yl v H' hy
      have s1 := s.grow gr
      have x1 := x.trans (Ext.grow s gr)
      refine ⟨C, Z', σt, items[i], s1, rx, ?_⟩
      cases e1 : g items[i] σt with
      | none => rw [e1] at go; rw [← go] at hout; exact hout.elim
      | some o =>
        obtain ⟨o, σ1⟩ := o
        rw [e1] at go
        cases o with
        | ex c => rw [← go] at hout; exact hout.elim
        | ok a =>
          intro σ2 s2 _
          refine ⟨C, Z', σ1, s2, ?_⟩
          have go : (match b σ1 with
            | some (.nx, σ2) => forGo ws g b (items.drop (i + 1)) σ2
            | some (.ct, σ2) => forGo ws g b (items.drop (i + 1)) σ2
            | some (.bk, σ2) => some (.nx, σ2)
            | o => o) = out := go
          cases e2 : b σ1 with
          | none => rw [e2] at go; rw [← go] at hout; exact hout.elim
          | some o =>
            obtain ⟨fl, σ3⟩ := o
            rw [e2] at go
            cases fl with
            | nx => exact fun σ' Z2 H2 s3 x3 => ⟨hlt, Z2, σ3, s3, x1.trans x3, go⟩
            | ct => exact fun σ' Z2 H2 s3 x3 => ⟨hlt, Z2, σ3, s3, x1.trans x3, go⟩
            | bk => rw [← go] at hout; exact fun σ' Z2 H2 s3 x3 => hout σ' Z2 H2 s3 (x1.trans x3)
            | rt r => rw [← go] at hout; exact fun σ' Z2 H2 s3 x3 => hout σ' Z2 H2 s3 (x1.trans x3)
            | ex c => rw [← go] at hout; exact fun σ' Z2 H2 s3 x3 => hout σ' Z2 H2 s3 (x1.trans x3)
    · rw [← go] at hout; exact hout.elim
theorem ds_for {tg iter : Expr} {body : List Stmt} {src : M Src} {g : D → M Unit} {is : List Nat} {b : S} (hi : DI p tg iter src) (hg : DG p tg g is) (hb : DSs p body b) (hs : ∀ (env : Env) x, foldedSetIterable iter env x = pure x := by intro _ _; rfl) : DS p (.For tg iter body [] pos) (sFor src g b) := fun X W c tk =>
  PS_imp (ps_for c.pass c.calm (hi X W c tk) (hg X c) (hb X W c tk) (hs X.env)) fun D σ H h => by
    rw [sFor_eq] at h
    obtain ⟨B, Z, σD, s, h⟩ := h
    refine ⟨B, Z, σD, s, h.m.imp fun sr Z1 σD1 H1 s1 x1 h1 J hw => ?_⟩
    by_cases ok : wOk σD1 sr.ws []
    · rw [if_pos ok] at h1
      have hh : ∀ w ∈ sr.ws, Held σD1 w.1 w.2 := fun w h => (ok w h).2
      have sP := s1.pin hh
      have hout : AftS p.K W D (pinB B σ sr.ws) Z1 H1 (forGo sr.ws g b sr.items (pinD σD1 sr.ws)) := by
        cases e : forGo sr.ws g b sr.items (pinD σD1 sr.ws) with
        | none => rw [e] at h1; exact h1.elim
        | some o =>
          obtain ⟨fl, σE⟩ := o
          rw [e] at h1
          have h1 : AftS p.K W D B Z1 H1 (if okW σE sr.ws then some (fl, restore σD1 (sr.ws.map (·.1)) σE) else none) := h1
          by_cases okE : okW σE sr.ws
          · rw [if_pos okE] at h1
            exact AftS.unpin s1 hh okE (Ext.refl B Z1 H1) h1
          · rw [if_neg okE] at h1; exact h1.elim
      exact ⟨_, ⟨_, rfl, Nat.zero_le _, Z1, _, sP, Ext.refl _ _ _, by simp⟩, for_loop (is := is) hw pinB_ok hout⟩
    · rw [if_neg ok] at h1; exact h1.elim

/-! ### while -/
def sWhile (c : M Bool) (b : S) : Nat → S
  | 0 => sNo
  | n + 1 => sM c fun t => match t with
    | false => sNx
    | true => fun σ => match b σ with
      | some (.nx, σ2) => sWhile c b n σ2
      | some (.ct, σ2) => sWhile c b n σ2
      | some (.bk, σ2) => some (.nx, σ2)
      | o => o
theorem ds_while {c : Expr} {body : List Stmt} {m : M Bool} {b : S} (n : Nat) (hc : DT p c m) (hb : DSs p body b) : DS p (.While c body [] pos) (sWhile m b n) := fun X W x tk =>
  PS_imp (ps_while x.pass (hc X W x tk) (hb X W x tk)) fun D σ H h => by
    obtain ⟨B, Z, σD, s, h⟩ := h
    refine ⟨fun k σ' H' => ∃ Z' σt, Sta p.K B Z' σt σ' H' ∧ Ext B Z H Z' H' ∧ sWhile m b k σt = sWhile m b n σD, ⟨n, Z, σD, s, Ext.refl B Z H, rfl⟩, fun k σ' H' ⟨Z', σt, s', x', e⟩ => ?_⟩
    cases k with
    | zero => rw [← e] at h; exact h.elim
    | succ k =>
      have h0 := h
      rw [← e] at h
      refine ⟨B, Z', σt, s', ((h.back x').m).val.imp fun t Z2 σD2 H2 s2 x2 ⟨h2, em⟩ => ?_⟩
      cases t with
      | false => exact h2.nx s2
      | true =>
        have e1 : (match b σD2 with
          | some (.nx, σ2) => sWhile m b k σ2
          | some (.ct, σ2) => sWhile m b k σ2
          | some (.bk, σ2) => some (.nx, σ2)
          | o => o) = sWhile m b n σD := by
          rw [← e]
          show _ = sM m _ σt
          unfold sM
          rw [em]
        have x3 := x'.trans x2
        have h3 := h0.back x3
        rw [← e1] at h3
        refine ⟨fun σ' H' => ∃ Z' σt, Sta p.K B Z' σt σ' H' ∧ Ext B Z H Z' H' ∧ sWhile m b k σt = sWhile m b n σD, fun σ3 H3 q => ⟨k, Nat.lt_succ_self k, q⟩, B, Z2, σD2, s2, ?_⟩
        cases e2 : b σD2 with
        | none => rw [e2] at h3; exact h3.elim
        | some o =>
          obtain ⟨fl, σ3⟩ := o
          rw [e2] at h3 e1
          cases fl with
          | nx => exact fun σ' Z4 H4 s4 x4 => ⟨Z4, σ3, s4, x3.trans x4, e1⟩
          | ct => exact fun σ' Z4 H4 s4 x4 => ⟨Z4, σ3, s4, x3.trans x4, e1⟩
          | bk => exact h3
          | rt r => exact h3
          | ex c => exact h3
end
end Ev

set_option Elab.async false
set_option linter.all false
set_option maxRecDepth 100000
/-! Ev, part Q: objects of one's own changed; raise. -/
namespace Ev
open PySem PySem.Spec PyProof.Rows L2

section
variable {K : PySem.W.Frag} {W : WX} {B : Bd} {Z H Z1 H1 : Hp} {σ : L2.St} {σD σD' : Fr} {N : Ends} {v : V} {r : R} {d d' : D}
/-- the tree of the object that slot k holds -/
def hel (σ : Fr) (k : Nat) : Option D := match σ[k]? with
  | some (.own d) => some d
  | some (.par d) => some d
  | _ => none
def setSl (σ : Fr) (k : Nat) (d : D) : Fr := match σ[k]? with
  | some (.own _) => σ.set k (.own d)
  | some (.par _) => σ.set k (.par d)
  | _ => σ
theorem hel_iff {k : Nat} : hel σD k = some d ↔ Held σD k d := by
  unfold hel Held
  cases e : σD[k]? with
  | none => simp
  | some l => cases l <;> simp
theorem setSl_len {k : Nat} : (setSl σD k d).length = σD.length := by
  unfold setSl
  split <;> simp
theorem setSl_ne {k j : Nat} (h : k ≠ j) : (setSl σD k d)[j]? = σD[j]? := by
  unfold setSl
  split
  · exact List.getElem?_set_ne h
  · exact List.getElem?_set_ne h
  · rfl
theorem setSl_held {k : Nat} (h : Held σD k d) : Held (setSl σD k d') k d' := by
  have hl := h.lt
  rcases h with h | h
  · left; unfold setSl; rw [h]; exact List.getElem?_set_self hl
  · right; unfold setSl; rw [h]; exact List.getElem?_set_self hl
theorem Sta.mut {k : Nat} {a : Addr} {o : HO} (s : Sta K B Z σD σ H) (h : Held σD k d) (q : σ[k]? = some (some (.ref a))) (c : Cont K Z (some o) d') : Sta K B Z (setSl σD k d') σ (L2.upd H a o) ∧ Ext B Z H Z (L2.upd H a o) := by
  obtain ⟨a', e, nb, z, c0⟩ := s.own k d h
  rw [q] at e; cases e
  have hh : ∀ {j : Nat} {e : D}, Held (setSl σD k d') j e → j ≠ k → Held σD j e := fun hj hne => by
    unfold Held at hj ⊢
    rw [setSl_ne (Ne.symm hne)] at hj
    exact hj
  have hk : ∀ {j : Nat} {e : D}, Held (setSl σD k d') j e → ∃ e', Held σD j e' := fun {j e} hj => by
    by_cases hjk : j = k
    · subst hjk; exact ⟨d, h⟩
    · exact ⟨e, hh hj hjk⟩
  refine ⟨⟨fun b u e => ?_, by rw [setSl_len]; exact s.len, fun b hb => ⟨(s.bz b hb).1, ?_⟩, fun i e he => ?_, fun i e he => ?_, fun i j e f b hi hj ei ej => ?_, fun i b hi => ?_⟩, Sub.refl Z, fun b hb => L2.upd_ne fun e => nb (by rw [← e]; exact hb)⟩
  · rw [L2.upd_ne fun e' => by rw [e', z] at e; cases e]
    exact s.sub b u e
  · rw [L2.upd_ne fun e => nb (by rw [← e]; exact hb)]
    exact (s.bz b hb).2
  · by_cases hik : k = i
    · subst hik
      rcases setSl_held (d' := d') h with q' | q' <;> rw [he] at q' <;> cases q'
    · rw [setSl_ne hik] at he; exact s.fro i e he
  · by_cases hik : i = k
    · subst hik
      rw [he.inj (setSl_held h)]
      exact ⟨a, q, nb, z, by rw [L2.upd_same]; exact c⟩
    · obtain ⟨b, e1, nb', z', c'⟩ := s.own i e (hh he hik)
      have hb : b ≠ a := fun z => hik (s.inj i k e d a (hh he hik) h (by rw [e1, z]) q)
      exact ⟨b, e1, nb', z', by rw [L2.upd_ne hb]; exact c'⟩
  · obtain ⟨e', hi⟩ := hk hi
    obtain ⟨f', hj⟩ := hk hj
    exact s.inj i j e' f' b hi hj ei ej
  · obtain ⟨h1, e, h2⟩ := s.pa i b hi
    refine ⟨h1, ?_⟩
    by_cases hik : k = i
    · subst hik
      refine ⟨d', ?_⟩
      unfold setSl
      rw [h2]
      exact List.getElem?_set_self (List.getElem?_eq_some_iff.mp h2).1
    · exact ⟨e, by rw [setSl_ne hik]; exact h2⟩
theorem Sta.helV {k : Nat} (s : Sta K B Z σD σ H) (h : hel σD k = some d) (q : σ[k]? = some (some v)) : ∃ a, v = .ref a ∧ Cont K Z (H a) d := by
  obtain ⟨a, e, _, _, c⟩ := s.own k d (hel_iff.mp h)
  rw [q] at e; cases e
  exact ⟨a, rfl, c⟩

/-! ### operands of a reading, one after another -/
theorem rdA_cons {f : SE} {fs : List SE} {Q : List V → Hp → Prop} (h : rdA K W (f :: fs) σ H Q) : rd K W f σ H fun v H1 => rdA K W fs σ H1 fun vs H2 => Q (v :: vs) H2 := by
  obtain ⟨B, Z, σD, s, h⟩ := h
  refine rd_un (g := fun r => M.bind (eAll fs) fun rs => M.pure (r :: rs)) s h fun r v Z1 σD1 H1 s1 x1 q1 h1 => ?_
  refine ⟨Tmp B r v, Z1, σD1, s1.tmp q1, ?_⟩
  refine (h1.bind).up (Tmp.base r v) fun rs Z2 σD2 H2 s2 x2 h2 vs hv => ?_
  exact h2.now (s2.less (Tmp.base r v)) (v :: vs) ⟨v, vs, rfl, q1.later (s1) s2 x2, hv⟩
theorem rdA_nil {Q : List V → Hp → Prop} (h : rdA K W [] σ H Q) : Q [] H := by
  obtain ⟨B, Z, σD, s, h⟩ := h
  exact h.now s [] rfl
theorem rdA_mono {fs : List SE} {Q Q' : List V → Hp → Prop} (h : rdA K W fs σ H Q) (i : ∀ v H', Q v H' → Q' v H') : rdA K W fs σ H Q' := by
  obtain ⟨B, Z, σD, s, h⟩ := h
  exact ⟨B, Z, σD, s, h.imp fun r Z' σD' H' s' x q v hv => i v H' (q v hv)⟩
theorem rdA_1 {f : SE} {Q : List V → Hp → Prop} (h : rdA K W [f] σ H Q) : rd K W f σ H fun v H1 => Q [v] H1 := rd_mono (rdA_cons h) fun v H1 h1 => rdA_nil h1
theorem rdA_2 {f g : SE} {Q : List V → Hp → Prop} (h : rdA K W [f, g] σ H Q) : rd K W f σ H fun v H1 => rd K W g σ H1 fun w H2 => Q [v, w] H2 := rd_mono (rdA_cons h) fun v H1 h1 => rdA_1 (Q := fun vs H2 => Q (v :: vs) H2) h1
theorem rdA_3 {f g k : SE} {Q : List V → Hp → Prop} (h : rdA K W [f, g, k] σ H Q) : rd K W f σ H fun v H1 => rd K W g σ H1 fun w H2 => rd K W k σ H2 fun u H3 => Q [v, w, u] H3 := rd_mono (rdA_cons h) fun v H1 h1 => rdA_2 (Q := fun vs H2 => Q (v :: vs) H2) h1
theorem rdS_A {fs : List SE} {k : List R → S} (h : rdS K W (sM (eAll fs) k) N σ H) : rdA K W fs σ H fun vs H' => ∃ B Z σD σD0 rs, Sta K B Z σD σ H' ∧ RRs K Z σD σ H' B rs vs ∧ AftS K W N B Z H' (k rs σD) ∧ eAll fs σD0 = some (.ok rs, σD) := by
  obtain ⟨B, Z, σD, s, h⟩ := h
  exact ⟨B, Z, σD, s, (h.m).val.imp fun rs Z' σD' H' s' x ⟨q, e⟩ vs hv => ⟨B, Z', σD', σD, rs, s', hv, q, e⟩⟩
theorem rd_A {fs : List SE} {k : List R → SE} {Q : VK} (h : rd K W (M.bind (eAll fs) k) σ H Q) : rdA K W fs σ H fun vs H' => ∃ B Z σD rs, Sta K B Z σD σ H' ∧ RRs K Z σD σ H' B rs vs ∧ Aft K W (fun r Z' σD' H' => ∀ v, RR K B Z' σD' σ H' r v → Q v H') σ B Z H' (k rs σD) := by
  obtain ⟨B, Z, σD, s, h⟩ := h
  exact ⟨B, Z, σD, s, (h.bind).imp fun rs Z' σD' H' s' x q vs hv => ⟨B, Z', σD', rs, s', hv, q⟩⟩
theorem two_of {rs : List R} {B : Bd} {x y : V} (h : RRs K Z σD σ H B rs [x, y]) : ∃ a b, rs = [a, b] ∧ RR K B Z σD σ H a x ∧ RR K (Tmp B a x) Z σD σ H b y := by
  match rs, h with
  | [a, b], ⟨_, _, e, h1, _, _, e2, h2, e3⟩ => cases e; cases e2; exact ⟨a, b, rfl, h1, h2⟩
  | [], h => cases h
  | [a], ⟨_, _, e, h1, e2⟩ => cases e; cases e2
  | a :: b :: c :: l, ⟨_, _, e, h1, _, _, e2, h2, _, _, e3, _⟩ => cases e; cases e2; cases e3
theorem three_of {rs : List R} {B : Bd} {x y z : V} (h : RRs K Z σD σ H B rs [x, y, z]) : ∃ a b c, rs = [a, b, c] ∧ RR K B Z σD σ H a x ∧ RR K (Tmp B a x) Z σD σ H b y ∧ RR K (Tmp (Tmp B a x) b y) Z σD σ H c z := by
  match rs, h with
  | a :: l, ⟨_, _, e, h1, h2⟩ =>
    cases e
    obtain ⟨b, c, rfl, h3, h4⟩ := two_of h2
    exact ⟨a, b, c, rfl, h1, h3, h4⟩
  | [], h => cases h
end

/-! ### a list's slot -/
def setAt (k : Nat) (n : Int) (d : D) : S := fun σ => match hel σ k with
  | some (.lst ds) => (match ixN ds.length n with
    | some j => some (.nx, setSl σ k (.lst (ds.set j d)))
    | none => none)
  | _ => none
/-- o[i] = e, o a slot's list -/
def sStore (f fo fi : SE) : S := sM (eAll [f, fo, fi]) fun rs => match rs with
  | [r, .s k, ri] => sM (get ri) fun di => match di with
    | .int n => sM (froz1 r) fun d => setAt k n d
    | _ => sNo
  | _ => sNo
section
variable {K : PySem.W.Frag} {W : WX} {B : Bd} {Z H Z1 H1 : Hp} {σ : L2.St} {σD σD' : Fr} {N : Ends} {v : V} {r : R} {d d' : D}
theorem AftS.get {k : D → S} (h : AftS K W N B Z H (sM (get r) k σD)) : ∃ d, r.get σD = some d ∧ AftS K W N B Z H (k d σD) := by
  unfold sM Ev.get at h
  cases e : r.get σD with
  | none => rw [e] at h; exact h.elim
  | some d => rw [e] at h; exact ⟨d, rfl, h⟩
theorem AftS.setAt {k : Nat} {n : Int} {o : V} (s : Sta K B Z σD σ H) (hk : σ[k]? = some (some o)) (rv : Rp K Z d v) (h : AftS K W N B Z H (setAt k n d σD)) : rSetL o (.int n) v H fun H4 => N.nx σ H4 := by
  unfold Ev.setAt at h
  cases e : hel σD k with
  | none => rw [e] at h; exact h.elim
  | some t =>
    rw [e] at h
    cases t with
    | lst ds =>
      have h : AftS K W N B Z H (match ixN ds.length n with
        | some j => some (.nx, setSl σD k (.lst (ds.set j d)))
        | none => none) := h
      obtain ⟨a, rfl, xs, ha, rx⟩ := s.helV e hk
      cases e2 : ixN ds.length n with
      | none => rw [e2] at h; exact h.elim
      | some j =>
        rw [e2] at h
        obtain ⟨s2, x2⟩ := s.mut (o := .lst (xs.set j v)) (d' := .lst (ds.set j d)) (hel_iff.mp e) hk ⟨_, rfl, rx.set j rv⟩
        exact ⟨a, xs, n, j, rfl, rfl, ha, by rw [rx.length]; exact e2, h σ Z _ s2 x2⟩
    | _ => exact h.elim
variable {p : Pl} {pos : Pos} {e o i : Expr} {f fo fi : SE}
theorem ds_store {spos : Pos} (he : DE p e f) (ho : DE p o fo) (hi : DE p i fi) (ha : ∀ (env : Env) v, assign (.Subscript o i spos) env v = (do
      let ov ← holding [v] (eval o env)
      let iv ← holding [v, ov] (eval i env)
      standAt spos
      holding [v, ov, iv] (setItem ov iv v)
      release [v, ov, iv] []) := by intro _ _; rfl) (hs : ∀ env : Env, swapsWithSole [.Subscript o i spos] e pos.line env = pure false := by intro _; rfl) (hw : ∀ env : Env, swappedStores [.Subscript o i spos] e env = pure none := by intro _; rfl)
    (h1 : ∀ env : Env, (assignEach [.Subscript o i spos] env).map (·.2) = [assign (.Subscript o i spos) env] := by intro _; rfl) : DS p (.Assign [.Subscript o i spos] e pos) (sStore f fo fi) := fun X W c tk =>
  PS_imp (ps_asg (he X W c tk) (pg_sub (ho X W c tk) (hi X W c tk) set_list (ha X.env)) (hs X.env) (hw X.env) (h1 X.env)) fun D σ H h => by
    refine rd_mono (rdA_3 (rdS_A h)) fun x H1 h1 => rd_mono h1 fun o H2 h2 => rd_mono h2 fun y H3 h3 => ?_
    obtain ⟨B, Z, σD, σD0, rs, s, hv, q, _⟩ := h3
    obtain ⟨a, b, g, rfl, r1, r2, r3⟩ := three_of hv
    cases b with
    | v _ _ => exact q.elim
    | s k =>
      obtain ⟨di, ei, q⟩ := AftS.get q
      cases di with
      | int n =>
        have hy := (r3.ro ((s.tmp r1).tmp r2) ei).int
        subst hy
        obtain ⟨d, Z2, σD2, s2, x2, rd, _, q⟩ := AftS.froz s r1 q
        exact q.setAt s2 r2 rd
      | _ => exact q.elim

/-! ### op= -/
/-- o[i] op= e, on ints -/
def sAugS (op : Int → Int → Int) (fo fi f : SE) : S := sM (eAll [fo, fi]) fun rs => match rs with
  | [.s k, ri] => sM (get ri) fun di => match di with
    | .int n => fun σ => match hel σ k with
      | some (.lst ds) => (match atI ds n with
        | some (.int x) => sM f (fun r => sM (get r) fun dy => match dy with
          | .int y => setAt k n (.int (op x y))
          | _ => sNo) σ
        | _ => none)
      | _ => none
    | _ => sNo
  | _ => sNo
def tgL : V → V → Hp → VK → Prop := fun o i H Q => ∃ a xs n v, o = .ref a ∧ i = .int n ∧ H a = some (.lst xs) ∧ atI xs n = some v ∧ Q v H
theorem get_list {X : Cx} : PGet X tgL := by
  intro pins s σ H o i ov iv Q I ro ri h
  obtain ⟨p, xs, n, z, rfl, rfl, hq, he, q⟩ := h
  cases ro
  obtain ⟨t, rfl⟩ := ri
  obtain ⟨its, r, pl, hz⟩ := I.list (.inl (.inl hq))
  obtain ⟨j, h1, h2, h3, h4, h5⟩ := atI_get he
  obtain ⟨w, ew, rw'⟩ := r.get h2
  have hl := r.length
  have hn := line63
  have fin : EP X pins σ Q w s := ⟨z, H, I, rw', q⟩
  by_cases h0 : 0 ≤ n
  · have hj : n.toNat = j := by
      rw [seqIndex_of h0 h5] at h1
      exact Option.some.inj h1
    exact wpAny_getItem_list pl.isList h0 (by omega) (by rw [hj]; simpa using ew) fin
  · have hj : (n + (its.toArray.size : Int)).toNat = j := by
      rw [seqIndex_neg (by omega) h4] at h1
      rw [List.size_toArray, ← hl]
      exact Option.some.inj h1
    exact wpAny_getItem_list_neg pl.isList (by omega) (by rw [List.size_toArray] <;> omega) (by omega) (by rw [hj]; simpa using ew) fin
theorem ds_augS {op : Operator} {g : Int → Int → Int} {tpos : Pos} (ho : DE p o fo) (hi : DE p i fi) (he : DE p e f) (hop : ∀ X : Cx, PIp X op (ipI g)) (ha : ∀ ov iv new, augStore i ov iv new = (do holding [new, ov, iv] (setItem ov iv new); release [new, ov, iv] []; pure .next) := by intros; rfl) :
    DS p (.AugAssign (.Subscript o i tpos) op e pos) (sAugS g fo fi f) := fun X W c tk =>
  PS_imp (ps_augS (ho X W c tk) (hi X W c tk) get_list (he X W c tk) (hop X) set_list ha) fun D σ H h => by
    refine rd_mono (rdA_2 (rdS_A h)) fun o H2 h2 => rd_mono h2 fun y H3 h3 => ?_
    obtain ⟨B, Z, σD, σD0, rs, s, hv, q, _⟩ := h3
    obtain ⟨a, b, rfl, r1, r2⟩ := two_of hv
    cases a with
    | v _ _ => exact q.elim
    | s k =>
      obtain ⟨di, ei, q⟩ := AftS.get q
      cases di with
      | int n =>
        have hy := (r2.ro (s.tmp r1) ei).int
        subst hy
        have q : AftS p.K W D B Z H3 (match hel σD k with
          | some (.lst ds) => (match atI ds n with
            | some (.int x) => sM f (fun r => sM (get r) fun dy => match dy with
              | .int y => setAt k n (.int (g x y))
              | _ => sNo) σD
            | _ => none)
          | _ => none) := q
        cases eh : hel σD k with
        | none => rw [eh] at q; exact q.elim
        | some t =>
          rw [eh] at q
          cases t with
          | lst ds =>
            have q : AftS p.K W D B Z H3 (match atI ds n with
              | some (.int x) => sM f (fun r => sM (get r) fun dy => match dy with
                | .int y => setAt k n (.int (g x y))
                | _ => sNo) σD
              | _ => none) := q
            obtain ⟨a, rfl, xs, hH, rx⟩ := s.helV eh r1
            cases ea : atI ds n with
            | none => rw [ea] at q; exact q.elim
            | some d1 =>
              rw [ea] at q
              cases d1 with
              | int x =>
                obtain ⟨u, eu, ru⟩ := rx.atI ea
                have eu2 : u = .int x := by simpa only [Rp] using ru
                subst eu2
                refine ⟨a, xs, n, _, rfl, rfl, hH, eu, B, Z, σD, s, q.m.imp fun r4 Z4 σD4 H4 s4 x4 q4 v4 hv4 => ?_⟩
                obtain ⟨dy, ey, q4⟩ := AftS.get q4
                cases dy with
                | int y =>
                  rw [(hv4.ro s4 ey).int]
                  exact ⟨x, y, rfl, rfl, q4.setAt (v := .int (g x y)) s4 r1 (by simp [Rp])⟩
                | _ => exact q4.elim
              | _ => exact q.elim
          | _ => exact q.elim
      | _ => exact q.elim
/-- name op= e, on ints -/
def sAug (op : Int → Int → Int) (i : Nat) (f : SE) : S := fun σ => match σ[i]? with
  | some (.fro (.int x)) => sM f (fun r => sM (get r) fun dy => match dy with
    | .int y => sPut i (.v (.int (op x y)) false)
    | _ => sNo) σ
  | _ => none
theorem ds_aug (i : Nat) {op : Operator} {g : Int → Int → Int} {x : Str} {pos' : Pos} (he : DE p e f) (hop : ∀ X : Cx, PIp X op (ipI g)) (hN : p.N[i]? = some x := by rfl) (hx : Loc p.sc x := by first | exact Or.inl rfl | exact Or.inr rfl) (hf : p.fn x = true ∨ p.sc.names.lookup x = some NameKind.local := by first | exact Or.inl rfl | exact Or.inr rfl) :
    DS p (.AugAssign (.Name x pos') op e pos) (sAug g i f) := fun X W c tk =>
  PS_imp (ps_aug (i := i) (by rw [c.hN]; exact c.nd) (by rw [c.hN]; exact hN) (by rw [c.hsc]; exact hx) (he X W c tk) (hop X) (by rw [c.hsc, c.hfn]; exact hf)) fun D σ H h => by
    obtain ⟨B, Z, σD, s, h⟩ := h
    unfold sAug at h
    cases eh : σD[i]? with
    | none => rw [eh] at h; exact h.elim
    | some l =>
      rw [eh] at h
      cases l with
      | fro d =>
        cases d with
        | int x =>
          have h : AftS p.K W D B Z H (sM f (fun r => sM (get r) fun dy => match dy with
            | .int y => sPut i (.v (.int (g x y)) false)
            | _ => sNo) σD) := h
          obtain ⟨u, eu, ru⟩ := s.fro i _ eh
          have eu2 : u = .int x := by simpa only [Rp] using ru
          subst eu2
          refine ⟨_, eu, B, Z, σD, s, h.m.imp fun r4 Z4 σD4 H4 s4 x4 q4 v4 hv4 => ?_⟩
          obtain ⟨dy, ey, q4⟩ := AftS.get q4
          cases dy with
          | int y =>
            rw [(hv4.ro s4 ey).int]
            exact ⟨x, y, rfl, rfl, q4.put (r := .v (.int (g x y)) false) (v := .int (g x y)) s4 (show Rp p.K Z4 (.int (g x y)) _ by simp [Rp])⟩
          | _ => exact q4.elim
        | _ => exact h.elim
      | _ => exact h.elim

/-! ### raise -/
theorem ds_raise {x m : Str} {j : Nat} {q q2 rp : Pos} (gC : p.mg x = some (.ref (He.ga p.K x))) (ok : (He.Fa.exc x).ok p.K = true) (hg : Glo p x := by rfl) (hdb : (x == ("__debug__" : Str)) = false := by decide) :
    DS p (.Raise (some (.Call (.Name x q) [.Constant (.str m) j q2] [] pos)) none rp) (sRaise x) := fun X W c tk => by
  obtain ⟨c1, c2, c3, c4⟩ := He.exc_ok ok
  refine PS_imp (ps_raise c.calm tk (pmk_own PySem.F.excBase_ValueError (by rw [c.hK]; exact c1) (by rw [c.hmg]; exact gC) (by rw [c.hK]; exact c2) (raises_own (by rw [c.hK]; exact c3) (by rw [c.hK]; exact c4)) (c.gl hg) hdb)) fun D σ H h => ?_
  obtain ⟨B, Z, σD, s, h⟩ := h
  exact h σ Z H s (Ext.refl B Z H)
end
end Ev

set_option Elab.async false
set_option linter.all false
set_option maxRecDepth 100000
/-! Ev, part R: functions and their calls. -/
namespace Ev
open PySem PySem.Spec PyProof.Rows L2

/-! ### functions that may lean on an empty list of guards -/
structure FnG (P : Program) (w : World) (K : PySem.W.Frag) (mg : Str → Option Value) (base : Heap) (k : Nat) (f : Addr) (fd : FuncData) (ps : List Str) (sp : Sp) : Prop where
  len : ∀ vs H Q E, sp vs H Q E → vs.length = ps.length
  run : ∀ (A : Around) (outer : List Env) (s : Shared) (H : Hp) (args : Args) (us : List Value) (vs : List V) (Q : VK) (E : XK), Room k A → A.guards = some [] → Env0 P w K mg base A outer s H → BindsTo s fd args (ps.zip us) → Vals vs us → sp vs H Q E →
    codeAny (model P w) A (.call (.ref f) args) (CR (L2.CX P w) outer P w H s Q E) s
theorem fnG_of {P : Program} {w : World} {K : PySem.W.Frag} {mg : Str → Option Value} {base : Heap} {k : Nat} {f : Addr} {x qual : Str} {params : Arguments} {body : List Stmt} {scope : Scope} {dvs : List V} {kws : List (Str × V)} {fd : FuncData} {N ps : List Str} {sp : Sp}
    (F : FunD K x qual params body scope dvs kws f fd) (S : FnScope N ps scope) (len : ∀ vs H Q E, sp vs H Q E → vs.length = ps.length)
    (hbody : ∀ (cdv : Value) (A : Around) (outer : List Env) (s : Shared) (H : Hp) (vs : List V) (Q : VK) (E : XK), Room k (A.deeper (envOfC qual scope s.heap.objs.size f cdv)) → A.guards = some [] → sp vs H Q E →
      ∃ t, PSs (cxOf (L2.CX P w) P w K mg base N qual scope f cdv A outer s H E) body t ∧ t { nx := fun _ H' => Q .non H', rt := Q } (L2.start N vs) H) :
    FnG P w K mg base (k + 1) f fd ps sp := by
  obtain ⟨oc, od, dV, kV, doc, pm, an, cdv, ct, osl, rfl, lk, hcd, _, _⟩ := F.ex
  refine ⟨len, fun A outer s H args us vs Q E hr hgd e0 hb r hsp => ?_⟩
  have hl := len _ _ _ _ hsp
  have KX : K.In s.heap := e0.mod.kin.keeps fun b o e => (e0.bs b o e).1
  have lim : s.heap.NoLimit := e0.mod.nolimit.keeps fun b o e => (e0.bs b o e).1
  have hkind : ∀ y ∈ ps.zip us, scope.names.lookup y.1 = some .local ∨ (scope.names.lookup y.1 = some .cell ∧ ((cellsFrom (s.heap.objs.size + 1) scope.names []).lookup y.1).isSome = true) := fun ⟨n, v⟩ hy => by
    rcases S.par n (List.of_mem_zip hy).1 with q | q
    · exact .inl q
    · exact .inr ⟨q, PySem.W.cellsFrom_some _ _ _ (.inl q)⟩
  refine codeAny_call_function hr.depth (KX _ _ lk) rfl S.co S.gen rfl (PySem.W.codeRec_of KX hcd) (hb _ _ _ _ ?_)
  refine wpAny_newFunctionEnv_cells S.kind hkind fun env he s1 x => ?_
  subst he
  refine ⟨lim.keeps x.toInCall.keep, codeAny_func ?_⟩
  obtain ⟨t, ht, hq⟩ := hbody cdv A outer s H vs Q E (hr.deeper _) hgd hsp
  have I : Inv (cxOf (L2.CX P w) P w K mg base N qual scope f cdv A outer s H E) [] (L2.start N vs) H s1 := inv_start S hr.hd e0 hl r x
  refine wpAny_mono (ht.run [] s1 (L2.start N vs) H _ I hq) (fun fl s' hs => ?_) fun e s' hs => hs
  have fin : ∀ {σ' : L2.St} {H' : Hp} {v : V} {u : Value}, Inv (cxOf (L2.CX P w) P w K mg base N qual scope f cdv A outer s H E) [] σ' H' s' → RelV v u → Q v H' → CE outer P w H s Q u s' :=
    fun {σ' H' v u} J rv q => ⟨v, H', J.os, J.bare, J.base, J.hok, rv, q⟩
  cases fl with
  | ret u =>
    obtain ⟨v, σ', H', J, rv, q⟩ := hs
    exact fin J rv q
  | next =>
    obtain ⟨σ', H', J, q⟩ := hs
    exact fin (v := V.non) (u := Value.none) J rfl q
  | brk =>
    obtain ⟨_, _, _, q⟩ := hs
    exact False.elim q
  | cont =>
    obtain ⟨_, _, _, q⟩ := hs
    exact False.elim q
section
variable {X : Cx} {k : Nat} {f : Addr} {fd : FuncData} {ps : List Str} {sp : Sp} {E : L2.St → XK} {x : Str} {p pos : Pos} {e : Expr} {es : List Expr} {t : TA}
theorem run_fnG {pins : List (Addr × Obj)} {σ : L2.St} {H : Hp} {s : Shared} {Q : VK} {us : List Value} {vs : List V} (F : FnG X.prog X.w X.K X.mg X.base k f fd ps sp) (hr : Room k X.A) (hgd : X.A.guards = some []) (hb : Binds X.K fd ps []) (hx : PassesAt (L2.CX X.prog X.w) X σ (E σ))
    (I : Inv X pins σ H s) (r : Vals vs us) (h : sp vs H Q (E σ)) : wpAny (model X.prog X.w) X.A (call (.ref f) us) (EP X pins σ Q) X.xe s := by
  have hl : us.length = ps.length := by rw [← r.length]; exact F.len _ _ _ _ h
  have b := hb s us I.kIn (by rw [List.append_nil]; exact hl)
  rw [List.append_nil] at b
  refine wpAny_call (codeAny_mono (F.run X.A X.stack s H ⟨us, []⟩ us vs Q (E σ) hr hgd I.env0 b r h) fun r s' hq => ?_)
  cases r with
  | error e => exact hx pins H s e s' I hq
  | ok fl =>
    cases fl with
    | ret u => exact I.after hq
    | next => exact False.elim hq
    | brk => exact False.elim hq
    | cont => exact False.elim hq
theorem pe_callG (F : FnG X.prog X.w X.K X.mg X.base k f fd ps sp) (hr : Room k X.A) (hgd : X.A.guards = some []) (hg : Gl X x) (hm : X.mg x = some (.ref f)) (hk : PySem.W.keepIn X.K (.ref f) = true) (hb : Binds X.K fd ps []) (hx : ∀ σ, PassesAt (L2.CX X.prog X.w) X σ (E σ))
    (ha : PA X (e :: es) t) (hdb : (x == ("__debug__" : Str)) = false := by decide) (he : starEach (e :: es) X.env = (false, eval e X.env) :: starEach es X.env := by rfl) (hpl : (backTo pos (starEach es X.env)).any (·.1) = false := by rfl) :
    PE X (.Call (.Name x p) (e :: es) [] pos) (tCallS sp E t) := by
  refine ⟨fun pins s σ H Q I h => ?_⟩
  refine wpAny_Call_Name_kw (ld_glob I hg hm ?_ hdb)
  refine PySem.W.callWith_K (h₀ := X.base) I.ok.mod.kin hk (thn (ha.run pos pins s σ H _ I h) fun us s1 ⟨vs, H1, I1, r, q⟩ => ⟨I1.kIn, ?_⟩) he hpl
  exact run_fnG F hr hgd hb (hx σ) I1 r q
end

/-! ### what a function does to trees -/
inductive Ar where
  | fro (d : D) | ref (d : D)
abbrev FSem := List Ar → Option (Re (D × Bool) × List Ar)
structure ArgsOk (K : PySem.W.Frag) (B : Addr → Prop) (Z H : Hp) (ars : List Ar) (vs : List V) : Prop where
  len : vs.length = ars.length
  fro : ∀ (i : Nat) (d : D), ars[i]? = some (.fro d) → ∃ v, vs[i]? = some v ∧ Rp K Z d v
  ref : ∀ (i : Nat) (d : D), ars[i]? = some (.ref d) → ∃ a, vs[i]? = some (.ref a) ∧ ¬ B a ∧ Z a = none ∧ Cont K Z (H a) d
  inj : ∀ (i j : Nat) (d e : D) (a : Addr), ars[i]? = some (.ref d) → ars[j]? = some (.ref e) → vs[i]? = some (.ref a) → vs[j]? = some (.ref a) → i = j
/-- what stands behind a call: the others' objects as they were, the arguments by reference, frozen things -/
structure Behind (K : PySem.W.Frag) (B : Addr → Prop) (Z H Z' H' : Hp) (fins : List Ar) (vs : List V) : Prop where
  sub : Sub Z' H'
  z : Sub Z Z'
  keep : ∀ a, B a → Z' a = none ∧ H' a = H a
  ref : ∀ (i : Nat) (d : D), fins[i]? = some (.ref d) → ∃ a, vs[i]? = some (.ref a) ∧ Z' a = none ∧ Cont K Z' (H' a) d
/-- the result: frozen, or a new object -/
def ResC (K : PySem.W.Frag) (B : Addr → Prop) (Z' H' : Hp) (fins : List Ar) (vs : List V) (d : D) : Bool → V → Prop
  | false, v => Rp K Z' d v
  | true, v => ∃ b, v = .ref b ∧ ¬ B b ∧ Z' b = none ∧ Cont K Z' (H' b) d ∧ ∀ (i : Nat) (e : D), fins[i]? = some (.ref e) → vs[i]? ≠ some (.ref b)
def spOf (K : PySem.W.Frag) (n : Nat) (F : FSem) : Sp := fun vs H Q E => vs.length = n ∧ ∃ B Z ars, Sub Z H ∧ (∀ a, B a → Z a = none ∧ H a ≠ none) ∧ ArgsOk K B Z H ars vs ∧
  match F ars with
  | none => False
  | some (.ok (d, o), fins) => ∀ Z' H' v, Behind K B Z H Z' H' fins vs → ResC K B Z' H' fins vs d o v → Q v H'
  | some (.ex c, fins) => ∀ Z' H', Behind K B Z H Z' H' fins vs → E (exc K c) none H'
/-- the frame at the start -/
def Ar.sl : Ar → Sl
  | .fro d => .fro d
  | .ref d => .par d
def frame (n : Nat) (ars : List Ar) : Fr := ars.map Ar.sl ++ List.replicate (n - ars.length) .no
/-- the arguments by reference at the end -/
def finals : List Ar → Fr → Option (List Ar)
  | [], _ => some []
  | .fro d :: as, _ :: σ => (finals as σ).map (.fro d :: ·)
  | .ref _ :: as, .par d :: σ => (finals as σ).map (.ref d :: ·)
  | _, _ => none
def retOf (σ : Fr) : R → Option (D × Bool)
  | .v d o => some (d, o)
  | .s i => match σ[i]? with
    | some (.fro d) => some (d, false)
    | some (.own d) => some (d, true)
    | _ => none
def mkF (n : Nat) (b : S) : FSem := fun ars => match b (frame n ars) with
  | some (.rt r, σ) => (match retOf σ r, finals ars σ with
    | some q, some fs => some (.ok q, fs)
    | _, _ => none)
  | some (.nx, σ) => (match finals ars σ with
    | some fs => some (.ok (.non, false), fs)
    | none => none)
  | some (.ex c, σ) => (match finals ars σ with
    | some fs => some (.ex c, fs)
    | none => none)
  | _ => none
def noF : FSem := fun _ => none

theorem finals_get : ∀ {ars : List Ar} {σ : Fr} {fs : List Ar}, finals ars σ = some fs → ∀ (i : Nat) (d : D), fs[i]? = some (.ref d) → σ[i]? = some (.par d) ∧ ∃ e, ars[i]? = some (.ref e)
  | [], σ, fs, h, i, d, e => by simp [finals] at h; subst h; simp at e
  | .fro d0 :: as, [], fs, h, i, d, e => by simp [finals] at h
  | .fro d0 :: as, l :: σ, fs, h, i, d, e => by
    simp only [finals, Option.map_eq_some_iff] at h
    obtain ⟨fs', h, rfl⟩ := h
    cases i with
    | zero => cases e
    | succ i => exact finals_get h i d (by simpa using e)
  | .ref d0 :: as, [], fs, h, i, d, e => by simp [finals] at h
  | .ref d0 :: as, .no :: σ, fs, h, i, d, e => by simp [finals] at h
  | .ref d0 :: as, .fro _ :: σ, fs, h, i, d, e => by simp [finals] at h
  | .ref d0 :: as, .own _ :: σ, fs, h, i, d, e => by simp [finals] at h
  | .ref d0 :: as, .par d1 :: σ, fs, h, i, d, e => by
    simp only [finals, Option.map_eq_some_iff] at h
    obtain ⟨fs', h, rfl⟩ := h
    cases i with
    | zero =>
      have e' : d1 = d := by simpa using e
      subst e'
      exact ⟨rfl, d0, rfl⟩
    | succ i => exact finals_get h i d (by simpa using e)

section
variable {K : PySem.W.Frag} {W : WX} {B : Addr → Prop} {Z H : Hp} {ars : List Ar} {vs : List V}
/-- the callee's bounds -/
def calB (B : Addr → Prop) (ars : List Ar) (vs : List V) : Bd := ⟨B, fun i => match ars[i]? with
  | some (.ref _) => (match vs[i]? with
    | some (.ref a) => some a
    | _ => none)
  | _ => none⟩
theorem frame_get {n i : Nat} {l : Sl} (h : (frame n ars)[i]? = some l) : (∃ a, ars[i]? = some a ∧ l = a.sl) ∨ l = .no := by
  unfold frame at h
  by_cases hi : i < ars.length
  · rw [List.getElem?_append_left (by simpa using hi), List.getElem?_map] at h
    cases e : ars[i]? with
    | none => rw [e] at h; cases h
    | some a => rw [e] at h; cases h; exact .inl ⟨a, rfl, rfl⟩
  · rw [List.getElem?_append_right (by simpa using Nat.le_of_not_lt hi), List.getElem?_replicate] at h
    split at h
    · cases h; exact .inr rfl
    · cases h
theorem start_get {N : List Str} {i : Nat} {v : V} (h : vs[i]? = some v) : (L2.start N vs)[i]? = some (some v) := by
  have hi : i < vs.length := (List.getElem?_eq_some_iff.mp h).1
  unfold L2.start
  rw [List.getElem?_append_left (by simpa using hi), List.getElem?_map, h]; rfl
theorem start_sta {N : List Str} (sub : Sub Z H) (bz : ∀ a, B a → Z a = none ∧ H a ≠ none) (h : ArgsOk K B Z H ars vs) (hN : vs.length ≤ N.length) : Sta K (calB B ars vs) Z (frame N.length ars) (L2.start N vs) H := by
  have hld : ∀ {i : Nat} {d : D}, Held (frame N.length ars) i d → ars[i]? = some (.ref d) := fun {i d} q => by
    rcases q with q | q
    · rcases frame_get q with ⟨a, e, e2⟩ | e
      · cases a <;> cases e2
      · cases e
    · rcases frame_get q with ⟨a, e, e2⟩ | e
      · cases a <;> cases e2
        exact e
      · cases e
  refine ⟨sub, by unfold frame L2.start; simp [h.len], bz, fun i d q => ?_, fun i d q => ?_, fun i j d e a q q' hi hj => ?_, fun i a q => ?_⟩
  · rcases frame_get q with ⟨a, e, e2⟩ | e
    · cases a <;> cases e2
      obtain ⟨v, hv, r⟩ := h.fro i d e
      exact ⟨v, start_get hv, r⟩
    · cases e
  · obtain ⟨a, hv, nb, z, c⟩ := h.ref i d (hld q)
    exact ⟨a, start_get hv, nb, z, c⟩
  · obtain ⟨b, hb, _⟩ := h.ref i d (hld q)
    obtain ⟨c, hc, _⟩ := h.ref j e (hld q')
    rw [start_get hb] at hi; cases hi
    rw [start_get hc] at hj; cases hj
    exact h.inj i j d e _ (hld q) (hld q') hb hc
  · have q : (match ars[i]? with
      | some (.ref _) => (match vs[i]? with
        | some (.ref a) => some a
        | _ => none)
      | _ => none) = some a := q
    cases e : ars[i]? with
    | none => rw [e] at q; cases q
    | some r =>
      rw [e] at q
      cases r with
      | fro d => cases q
      | ref d =>
        obtain ⟨b, hb, _⟩ := h.ref i d e
        have q : (match vs[i]? with
          | some (.ref a) => some a
          | _ => none) = some a := q
        rw [hb] at q; cases q
        refine ⟨start_get hb, d, ?_⟩
        have hi : i < ars.length := (List.getElem?_eq_some_iff.mp e).1
        unfold frame
        rw [List.getElem?_append_left (by simpa using hi), List.getElem?_map, e]; rfl
theorem calB_at {i : Nat} {d : D} {a : Addr} (e : ars[i]? = some (.ref d)) (hv : vs[i]? = some (.ref a)) : (calB B ars vs).pa i = some a := by
  show (match ars[i]? with
    | some (.ref _) => (match vs[i]? with
      | some (.ref a) => some a
      | _ => none)
    | _ => none) = some a
  rw [e]
  show (match vs[i]? with
    | some (.ref a) => some a
    | _ => none) = some a
  rw [hv]
theorem behind_of {Z' H' : Hp} {σD : Fr} {σ : L2.St} {fs : List Ar} (h : ArgsOk K B Z H ars vs) (s : Sta K (calB B ars vs) Z' σD σ H') (x : Ext (calB B ars vs) Z H Z' H') (hf : finals ars σD = some fs) : Behind K B Z H Z' H' fs vs :=
  ⟨s.sub, x.sub, fun a q => ⟨(s.bz a q).1, x.keep a q⟩, fun i d q => by
    obtain ⟨h1, e, h2⟩ := finals_get hf i d q
    obtain ⟨a, hv, _⟩ := h.ref i e h2
    obtain ⟨h3, _⟩ := s.pa i a (calB_at h2 hv)
    obtain ⟨b, h4, _, z, c⟩ := s.own i d (.inr h1)
    rw [h3] at h4; cases h4
    exact ⟨a, hv, z, c⟩⟩
theorem resC_of {Z' H' : Hp} {σD : Fr} {σ : L2.St} {fs : List Ar} {r : R} {v : V} {d : D} {o : Bool} (h : ArgsOk K B Z H ars vs) (s : Sta K (calB B ars vs) Z' σD σ H') (hf : finals ars σD = some fs) (hr : retOf σD r = some (d, o)) (q : RR K (calB B ars vs) Z' σD σ H' r v) : ResC K B Z' H' fs vs d o v := by
  have apart : ∀ (i : Nat) (e : D) (b : Addr), fs[i]? = some (.ref e) → vs[i]? = some (.ref b) → Held σD i e ∧ σ[i]? = some (some (.ref b)) := fun i e b h1 h2 => by
    obtain ⟨h3, e', h4⟩ := finals_get hf i e h1
    exact ⟨.inr h3, (s.pa i b (calB_at h4 h2)).1⟩
  cases r with
  | v d' o' =>
    cases hr
    cases o with
    | false => exact q
    | true =>
      obtain ⟨a, rfl, nb, z, c, n⟩ := q
      refine ⟨a, rfl, nb, z, c, fun i e h1 h2 => ?_⟩
      obtain ⟨h3, h4⟩ := apart i e a h1 h2
      exact n i e h3 h4
  | s j =>
    have q : σ[j]? = some (some v) := q
    unfold retOf at hr
    cases e : σD[j]? with
    | none => simp [e] at hr
    | some l =>
      cases l with
      | no => simp [e] at hr
      | par x => simp [e] at hr
      | fro x =>
        simp [e] at hr
        obtain ⟨rfl, rfl⟩ := hr
        obtain ⟨v', h1, h2⟩ := s.fro j x e
        rw [q] at h1; cases h1
        exact h2
      | own x =>
        simp [e] at hr
        obtain ⟨rfl, rfl⟩ := hr
        obtain ⟨a, h1, nb, z, c⟩ := s.own j x (.inl e)
        rw [q] at h1; cases h1
        refine ⟨a, rfl, nb, z, c, fun i e' h1 h2 => ?_⟩
        obtain ⟨h3, h4⟩ := apart i e' a h1 h2
        have hij := s.inj i j e' x a h3 (.inl e) h4 q
        subst hij
        obtain ⟨h5, _⟩ := finals_get hf i e' h1
        rw [e] at h5; cases h5
end
/-- what a callee is, for its callers -/
def Fun (P : Program) (w : World) (K : PySem.W.Frag) (mg : Str → Option Value) (base : Heap) (k : Nat) (x : Str) (n : Nat) (F : FSem) : Prop :=
  ∃ f fd ps, mg x = some (.ref f) ∧ PySem.W.keepIn K (.ref f) = true ∧ Binds K fd ps [] ∧ FnG P w K mg base k f fd ps (spOf K n F)
theorem fun_no {P : Program} {w : World} {K : PySem.W.Frag} {mg : Str → Option Value} {base : Heap} {k n : Nat} {x qual : Str} {params : Arguments} {body : List Stmt} {scope : Scope} {f : Addr} {fd : FuncData} {ps : List Str}
    (F : FunD K x qual params body scope [] [] f fd) (hm : mg x = some (.ref f)) (hl : ps.length = n) (hb : ∀ (kV doc pm : Value) (an : Option Addr) (cdv ct : Value) (us : List Value), us.length = ps.length → bindArgs (PySem.W.fnOf x qual params body scope .none kV doc pm an cdv ct) ⟨us, []⟩ = pure (ps.zip us)) : Fun P w K mg base k x n noF :=
  ⟨f, fd, ps, hm, F.kp, F.bindsN hb, fun vs H Q E h => h.1.trans hl.symm, fun A outer s H args us vs Q E hr hgd e0 hb r ⟨_, B, Z, ars, _, _, _, h⟩ => h.elim⟩
/-- THE RULE for a def -/
theorem fnG_ok {P : Program} {w : World} {K : PySem.W.Frag} {mg : Str → Option Value} {base : Heap} {k n : Nat} {x qual : Str} {params : Arguments} {body : List Stmt} {scope : Scope} {f : Addr} {fd : FuncData} {N ps : List Str} {b : S}
    (F : FunD K x qual params body scope [] [] f fd) (hl : ps.length = n) (S : FnScope N ps scope) (hbody : DSs ⟨P, w, K, mg, base, k, N, scope, fun _ => true, true⟩ body b) : FnG P w K mg base (k + 1) f fd ps (spOf K n (mkF N.length b)) := by
  refine fnG_of F S (fun vs H Q E h => h.1.trans hl.symm) fun cdv A outer s H vs Q E hr hgd hsp => ?_
  obtain ⟨hlen, B, Z, ars, sub, bz, hA, h⟩ := hsp
  have hpl : ps.length ≤ N.length := by have := congrArg List.length S.pre; rw [List.length_take] at this; omega
  have hN : vs.length ≤ N.length := by rw [hlen, ← hl]; exact hpl
  refine ⟨rdS K (fun cls d _ H => E cls d H) b, hbody _ _ ⟨rfl, rfl, rfl, rfl, rfl, rfl, S.nd, rfl, rfl, hr, hgd, rfl, passes_of rfl, fun _ => ⟨rfl, rfl⟩⟩ (takes_of rfl rfl rfl rfl), calB B ars vs, Z, frame N.length ars, start_sta sub bz hA hN, ?_⟩
  unfold mkF at h
  cases e : b (frame N.length ars) with
  | none => rw [e] at h; exact h.elim
  | some q =>
    obtain ⟨fl, σE⟩ := q
    rw [e] at h
    cases fl with
    | bk => exact h.elim
    | ct => exact h.elim
    | nx =>
      cases ef : finals ars σE with
      | none => simp only [ef] at h
      | some fs =>
        simp only [ef] at h
        exact fun σ' Z' H' s' x' => h Z' H' .non (behind_of hA s' x' ef) (show Rp K Z' .non .non by simp [Rp])
    | ex c =>
      cases ef : finals ars σE with
      | none => simp only [ef] at h
      | some fs =>
        simp only [ef] at h
        exact fun σ' Z' H' s' x' => h Z' H' (behind_of hA s' x' ef)
    | rt r =>
      cases er : retOf σE r with
      | none => simp only [er] at h
      | some q =>
        obtain ⟨d, o⟩ := q
        cases ef : finals ars σE with
        | none => simp only [er, ef] at h
        | some fs =>
          simp only [er, ef] at h
          exact fun σ' Z' H' s' x' v hv => h Z' H' v (behind_of hA s' x' ef) (resC_of hA s' ef er hv)
theorem fun_ok {P : Program} {w : World} {K : PySem.W.Frag} {mg : Str → Option Value} {base : Heap} {k n : Nat} {x qual : Str} {params : Arguments} {body : List Stmt} {scope : Scope} {f : Addr} {fd : FuncData} {N ps : List Str} {b : S}
    (F : FunD K x qual params body scope [] [] f fd) (hm : mg x = some (.ref f)) (hl : ps.length = n) (hb : ∀ (kV doc pm : Value) (an : Option Addr) (cdv ct : Value) (us : List Value), us.length = ps.length → bindArgs (PySem.W.fnOf x qual params body scope .none kV doc pm an cdv ct) ⟨us, []⟩ = pure (ps.zip us))
    (S : FnScope N ps scope) (hbody : DSs ⟨P, w, K, mg, base, k, N, scope, fun _ => true, true⟩ body b) : Fun P w K mg base (k + 1) x n (mkF N.length b) :=
  ⟨f, fd, ps, hm, F.kp, F.bindsN hb, fnG_ok F hl S hbody⟩
end Ev

set_option Elab.async false
set_option linter.all false
set_option maxRecDepth 100000
/-! Ev, part T: calls. -/
namespace Ev
open PySem PySem.Spec PyProof.Rows L2

/-- the arguments: by reference (a slot's object), or frozen -/
def arg1 (m : Bool) (r : R) : M (Nat × Ar) := match m with
  | true => (match r with
    | .s k => fun σ => match hel σ k with
      | some d => some (.ok (k, .ref d), σ)
      | none => none
    | .v _ _ => M.no)
  | false => M.bind (froz1 r) fun d => M.pure (0, .fro d)
def argsOf : List Bool → List R → M (List (Nat × Ar))
  | [], rs => match rs with
    | [] => M.pure []
    | _ :: _ => M.no
  | m :: ms, rs => match rs with
    | [] => M.no
    | r :: rs => M.bind (arg1 m r) fun a => M.bind (argsOf ms rs) fun as => M.pure (a :: as)
/-- the arguments by reference are apart, and still held -/
def okA (σ : Fr) : List (Nat × Ar) → Bool
  | [] => true
  | (_, .fro _) :: as => okA σ as
  | (k, .ref d) :: as => (match hel σ k with
    | some e => decide (e = d)
    | none => false) && !(refs as).contains k && okA σ as
where
  refs : List (Nat × Ar) → List Nat
  | [] => []
  | (_, .fro _) :: as => refs as
  | (k, .ref _) :: as => k :: refs as
/-- their trees from now on -/
def setAll : List (Nat × Ar) → List Ar → Fr → Option Fr
  | [], [], σ => some σ
  | (_, .fro _) :: as, .fro _ :: bs, σ => setAll as bs σ
  | (k, .ref _) :: as, .ref d :: bs, σ => setAll as bs (setSl σ k d)
  | _, _, _ => none
def runF (F : FSem) (as : List (Nat × Ar)) : SE := fun σ => if okA σ as then (match F (as.map (·.2)) with
  | some (.ok q, fs) => (match setAll as fs σ with
    | some σ' => some (.ok (.v q.1 q.2), σ')
    | none => none)
  | some (.ex c, fs) => (match setAll as fs σ with
    | some σ' => some (.ex c, σ')
    | none => none)
  | none => none) else none
def eCall (F : FSem) (ms : List Bool) (fs : List SE) : SE := M.bind (eAll fs) fun rs => M.bind (argsOf ms rs) fun as => runF F as

section
variable {K : PySem.W.Frag} {W : WX} {B : Bd} {Z Z' H H' : Hp} {σD σD' : Fr} {σ : L2.St} {vs : List V}
/-- what the arguments stand for -/
def ArgV (K : PySem.W.Frag) (Z : Hp) (σ : L2.St) : List (Nat × Ar) → List V → Prop
  | [], vs => vs = []
  | (_, .fro d) :: as, vs => ∃ v t, vs = v :: t ∧ Rp K Z d v ∧ ArgV K Z σ as t
  | (k, .ref _) :: as, vs => ∃ v t, vs = v :: t ∧ σ[k]? = some (some v) ∧ ArgV K Z σ as t
theorem ArgV.mono (z : Sub Z Z') : ∀ {as : List (Nat × Ar)} {vs : List V}, ArgV K Z σ as vs → ArgV K Z' σ as vs
  | [], _, h => h
  | (_, .fro d) :: as, _, ⟨v, t, e, r, h⟩ => ⟨v, t, e, r.mono z, ArgV.mono z h⟩
  | (k, .ref _) :: as, _, ⟨v, t, e, r, h⟩ => ⟨v, t, e, r, ArgV.mono z h⟩
theorem arg1_ok {r : R} {v : V} {m : Bool} {o : Re (Nat × Ar)} (s : Sta K B Z σD σ H) (q : RR K B Z σD σ H r v) (e : arg1 m r σD = some (o, σD')) :
    ∃ a, o = .ok a ∧ ∃ Z', Sta K B Z' σD' σ H ∧ Ext B Z H Z' H ∧ (∀ Z2 t as, Sub Z' Z2 → ArgV K Z2 σ as t → ArgV K Z2 σ (a :: as) (v :: t)) ∧
      (∀ a, ¬ Tmp B r v a → (∀ (i : Nat) (e : D), Held σD i e → σ[i]? ≠ some (some (.ref a))) → Z' a = Z a) ∧ ∀ (i : Nat) (e : D), Held σD' i e → Held σD i e := by
  cases m with
  | true =>
    cases r with
    | v d o' => cases e
    | s k =>
      have e : (match hel σD k with
        | some d => some (Re.ok (k, Ar.ref d), σD)
        | none => none) = some (o, σD') := e
      cases hh : hel σD k with
      | none => rw [hh] at e; cases e
      | some d =>
        rw [hh] at e; cases e
        exact ⟨_, rfl, Z, s, Ext.refl B Z H, fun _ t as _ h => ⟨v, t, rfl, q, h⟩, fun _ _ _ => rfl, fun _ _ h => h⟩
  | false =>
    have e : M.bind (froz1 r) (fun d => M.pure (0, Ar.fro d)) σD = some (o, σD') := e
    cases e1 : froz1 r σD with
    | none => rw [M.bind_none e1] at e; cases e
    | some w =>
      obtain ⟨w, σ1⟩ := w
      obtain ⟨d, rfl, Z1, s1, x1, r1, n1, h1⟩ := alias_ok s q e1
      rw [M.bind_ok e1] at e
      have e' : some (Re.ok (0, Ar.fro d), σ1) = some (o, σD') := e
      cases e'
      exact ⟨_, rfl, Z1, s1, x1, fun _ t as x h => ⟨v, t, rfl, r1.mono x, h⟩, n1, h1⟩
theorem argsOf_ok : ∀ {ms : List Bool} {rs : List R} {B : Bd} {Z : Hp} {σD σD' : Fr} {vs : List V} {o : Re (List (Nat × Ar))}, Sta K B Z σD σ H → RRs K Z σD σ H B rs vs → argsOf ms rs σD = some (o, σD') →
    ∃ as, o = .ok as ∧ ∃ Z', Sta K B Z' σD' σ H ∧ Ext B Z H Z' H ∧ ArgV K Z' σ as vs
  | [], [], B, Z, σD, σD', vs, o, s, q, e => by
    have e : some (Re.ok [], σD) = some (o, σD') := e
    cases e
    exact ⟨[], rfl, Z, s, Ext.refl B Z H, q⟩
  | [], _ :: _, B, Z, σD, σD', vs, o, s, q, e => by cases e
  | _ :: _, [], B, Z, σD, σD', vs, o, s, q, e => by cases e
  | m :: ms, r :: rs, B, Z, σD, σD', vs, o, s, q, e => by
    obtain ⟨v, t, rfl, q1, q2⟩ := q
    have e : M.bind (arg1 m r) (fun a => M.bind (argsOf ms rs) fun as => M.pure (a :: as)) σD = some (o, σD') := e
    have hx : ∃ d σ1, arg1 m r σD = some (.ok d, σ1) ∧ M.bind (argsOf ms rs) (fun as => M.pure (d :: as)) σ1 = some (o, σD') := by
      cases e1 : arg1 m r σD with
      | none => rw [M.bind_none e1] at e; cases e
      | some q =>
        obtain ⟨q, σ1⟩ := q
        obtain ⟨d, rfl, _⟩ := arg1_ok s q1 e1
        rw [M.bind_ok e1] at e
        exact ⟨d, σ1, rfl, e⟩
    obtain ⟨d, σ1, e1, e⟩ := hx
    obtain ⟨d', ed, Z1, s1, x1, r1, n1, h1⟩ := arg1_ok s q1 e1
    cases ed
    have q2' : RRs K Z1 σ1 σ H B rs t := q2.turned (Tmp.base r v).b x1.sub n1 h1
    cases e2 : argsOf ms rs σ1 with
    | none => rw [M.bind_none e2] at e; cases e
    | some w =>
      obtain ⟨o2, σ2⟩ := w
      obtain ⟨as, rfl, Z2, s2, x2, a2⟩ := argsOf_ok s1 q2' e2
      rw [M.bind_ok e2] at e
      have e' : some (Re.ok (d :: as), σ2) = some (o, σD') := e
      cases e'
      exact ⟨_, rfl, Z2, s2, x1.trans x2, r1 Z2 t as x2.sub a2⟩
/-- a reference among the arguments -/
theorem ArgV.get : ∀ {as : List (Nat × Ar)} {vs : List V}, ArgV K Z σ as vs → ∀ (i : Nat), (∀ (k : Nat) (d : D), as[i]? = some (k, .fro d) → ∃ v, vs[i]? = some v ∧ Rp K Z d v) ∧ ∀ (k : Nat) (d : D), as[i]? = some (k, .ref d) → ∃ v, vs[i]? = some v ∧ σ[k]? = some (some v)
  | [], _, _, i => ⟨fun k d e => by simp at e, fun k d e => by simp at e⟩
  | (k0, .fro d0) :: as, _, ⟨v, t, rfl, r, h⟩, i => by
    cases i with
    | zero => exact ⟨fun k d e => by simp at e; obtain ⟨rfl, rfl⟩ := e; exact ⟨v, rfl, r⟩, fun k d e => by simp at e⟩
    | succ i =>
      obtain ⟨h1, h2⟩ := ArgV.get h i
      exact ⟨fun k d e => by simpa using h1 k d (by simpa using e), fun k d e => by simpa using h2 k d (by simpa using e)⟩
  | (k0, .ref d0) :: as, _, ⟨v, t, rfl, r, h⟩, i => by
    cases i with
    | zero => exact ⟨fun k d e => by simp at e, fun k d e => by simp at e; obtain ⟨rfl, rfl⟩ := e; exact ⟨v, rfl, r⟩⟩
    | succ i =>
      obtain ⟨h1, h2⟩ := ArgV.get h i
      exact ⟨fun k d e => by simpa using h1 k d (by simpa using e), fun k d e => by simpa using h2 k d (by simpa using e)⟩
theorem ArgV.length : ∀ {as : List (Nat × Ar)} {vs : List V}, ArgV K Z σ as vs → vs.length = as.length
  | [], _, h => by rw [show _ = [] from h]; rfl
  | (k0, .fro d0) :: as, _, ⟨v, t, rfl, r, h⟩ => by simp [ArgV.length h]
  | (k0, .ref d0) :: as, _, ⟨v, t, rfl, r, h⟩ => by simp [ArgV.length h]
theorem mem_refs : ∀ {as : List (Nat × Ar)} {k : Nat}, k ∈ okA.refs as ↔ ∃ (i : Nat) (d : D), as[i]? = some (k, Ar.ref d)
  | [], k => by simp [okA.refs]
  | (k0, .fro d0) :: as, k => by
    rw [okA.refs, mem_refs]
    constructor
    · rintro ⟨i, d, e⟩; exact ⟨i + 1, d, by simpa using e⟩
    · rintro ⟨i, d, e⟩
      cases i with
      | zero => simp at e
      | succ i => exact ⟨i, d, by simpa using e⟩
  | (k0, .ref d0) :: as, k => by
    rw [okA.refs, List.mem_cons, mem_refs]
    constructor
    · rintro (rfl | ⟨i, d, e⟩)
      · exact ⟨0, d0, rfl⟩
      · exact ⟨i + 1, d, by simpa using e⟩
    · rintro ⟨i, d, e⟩
      cases i with
      | zero => simp at e; exact .inl e.1.symm
      | succ i => exact .inr ⟨i, d, by simpa using e⟩
theorem okA_ref : ∀ {as : List (Nat × Ar)}, okA σD as = true → ∀ (i k : Nat) (d : D), as[i]? = some (k, .ref d) → Held σD k d ∧ ∀ (j : Nat) (e : D), as[j]? = some (k, .ref e) → j = i
  | [], _, i, k, d, e => by simp at e
  | (k0, .fro d0) :: as, h, i, k, d, e => by
    rw [okA] at h
    cases i with
    | zero => simp at e
    | succ i =>
      obtain ⟨h1, h2⟩ := okA_ref h i k d (by simpa using e)
      refine ⟨h1, fun j e' ej => ?_⟩
      cases j with
      | zero => simp at ej
      | succ j => rw [h2 j e' (by simpa using ej)]
  | (k0, .ref d0) :: as, h, i, k, d, e => by
    rw [okA] at h
    simp only [Bool.and_eq_true, Bool.not_eq_true', List.contains_eq_mem, decide_eq_false_iff_not] at h
    obtain ⟨⟨h0, hn⟩, h⟩ := h
    cases i with
    | zero =>
      simp at e
      obtain ⟨rfl, rfl⟩ := e
      refine ⟨?_, fun j e' ej => ?_⟩
      · split at h0
        · rename_i e he
          rw [of_decide_eq_true h0] at he
          exact hel_iff.mp he
        · cases h0
      · cases j with
        | zero => rfl
        | succ j => exact absurd (mem_refs.mpr ⟨j, e', by simpa using ej⟩) hn
    | succ i =>
      have e : as[i]? = some (k, .ref d) := by simpa using e
      obtain ⟨h1, h2⟩ := okA_ref h i k d e
      refine ⟨h1, fun j e' ej => ?_⟩
      cases j with
      | zero =>
        simp at ej
        exact absurd (mem_refs.mpr ⟨i, d, by rw [ej.1]; exact e⟩) hn
      | succ j => rw [h2 j e' (by simpa using ej)]
/-- same kinds of slots -/
def Shape (x y : Option Sl) : Prop := x = y ∨ (∃ d e, x = some (.own d) ∧ y = some (.own e)) ∨ ∃ d e, x = some (.par d) ∧ y = some (.par e)
theorem Shape.trans {x y z : Option Sl} (a : Shape x y) (b : Shape y z) : Shape x z := by
  rcases a with rfl | ⟨d, e, rfl, rfl⟩ | ⟨d, e, rfl, rfl⟩
  · exact b
  · rcases b with rfl | ⟨d', e', h, rfl⟩ | ⟨d', e', h, rfl⟩
    · exact .inr (.inl ⟨_, _, rfl, rfl⟩)
    · exact .inr (.inl ⟨_, _, rfl, rfl⟩)
    · cases h
  · rcases b with rfl | ⟨d', e', h, rfl⟩ | ⟨d', e', h, rfl⟩
    · exact .inr (.inr ⟨_, _, rfl, rfl⟩)
    · cases h
    · exact .inr (.inr ⟨_, _, rfl, rfl⟩)
theorem setSl_shape {k : Nat} {d : D} (i : Nat) : Shape σD[i]? (setSl σD k d)[i]? := by
  by_cases h : k = i
  · subst h
    unfold setSl
    cases e : σD[k]? with
    | none => exact .inl e.symm
    | some l =>
      have hl : k < σD.length := (List.getElem?_eq_some_iff.mp e).1
      cases l with
      | no => exact .inl e.symm
      | fro x => exact .inl e.symm
      | own x => exact .inr (.inl ⟨x, d, rfl, List.getElem?_set_self hl⟩)
      | par x => exact .inr (.inr ⟨x, d, rfl, List.getElem?_set_self hl⟩)
  · rw [setSl_ne h]; exact .inl rfl
theorem setAll_shape : ∀ {as : List (Nat × Ar)} {bs : List Ar} {σD σD' : Fr}, setAll as bs σD = some σD' → σD'.length = σD.length ∧ ∀ i : Nat, Shape σD[i]? σD'[i]?
  | [], [], σD, σD', h => by simp [setAll] at h; subst h; exact ⟨rfl, fun i => .inl rfl⟩
  | [], _ :: _, σD, σD', h => by simp [setAll] at h
  | (k, .fro _) :: as, [], σD, σD', h => by simp [setAll] at h
  | (k, .ref _) :: as, [], σD, σD', h => by simp [setAll] at h
  | (k, .fro _) :: as, .fro _ :: bs, σD, σD', h => setAll_shape (as := as) (bs := bs) (by simpa [setAll] using h)
  | (k, .fro _) :: as, .ref _ :: bs, σD, σD', h => by simp [setAll] at h
  | (k, .ref _) :: as, .fro _ :: bs, σD, σD', h => by simp [setAll] at h
  | (k, .ref _) :: as, .ref d :: bs, σD, σD', h => by
    obtain ⟨h1, h2⟩ := setAll_shape (as := as) (bs := bs) (σD := setSl σD k d) (σD' := σD') (by simpa [setAll] using h)
    exact ⟨h1.trans setSl_len, fun i => (setSl_shape i).trans (h2 i)⟩
theorem setAll_out : ∀ {as : List (Nat × Ar)} {bs : List Ar} {σD σD' : Fr}, setAll as bs σD = some σD' → ∀ i, i ∉ okA.refs as → σD'[i]? = σD[i]?
  | [], [], σD, σD', h, i, hi => by simp [setAll] at h; subst h; rfl
  | [], _ :: _, σD, σD', h, i, hi => by simp [setAll] at h
  | (k, .fro _) :: as, [], σD, σD', h, i, hi => by simp [setAll] at h
  | (k, .ref _) :: as, [], σD, σD', h, i, hi => by simp [setAll] at h
  | (k, .fro _) :: as, .fro _ :: bs, σD, σD', h, i, hi => setAll_out (as := as) (bs := bs) (by simpa [setAll] using h) i (by simpa [okA.refs] using hi)
  | (k, .fro _) :: as, .ref _ :: bs, σD, σD', h, i, hi => by simp [setAll] at h
  | (k, .ref _) :: as, .fro _ :: bs, σD, σD', h, i, hi => by simp [setAll] at h
  | (k, .ref _) :: as, .ref d :: bs, σD, σD', h, i, hi => by
    rw [okA.refs, List.mem_cons, not_or] at hi
    rw [setAll_out (as := as) (bs := bs) (σD := setSl σD k d) (σD' := σD') (by simpa [setAll] using h) i hi.2, setSl_ne (Ne.symm hi.1)]
theorem setAll_in {σD0 : Fr} : ∀ {as : List (Nat × Ar)} {bs : List Ar} {σD σD' : Fr}, setAll as bs σD = some σD' → okA σD0 as = true → ∀ (i : Nat) (e : D), i ∈ okA.refs as → Held σD' i e → (∃ d, Held σD i d) → ∃ (j : Nat) (d : D), as[j]? = some (i, .ref d) ∧ bs[j]? = some (.ref e)
  | [], [], σD, σD', h, ok, i, e, hi, he, hd => by simp [okA.refs] at hi
  | [], _ :: _, σD, σD', h, ok, i, e, hi, he, hd => by simp [setAll] at h
  | (k, .fro _) :: as, [], σD, σD', h, ok, i, e, hi, he, hd => by simp [setAll] at h
  | (k, .ref _) :: as, [], σD, σD', h, ok, i, e, hi, he, hd => by simp [setAll] at h
  | (k, .fro _) :: as, .fro _ :: bs, σD, σD', h, ok, i, e, hi, he, hd => by
    obtain ⟨j, d, h1, h2⟩ := setAll_in (as := as) (bs := bs) (by simpa [setAll] using h) (by simpa [okA] using ok) i e (by simpa [okA.refs] using hi) he hd
    exact ⟨j + 1, d, by simpa using h1, by simpa using h2⟩
  | (k, .fro _) :: as, .ref _ :: bs, σD, σD', h, ok, i, e, hi, he, hd => by simp [setAll] at h
  | (k, .ref _) :: as, .fro _ :: bs, σD, σD', h, ok, i, e, hi, he, hd => by simp [setAll] at h
  | (k, .ref d0) :: as, .ref d :: bs, σD, σD', h, ok, i, e, hi, he, hd => by
    have h : setAll as bs (setSl σD k d) = some σD' := by simpa [setAll] using h
    rw [okA] at ok
    simp only [Bool.and_eq_true, Bool.not_eq_true', List.contains_eq_mem, decide_eq_false_iff_not] at ok
    obtain ⟨⟨_, hn⟩, ok⟩ := ok
    by_cases hik : i = k
    · subst hik
      have h3 := setAll_out h i hn
      obtain ⟨d1, hd⟩ := hd
      have h4 : Held (setSl σD i d) i d := setSl_held hd
      have h5 : Held (setSl σD i d) i e := by unfold Held at he ⊢; rw [← h3]; exact he
      rw [h5.inj h4]
      exact ⟨0, d0, rfl, rfl⟩
    · rw [okA.refs, List.mem_cons] at hi
      have hd' : ∃ d', Held (setSl σD k d) i d' := by
        obtain ⟨d1, hd⟩ := hd
        exact ⟨d1, by unfold Held at hd ⊢; rw [setSl_ne (Ne.symm hik)]; exact hd⟩
      obtain ⟨j, d', h1, h2⟩ := setAll_in h ok i e (hi.resolve_left hik) he hd'
      exact ⟨j + 1, d', by simpa using h1, by simpa using h2⟩
/-- the state behind a call -/
theorem Sta.remake (s : Sta K B Z σD σ H) (sub : Sub Z' H') (z : Sub Z Z') (bz : ∀ a, B a → Z' a = none ∧ H' a = H a) (hl : σD'.length = σD.length) (shape : ∀ i : Nat, Shape σD[i]? σD'[i]?)
    (own : ∀ (i : Nat) (d : D), Held σD' i d → ∃ a, σ[i]? = some (some (.ref a)) ∧ Z' a = none ∧ Cont K Z' (H' a) d) : Sta K B Z' σD' σ H' := by
  have back : ∀ {i : Nat} {d : D}, Held σD' i d → ∃ e, Held σD i e := fun {i d} h => by
    rcases shape i with e | ⟨d1, e1, h1, h2⟩ | ⟨d1, e1, h1, h2⟩
    · exact ⟨d, by unfold Held at h ⊢; rw [e]; exact h⟩
    · exact ⟨d1, .inl h1⟩
    · exact ⟨d1, .inr h1⟩
  refine ⟨sub, hl.trans s.len, fun a h => ⟨(bz a h).1, by rw [(bz a h).2]; exact (s.bz a h).2⟩, fun i d h => ?_, fun i d h => ?_, fun i j d e a h h' => ?_, fun i a h => ?_⟩
  · rcases shape i with e | ⟨d1, e1, h1, h2⟩ | ⟨d1, e1, h1, h2⟩
    · obtain ⟨v, h1, h2⟩ := s.fro i d (by rw [e]; exact h)
      exact ⟨v, h1, h2.mono z⟩
    · rw [h] at h2; cases h2
    · rw [h] at h2; cases h2
  · obtain ⟨a, h1, h2, h3⟩ := own i d h
    obtain ⟨e, he⟩ := back h
    obtain ⟨b, h4, nb, _⟩ := s.own i e he
    rw [h1] at h4; cases h4
    exact ⟨a, h1, nb, h2, h3⟩
  · obtain ⟨d', hd⟩ := back h
    obtain ⟨e', he⟩ := back h'
    exact s.inj i j d' e' a hd he
  · obtain ⟨h1, d, h2⟩ := s.pa i a h
    refine ⟨h1, ?_⟩
    rcases shape i with e | ⟨d1, e1, h3, h4⟩ | ⟨d1, e1, h3, h4⟩
    · exact ⟨d, by rw [← e]; exact h2⟩
    · rw [h2] at h3; cases h3
    · exact ⟨e1, h4⟩
/-- at a call: what the callee wants of its arguments -/
def othB (B : Bd) (σD : Fr) (σ : L2.St) (as : List (Nat × Ar)) : Addr → Prop := fun a => B a ∨ ∃ i d, i ∉ okA.refs as ∧ Held σD i d ∧ σ[i]? = some (some (.ref a))
theorem args_ok {as : List (Nat × Ar)} (s : Sta K B Z σD σ H) (a : ArgV K Z σ as vs) (ok : okA σD as = true) : (∀ a, othB B σD σ as a → Z a = none ∧ H a ≠ none) ∧ ArgsOk K (othB B σD σ as) Z H (as.map (·.2)) vs := by
  have look : ∀ {i : Nat} {x : Ar}, (as.map (·.2))[i]? = some x → ∃ k, as[i]? = some (k, x) := fun {i x} h => by
    rw [List.getElem?_map] at h
    cases e : as[i]? with
    | none => rw [e] at h; cases h
    | some q => obtain ⟨k, y⟩ := q; rw [e] at h; cases h; exact ⟨k, rfl⟩
  refine ⟨fun b h => ?_, by rw [a.length, List.length_map], fun i d e => ?_, fun i d e => ?_, fun i j d e b ei ej vi vj => ?_⟩
  · rcases h with h | ⟨i, d, _, h, e⟩
    · exact s.bz b h
    · obtain ⟨c, h1, _, z, h2⟩ := s.own i d h
      rw [e] at h1; cases h1
      obtain ⟨u, hu, _⟩ := h2.obj
      exact ⟨z, by rw [hu]; simp⟩
  · obtain ⟨k, e⟩ := look e
    exact (a.get i).1 k d e
  · obtain ⟨k, e⟩ := look e
    obtain ⟨v, h1, h2⟩ := (a.get i).2 k d e
    obtain ⟨h3, h4⟩ := okA_ref ok i k d e
    obtain ⟨b, h5, nb, z, c⟩ := s.own k d h3
    rw [h2] at h5; cases h5
    refine ⟨b, h1, fun q => ?_, z, c⟩
    rcases q with q | ⟨j, d', hn, hd, ej⟩
    · exact nb q
    · have := s.inj j k d' d b hd h3 ej h2
      subst this
      exact hn (mem_refs.mpr ⟨i, d, e⟩)
  · obtain ⟨k, ei⟩ := look ei
    obtain ⟨l, ej⟩ := look ej
    obtain ⟨v, h1, h2⟩ := (a.get i).2 k d ei
    obtain ⟨u, h3, h4⟩ := (a.get j).2 l e ej
    rw [vi] at h1; cases h1
    rw [vj] at h3; cases h3
    have hkl := s.inj k l d e b (okA_ref ok i k d ei).1 (okA_ref ok j l e ej).1 h2 h4
    subst hkl
    exact ((okA_ref ok i k d ei).2 j e ej).symm
theorem behind_sta {as : List (Nat × Ar)} {fs : List Ar} (s : Sta K B Z σD σ H) (a : ArgV K Z σ as vs) (ok : okA σD as = true) (hs : setAll as fs σD = some σD') (b : Behind K (othB B σD σ as) Z H Z' H' fs vs) :
    Sta K B Z' σD' σ H' ∧ Ext B Z H Z' H' := by
  obtain ⟨hl, shape⟩ := setAll_shape hs
  refine ⟨s.remake b.sub b.z (fun c h => b.keep c (.inl h)) hl shape fun i d h => ?_, b.z, fun c h => (b.keep c (.inl h)).2⟩
  by_cases hi : i ∈ okA.refs as
  · obtain ⟨j0, d0, e0⟩ := mem_refs.mp hi
    obtain ⟨j, d1, e1, e2⟩ := setAll_in hs ok i d hi h ⟨d0, (okA_ref ok j0 i d0 e0).1⟩
    obtain ⟨c, h1, z, h2⟩ := b.ref j d e2
    obtain ⟨v, h3, h4⟩ := (a.get j).2 i d1 e1
    rw [h1] at h3; cases h3
    exact ⟨c, h4, z, h2⟩
  · have h' : Held σD i d := by unfold Held at h ⊢; rw [← setAll_out hs i hi]; exact h
    obtain ⟨c, h1, nb, z, h2⟩ := s.own i d h'
    obtain ⟨h3, h4⟩ := b.keep c (.inr ⟨i, d, hi, h', h1⟩)
    exact ⟨c, h1, h3, by rw [h4]; exact h2.mono b.z⟩
theorem behind_rr {as : List (Nat × Ar)} {fs : List Ar} {d : D} {o : Bool} {v : V} (s : Sta K B Z σD σ H) (a : ArgV K Z σ as vs) (ok : okA σD as = true) (hs : setAll as fs σD = some σD') (b : Behind K (othB B σD σ as) Z H Z' H' fs vs)
    (r : ResC K (othB B σD σ as) Z' H' fs vs d o v) : RR K B Z' σD' σ H' (.v d o) v := by
  cases o with
  | false => exact r
  | true =>
    obtain ⟨c, rfl, nb, z, h2, n⟩ := r
    refine ⟨c, rfl, fun q => nb (.inl q), z, h2, fun i e h q => ?_⟩
    by_cases hi : i ∈ okA.refs as
    · obtain ⟨j0, d0, e0⟩ := mem_refs.mp hi
      obtain ⟨j, d1, e1, e2⟩ := setAll_in hs ok i e hi h ⟨d0, (okA_ref ok j0 i d0 e0).1⟩
      obtain ⟨v, h3, h4⟩ := (a.get j).2 i d1 e1
      rw [q] at h4; cases h4
      exact n j e e2 h3
    · have h' : Held σD i e := by unfold Held at h ⊢; rw [← setAll_out hs i hi]; exact h
      exact nb (.inr ⟨i, e, hi, h', q⟩)
end
theorem de_call {p : Pl} {x : Str} {F : FSem} {ms : List Bool} {fs : List SE} {e : Expr} {es : List Expr} {q pos : Pos} {n : Nat} (hF : Fun p.P p.w p.K p.mg p.base p.k x n F) (ha : DA p (e :: es) fs) (hl : fs.length = n := by rfl) (hg : Glo p x := by rfl) (hdb : (x == ("__debug__" : Str)) = false := by decide)
    (he : ∀ env : Env, starEach (e :: es) env = (false, eval e env) :: starEach es env := by intro _; rfl) (hpl : ∀ env : Env, (backTo pos (starEach es env)).any (·.1) = false := by intro _; rfl) : DE p (.Call (.Name x q) (e :: es) [] pos) (eCall F ms fs) := fun X W c tk => by
  obtain ⟨f, fd, ps, hm, hk, hb, G⟩ := hF
  refine PE_imp (pe_callG (E := WE W) (by rw [c.hP, c.hw, c.hK, c.hmg, c.hbase]; exact G) c.room c.gds (c.gl hg) (by rw [c.hmg]; exact hm) (by rw [c.hK]; exact hk) (by rw [c.hK]; exact hb) (passAt tk) (ha.run X W c tk) hdb (he X.env) (hpl X.env)) fun σ H Q h => ?_
  obtain ⟨B, Z, σD, s, h⟩ := h
  refine ⟨B, Z, σD, s, (h.bind).val.imp fun rs Z1 σD1 H1 s1 x1 ⟨h1, er⟩ vs hv => ?_⟩
  have hlen : vs.length = n := by rw [hv.length, eAll_length er, hl]
  cases e2 : argsOf ms rs σD1 with
  | none => rw [M.bind_none e2] at h1; exact h1.elim
  | some o =>
    obtain ⟨o, σD2⟩ := o
    obtain ⟨as, rfl, Z2, s2, x2, a2⟩ := argsOf_ok s1 hv e2
    rw [M.bind_ok e2] at h1
    have h2 := h1.back x2 fun _ _ _ _ _ _ q => q
    unfold runF at h2
    by_cases ok : okA σD2 as = true
    · rw [if_pos ok] at h2
      obtain ⟨bz, hA⟩ := args_ok s2 a2 ok
      refine ⟨hlen, othB B σD2 σ as, Z2, as.map (·.2), s2.sub, bz, hA, ?_⟩
      cases ef : F (as.map (·.2)) with
      | none => rw [ef] at h2; exact h2.elim
      | some q =>
        obtain ⟨q, fs'⟩ := q
        rw [ef] at h2
        cases q with
        | ex c =>
          cases es : setAll as fs' σD2 with
          | none => simp only [es] at h2; exact h2.elim
          | some σD3 =>
            simp only [es] at h2
            intro Z' H' b
            obtain ⟨s3, x3⟩ := behind_sta s2 a2 ok es b
            exact h2 Z' H' s3 x3
        | ok q =>
          obtain ⟨d, o⟩ := q
          cases es : setAll as fs' σD2 with
          | none => simp only [es] at h2; exact h2.elim
          | some σD3 =>
            simp only [es] at h2
            intro Z' H' v b r
            obtain ⟨s3, x3⟩ := behind_sta s2 a2 ok es b
            exact h2 Z' H' s3 x3 v (behind_rr s2 a2 ok es b r)
    · rw [if_neg ok] at h2; exact h2.elim
end Ev

set_option Elab.async false
set_option linter.all false
set_option maxRecDepth 100000
/-! Ev, part U: try with clauses 'except C as e'. -/
namespace Ev
open PySem PySem.Spec PyProof.Rows L2

/-- what the clauses wish of an exception of the body, one after the other -/
def wMas (K : PySem.W.Frag) (Wout : WX) (D : Ends) : List (Value × Nat × (Addr → Value → Option Addr → TS)) → WX
  | [] => Wout
  | (c, i, ts) :: r => fun cls d σ H => ∃ b, PySem.W.exmOne K cls c = some b ∧ (b = true → ∀ a, H a = none → ts a cls d { nx := fun σ' H' => D.nx (σ'.set i none) H', rt := D.rt, bk := fun σ' H' => D.bk (σ'.set i none) H', ct := fun σ' H' => D.ct (σ'.set i none) H' } (σ.set i (some (.ref a))) H) ∧
    (b = false → wMas K Wout D r cls d σ H)
inductive HdsMas (X : Cx) : List ExceptHandler → List (Value × Nat × (Addr → Value → Option Addr → TS)) → Prop
  | nil : HdsMas X [] []
  | cons {x n : Str} {c : Value} {i : Nat} {ts : Addr → Value → Option Addr → TS} {b₀ : Stmt} {suite : List Stmt} {np pos' : Pos} {hds : List ExceptHandler} {l : List (Value × Nat × (Addr → Value → Option Addr → TS))} (hi : X.N[i]? = some n) (hln : X.env.kindOf n = some .local) (hc : Names X x c)
      (hsu : ∀ (a : Addr) (oe : Obj) (cls : Value) (d : Option Addr) (pn : List (Addr × Obj)), Zc cls d oe → (∃ vs, oe.data = .fields vs) → PSs (X.suite a ((a, oe) :: pn)) (b₀ :: suite) (ts a cls d)) (r : HdsMas X hds l) :
      HdsMas X (.ExceptHandler (some (.Name x np)) (some n) (b₀ :: suite) pos' :: hds) ((c, i, ts) :: l)
section
variable {X : Cx} {body : List Stmt} {h₀ : ExceptHandler} {hds : List ExceptHandler} {l : List (Value × Nat × (Addr → Value → Option Addr → TS))} {pos : Pos} {tb : WX → TS} {Wout : WX}
theorem ps_try_mas (hs : X.stack = X.env :: X.outer) (hf : X.env.frame = some X.env.locals) (hN : X.N.Nodup) (tk : Takes X Wout)
    (hb : ∀ (W : WX) (pn : List (Addr × Obj)) (xe : Value → Shared → Prop), Takes (X.tr pn xe) W → PassesOwn (model X.prog X.w) X.A X.env xe → PSs (X.tr pn xe) body (tb W))
    (hh : HdsMas X (h₀ :: hds) l) : PS X (.Try body (h₀ :: hds) [] [] pos) (fun D σ H => tb (wMas X.K Wout D l) D σ H) := by
  refine ⟨fun pins s σ H D I h => ?_⟩
  have ok := I.ok
  have hfr : X.A.frames = some (X.env :: X.outer) := by rw [ok.frames, hs]
  refine wpAny_Try_except ?_
  refine wpAny_mono ((hb (wMas X.K Wout D l) (X.pn ++ pins) (fun e s₁ => wpAny (model X.prog X.w) X.A (noteFrame e X.env) (fun _ s₂ => wpAny (model X.prog X.w) X.A (setFlight e none) (fun _ s₃ =>
    wpAny (model X.prog X.w) X.A (handleBy e X.env (h₀ :: hds)) (SP X pins D) X.xe s₃) X.xe s₂) X.xe s₁) (fun u s' xx => ?_) PassesOwn.looking).run [] s σ H D (I.toTry _) h) (fun f s1 hsp => ?_) (fun e s1 he => he)
  · -- the catch
    obtain ⟨a, B, sI, pins', σ', H', cls, d, rfl, J', nb, up, sky, na, os, ag, w⟩ := xx
    have J : Inv X pins σ' H' sI := J'.ofTry ok
    have sky' : Sky B (X.env :: X.outer) a (Zc cls d) X.env.locals s'.heap := by rw [← hs]; exact sky
    show wpAny (model X.prog X.w) X.A (noteFrame (.ref a) X.env) _ _ _
    refine Sky.land Zc.steady hfr hf sky' fun h3 fl3 up3 => ?_
    have J3 : Inv X pins σ' H' { s' with heap := h3 } := J.landed nb fl3.1 (up.trans up3) os ag
    obtain ⟨oe3, vs3, he3, hz3, hd3⟩ := fl3.there
    have notFr : ∀ {h : Heap} {o : Obj} {vs : Array Value}, h.FunFrames B (X.env :: X.outer) → h.get? a = some o → o.data = .fields vs → a ∉ frs (X.env :: X.outer) := fun {h o vs} ff e dd hm => by
      obtain ⟨_, o', e', hnf⟩ := ff.mem hm
      rw [e] at e'; cases e'
      exact hnf _ dd
    have nfr := notFr fl3.2.2.1 he3 hd3
    have nL : a ≠ X.env.locals := fun z => nfr (List.mem_filterMap.mpr ⟨X.env, List.mem_cons_self, by rw [hf, z]⟩)
    have nF : a ∉ X.fs := fun hm => by
      obtain ⟨e, he, q⟩ := List.mem_filterMap.mp hm
      exact nfr (List.mem_filterMap.mpr ⟨e, List.mem_cons_of_mem _ he, q⟩)
    have S3 := J3.suite he3 hd3 na nL nF
    have go : ∀ {hds' : List ExceptHandler} {l' : List (Value × Nat × (Addr → Value → Option Addr → TS))}, HdsMas X hds' l' → wMas X.K Wout D l' cls d σ' H' →
        wpAny (model X.prog X.w) X.A (handleBy (.ref a) X.env hds') (SP X pins D) X.xe { s' with heap := h3 } := by
      intro hds' l' hk
      induction hk with
      | nil =>
        intro w
        refine wpAny_handleBy_nil ?_
        obtain ⟨k1, k2, k3, oe, vs, T, oT, ts', he, hz, hd, h1, hr⟩ := id fl3
        unfold PySem.passOn
        refine wpAny_bind (wpAny_field he hd h1 ?_)
        rw [if_neg (show ¬ ((Value.ref T == Value.none) = true) from by simp)]
        have fin : wpAny (model X.prog X.w) X.A (setFlight (.ref a) X.env.frame) (fun _ s4 => wpAny (model X.prog X.w) X.A (throw (.ref a) : Sem Flow) (SP X pins D) X.xe s4) X.xe { s' with heap := h3 } := by
          rw [hf]
          refine HandSPX.setFlight_upZ fl3 fun h4 hh4 up4 => wpAny_throw (tk _ _ ?_)
          exact ⟨a, B, sI, pins, σ', H', cls, d, rfl, J, nb, (up.trans up3).trans up4, .inr (.inr (by rw [hs]; exact hh4)), na, os, ag, w⟩
        first
          | exact wpAny_bind (wpAny_pure (wpAny_bind fin))
          | exact wpAny_bind fin
      | @cons x n c i ts b₀ suite np pos' hds2 l2 hi hln hc hsu r ih =>
        intro w
        have hloc : Loc X.env.scope n := .inl hln
        obtain ⟨b, hb1, hyes, hno⟩ := w
        refine wpAny_handleBy_cons (codeAny_handlers_test ?_) (by intro q; cases q)
        have LT : PySem.W.Looks (model X.prog X.w) h3 (typeOf (.ref a)) cls := fun A Q E s k q => wpAny_typeOf_ref (k _ _ he3) (by rw [hz3.1]; exact q)
        have LM := PySem.W.exm_one (M := model X.prog X.w) (J3.kIn) LT hb1
        have test : ∀ {Q : Value → Shared → Prop} {E : Value → Shared → Prop}, Q c { s' with heap := h3 } → wpAny (model X.prog X.w) (X.A.mark (some (.ref a))) (eval (.Name x np) X.env) Q E { s' with heap := h3 } := fun {Q E} q => by
          obtain ⟨hg, hdbg, hm | ⟨hm, hv, hnn⟩⟩ := hc
          · exact ld_glob (X := X.suite a ((a, oe3) :: (X.pn ++ pins))) S3 hg hm q hdbg
          · exact ld_blt (X := X.suite a ((a, oe3) :: (X.pn ++ pins))) S3 hg hm hv q hnn hdbg
        refine test (LM.here ?_)
        cases b with
        | true =>
          refine codeAny_handlers_suite_as ?_
          refine HandSPX.lands_againZ fl3 fun h4 fl4 up4 => ?_
          have J4 : Inv X pins σ' H' { s' with heap := h4 } := J.landed nb fl4.1 ((up.trans up3).trans up4) os ag
          obtain ⟨oe4, vs4, he4, hz4, hd4⟩ := fl4.there
          have S4 := J4.suite he4 hd4 na nL nF
          refine store_ok (X := X.suite a ((a, oe4) :: (X.pn ++ pins))) (v := .ref a) S4 hN hi hloc rfl (fun s5 S5 => ?_) (.inr hln)
          refine wpAny_mono ((hsu a oe4 cls d (X.pn ++ pins) hz4 ⟨_, hd4⟩).run [] s5 _ H' _ S5 (hyes rfl a na)) (fun f s6 hsp => ?_) (fun _ _ z => False.elim z)
          have end_ : ∀ {σ6 : L2.St} {H6 : Hp} {Q : Shared → Prop}, Inv (X.suite a ((a, oe4) :: (X.pn ++ pins))) [] σ6 H6 s6 → (∀ s7, Inv X pins (σ6.set i none) H6 s7 → Q s7) →
              wpAny (model X.prog X.w) X.A (do bindName X.env n .none; unbindBehindTheSuite X.env n pos') (fun _ s7 => Q s7) X.xe s6 := fun {σ6 H6 Q} S6 hq => gone_ok (S6.unsuite ok) hN hi hln hq
          cases f with
          | next =>
            obtain ⟨σ6, H6, S6, q6⟩ := hsp
            exact end_ S6 fun s7 J7 => ⟨_, _, J7, q6⟩
          | brk =>
            obtain ⟨σ6, H6, S6, q6⟩ := hsp
            exact end_ S6 fun s7 J7 => ⟨_, _, J7, q6⟩
          | cont =>
            obtain ⟨σ6, H6, S6, q6⟩ := hsp
            exact end_ S6 fun s7 J7 => ⟨_, _, J7, q6⟩
          | ret u =>
            obtain ⟨v6, σ6, H6, S6, r6, q6⟩ := hsp
            exact end_ S6 fun s7 J7 => ⟨_, _, _, J7, r6, q6⟩
        | false =>
          show wpAny _ X.A (handleBy (.ref a) X.env hds2) _ _ _
          exact ih (hno rfl)
    exact go hh w
  · cases f with
    | next =>
      obtain ⟨σ', H', J', q⟩ := hsp
      exact wpAny_execs_nil ⟨σ', H', J'.ofTry ok, q⟩
    | brk =>
      obtain ⟨σ', H', J', q⟩ := hsp
      exact ⟨σ', H', J'.ofTry ok, q⟩
    | cont =>
      obtain ⟨σ', H', J', q⟩ := hsp
      exact ⟨σ', H', J'.ofTry ok, q⟩
    | ret u =>
      obtain ⟨v, σ', H', J', r, q⟩ := hsp
      exact ⟨v, σ', H', J'.ofTry ok, r, q⟩
end
/-! ### on trees -/
/-- what a clause's suite does: return (), go on -/
inductive Su where
  | ret0 | skip
/-- the classes that are caught, one after another: which names of classes the clause takes, the slot of its name, its suite -/
structure Cl where
  takes : Str → Option Bool
  i : Nat
  su : Su
def clGo (c : Str) : List Cl → S
  | [], σ => some (.ex c, σ)
  | q :: r, σ => match q.takes c with
    | none => none
    | some false => clGo c r σ
    | some true => (match σ[q.i]? with
      | some .no => (match q.su with
        | .ret0 => some (.rt (.v (.tup []) false), σ)
        | .skip => some (.nx, σ))
      | _ => none)
def sTry (b : S) (cls : List Cl) : S := fun σ => match b σ with
  | some (.ex c, σ1) => clGo c cls σ1
  | o => o
/-- what is known of the classes -/
structure ExF (K : PySem.W.Frag) (c : Str) : Prop where
  cc : ExcC K (He.ga K c)
  ve : PySem.W.kitOne K (exc K c) (.type "ValueError") = some true
def ClOk (p : Pl) (q : Cl) (cl : Value) : Prop := ∀ c b, q.takes c = some b → PySem.W.exmOne p.K (exc p.K c) cl = some b ∧ (b = true → ExF p.K c)
/-- a suite in a clause's place -/
def tsSu (K : PySem.W.Frag) (i : Nat) (su : Su) : Addr → Value → Option Addr → TS := fun a cls d D σ H => (∃ c, cls = exc K c ∧ d = none ∧ ExF K c) ∧ σ[i]? = some (some (.ref a)) ∧ (match su with
  | .ret0 => ∀ q, H q = none → D.rt (.ref q) (L2.upd H q (.tup []))
  | .skip => D.nx σ H)
structure SuOk (p : Pl) (b₀ : Stmt) (suite : List Stmt) (i : Nat) (su : Su) : Prop where
  run : ∀ X, p.at X → ∀ (a : Addr) (oe : Obj) (cls : Value) (d : Option Addr) (pn : List (Addr × Obj)), Zc cls d oe → (∃ vs, oe.data = .fields vs) → PSs (X.suite a ((a, oe) :: pn)) (b₀ :: suite) (tsSu p.K i su a cls d)
section
variable {p : Pl} {n : Str} {q1 q2 q3 q4 q5 q6 q7 q8 : Pos}
theorem pt_isE {X : Cx} (c : p.at X) (b : BI p.mg) {i : Nat} {a : Addr} {oe : Obj} {k : Str} {pn : List (Addr × Obj)} (hz : Zc (exc p.K k) none oe) (hf : ∃ vs, oe.data = .fields vs) (F : ExF p.K k) (hN : p.N[i]? = some n) (hv : Vis p.sc n) (hg : Glo p "isinstance") (hgv : Glo p "ValueError")
    (hd : (n == ("__debug__" : Str)) = false) (hcd : (n == ("__classdict__" : Str)) = false) :
    PT (X.suite a ((a, oe) :: pn)) (.Call (.Name "isinstance" q1) [.Name n q2, .Name "ValueError" q3] [] q4) (fun σ H Q => σ[i]? = some (some (.ref a)) ∧ Q true H) := by
  have C : ExcC X.K (He.ga p.K k) := by rw [c.hK]; exact F.cc
  refine PT_imp (pt_truth (pe_callB (call_isE C hz hf) (c.gl hg) (by show X.mg _ = none; rw [c.hmg]; exact b.isinstance) (by decide +kernel) (pa_cons (pe_var (i := i) (by show X.N[i]? = _; rw [c.hN]; exact hN) (by show Vis X.env.scope n; rw [c.hsc]; exact hv) hd hcd)
    (pa_cons (pe_bltn (v := .ty "ValueError") (c.gl hgv) (by show X.mg _ = none; rw [c.hmg]; exact b.valueError) (by decide +kernel) rfl (by decide) (by decide)) pa_nil))) (by intro _; rfl)) fun σ H Q h => ?_
  obtain ⟨h1, h2⟩ := h
  refine ⟨_, h1, .ty "ValueError", .type "ValueError", true, rfl, fun u r => r, ?_, true, ?_, h2⟩
  · show PySem.W.kitOne X.K _ _ = _
    rw [c.hK]; exact F.ve
  · first | rfl | exact .bl true | simp [truV]
theorem su_ret0 (b : BI p.mg) (i : Nat) {k j : Nat} (hN : p.N[i]? = some n := by rfl) (hv : Vis p.sc n := by first | exact Or.inl rfl | exact Or.inr (Or.inl rfl) | exact Or.inr (Or.inr rfl)) (hg : Glo p "isinstance" := by rfl) (hgv : Glo p "ValueError" := by rfl) (hd : (n == ("__debug__" : Str)) = false := by decide) (hcd : (n == ("__classdict__" : Str)) = false := by decide) :
    SuOk p (.Return (some (.IfExp (.Call (.Name "isinstance" q1) [.Name n q2, .Name "ValueError" q3] [] q4) (.Tuple [] k q5) (.Constant .none j q6) q7)) q8) [] i .ret0 := ⟨fun X c a oe cls d pn hz hf => by
  by_cases hx : ∃ k, cls = exc p.K k ∧ d = none ∧ ExF p.K k
  · obtain ⟨k, rfl, rfl, F⟩ := hx
    refine PSs_imp (pss_one (ps_ret (pe_ifExp (pt_isE c b hz hf F hN hv hg hgv hd hcd) (pe_tup pa_nil) pe_non))) fun D σ H h => ?_
    obtain ⟨_, h1, h2⟩ := h
    refine ⟨h1, ?_⟩
    exact ⟨by decide, h2⟩
  · exact ⟨fun _ _ _ _ _ _ h => absurd h.1 hx⟩⟩
theorem su_skip (b : BI p.mg) (i : Nat) {j : Nat} (hN : p.N[i]? = some n := by rfl) (hv : Vis p.sc n := by first | exact Or.inl rfl | exact Or.inr (Or.inl rfl) | exact Or.inr (Or.inr rfl)) (hg : Glo p "isinstance" := by rfl) (hgv : Glo p "ValueError" := by rfl) (hd : (n == ("__debug__" : Str)) = false := by decide) (hcd : (n == ("__classdict__" : Str)) = false := by decide) :
    SuOk p (.If (.UnaryOp .Not (.Call (.Name "isinstance" q1) [.Name n q2, .Name "ValueError" q3] [] q4) q5) [.Return (some (.Constant (.bool false) j q6)) q7] [] q8) [] i .skip := ⟨fun X c a oe cls d pn hz hf => by
  by_cases hx : ∃ k, cls = exc p.K k ∧ d = none ∧ ExF p.K k
  · obtain ⟨k, rfl, rfl, F⟩ := hx
    refine PSs_imp (pss_one (ps_if (pt_not (pt_isE c b hz hf F hN hv hg hgv hd hcd)) (pss_one (ps_ret pe_bl)) pss_nil)) fun D σ H h => ?_
    obtain ⟨_, h1, h2⟩ := h
    exact ⟨h1, h2⟩
  · exact ⟨fun _ _ _ _ _ _ h => absurd h.1 hx⟩⟩
theorem Sta.setN {K : PySem.W.Frag} {B : Bd} {Z H : Hp} {σD : Fr} {σ : L2.St} {i : Nat} {x : Option V} (s : Sta K B Z σD σ H) (h : σD[i]? = some .no) : Sta K B Z σD (σ.set i x) H where
  sub := s.sub
  len := by simpa using s.len
  bz := s.bz
  fro := fun j d e => by
    have hj : i ≠ j := fun z => by subst z; rw [h] at e; cases e
    rw [List.getElem?_set_ne hj]; exact s.fro j d e
  own := fun j d e => by
    have hj : i ≠ j := fun z => by subst z; rcases e with e | e <;> rw [h] at e <;> cases e
    rw [List.getElem?_set_ne hj]; exact s.own j d e
  inj := fun j k d e a hj hk ej ek => by
    have h1 : i ≠ j := fun z => by subst z; rcases hj with e | e <;> rw [h] at e <;> cases e
    have h2 : i ≠ k := fun z => by subst z; rcases hk with e | e <;> rw [h] at e <;> cases e
    rw [List.getElem?_set_ne h1] at ej
    rw [List.getElem?_set_ne h2] at ek
    exact s.inj j k d e a hj hk ej ek
  pa := fun j a e => by
    obtain ⟨h1, d, h2⟩ := s.pa j a e
    have hj : i ≠ j := fun z => by subst z; rw [h] at h2; cases h2
    exact ⟨by rw [List.getElem?_set_ne hj]; exact h1, d, h2⟩
inductive HdsE (p : Pl) : List ExceptHandler → List Cl → Prop
  | nil : HdsE p [] []
  | cons {x n : Str} {q : Cl} {b₀ : Stmt} {suite : List Stmt} {np pos' : Pos} {hds : List ExceptHandler} {l : List Cl} (hN : p.N[q.i]? = some n) (hln : p.sc.names.lookup n = some .local) (gC : p.mg x = some (.ref (He.ga p.K x))) (hg : Glo p x) (hdb : (x == ("__debug__" : Str)) = false)
      (ok : ClOk p q (.ref (He.ga p.K x))) (su : SuOk p b₀ suite q.i q.su) (r : HdsE p hds l) : HdsE p (.ExceptHandler (some (.Name x np)) (some n) (b₀ :: suite) pos' :: hds) (q :: l)
theorem hds_ok {hds : List ExceptHandler} {cls : List Cl} (h : HdsE p hds cls) : ∀ X, p.at X → ∃ l, HdsMas X hds l ∧ ∀ (W : WX) (D : Ends) (c : Str) (σ1 : Fr) (B : Bd) (Z H : Hp), AftS p.K W D B Z H (clGo c cls σ1) → ∀ σ' Z' H', Sta p.K B Z' σ1 σ' H' → Ext B Z H Z' H' → wMas X.K W D l (exc p.K c) none σ' H' := by
  induction h with
  | nil => exact fun X c => ⟨[], .nil, fun W D c σ1 B Z H h σ' Z' H' s x => h σ' Z' H' s x⟩
  | @cons x n q b₀ suite np pos' hds l hN hln gC hg hdb ok su r ih =>
    intro X c
    obtain ⟨l', h1, h2⟩ := ih X c
    refine ⟨(.ref (He.ga p.K x), q.i, tsSu p.K q.i q.su) :: l', .cons (by rw [c.hN]; exact hN) (by show X.env.scope.names.lookup n = _; rw [c.hsc]; exact hln) ⟨c.gl hg, hdb, .inl (by rw [c.hmg]; exact gC)⟩ (su.run X c) h1, fun W D k σ1 B Z H h σ' Z' H' s x => ?_⟩
    unfold clGo at h
    cases et : q.takes k with
    | none => rw [et] at h; exact h.elim
    | some b =>
      rw [et] at h
      obtain ⟨e1, e2⟩ := ok k b et
      refine ⟨b, by rw [c.hK]; exact e1, fun hb a ha => ?_, fun hb => ?_⟩
      · subst hb
        have h : AftS p.K W D B Z H (match σ1[q.i]? with
          | some .no => (match q.su with
            | .ret0 => some (.rt (.v (.tup []) false), σ1)
            | .skip => some (.nx, σ1))
          | _ => none) := h
        cases en : σ1[q.i]? with
        | none => rw [en] at h; exact h.elim
        | some sl =>
          rw [en] at h
          cases sl with
          | no =>
            have hl : q.i < σ'.length := by rw [← s.len]; exact (List.getElem?_eq_some_iff.mp en).1
            refine ⟨⟨k, rfl, rfl, e2 rfl⟩, List.getElem?_set_self hl, ?_⟩
            have h : AftS p.K W D B Z H (match q.su with
              | .ret0 => some (.rt (.v (.tup []) false), σ1)
              | .skip => some (.nx, σ1)) := h
            cases es : q.su with
            | ret0 =>
              rw [es] at h
              intro b hb
              obtain ⟨s2, x2⟩ := s.newF (o := .tup []) hb
              refine h σ' _ _ s2 (x.trans x2) (.ref b) ?_
              show Rp p.K _ (.tup []) _
              simp only [Rp]
              exact ⟨b, [], rfl, upd_same, .nil⟩
            | skip =>
              rw [es] at h
              show D.nx ((σ'.set q.i (some (.ref a))).set q.i none) H'
              exact h _ Z' H' ((s.setN en).setN en) x
          | _ => exact h.elim
      · subst hb
        exact h2 W D k σ1 B Z H h σ' Z' H' s x
theorem Plc.tr {X : Cx} (c : p.at X) {pn : List (Addr × Obj)} {xe : Value → Shared → Prop} (h : PassesOwn (model X.prog X.w) X.A X.env xe) : p.at (X.tr pn xe) :=
  ⟨c.hP, c.hw, c.hK, c.hmg, c.hbase, c.hN, c.nd, c.hsc, c.calm, c.room, c.gds, c.hfn, h, c.htop⟩
theorem ds_try {body : List Stmt} {h₀ : ExceptHandler} {hds : List ExceptHandler} {cls : List Cl} {pos : Pos} {b : S} (hb : DSs p body b) (hh : HdsE p (h₀ :: hds) cls) (ht : p.top = true := by rfl) : DS p (.Try body (h₀ :: hds) [] [] pos) (sTry b cls) := fun X W c tk => by
  obtain ⟨l, h1, h2⟩ := hds_ok hh X c
  refine PS_imp (ps_try_mas (c.htop ht).1 (c.htop ht).2 (by rw [c.hN]; exact c.nd) tk (fun W' pn xe tk' pass => hb _ W' (c.tr pass) tk') h1) fun D σ H h => ?_
  obtain ⟨B, Z, σD, s, h⟩ := h
  refine ⟨B, Z, σD, s, ?_⟩
  unfold sTry at h
  cases e : b σD with
  | none => rw [e] at h; exact h
  | some q =>
    obtain ⟨fl, σ1⟩ := q
    rw [e] at h
    cases fl with
    | ex c => exact h2 W D c σ1 B Z H h
    | nx => exact h
    | rt r => exact h
    | bk => exact h
    | ct => exact h
end
end Ev

set_option Elab.async false
set_option linter.all false
set_option maxRecDepth 100000
/-! Ev, part V: an empty dict; the end: from the law's def to the law; the head's hook with more facts. -/
namespace Ev
open PySem PySem.Spec PyProof.Rows L2

def eDic0 : SE := M.pure (.v (.dic []) true)
/-- a new dict for tuples as keys -/
def eDicT : SE := M.pure (.v (.dic [(.non, .non)]) true)
section
variable {p : Pl} {pos : Pos}
theorem de_dicK : DE p (.Dict [] [] pos) eDic0 := fun X W c tk => PE_imp pe_dnewK fun σ H Q h => by
  obtain ⟨B, Z, σD, s, h⟩ := h
  intro q hq
  have g : Grow Z H Z (upd H q (.dK [])) := Grow.own s.sub hq
  exact h _ _ (s.grow g) (Ext.grow s g) _ (RR.ofRes s g ⟨q, rfl, hq, s.sub.none hq, .inl ⟨[], upd_same, by simp [RpK]⟩⟩)
theorem de_dicT : DE p (.Dict [] [] pos) eDicT := fun X W c tk => PE_imp pe_dnewT fun σ H Q h => by
  obtain ⟨B, Z, σD, s, h⟩ := h
  intro q hq
  have g : Grow Z H Z (upd H q (.dT [])) := Grow.own s.sub hq
  exact h _ _ (s.grow g) (Ext.grow s g) _ (RR.ofRes s g ⟨q, rfl, hq, s.sub.none hq, .inr ⟨[], upd_same, by simp [RpS, RpT]⟩⟩)
end

/-! ### the end -/
theorem law_callG {P : Program} {w : World} {K : PySem.W.Frag} {mg mb : Str → Option Value} {k : Nat} {fa a : Addr} {fd : FuncData} {x : Str} {sp : Sp} {s₁ : Shared} {vs : List Value} {ns : List Int}
    (KX : K.In s₁.heap) (hns : s₁.heap.Ns mainGlobals mg) (hb : s₁.heap.Ns builtinsNs mb) (hbb : ∀ x : Str, x ≠ "__name__" → mb x = bootBuiltins x) (hlim : s₁.heap.NoLimit) (hg : s₁.gens = #[])
    (ha : s₁.heap.get? a = some { cls := .type "list", data := .seq vs.toArray }) (hi : IntsAre vs ns) (hl : ns.length ≤ sizeLine) (hr : Room k callerA)
    (F : ∀ base : Heap, K.In base → base.Ns mainGlobals mg → FnG P w K mg base k fa fd [x] sp) (hbind : ∀ (s : Shared) (u : Value), BindsTo s fd ⟨[u], []⟩ [(x, u)])
    (hsp : ∀ H : Hp, Only H → SqL K H a (ns.map V.int) → sp [.ref a] H (fun v _ => v = .bl true) fun _ _ _ => False) :
    codeAny (model P w) callerA (.call (.ref fa) ⟨[.ref a], []⟩) (fun r s' => r = .ok (.ret (.bool true)) ∧ OldK s₁.heap s'.heap ∧ s'.os = s₁.os ∧ AllBare s'.gens) s₁ := by
  have hCX : ∀ H e s', L2.CX P w [] H s₁ (fun _ _ _ => False) e s' → False := fun H e s' ⟨_, _, _, _, _, _, _, _, _, _, _, _, h⟩ => h
  have rv := vals_ints hi
  have lenV := hi.length
  have core : ∀ H : Hp, Only H → SqL K H a (ns.map V.int) → HOk P w H s₁.heap → (∀ b, H b ≠ none → b = a) → (H a ≠ none → K.lookup a = none) →
      codeAny (model P w) callerA (.call (.ref fa) ⟨[.ref a], []⟩) (fun r s' => r = .ok (.ret (.bool true)) ∧ OldK s₁.heap s'.heap ∧ s'.os = s₁.os ∧ AllBare s'.gens) s₁ := by
    intro H hO hS hok hA hK
    have base_of : ∀ {b : Addr} {o : Obj}, s₁.heap.get? b = some o → H b = none → (hidT s₁.heap H).get? b = some o := fun e n => hidT_get e n
    have noA : ∀ {b : Addr} {o : Obj} {es : Array DictEntry} {ep : Nat}, s₁.heap.get? b = some o → o.data = .dict es ep → H b = none := fun {b o es ep} e d => by
      cases q : H b with
      | none => rfl
      | some u =>
        have e' : b = a := hA b (by rw [q]; simp)
        subst e'
        rw [ha] at e; cases e
        have d' : Data.seq vs.toArray _ = Data.dict es ep := d
        cases d'
    have nsK : ∀ {b : Addr} {m : Str → Option Value}, s₁.heap.Ns b m → (hidT s₁.heap H).Ns b m := fun {b m} ⟨o, es, ep, e, d, r⟩ => ⟨o, es, ep, base_of e (noA e d), d, r⟩
    have hKb : K.In (hidT s₁.heap H) := fun b o e => base_of (KX b o e) (by
      cases q : H b with
      | none => rfl
      | some u =>
        have e' : b = a := hA b (by rw [q]; simp)
        subst e'
        rw [hK (by rw [q]; simp)] at e; cases e)
    have hM : Mod K mg (hidT s₁.heap H) := ⟨hKb, nsK hns, ⟨mb, nsK hb, hbb⟩, let ⟨mc, h1, h2⟩ := hlim; ⟨mc, nsK h1, h2⟩⟩
    have e0 : Env0 P w K mg (hidT s₁.heap H) callerA [] s₁ H := ⟨rfl, hM, fun b o e => of_hidT e, Nat.le_of_eq (hidT_size _ _), trivial, fun b hb => absurd (show b ∈ ([] : List Addr) from hb) (by simp), hok, .of_eq hg⟩
    refine codeAny_mono ((F _ hKb (nsK hns)).run callerA [] s₁ H ⟨[.ref a], []⟩ [.ref a] [.ref a] _ _ hr rfl e0 (hbind s₁ (.ref a)) (.cons rfl .nil) (hsp H hO hS)) fun r s' h => ?_
    cases r with
    | error e => exact (hCX H e s' h).elim
    | ok fl =>
      cases fl with
      | next => exact False.elim h
      | brk => exact False.elim h
      | cont => exact False.elim h
      | ret u =>
        obtain ⟨v, H', os, bare, un, hok', r', q⟩ := h
        have q' : v = .bl true := q
        subst q'
        obtain rfl : u = Value.bool true := r'
        refine ⟨rfl, OldK.of_keep fun b o e => ?_, os, bare⟩
        cases q : H b with
        | none => exact un.keep b o e q (by intro z; exact absurd (show b ∈ ([] : List Addr) from z) (by simp)) (by simp)
        | some u =>
          rcases hO b with z | ⟨ob, xs, z⟩
          · rw [q] at z; cases z
          · have z2 := un.frzs b ob _ z
            obtain ⟨e1, _⟩ := hok b _ z
            obtain ⟨e2, _⟩ := hok' b _ z2
            rw [e] at e1; cases e1
            exact e2
  cases hk : K.lookup a with
  | some o =>
    have e := KX a o hk
    rw [ha] at e
    cases e
    refine core (fun _ => none) (fun _ => .inl rfl) (.inr ⟨_, vs.toArray, _, hk, rfl, rfl, rfl, by rw [List.size_toArray, lenV]; exact hl, by simpa using rv⟩) (fun b u z => by have z' : (none : Option HO) = some u := z; cases z') (fun b z => absurd rfl z) fun z => absurd rfl z
  | none =>
    refine core (fun b => if b = a then some (.frz { cls := .type "list", data := .seq vs.toArray } (.lst (ns.map V.int))) else none) (fun b => ?_) (.inl (.inr ⟨{ cls := .type "list", data := .seq vs.toArray }, if_pos rfl⟩)) (fun b u z => ?_) (fun b z => ?_) fun _ => hk
    · by_cases hb : b = a
      · exact .inr ⟨_, _, if_pos hb⟩
      · exact .inl (if_neg hb)
    · by_cases hb : b = a
      · have z' := (if_pos hb).symm.trans z
        cases z'
        subst hb
        exact ⟨ha, by rw [List.length_map]; exact hl, vs, _, rv, ha⟩
      · have z' := (if_neg hb).symm.trans z
        cases z'
    · by_cases hb : b = a
      · exact hb
      · exact absurd (if_neg hb) z
/-- a law, by what its def does to trees: True at every list of ints -/
theorem walk_ofG {l : PySem.W.OpenLaw} {n k : Nat} {q : Program} {loose : List Str} {XP : (Str → Option Value) → Heap → Prop} {YP : World → Heap → Prop} {d : DefRec} {x : Str}
    (hn : l.most = some n) (hn2 : n ≤ sizeLine) (hdf : d.params.defaults = []) (hr : Room k callerA)
    (F : ∀ (w : World) (mg : Str → Option Value) (fa : Addr) (h : Heap), YP w h → h.Ns mainGlobals mg → mg d.name = some (.ref fa) →
      ∃ (K : PySem.W.Frag) (fd : FuncData) (fs : FSem), K.In h ∧ (∀ (s : Shared) (u : Value), BindsTo s fd ⟨[u], []⟩ [(x, u)]) ∧
        (∀ ns : List Int, ns.length ≤ n → ∃ fins, fs [.fro (.lst (ns.map D.int))] = some (.ok (.bl true, false), fins)) ∧
        ∀ base : Heap, K.In base → base.Ns mainGlobals mg → FnG l.prog w K mg base k fa fd [x] (spOf K 1 fs)) :
    PySem.W.WalkO q loose XP YP l.row.toRowW d [] (fun f vs => PySem.call f vs) := by
  refine Att.attach_call hn hdf fun w s₀ s₁ mg mb fa o pm cd doc a vs ns G Y ho hd hcd hmg hobj hints hlen hg => ?_
  obtain ⟨K, fd, fs, KX, hb, hF, hG⟩ := F w mg fa _ Y G.T.g hmg
  refine law_callG KX G.T.g G.T.b G.T.builtins G.T.nolimit hg hobj hints (Nat.le_trans hlen hn2) hr hG hb fun H hO hS => ?_
  obtain ⟨fins, hf⟩ := hF ns hlen
  refine ⟨rfl, fun _ => False, H, [.fro (.lst (ns.map D.int))], Sub.refl H, fun _ h => h.elim, ⟨rfl, fun i d e => ?_, fun i d e => ?_, fun i j d e b ei ej => ?_⟩, ?_⟩
  · cases i with
    | zero =>
      cases e
      refine ⟨_, rfl, ?_⟩
      simp only [Rp]
      exact ⟨a, _, rfl, hS, RpL.of_ints ns⟩
    | succ i => simp at e
  · cases i with
    | zero => simp at e
    | succ i => simp at e
  · cases i with
    | zero => simp at ei
    | succ i => simp at ei
  · rw [hf]
    intro Z' H' v _ r
    have r : Rp K Z' (.bl true) v := r
    simpa only [Rp] using r

/-! ### the head's hook with more facts -/
def exFacts (c : Str) (K : PySem.W.Frag) : Bool :=
  He.eqO (PySem.W.findIn K (.ref (He.ga K c)) "__getattribute__") (some (some (.builtin "BaseException.__getattribute__"))) && (He.eqO (PySem.W.findIn K (.ref (He.ga K c)) "__getattr__") (some none) && (decide (PySem.W.subIn K (.ref (He.ga K c)) (.type "BaseException") = some true) &&
  (PySem.W.hasDictIn K (He.ga K c) && (He.eqO (PySem.W.findIn K (.ref (He.ga K c)) "__class__") (some (some (.builtin "object.__class__"))) && (He.eqO (PySem.W.specialIn K (.builtin "object.__class__") "__get__") (some (some (.builtin "getset_descriptor.__get__"))) &&
  (decide (PySem.W.takesIn K (.builtin "object.__class__") = some true) && (decide (PySem.W.mroIn K (He.ga K c) (.type "object") = some true) && decide (PySem.W.kitOne K (.ref (He.ga K c)) (.type "ValueError") = some true))))))))
theorem exFacts_ok {c : Str} {K : PySem.W.Frag} (h : exFacts c K = true) : ExF K c := by
  obtain ⟨h1, h⟩ := He.ba h
  obtain ⟨h2, h⟩ := He.ba h
  obtain ⟨h3, h⟩ := He.ba h
  obtain ⟨h4, h⟩ := He.ba h
  obtain ⟨h5, h⟩ := He.ba h
  obtain ⟨h6, h⟩ := He.ba h
  obtain ⟨h7, h⟩ := He.ba h
  obtain ⟨h8, h9⟩ := He.ba h
  exact ⟨⟨He.eqO_ok h1, He.eqO_ok h2, of_decide_eq_true h3, h4, He.eqO_ok h5, He.eqO_ok h6, of_decide_eq_true h7, of_decide_eq_true h8⟩, of_decide_eq_true h9⟩
abbrev AlX : Type := He.AlD × Bool
def obsX (fa : List He.Fa) (fn : List He.DefD) (ex : List Str) (K : PySem.W.Frag) : AlX := (He.obsD fa fn K, ex.all fun c => exFacts c K)
def SaysX (fa : List He.Fa) (fn : List He.DefD) (ex : List Str) (K : PySem.W.Frag) : Prop := obsX fa fn ex K = (He.valD fn, true)
def obsXG (n : Nat) (fa : List He.Fa) (fn : List He.DefD) (ex : List Str) (g : Addr → Option Obj) : AlX := obsX fa fn ex (He.frG g (He.asD g n))
def hookX (n : Nat) (fa : List He.Fa) (fn : List He.DefD) (ex : List Str) : PySem.W.Hook where
  α := AlX
  obs := fun s => obsXG n fa fn ex s.heap.get?
  val := fun _ => (He.valD fn, true)
  says := fun _ h => ∃ K : PySem.W.Frag, K.In h ∧ SaysX fa fn ex K
  of := fun _ _ e => ⟨_, He.frG_in, e⟩
  keeps := fun _ _ _ ⟨K, hK, c⟩ k => ⟨K, PySem.W.Frag.In.keeps hK k, c⟩
theorem obsXG_eq {n : Nat} {fa : List He.Fa} {fn : List He.DefD} {ex : List Str} {g : Addr → Option Obj} {s : Shared} (h : ∀ a, g a = s.heap.get? a) : obsXG n fa fn ex g = (hookX n fa fn ex).obs s := by
  have e : g = s.heap.get? := funext h
  rw [e] <;> rfl
theorem SaysX.d {fa : List He.Fa} {fn : List He.DefD} {ex : List Str} {K : PySem.W.Frag} (c : SaysX fa fn ex K) : He.SaysD fa fn K := congrArg (fun z : AlX => z.1) c
theorem SaysX.ex {fa : List He.Fa} {fn : List He.DefD} {ex : List Str} {K : PySem.W.Frag} (c : SaysX fa fn ex K) (x : Str) (h : x ∈ ex) : ExF K x :=
  exFacts_ok (List.all_eq_true.mp (congrArg (fun z : AlX => z.2) c) x h)
end Ev

set_option Elab.async false
set_option linter.all false
set_option maxRecDepth 100000
/-! Ev, part W: lists that grow and shrink. -/
namespace Ev
open PySem PySem.Spec PyProof.Rows L2

/-- slot k's list becomes another one; what the method gives -/
def mutL (k : Nat) (g : List D → Option (List D × D)) : SE := fun σ => match hel σ k with
  | some (.lst ds) => (match g ds with
    | some (ds', r) => some (.ok (.v r false), setSl σ k (.lst ds'))
    | none => none)
  | _ => none
def onL (fo : SE) (m : Nat → SE) : SE := M.bind fo fun ro => match ro with
  | .s k => fun σ => match hel σ k with
    | some (.lst _) => m k σ
    | _ => none
  | _ => M.no
def appG (d : D) (ds : List D) : Option (List D × D) := if ds.length < LIM then some (ds ++ [d], .non) else none
def extG (l : List D) (ds : List D) : Option (List D × D) := if ds.length + l.length ≤ LIM then some (ds ++ l, .non) else none
def popG (n : Int) (ds : List D) : Option (List D × D) := if LIM < ds.length then none else match ixN ds.length n with
  | some j => (match ds[j]? with
    | some d => some (ds.eraseIdx j, d)
    | none => none)
  | none => none
def eAppend (fo f : SE) : SE := onL fo fun k => M.bind f fun r => M.bind (froz1 r) fun d => mutL k (appG d)
def ePopAt (fo f : SE) : SE := onL fo fun k => M.bind f fun r => M.bind (get r) fun d => match d with
  | .int n => mutL k (popG n)
  | _ => M.no
/-- by a list that is nobody else's (a new one), or a slot's: it must stand in the heap as a plain list -/
def eExtend (fo f : SE) : SE := onL fo fun k => M.bind f fun r => match r with
  | .v (.lst l) true => mutL k (extG l)
  | .s j => fun σ => match hel σ j with
    | some (.lst l) => mutL k (extG l) σ
    | _ => none
  | _ => M.no
section
variable {K : PySem.W.Frag} {W : WX} {B : Bd} {Z H Z1 H1 : Hp} {σ : L2.St} {σD σD' : Fr} {v : V} {r : R} {d : D}
theorem rd_onL {fo : SE} {m : Nat → SE} {Q : VK} (h : rd K W (onL fo m) σ H Q) : rd K W fo σ H fun x H1 => tyV K "list" x H1 ∧ ∃ k B Z σD, σ[k]? = some (some x) ∧ Sta K B Z σD σ H1 ∧ Aft K W (fun r Z' σD' H' => ∀ v, RR K B Z' σD' σ H' r v → Q v H') σ B Z H1 (m k σD) := by
  obtain ⟨B, Z, σD, s, h⟩ := h
  refine rd_un s h fun r x Z1 σD1 H1 s1 x1 q1 h1 => ?_
  cases r with
  | v _ _ => exact h1.elim
  | s k =>
    have q1 : σ[k]? = some (some x) := q1
    have h1 : Aft K W (fun r Z' σD' H' => ∀ v, RR K B Z' σD' σ H' r v → Q v H') σ B Z1 H1 (match hel σD1 k with
      | some (.lst _) => m k σD1
      | _ => none) := h1
    cases eh : hel σD1 k with
    | none => rw [eh] at h1; exact h1.elim
    | some t =>
      rw [eh] at h1
      cases t with
      | lst ds =>
        obtain ⟨a, rfl, xs, ha, rx⟩ := s1.helV eh q1
        exact ⟨.inl ⟨rfl, xs, SqL.of ha⟩, k, B, Z1, σD1, q1, s1, h1⟩
      | _ => exact h1.elim
theorem mutL_of {k : Nat} {g : List D → Option (List D × D)} {x : V} {Q : VK} (s : Sta K B Z σD σ H) (q : σ[k]? = some (some x)) (h : Aft K W (fun r Z' σD' H' => ∀ v, RR K B Z' σD' σ H' r v → Q v H') σ B Z H (mutL k g σD)) :
    ∃ a ds xs ds' d, x = .ref a ∧ H a = some (.lst xs) ∧ RpL K Z ds xs ∧ hel σD k = some (.lst ds) ∧ g ds = some (ds', d) ∧ ∀ xs' v, RpL K Z ds' xs' → Rp K Z d v → Q v (L2.upd H a (.lst xs')) := by
  unfold mutL at h
  cases eh : hel σD k with
  | none => rw [eh] at h; exact h.elim
  | some t =>
    rw [eh] at h
    cases t with
    | lst ds =>
      obtain ⟨a, rfl, xs, ha, rx⟩ := s.helV eh q
      have h : Aft K W (fun r Z' σD' H' => ∀ v, RR K B Z' σD' σ H' r v → Q v H') σ B Z H (match g ds with
        | some (ds', r) => some (.ok (.v r false), setSl σD k (.lst ds'))
        | none => none) := h
      cases eg : g ds with
      | none => rw [eg] at h; exact h.elim
      | some w =>
        obtain ⟨ds', d⟩ := w
        rw [eg] at h
        refine ⟨a, ds, xs, ds', d, rfl, ha, rx, rfl, eg, fun xs' v r1 r2 => ?_⟩
        obtain ⟨s2, x2⟩ := s.mut (o := .lst xs') (d' := .lst ds') (hel_iff.mp eh) q ⟨xs', rfl, r1⟩
        exact h Z _ s2 x2 v r2
    | _ => exact h.elim
variable {p : Pl} {apos pos : Pos} {e o : Expr} {f fo : SE}
theorem de_append (ho : DE p o fo) (he : DE p e f) (hbase : ∀ X : Cx, attributeBase o "append" X.env (eval o X.env) = eval o X.env := by intro _; rfl)
    (hfew : ∀ env : Env, ((backTo pos (starEach [e] env)).all (fun x => !x.1) && (backToKw pos (keywordEach [] env)).all (fun x => x.1.isSome) && decide (([e] : List Expr).length + ([] : List Keyword).length + (if ([] : List Keyword).isEmpty then 0 else 1) < 30)) = true := by intro _; rfl)
    (hline : (apos.endLine == pos.line) = true := by rfl) (hs : ∀ env : Env, starEach [e] env = (false, eval e env) :: starEach [] env := by intro _; rfl) (hpl : ∀ env : Env, (backTo pos (starEach [] env)).any (·.1) = false := by intro _; rfl) :
    DE p (.Call (.Attribute o "append" apos) [e] [] pos) (eAppend fo f) := fun X W c tk =>
  PE_imp (pe_bm PySem.F.plainAttrs_list PySem.F.slot_list_append PySem.F.type_list_append mt_append (ho X W c tk) (pa_cons (he X W c tk) pa_nil (hs X.env)) (hbase X) (hfew X.env) hline (hs X.env) (hpl X.env)) fun σ H Q h => by
    rw [c.hK]
    refine rd_mono (rd_onL h) fun x H1 ⟨ty, k, B, Z, σD, hk, s, h1⟩ => ⟨ty, ?_⟩
    refine ⟨B, Z, σD, s, (h1.bind).imp fun r Z2 σD2 H2 s2 x2 h2 y hy => ?_⟩
    cases e2 : froz1 r σD2 with
    | none => rw [M.bind_none e2] at h2; exact h2.elim
    | some w =>
      obtain ⟨w, σD3⟩ := w
      obtain ⟨d, rfl, Z3, s3, x3, r3, _, _⟩ := alias_ok s2 hy e2
      rw [M.bind_ok e2] at h2
      obtain ⟨a, ds, xs, ds', d', rfl, ha, rx, _, eg, fin⟩ := mutL_of s3 hk (h2.back x3 fun _ _ _ _ _ _ q => q)
      unfold appG at eg
      split at eg
      · rename_i hl
        cases eg
        exact ⟨a, xs, y, rfl, rfl, ha, by rw [rx.length]; exact lim_line' (Nat.le_of_lt hl), fin _ _ (rx.append (.cons r3 .nil)) (by simp [Rp])⟩
      · cases eg
theorem de_extend (ho : DE p o fo) (he : DE p e f) (hbase : ∀ X : Cx, attributeBase o "extend" X.env (eval o X.env) = eval o X.env := by intro _; rfl)
    (hfew : ∀ env : Env, ((backTo pos (starEach [e] env)).all (fun x => !x.1) && (backToKw pos (keywordEach [] env)).all (fun x => x.1.isSome) && decide (([e] : List Expr).length + ([] : List Keyword).length + (if ([] : List Keyword).isEmpty then 0 else 1) < 30)) = true := by intro _; rfl)
    (hline : (apos.endLine == pos.line) = true := by rfl) (hs : ∀ env : Env, starEach [e] env = (false, eval e env) :: starEach [] env := by intro _; rfl) (hpl : ∀ env : Env, (backTo pos (starEach [] env)).any (·.1) = false := by intro _; rfl) :
    DE p (.Call (.Attribute o "extend" apos) [e] [] pos) (eExtend fo f) := fun X W c tk =>
  PE_imp (pe_bm PySem.F.plainAttrs_list PySem.F.slot_list_extend PySem.F.type_list_extend mt_extend (ho X W c tk) (pa_cons (he X W c tk) pa_nil (hs X.env)) (hbase X) (hfew X.env) hline (hs X.env) (hpl X.env)) fun σ H Q h => by
    rw [c.hK]
    refine rd_mono (rd_onL h) fun x H1 ⟨ty, k, B, Z, σD, hk, s, h1⟩ => ⟨ty, ?_⟩
    refine ⟨B, Z, σD, s, (h1.bind).imp fun r Z2 σD2 H2 s2 x2 h2 y hy => ?_⟩
    have go : ∀ l ys b, y = .ref b → H2 b = some (.lst ys) → RpL p.K Z2 l ys → Aft p.K W (fun r Z' σD' H' => ∀ v, RR p.K B Z' σD' σ H' r v → Q v H') σ B Z2 H2 (mutL k (extG l) σD2) → rExtend x [y] H2 Q := fun l ys b ey hb ry h2 => by
      obtain ⟨a, ds, xs, ds', d', rfl, ha, rx, _, eg, fin⟩ := mutL_of s2 hk h2
      unfold extG at eg
      split at eg
      · rename_i hl
        cases eg
        subst ey
        exact ⟨a, b, xs, ys, rfl, rfl, ha, hb, by rw [rx.length, ry.length]; exact lim_line hl, fin _ _ (rx.append ry) (by simp [Rp])⟩
      · cases eg
    cases r with
    | v d o =>
      cases o with
      | false => cases d <;> exact h2.elim
      | true =>
        cases d with
        | lst l =>
          obtain ⟨b, rfl, nb, z, ⟨ys, hb, ry⟩, n⟩ := hy
          exact go l ys b rfl hb ry h2
        | _ => exact h2.elim
    | s j =>
      have h2 : Aft p.K W (fun r Z' σD' H' => ∀ v, RR p.K B Z' σD' σ H' r v → Q v H') σ B Z2 H2 (match hel σD2 j with
        | some (.lst l) => mutL k (extG l) σD2
        | _ => none) := h2
      cases eh : hel σD2 j with
      | none => rw [eh] at h2; exact h2.elim
      | some t =>
        rw [eh] at h2
        cases t with
        | lst l =>
          obtain ⟨b, rfl, ys, hb, ry⟩ := s2.helV eh hy
          exact go l ys b rfl hb ry h2
        | _ => exact h2.elim
theorem de_popAt (ho : DE p o fo) (he : DE p e f) (hbase : ∀ X : Cx, attributeBase o "pop" X.env (eval o X.env) = eval o X.env := by intro _; rfl)
    (hfew : ∀ env : Env, ((backTo pos (starEach [e] env)).all (fun x => !x.1) && (backToKw pos (keywordEach [] env)).all (fun x => x.1.isSome) && decide (([e] : List Expr).length + ([] : List Keyword).length + (if ([] : List Keyword).isEmpty then 0 else 1) < 30)) = true := by intro _; rfl)
    (hline : (apos.endLine == pos.line) = true := by rfl) (hs : ∀ env : Env, starEach [e] env = (false, eval e env) :: starEach [] env := by intro _; rfl) (hpl : ∀ env : Env, (backTo pos (starEach [] env)).any (·.1) = false := by intro _; rfl) :
    DE p (.Call (.Attribute o "pop" apos) [e] [] pos) (ePopAt fo f) := fun X W c tk =>
  PE_imp (pe_bm PySem.F.plainAttrs_list PySem.F.slot_list_pop PySem.F.type_list_pop mt_popAt (ho X W c tk) (pa_cons (he X W c tk) pa_nil (hs X.env)) (hbase X) (hfew X.env) hline (hs X.env) (hpl X.env)) fun σ H Q h => by
    rw [c.hK]
    refine rd_mono (rd_onL h) fun x H1 ⟨ty, k, B, Z, σD, hk, s, h1⟩ => ⟨ty, ?_⟩
    refine ⟨B, Z, σD, s, (h1.bind).imp fun r Z2 σD2 H2 s2 x2 h2 y hy => ?_⟩
    obtain ⟨d, ed, h3⟩ := get_of rfl h2.some
    rw [← h3] at h2
    cases d with
    | int n =>
      rw [(hy.ro s2 ed).int]
      obtain ⟨a, ds, xs, ds', d', rfl, ha, rx, _, eg, fin⟩ := mutL_of s2 hk h2
      unfold popG at eg
      by_cases hz : LIM < ds.length
      · rw [if_pos hz] at eg; cases eg
      rw [if_neg hz] at eg
      cases e1 : ixN ds.length n with
      | none => rw [e1] at eg; cases eg
      | some j =>
        rw [e1] at eg
        cases e3 : ds[j]? with
        | none => simp only [e3] at eg; cases eg
        | some d1 =>
          simp only [e3] at eg
          cases eg
          obtain ⟨u, hu, ru⟩ := rx.get e3
          obtain ⟨q1, q2, q3, q4⟩ := ixN_seq e1
          have hlim : LIM = 1000000 := rfl
          exact ⟨a, xs, n, j, u, rfl, rfl, ha, by omega, by omega, by rw [rx.length]; exact q1, hu, fin _ _ (rx.erase j) ru⟩
    | _ => exact h2.elim
end
end Ev

set_option Elab.async false
set_option linter.all false
set_option maxRecDepth 100000
/-! Ev, part X: what a combinator gives, as a predicate transformer on frames (no program in sight). -/
namespace Ev
open PySem

/-- what stands as a continuation is not looked into (its type stands in a later argument's) -/
def Fix {A : Type} (_ : A) : Type := Unit
def fx {A : Type} {a : A} : Fix a := ()
def wpM {α : Type} (m : M α) (σ : Fr) (Q : α → Fr → Prop) (X : Str → Fr → Prop) (_ : Fix (Q, X) := fx) : Prop := match m σ with
  | some (.ok a, σ') => Q a σ'
  | some (.ex c, σ') => X c σ'
  | none => False
def wpS (s : S) (σ : Fr) (Q : Fl → Fr → Prop) (_ : Fix Q := fx) : Prop := match s σ with
  | some (fl, σ') => Q fl σ'
  | none => False
def wpF (F : FSem) (ars : List Ar) (Q : D → Bool → List Ar → Prop) (X : Str → List Ar → Prop) (_ : Fix (Q, X) := fx) : Prop := match F ars with
  | some (.ok (d, o), fs) => Q d o fs
  | some (.ex c, fs) => X c fs
  | none => False
def wpO {α : Type} (o : Option α) (Q : α → Prop) (_ : Fix Q := fx) : Prop := match o with
  | some a => Q a
  | none => False
@[simp] theorem wpO_some {α : Type} {a : α} {Q : α → Prop} : wpO (some a) Q ↔ Q a := ⟨id, id⟩
@[simp] theorem wpO_none {α : Type} {Q : α → Prop} : wpO none Q ↔ False := ⟨id, id⟩
theorem wpO_iff {α : Type} {o : Option α} {Q : α → Prop} : wpO o Q ↔ wpO (o) fun a => Q a := by
  cases o with
  | none => simp
  | some a => simp
/-- a slot read -/
def wpV (l : Option Sl) (i : Nat) (Q : R → Prop) (_ : Fix Q := fx) : Prop := match l with
  | some (.fro d) => Q (.v d false)
  | some (.own _) => Q (.s i)
  | some (.par _) => Q (.s i)
  | _ => False
@[simp] theorem wpV_fro {i : Nat} {d : D} {Q : R → Prop} : wpV (some (.fro d)) i Q ↔ Q (.v d false) := ⟨id, id⟩
@[simp] theorem wpV_own {i : Nat} {d : D} {Q : R → Prop} : wpV (some (.own d)) i Q ↔ Q (.s i) := ⟨id, id⟩
@[simp] theorem wpV_par {i : Nat} {d : D} {Q : R → Prop} : wpV (some (.par d)) i Q ↔ Q (.s i) := ⟨id, id⟩
/-- a slot frozen -/
def wpZ (l : Option Sl) (i : Nat) (σ : Fr) (Q : D → Fr → Prop) (_ : Fix Q := fx) : Prop := match l with
  | some (.own d) => Q d (List.set σ i (Sl.fro d))
  | some (.fro d) => Q d σ
  | _ => False
@[simp] theorem wpZ_fro {i : Nat} {d : D} {σ : Fr} {Q : D → Fr → Prop} : wpZ (some (.fro d)) i σ Q ↔ Q d σ := ⟨id, id⟩
@[simp] theorem wpZ_own {i : Nat} {d : D} {σ : Fr} {Q : D → Fr → Prop} : wpZ (some (.own d)) i σ Q ↔ Q d (List.set σ i (Sl.fro d)) := ⟨id, id⟩
/-- a slot taken by a frozen value -/
def wpT (l : Option Sl) (i : Nat) (d : D) (σ : Fr) (Q : Fr → Prop) (_ : Fix Q := fx) : Prop := match l with
  | none => False
  | some (.par _) => False
  | some _ => Q (σ.set i (.fro d))
@[simp] theorem wpT_no {i : Nat} {d : D} {σ : Fr} {Q : Fr → Prop} : wpT (some .no) i d σ Q ↔ Q (σ.set i (.fro d)) := ⟨id, id⟩
@[simp] theorem wpT_fro {i : Nat} {d e : D} {σ : Fr} {Q : Fr → Prop} : wpT (some (.fro e)) i d σ Q ↔ Q (σ.set i (.fro d)) := ⟨id, id⟩
@[simp] theorem wpT_own {i : Nat} {d e : D} {σ : Fr} {Q : Fr → Prop} : wpT (some (.own e)) i d σ Q ↔ Q (σ.set i (.fro d)) := ⟨id, id⟩
section
variable {α β : Type} {σ : Fr} {X : Str → Fr → Prop}
theorem wpM_mono {m : M α} {Q Q' : α → Fr → Prop} {X' : Str → Fr → Prop} (h : wpM m σ Q X) (i : ∀ a σ', Q a σ' → Q' a σ') (j : ∀ c σ', X c σ' → X' c σ') : wpM m σ Q' X' := by
  unfold wpM at h ⊢
  split at h
  · exact i _ _ h
  · exact j _ _ h
  · exact h
theorem wpS_mono {s : S} {Q Q' : Fl → Fr → Prop} (h : wpS s σ Q) (i : ∀ a σ', Q a σ' → Q' a σ') : wpS s σ Q' := by
  unfold wpS at h ⊢
  split at h
  · exact i _ _ h
  · exact h
theorem wpF_mono {F : FSem} {ars : List Ar} {Q Q' : D → Bool → List Ar → Prop} {X X' : Str → List Ar → Prop} (h : wpF F ars Q X) (i : ∀ d o fs, Q d o fs → Q' d o fs) (j : ∀ c fs, X c fs → X' c fs) : wpF F ars Q' X' := by
  unfold wpF at h ⊢
  split at h
  · exact i _ _ _ h
  · exact j _ _ h
  · exact h
theorem wpM_q {m : M α} {Q Q' : α → Fr → Prop} (i : ∀ a σ', Q a σ' ↔ Q' a σ') : wpM m σ Q X ↔ wpM m σ Q' X :=
  ⟨fun h => wpM_mono h (fun a σ' => (i a σ').mp) fun _ _ h => h, fun h => wpM_mono h (fun a σ' => (i a σ').mpr) fun _ _ h => h⟩
theorem wpO_q {o : Option α} {Q Q' : α → Prop} (i : ∀ a, Q a ↔ Q' a) : wpO o Q ↔ wpO o Q' := by
  cases o with
  | none => exact Iff.rfl
  | some a => exact i a
theorem wpM_of {m : M α} {a : α} {σ' : Fr} (h : m σ = some (.ok a, σ')) (Q : α → Fr → Prop) : wpM m σ Q X ↔ Q a σ' := by unfold wpM; rw [h]
@[simp] theorem wp_pure {a : α} {Q : α → Fr → Prop} : wpM (M.pure a) σ Q X ↔ Q a σ := ⟨fun h => h, fun h => h⟩
@[simp] theorem wp_no {Q : α → Fr → Prop} : wpM M.no σ Q X ↔ False := ⟨fun h => h, fun h => h⟩
@[simp] theorem wp_bind {m : M α} {f : α → M β} {Q : β → Fr → Prop} : wpM (M.bind m f) σ Q X ↔ wpM m σ (fun a σ' => wpM (f a) σ' Q X) X := by
  unfold wpM M.bind
  cases h : m σ with
  | none => rfl
  | some q => obtain ⟨q, σ'⟩ := q; cases q <;> rfl
@[simp] theorem wp_lift {o : Option α} {Q : α → Fr → Prop} : wpM (M.lift o) σ Q X ↔ wpO (o) fun a => Q a σ := by
  unfold wpM M.lift
  cases o with
  | none => simp
  | some a => simp
@[simp] theorem wp_get_v {d : D} {o : Bool} {Q : D → Fr → Prop} : wpM (get (.v d o)) σ Q X ↔ Q d σ := ⟨fun h => h, fun h => h⟩
@[simp] theorem wp_get_s {i : Nat} {Q : D → Fr → Prop} : wpM (get (.s i)) σ Q X ↔ wpO (R.get σ (.s i)) fun d => Q d σ := by
  unfold wpM get
  cases h : R.get σ (.s i) with
  | none => simp
  | some d => simp
@[simp] theorem wp_froz_v {d : D} {o : Bool} {Q : D → Fr → Prop} : wpM (froz1 (.v d o)) σ Q X ↔ Q d σ := ⟨fun h => h, fun h => h⟩
@[simp] theorem wp_froz_s {i : Nat} {Q : D → Fr → Prop} : wpM (froz1 (.s i)) σ Q X ↔ wpZ σ[i]? i σ Q := by
  unfold wpM froz1 wpZ
  cases h : σ[i]? with
  | none => simp [h]
  | some l => cases l <;> simp [h]
@[simp] theorem wp_var {i : Nat} {Q : R → Fr → Prop} : wpM (eVar i) σ Q X ↔ wpV σ[i]? i fun r => Q r σ := by
  unfold wpM eVar wpV
  cases h : σ[i]? with
  | none => simp [h]
  | some l => cases l <;> simp [h]
@[simp] theorem wp_ec {d : D} {Q : R → Fr → Prop} : wpM (ec d) σ Q X ↔ Q (.v d false) σ := ⟨fun h => h, fun h => h⟩
@[simp] theorem wp_dic0 {Q : R → Fr → Prop} : wpM eDic0 σ Q X ↔ Q (.v (.dic []) true) σ := ⟨fun h => h, fun h => h⟩
@[simp] theorem wp_all_nil {Q : List R → Fr → Prop} : wpM (eAll []) σ Q X ↔ Q [] σ := ⟨fun h => h, fun h => h⟩
@[simp] theorem wp_all_cons {f : SE} {fs : List SE} {Q : List R → Fr → Prop} : wpM (eAll (f :: fs)) σ Q X ↔ wpM f σ (fun r σ1 => wpM (eAll fs) σ1 (fun rs σ2 => Q (r :: rs) σ2) X) X := wp_bind.trans (wpM_q fun _ _ => wp_bind.trans (wpM_q fun _ _ => wp_pure))
@[simp] theorem wp_aliasAll_nil {Q : List D → Fr → Prop} : wpM (aliasAll []) σ Q X ↔ Q [] σ := ⟨fun h => h, fun h => h⟩
@[simp] theorem wp_aliasAll_cons {r : R} {rs : List R} {Q : List D → Fr → Prop} : wpM (aliasAll (r :: rs)) σ Q X ↔ wpM (froz1 r) σ (fun d σ1 => wpM (aliasAll rs) σ1 (fun ds σ2 => Q (d :: ds) σ2) X) X := wp_bind.trans (wpM_q fun _ _ => wp_bind.trans (wpM_q fun _ _ => wp_pure))
@[simp] theorem wp_getAll_nil {Q : List D → Fr → Prop} : wpM (getAll []) σ Q X ↔ Q [] σ := ⟨fun h => h, fun h => h⟩
@[simp] theorem wp_getAll_cons {r : R} {rs : List R} {Q : List D → Fr → Prop} : wpM (getAll (r :: rs)) σ Q X ↔ wpM (get r) σ (fun d σ1 => wpM (getAll rs) σ1 (fun ds σ2 => Q (d :: ds) σ2) X) X := wp_bind.trans (wpM_q fun _ _ => wp_bind.trans (wpM_q fun _ _ => wp_pure))
@[simp] theorem wp_eTup {fs : List SE} {Q : R → Fr → Prop} : wpM (eTup fs) σ Q X ↔ wpM (eAll fs) σ (fun rs σ1 => wpM (aliasAll rs) σ1 (fun ds σ2 => Q (.v (.tup ds) false) σ2) X) X := wp_bind.trans (wpM_q fun _ _ => wp_bind.trans (wpM_q fun _ _ => wp_pure))
@[simp] theorem wp_eLst {fs : List SE} {Q : R → Fr → Prop} : wpM (eLst fs) σ Q X ↔ wpM (eAll fs) σ (fun rs σ1 => wpM (aliasAll rs) σ1 (fun ds σ2 => Q (.v (.lst ds) true) σ2) X) X := wp_bind.trans (wpM_q fun _ _ => wp_bind.trans (wpM_q fun _ _ => wp_pure))
@[simp] theorem wp_e2 {g : D → D → Option (D × Bool)} {f1 f2 : SE} {Q : R → Fr → Prop} : wpM (e2 g f1 f2) σ Q X ↔ wpM f1 σ (fun a σ1 => wpM f2 σ1 (fun b σ2 => wpM (get a) σ2 (fun x σ3 => wpM (get b) σ3 (fun y σ4 => wpO (g x y) fun r => Q (.v r.1 r.2) σ4) X) X) X) X := wp_bind.trans (wpM_q fun _ _ => wp_bind.trans (wpM_q fun _ _ => wp_bind.trans (wpM_q fun _ _ => wp_bind.trans (wpM_q fun _ _ => wp_bind.trans (wp_lift.trans (wpO_q fun _ => wp_pure))))))
@[simp] theorem wp_e1 {g : D → Option (D × Bool)} {f1 : SE} {Q : R → Fr → Prop} : wpM (e1 g f1) σ Q X ↔ wpM f1 σ (fun a σ1 => wpM (get a) σ1 (fun x σ2 => wpO (g x) fun r => Q (.v r.1 r.2) σ2) X) X := wp_bind.trans (wpM_q fun _ _ => wp_bind.trans (wpM_q fun _ _ => wp_bind.trans (wp_lift.trans (wpO_q fun _ => wp_pure))))
@[simp] theorem wp_eN {g : List D → Option (D × Bool)} {fs : List SE} {Q : R → Fr → Prop} : wpM (eN g fs) σ Q X ↔ wpM (eAll fs) σ (fun rs σ1 => wpM (getAll rs) σ1 (fun ds σ2 => wpO (g ds) fun r => Q (.v r.1 r.2) σ2) X) X := wp_bind.trans (wpM_q fun _ _ => wp_bind.trans (wpM_q fun _ _ => wp_bind.trans (wp_lift.trans (wpO_q fun _ => wp_pure))))
@[simp] theorem wp_eB {m : M Bool} {Q : R → Fr → Prop} : wpM (eB m) σ Q X ↔ wpM m σ (fun b σ1 => Q (.v (.bl b) false) σ1) X := wp_bind.trans (wpM_q fun _ _ => wp_pure)
@[simp] theorem wp_cmp2 {g : D → D → Option Bool} {f1 f2 : SE} {Q : Bool → Fr → Prop} : wpM (cmp2 g f1 f2) σ Q X ↔ wpM f1 σ (fun a σ1 => wpM f2 σ1 (fun b σ2 => wpM (get a) σ2 (fun x σ3 => wpM (get b) σ3 (fun y σ4 => wpO (g x y) fun r => Q r σ4) X) X) X) X := wp_bind.trans (wpM_q fun _ _ => wp_bind.trans (wpM_q fun _ _ => wp_bind.trans (wpM_q fun _ _ => wp_bind.trans (wpM_q fun _ _ => wp_lift))))
@[simp] theorem wp_tr {f : SE} {t : D → Option Bool} {Q : Bool → Fr → Prop} : wpM (tr f t) σ Q X ↔ wpM f σ (fun a σ1 => wpM (get a) σ1 (fun x σ2 => wpO (t x) fun r => Q r σ2) X) X := wp_bind.trans (wpM_q fun _ _ => wp_bind.trans (wpM_q fun _ _ => wp_lift))
theorem wp_ite {c : Prop} [Decidable c] {m n : M α} {Q : α → Fr → Prop} : wpM (if c then m else n) σ Q X ↔ if c then wpM m σ Q X else wpM n σ Q X := by split <;> rfl
@[simp] theorem wp_eIf {m : M Bool} {f g : SE} {Q : R → Fr → Prop} : wpM (eIf m f g) σ Q X ↔ wpM m σ (fun b σ1 => if b = true then wpM f σ1 Q X else wpM g σ1 Q X) X := wp_bind.trans (wpM_q fun _ _ => wp_ite)
@[simp] theorem wp_eAnd {t : D → Option Bool} {f g : SE} {Q : R → Fr → Prop} : wpM (eAnd t f g) σ Q X ↔ wpM f σ (fun r σ1 => wpM (get r) σ1 (fun d σ2 => wpO (t d) fun k => if k = true then wpM g σ2 Q X else Q r σ2) X) X := wp_bind.trans (wpM_q fun _ _ => wp_bind.trans (wpM_q fun _ _ => wp_bind.trans (wp_lift.trans (wpO_q fun _ => wp_ite.trans (by split <;> first | exact Iff.rfl | exact wp_pure)))))
@[simp] theorem wp_eOr {t : D → Option Bool} {f g : SE} {Q : R → Fr → Prop} : wpM (eOr t f g) σ Q X ↔ wpM f σ (fun r σ1 => wpM (get r) σ1 (fun d σ2 => wpO (t d) fun k => if k = true then Q r σ2 else wpM g σ2 Q X) X) X := wp_bind.trans (wpM_q fun _ _ => wp_bind.trans (wpM_q fun _ _ => wp_bind.trans (wp_lift.trans (wpO_q fun _ => wp_ite.trans (by split <;> first | exact Iff.rfl | exact wp_pure)))))
@[simp] theorem wp_andB {m n : M Bool} {Q : Bool → Fr → Prop} : wpM (andB m n) σ Q X ↔ wpM m σ (fun b σ1 => if b = true then wpM n σ1 Q X else Q false σ1) X := wp_bind.trans (wpM_q fun _ _ => wp_ite.trans (by split <;> first | exact Iff.rfl | exact wp_pure))
@[simp] theorem wp_orB {m n : M Bool} {Q : Bool → Fr → Prop} : wpM (orB m n) σ Q X ↔ wpM m σ (fun b σ1 => if b = true then Q true σ1 else wpM n σ1 Q X) X := wp_bind.trans (wpM_q fun _ _ => wp_ite.trans (by split <;> first | exact Iff.rfl | exact wp_pure))
@[simp] theorem wp_notB {m : M Bool} {Q : Bool → Fr → Prop} : wpM (notB m) σ Q X ↔ wpM m σ (fun b σ1 => Q (!b) σ1) X := wp_bind.trans (wpM_q fun _ _ => wp_pure)
@[simp] theorem wp_chain {g g' : D → D → Option Bool} {f1 f2 f3 : SE} {Q : Bool → Fr → Prop} : wpM (chain g g' f1 f2 f3) σ Q X ↔ wpM f1 σ (fun a σ1 => wpM f2 σ1 (fun b σ2 => wpM (get a) σ2 (fun x σ3 => wpM (get b) σ3 (fun y σ4 => wpO (g x y) fun k =>
    if k = true then wpM f3 σ4 (fun c σ5 => wpM (get b) σ5 (fun y' σ6 => wpM (get c) σ6 (fun z σ7 => wpO (g' y' z) fun r => Q r σ7) X) X) X else Q false σ4) X) X) X) X :=
  wp_bind.trans (wpM_q fun _ _ => wp_bind.trans (wpM_q fun _ _ => wp_bind.trans (wpM_q fun _ _ => wp_bind.trans (wpM_q fun _ _ => wp_bind.trans (wp_lift.trans (wpO_q fun k => by
    cases k with
    | false => exact wp_pure
    | true => exact wp_bind.trans (wpM_q fun _ _ => wp_bind.trans (wpM_q fun _ _ => wp_bind.trans (wpM_q fun _ _ => wp_lift)))))))))
@[simp] theorem wp_oNone {Q : Option Int → Fr → Prop} : wpM oNone σ Q X ↔ Q none σ := ⟨fun h => h, fun h => h⟩
@[simp] theorem wp_oSome {f : SE} {Q : Option Int → Fr → Prop} : wpM (oSome f) σ Q X ↔ wpM f σ (fun r σ1 => wpM (get r) σ1 (fun d σ2 => wpO (intOf d) fun i => Q (some i) σ2) X) X := wp_bind.trans (wpM_q fun _ _ => wp_bind.trans (wpM_q fun _ _ => wp_bind.trans (wp_lift.trans (wpO_q fun _ => wp_pure))))
@[simp] theorem wp_eSl {f : SE} {lo hi : M (Option Int)} {Q : R → Fr → Prop} : wpM (eSl f lo hi) σ Q X ↔ wpM f σ (fun r σ1 => wpM lo σ1 (fun l σ2 => wpM hi σ2 (fun h σ3 => wpM (get r) σ3 (fun d σ4 => wpO (sliceG l h d) fun q => Q (.v q.1 q.2) σ4) X) X) X) X := wp_bind.trans (wpM_q fun _ _ => wp_bind.trans (wpM_q fun _ _ => wp_bind.trans (wpM_q fun _ _ => wp_bind.trans (wpM_q fun _ _ => wp_bind.trans (wp_lift.trans (wpO_q fun _ => wp_pure))))))
@[simp] theorem wp_eM1s {g : List Nat → D → Option (D × Bool)} {f1 f2 : SE} {Q : R → Fr → Prop} : wpM (eM1s g f1 f2) σ Q X ↔ wpM f1 σ (fun a σ1 => wpM (get a) σ1 (fun x σ2 => wpO (strOf x) fun s => wpM f2 σ2 (fun b σ3 => wpM (get b) σ3 (fun y σ4 => wpO (g s y) fun r => Q (.v r.1 r.2) σ4) X) X) X) X := wp_bind.trans (wpM_q fun _ _ => wp_bind.trans (wpM_q fun _ _ => wp_bind.trans (wp_lift.trans (wpO_q fun _ => wp_bind.trans (wpM_q fun _ _ => wp_bind.trans (wpM_q fun _ _ => wp_bind.trans (wp_lift.trans (wpO_q fun _ => wp_pure))))))))
/-! ### calls -/
@[simp] theorem wp_arg_ref {k : Nat} {Q : Nat × Ar → Fr → Prop} : wpM (arg1 true (.s k)) σ Q X ↔ wpO (hel σ k) fun d => Q (k, .ref d) σ := by
  unfold wpM arg1
  cases h : hel σ k <;> simp [h]
@[simp] theorem wp_arg_fro {r : R} {Q : Nat × Ar → Fr → Prop} : wpM (arg1 false r) σ Q X ↔ wpM (froz1 r) σ (fun d σ1 => Q (0, .fro d) σ1) X := by
  exact wp_bind.trans (wpM_q fun _ _ => wp_pure)
@[simp] theorem wp_args_nil {Q : List (Nat × Ar) → Fr → Prop} : wpM (argsOf [] []) σ Q X ↔ Q [] σ := ⟨fun h => h, fun h => h⟩
@[simp] theorem wp_args_cons {m : Bool} {ms : List Bool} {r : R} {rs : List R} {Q : List (Nat × Ar) → Fr → Prop} : wpM (argsOf (m :: ms) (r :: rs)) σ Q X ↔ wpM (arg1 m r) σ (fun a σ1 => wpM (argsOf ms rs) σ1 (fun as σ2 => Q (a :: as) σ2) X) X := by
  exact wp_bind.trans (wpM_q fun _ _ => wp_bind.trans (wpM_q fun _ _ => wp_pure))
@[simp] theorem wp_runF {F : FSem} {as : List (Nat × Ar)} {Q : R → Fr → Prop} : wpM (runF F as) σ Q X ↔ okA σ as = true ∧ wpF F (as.map (·.2)) (fun d o fs => wpO (setAll as fs σ) fun σ' => Q (.v d o) σ') (fun c fs => wpO (setAll as fs σ) fun σ' => X c σ') := by
  unfold wpM runF wpF
  by_cases h : okA σ as = true
  · rw [if_pos h]
    cases e : F (as.map (·.2)) with
    | none => simp
    | some q =>
      obtain ⟨q, fs⟩ := q
      cases q with
      | ok q => obtain ⟨d, o⟩ := q; cases e2 : setAll as fs σ <;> simp [e2, h]
      | ex c => cases e2 : setAll as fs σ <;> simp [e2, h]
  · rw [if_neg h]; simp [h]
@[simp] theorem wp_call {F : FSem} {ms : List Bool} {fs : List SE} {Q : R → Fr → Prop} : wpM (eCall F ms fs) σ Q X ↔ wpM (eAll fs) σ (fun rs σ1 => wpM (argsOf ms rs) σ1 (fun as σ2 => wpM (runF F as) σ2 Q X) X) X := wp_bind.trans (wpM_q fun _ _ => wp_bind)

/-! ### statements -/
def lstOf : D → Option (List D)
  | .lst l => some l
  | _ => none
@[simp] theorem lstOf_lst {l : List D} : lstOf (.lst l) = some l := rfl
def augK (op : Int → Int → Int) (f : SE) (rs : List R) : S := match rs with
  | [.s k, ri] => sM (get ri) fun di => match di with
    | .int n => fun σ => match hel σ k with
      | some (.lst ds) => (match L2.atI ds n with
        | some (.int x) => sM f (fun r => sM (get r) fun dy => match dy with
          | .int y => setAt k n (.int (op x y))
          | _ => sNo) σ
        | _ => none)
      | _ => none
    | _ => sNo
  | _ => sNo
section
variable {Q : Fl → Fr → Prop}
@[simp] theorem ws_nx : wpS sNx σ Q ↔ Q .nx σ := ⟨fun h => h, fun h => h⟩
@[simp] theorem ws_no : wpS sNo σ Q ↔ False := ⟨fun h => h, fun h => h⟩
@[simp] theorem ws_bk : wpS sBk σ Q ↔ Q .bk σ := ⟨fun h => h, fun h => h⟩
@[simp] theorem ws_ct : wpS sCt σ Q ↔ Q .ct σ := ⟨fun h => h, fun h => h⟩
@[simp] theorem ws_raise {c : Str} : wpS (sRaise c) σ Q ↔ Q (.ex c) σ := ⟨fun h => h, fun h => h⟩
@[simp] theorem ws_m {m : M α} {k : α → S} : wpS (sM m k) σ Q ↔ wpM m σ (fun a σ1 => wpS (k a) σ1 Q) (fun c σ1 => Q (.ex c) σ1) := by
  unfold wpS sM wpM
  cases h : m σ with
  | none => rfl
  | some q => obtain ⟨q, σ'⟩ := q; cases q <;> rfl
/-- go on behind a statement -/
def nxt (t : S) (Q : Fl → Fr → Prop) (fl : Fl) (σ : Fr) (_ : Fix Q := fx) : Prop := match fl with
  | .nx => wpS t σ Q
  | fl => Q fl σ
@[simp] theorem nxt_nx {t : S} : nxt t Q .nx σ ↔ wpS t σ Q := ⟨fun h => h, fun h => h⟩
@[simp] theorem nxt_rt {t : S} {r : R} : nxt t Q (.rt r) σ ↔ Q (.rt r) σ := ⟨fun h => h, fun h => h⟩
@[simp] theorem nxt_bk {t : S} : nxt t Q .bk σ ↔ Q .bk σ := ⟨fun h => h, fun h => h⟩
@[simp] theorem nxt_ct {t : S} : nxt t Q .ct σ ↔ Q .ct σ := ⟨fun h => h, fun h => h⟩
@[simp] theorem nxt_ex {t : S} {c : Str} : nxt t Q (.ex c) σ ↔ Q (.ex c) σ := ⟨fun h => h, fun h => h⟩
@[simp] theorem ws_seq {s t : S} : wpS (sSeq s t) σ Q ↔ wpS s σ fun fl σ' => nxt t Q fl σ' := by
  unfold wpS sSeq nxt
  cases h : s σ with
  | none => simp
  | some q => obtain ⟨fl, σ'⟩ := q; cases fl <;> rfl
@[simp] theorem ws_if {c : M Bool} {a b : S} : wpS (sIf c a b) σ Q ↔ wpM c σ (fun t σ1 => if t = true then wpS a σ1 Q else wpS b σ1 Q) (fun c σ1 => Q (.ex c) σ1) := by
  have e : (fun t σ1 => wpS (match t with
    | true => a
    | false => b) σ1 Q) = fun (t : Bool) σ1 => if t = true then wpS a σ1 Q else wpS b σ1 Q := by
    funext t σ1
    cases t <;> simp
  simp only [sIf, ws_m]
  rw [← e]
  all_goals rfl
@[simp] theorem ws_ret {f : SE} : wpS (sRet f) σ Q ↔ wpM f σ (fun r σ1 => Q (.rt r) σ1) (fun c σ1 => Q (.ex c) σ1) := by
  exact ws_m (m := f) (k := fun r => (fun σ => some (Fl.rt r, σ) : S))
@[simp] theorem ws_drop {f : SE} : wpS (sDrop f) σ Q ↔ wpM f σ (fun r σ1 => Q .nx σ1) (fun c σ1 => Q (.ex c) σ1) := by
  exact ws_m (m := f) (k := fun _ => sNx)
@[simp] theorem ws_put {i : Nat} {r : R} : wpS (sPut i r) σ Q ↔ wpO (put i r σ) fun σ' => Q .nx σ' := by
  unfold wpS sPut
  cases h : put i r σ <;> simp
@[simp] theorem ws_set {i : Nat} {f : SE} : wpS (sSet i f) σ Q ↔ wpM f σ (fun r σ1 => wpO (put i r σ1) fun σ' => Q .nx σ') (fun c σ1 => Q (.ex c) σ1) := ws_m.trans (wpM_q fun _ _ => ws_put)
@[simp] theorem ws_g {g : M Unit} : wpS (sG g) σ Q ↔ wpM g σ (fun _ σ1 => Q .nx σ1) (fun _ _ => False) := by
  unfold wpS sG wpM
  cases h : g σ with
  | none => rfl
  | some q => obtain ⟨q, σ'⟩ := q; cases q <;> rfl
@[simp] theorem ws_asg {f : SE} {g : D → M Unit} : wpS (sAsg f g) σ Q ↔ wpM f σ (fun r σ1 => wpM (froz1 r) σ1 (fun d σ2 => wpS (sG (g d)) σ2 Q) (fun c σ1 => Q (.ex c) σ1)) (fun c σ1 => Q (.ex c) σ1) := ws_m.trans (wpM_q fun _ _ => ws_m)
@[simp] theorem wp_gN {i : Nat} {d : D} {Q : Unit → Fr → Prop} : wpM (gN i d) σ Q X ↔ wpT σ[i]? i d σ (Q ()) := by
  unfold wpM gN wpT
  cases h : σ[i]? with
  | none => simp [h]
  | some l => cases l <;> simp [h]
@[simp] theorem wp_gT {n : Nat} {gs : List D → M Unit} {l : List D} {Q : Unit → Fr → Prop} : wpM (gT n gs (.tup l)) σ Q X ↔ l.length = n ∧ wpM (gs l) σ Q X := by
  show wpM (if l.length = n then gs l else M.no) σ Q X ↔ _
  by_cases h : l.length = n <;> simp [h]
@[simp] theorem wp_gsNil {Q : Unit → Fr → Prop} : wpM (gsNil []) σ Q X ↔ Q () σ := ⟨fun h => h, fun h => h⟩
@[simp] theorem wp_gsCons {g : D → M Unit} {gs : List D → M Unit} {d : D} {ds : List D} {Q : Unit → Fr → Prop} : wpM (gsCons g gs (d :: ds)) σ Q X ↔ wpM (g d) σ (fun _ σ1 => wpM (gs ds) σ1 Q X) X := by
  show wpM (M.bind (g d) fun _ => gs ds) σ Q X ↔ _
  simp
@[simp] theorem ws_setAt {k : Nat} {n : Int} {d : D} : wpS (setAt k n d) σ Q ↔ wpO (hel σ k) fun t => wpO (lstOf t) fun ds => wpO (L2.ixN ds.length n) fun j => Q .nx (setSl σ k (.lst (ds.set j d))) := by
  unfold wpS setAt
  cases h : hel σ k with
  | none => simp
  | some t =>
    cases t with
    | lst ds =>
      simp only [wpO_some, lstOf]
      cases h2 : L2.ixN ds.length n <;> simp
    | _ => simp [lstOf]
def storeD (k : Nat) (r : R) : D → S
  | .int n => sM (froz1 r) fun d => setAt k n d
  | _ => sNo
def storeK (rs : List R) : S := match rs with
  | [r, .s k, ri] => sM (get ri) (storeD k r)
  | _ => sNo
@[simp] theorem ws_store {f fo fi : SE} : wpS (sStore f fo fi) σ Q ↔ wpM (eAll [f, fo, fi]) σ (fun rs σ1 => wpS (storeK rs) σ1 Q) (fun c σ1 => Q (.ex c) σ1) := by
  have e : sStore f fo fi = sM (eAll [f, fo, fi]) storeK := by
    unfold sStore
    congr 1
  rw [e]; exact ws_m
@[simp] theorem ws_storeK {r ri : R} {k : Nat} : wpS (storeK [r, .s k, ri]) σ Q ↔ wpM (get ri) σ (fun d σ1 => wpS (storeD k r d) σ1 Q) (fun c σ1 => Q (.ex c) σ1) := ws_m
@[simp] theorem ws_storeD {k : Nat} {r : R} {n : Int} : wpS (storeD k r (.int n)) σ Q ↔ wpM (froz1 r) σ (fun d σ1 => wpS (setAt k n d) σ1 Q) (fun c σ1 => Q (.ex c) σ1) := ws_m
def augI (op : Int → Int → Int) (k : Nat) (n x : Int) : D → S
  | .int y => setAt k n (.int (op x y))
  | _ => sNo
@[simp] theorem ws_augK {op : Int → Int → Int} {f : SE} {k : Nat} {n : Int} {o : Bool} {ds : List D} {x : Int} (h : hel σ k = some (.lst ds)) (hx : L2.atI ds n = some (.int x)) : wpS (augK op f [.s k, .v (.int n) o]) σ Q ↔ wpM f σ (fun r σ1 => wpM (get r) σ1 (fun dy σ2 => wpS (augI op k n x dy) σ2 Q) (fun c σ1 => Q (.ex c) σ1)) (fun c σ1 => Q (.ex c) σ1) := by
  have e : wpS (augK op f [.s k, .v (.int n) o]) σ Q ↔ wpS (sM f fun r => sM (get r) (augI op k n x)) σ Q := by
    have e0 : (fun r : R => sM (get r) (augI op k n x)) = fun r => sM (get r) fun dy => match dy with
        | .int y => setAt k n (.int (op x y))
        | _ => sNo := by
      funext r
      congr 1
    rw [e0]
    show wpS (fun σ => match hel σ k with
      | some (.lst ds) => (match L2.atI ds n with
        | some (.int x) => sM f (fun r => sM (get r) fun dy => match dy with
          | .int y => setAt k n (.int (op x y))
          | _ => sNo) σ
        | _ => none)
      | _ => none) σ Q ↔ _
    unfold wpS
    simp only [h, hx]
  exact e.trans (ws_m.trans (wpM_q fun _ _ => ws_m))
@[simp] theorem ws_augI {op : Int → Int → Int} {k : Nat} {n x y : Int} : wpS (augI op k n x (.int y)) σ Q ↔ wpS (setAt k n (.int (op x y))) σ Q := ⟨id, id⟩
@[simp] theorem ws_augS {op : Int → Int → Int} {fo fi f : SE} : wpS (sAugS op fo fi f) σ Q ↔ wpM (eAll [fo, fi]) σ (fun rs σ1 => wpS (augK op f rs) σ1 Q) (fun c σ1 => Q (.ex c) σ1) := by
  unfold sAugS
  exact ws_m
@[simp] theorem ws_par {i j : Nat} {fs : List SE} : wpS (sPar i j fs) σ Q ↔ wpM (eAll fs) σ (fun rs σ1 => wpS (sM (aliasAll rs) fun ds => match ds with
  | [a, b] => sSeq (sG (gN i a)) (sG (gN j b))
  | _ => sNo) σ1 Q) (fun c σ1 => Q (.ex c) σ1) := by unfold sPar; exact ws_m
/-! ### loops that watch nothing -/
theorem ws_for {src : M Src} {g : D → M Unit} {b : S} : wpS (sFor src g b) σ Q ↔ wpM src σ (fun s σ1 => wOk σ1 s.ws [] ∧ wpS (forGo s.ws g b s.items) (pinD σ1 s.ws) (fun fl σ2 => okW σ2 s.ws ∧ Q fl (restore σ1 (s.ws.map (·.1)) σ2))) (fun c σ1 => Q (.ex c) σ1) := by
  unfold sFor
  refine (ws_m (m := src) (k := fun (s : Src) => (fun σ => if wOk σ s.ws [] then (match forGo s.ws g b s.items (pinD σ s.ws) with
    | some (fl, σ') => if okW σ' s.ws then some (fl, restore σ (s.ws.map (·.1)) σ') else none
    | none => none) else none : S))).trans ?_
  have e : ∀ (s : Src) σ1, wpS ((fun σ => if wOk σ s.ws [] then (match forGo s.ws g b s.items (pinD σ s.ws) with
    | some (fl, σ') => if okW σ' s.ws then some (fl, restore σ (s.ws.map (·.1)) σ') else none
    | none => none) else none) : S) σ1 Q ↔ wOk σ1 s.ws [] ∧ wpS (forGo s.ws g b s.items) (pinD σ1 s.ws) (fun fl σ2 => okW σ2 s.ws ∧ Q fl (restore σ1 (s.ws.map (·.1)) σ2)) := fun s σ1 => by
    unfold wpS
    by_cases h : wOk σ1 s.ws []
    · simp only [h, if_true, true_and]
      cases h2 : forGo s.ws g b s.items (pinD σ1 s.ws) with
      | none => simp
      | some q =>
        obtain ⟨fl, σ2⟩ := q
        by_cases h3 : okW σ2 s.ws <;> simp [h3]
    · simp [h]
  exact wpM_q fun s σ1 => e s σ1
theorem okW_nil (σ : Fr) : okW σ [] := fun w hw => by cases hw
theorem ws_forGo {g : D → M Unit} {b : S} (I : List D → Fr → Prop) {items : List D} (h0 : I items σ) (hs : ∀ x xs σ, I (x :: xs) σ → wpM (g x) σ (fun _ σ1 => wpS b σ1 fun fl σ2 => match fl with
      | .nx => I xs σ2
      | .ct => I xs σ2
      | .bk => Q .nx σ2
      | fl => Q fl σ2) (fun _ _ => False)) (he : ∀ σ, I [] σ → Q .nx σ) : wpS (forGo [] g b items) σ Q := by
  induction items generalizing σ with
  | nil =>
    have e : forGo [] g b [] σ = some (.nx, σ) := by unfold forGo; rw [if_pos (okW_nil _)]
    unfold wpS; rw [e]; exact he σ h0
  | cons x xs ih =>
    have h := hs x xs σ h0
    unfold wpS forGo
    rw [if_pos (okW_nil _)]
    unfold wpM at h
    cases e1 : g x σ with
    | none => rw [e1] at h; exact h.elim
    | some q =>
      obtain ⟨q, σ1⟩ := q
      rw [e1] at h
      cases q with
      | ex c => exact h.elim
      | ok a =>
        have h : wpS b σ1 _ := h
        unfold wpS at h
        cases e2 : b σ1 with
        | none => rw [e2] at h; exact h.elim
        | some q =>
          obtain ⟨fl, σ2⟩ := q
          rw [e2] at h
          cases fl with
          | nx => have := ih (σ := σ2) h; unfold wpS at this; simpa [e2] using this
          | ct => have := ih (σ := σ2) h; unfold wpS at this; simpa [e2] using this
          | bk => simpa [e2] using h
          | rt r => simpa [e2] using h
          | ex c => simpa [e2] using h
end
/-! ### a slot takes a result -/
def putV (l : Option Sl) (i : Nat) (d : D) (o : Bool) (σ : Fr) : Option Fr := match l with
  | none => none
  | some (.par _) => none
  | some _ => some (σ.set i (if o then .own d else .fro d))
@[simp] theorem putV_no {i : Nat} {d : D} {o : Bool} {σ : Fr} : putV (some .no) i d o σ = some (σ.set i (if o then .own d else .fro d)) := rfl
@[simp] theorem putV_fro {i : Nat} {d e : D} {o : Bool} {σ : Fr} : putV (some (.fro e)) i d o σ = some (σ.set i (if o then .own d else .fro d)) := rfl
@[simp] theorem putV_own {i : Nat} {d e : D} {o : Bool} {σ : Fr} : putV (some (.own e)) i d o σ = some (σ.set i (if o then .own d else .fro d)) := rfl
@[simp] theorem put_v {i : Nat} {d : D} {o : Bool} {σ : Fr} : put i (.v d o) σ = putV σ[i]? i d o σ := by
  unfold put putV
  cases h : σ[i]? with
  | none => rfl
  | some l => cases l <;> cases o <;> rfl
def putS (l m : Option Sl) (i j : Nat) (σ : Fr) : Option Fr := match l with
  | none => none
  | some (.par _) => none
  | some _ => (match m with
    | some (.own d) => some ((σ.set j (.fro d)).set i (.fro d))
    | some (.fro d) => some (σ.set i (.fro d))
    | _ => none)
@[simp] theorem putS_no_own {i j : Nat} {d : D} {σ : Fr} : putS (some .no) (some (.own d)) i j σ = some ((σ.set j (.fro d)).set i (.fro d)) := rfl
@[simp] theorem putS_fro_own {i j : Nat} {d e : D} {σ : Fr} : putS (some (.fro e)) (some (.own d)) i j σ = some ((σ.set j (.fro d)).set i (.fro d)) := rfl
@[simp] theorem putS_own_own {i j : Nat} {d e : D} {σ : Fr} : putS (some (.own e)) (some (.own d)) i j σ = some ((σ.set j (.fro d)).set i (.fro d)) := rfl
@[simp] theorem put_s {i j : Nat} {σ : Fr} : put i (.s j) σ = putS σ[i]? σ[j]? i j σ := by
  unfold put putS
  cases h : σ[i]? with
  | none => rfl
  | some l =>
    have e : put1 i (.s j) σ = (match σ[j]? with
      | some (.own d) => some ((σ.set j (.fro d)).set i (.fro d))
      | some (.fro d) => some (σ.set i (.fro d))
      | _ => none) := by
      unfold put1 froz1
      cases h2 : σ[j]? with
      | none => simp [h2]
      | some m => cases m <;> simp [h2]
    cases l with
    | par d => rfl
    | no => exact e
    | fro d => exact e
    | own d => exact e
/-! ### a function -/
/-- behind a body: the call's outcome -/
def endQ (ars : List Ar) (Q : D → Bool → List Ar → Prop) (X : Str → List Ar → Prop) (fl : Fl) (σ : Fr) (_ : Fix (Q, X) := fx) : Prop := match fl with
  | .rt r => wpO (retOf σ r) fun q => wpO (finals ars σ) fun fs => Q q.1 q.2 fs
  | .nx => wpO (finals ars σ) fun fs => Q .non false fs
  | .ex c => wpO (finals ars σ) fun fs => X c fs
  | _ => False
section
variable {ars : List Ar} {Q : D → Bool → List Ar → Prop} {X : Str → List Ar → Prop} {σ : Fr}
@[simp] theorem endQ_rt {r : R} : endQ ars Q X (.rt r) σ ↔ wpO (retOf σ r) fun q => wpO (finals ars σ) fun fs => Q q.1 q.2 fs := ⟨id, id⟩
@[simp] theorem endQ_nx : endQ ars Q X .nx σ ↔ wpO (finals ars σ) fun fs => Q .non false fs := ⟨id, id⟩
@[simp] theorem endQ_ex {c : Str} : endQ ars Q X (.ex c) σ ↔ wpO (finals ars σ) fun fs => X c fs := ⟨id, id⟩
@[simp] theorem endQ_bk : endQ ars Q X .bk σ ↔ False := ⟨id, id⟩
@[simp] theorem endQ_ct : endQ ars Q X .ct σ ↔ False := ⟨id, id⟩
end
theorem wf_mk {n : Nat} {b : S} {ars : List Ar} {Q : D → Bool → List Ar → Prop} {X : Str → List Ar → Prop} : wpF (mkF n b) ars Q X ↔ wpS b (frame n ars) (fun fl σ => endQ ars Q X fl σ) := by
  unfold wpF mkF wpS
  cases h : b (frame n ars) with
  | none => simp
  | some q =>
    obtain ⟨fl, σ'⟩ := q
    cases fl with
    | nx => cases h2 : finals ars σ' <;> simp [h2]
    | rt r =>
      cases h1 : retOf σ' r with
      | none => simp [h1]
      | some q => obtain ⟨d, o⟩ := q; cases h2 : finals ars σ' <;> simp [h1, h2]
    | bk => simp
    | ct => simp
    | ex c => cases h2 : finals ars σ' <;> simp [h2]
end
end Ev

set_option Elab.async false
set_option linter.all false
set_option maxRecDepth 100000
/-! Ev, part Y: sources and comprehensions as predicate transformers. -/
namespace Ev
open PySem
section
variable {α β : Type} {σ : Fr} {X : Str → Fr → Prop}
@[simp] theorem wp_take_v {d : D} {o : Bool} {Q : D × List (Nat × D) → Fr → Prop} : wpM (take1 (.v d o)) σ Q X ↔ Q (d, []) σ := ⟨fun h => h, fun h => h⟩
/-- a slot walked -/
def wpK (l : Option Sl) (i : Nat) (Q : D × List (Nat × D) → Prop) (_ : Fix Q := fx) : Prop := match l with
  | some (.fro d) => Q (d, [])
  | some (.own d) => Q (d, [(i, d)])
  | some (.par d) => Q (d, [(i, d)])
  | _ => False
@[simp] theorem wpK_fro {i : Nat} {d : D} {Q : D × List (Nat × D) → Prop} : wpK (some (.fro d)) i Q ↔ Q (d, []) := ⟨id, id⟩
@[simp] theorem wpK_own {i : Nat} {d : D} {Q : D × List (Nat × D) → Prop} : wpK (some (.own d)) i Q ↔ Q (d, [(i, d)]) := ⟨id, id⟩
@[simp] theorem wpK_par {i : Nat} {d : D} {Q : D × List (Nat × D) → Prop} : wpK (some (.par d)) i Q ↔ Q (d, [(i, d)]) := ⟨id, id⟩
@[simp] theorem wp_take_s {i : Nat} {Q : D × List (Nat × D) → Fr → Prop} : wpM (take1 (.s i)) σ Q X ↔ wpK σ[i]? i fun q => Q q σ := by
  unfold wpM take1 wpK
  cases h : σ[i]? with
  | none => simp [h]
  | some l => cases l <;> simp [h]
@[simp] theorem wp_srcL {f : SE} {Q : Src → Fr → Prop} : wpM (srcL f) σ Q X ↔ wpM f σ (fun r σ1 => wpM (take1 r) σ1 (fun q σ2 => wpO (itemsOf q.1) fun l => Q ⟨l, q.2⟩ σ2) X) X := wp_bind.trans (wpM_q fun _ _ => wp_bind.trans (wpM_q fun _ _ => wp_bind.trans (wp_lift.trans (wpO_q fun _ => wp_pure))))
@[simp] theorem wp_srcR1 {f : SE} {Q : Src → Fr → Prop} : wpM (srcR1 f) σ Q X ↔ wpM f σ (fun r σ1 => wpM (get r) σ1 (fun d σ2 => wpO (rngG (.int 0) d) fun l => Q ⟨l, []⟩ σ2) X) X := wp_bind.trans (wpM_q fun _ _ => wp_bind.trans (wpM_q fun _ _ => wp_bind.trans (wp_lift.trans (wpO_q fun _ => wp_pure))))
@[simp] theorem wp_srcR2 {f g : SE} {Q : Src → Fr → Prop} : wpM (srcR2 f g) σ Q X ↔ wpM (eAll [f, g]) σ (fun rs σ1 => wpM (getAll rs) σ1 (fun ds σ2 => wpO (rng2 ds) fun l => Q ⟨l, []⟩ σ2) X) X := wp_bind.trans (wpM_q fun _ _ => wp_bind.trans (wpM_q fun _ _ => wp_bind.trans (wp_lift.trans (wpO_q fun _ => wp_pure))))
@[simp] theorem wp_lcTurn {g : D → M Unit} {tt : M Bool} {te : SE} {x : D} {Q : Option D → Fr → Prop} : wpM (lcTurn g tt te x) σ Q X ↔ wpM (g x) σ (fun _ σ1 => wpM tt σ1 (fun b σ2 => if b = true then wpM te σ2 (fun r σ3 => wpM (froz1 r) σ3 (fun d σ4 => Q (some d) σ4) X) X else Q none σ2) X) X := by
  refine wp_bind.trans (wpM_q fun _ _ => wp_bind.trans (wpM_q fun b σ2 => ?_))
  cases b with
  | true => exact wp_bind.trans (wpM_q fun _ _ => wp_bind.trans (wpM_q fun _ _ => wp_pure))
  | false => exact wp_pure
@[simp] theorem wp_eLc {src : M Src} {vs : List Nat} {g : D → M Unit} {tt : M Bool} {te : SE} {Q : R → Fr → Prop} : wpM (eLc src vs g tt te) σ Q X ↔ wpM src σ (fun s σ1 => wpM (lcRun s vs (lcTurn g tt te)) σ1 Q X) X := wp_bind
@[simp] theorem wp_eLc2 {src src1 : M Src} {vs vs1 : List Nat} {g g1 : D → M Unit} {tt tt1 : M Bool} {te : SE} {Q : R → Fr → Prop} : wpM (eLc2 src vs g tt src1 vs1 g1 tt1 te) σ Q X ↔ wpM src σ (fun s σ1 => wpM (lc2Run s vs vs1 (lc2Turn g tt src1) (lcTurn g1 tt1 te)) σ1 Q X) X := wp_bind
def wpLc (ws : List (Nat × D)) (vs : List Nat) (turn : D → M (Option D)) (items acc : List D) (σ : Fr) (Q : List D → Fr → Prop) (_ : Fix Q := fx) : Prop := match lcGo ws vs turn items acc σ with
  | some (o, σ') => Q o σ'
  | none => False
theorem wp_lcRun {s : Src} {vs : List Nat} {turn : D → M (Option D)} {Q : R → Fr → Prop} : wpM (lcRun s vs turn) σ Q X ↔ wOk σ s.ws vs ∧ wpLc s.ws vs turn s.items [] (wipeD (pinD σ s.ws) vs) (fun out σ' => Q (.v (.lst out) true) (restore σ (s.ws.map (·.1)) (restore (pinD σ s.ws) vs σ'))) := by
  unfold wpM lcRun wpLc
  by_cases h : wOk σ s.ws vs
  · simp only [h, if_true, true_and]
    cases lcGo s.ws vs turn s.items [] (wipeD (pinD σ s.ws) vs) with
    | none => simp
    | some q => obtain ⟨o, σ'⟩ := q; simp
  · simp [h]
theorem wOk_nil (σ : Fr) (vs : List Nat) : wOk σ [] vs := fun w hw => by cases hw
@[simp] theorem wp_lcRun0 {items : List D} {vs : List Nat} {turn : D → M (Option D)} {Q : R → Fr → Prop} : wpM (lcRun ⟨items, []⟩ vs turn) σ Q X ↔ wpLc [] vs turn items [] (wipeD σ vs) (fun out σ' => Q (.v (.lst out) true) (restore σ vs σ')) := by
  rw [wp_lcRun]
  exact ⟨fun h => h.2, fun h => ⟨wOk_nil _ _, h⟩⟩
theorem wpLc_inv {ws : List (Nat × D)} {vs : List Nat} {turn : D → M (Option D)} (I : List D → List D → Fr → Prop) {items acc : List D} {Q : List D → Fr → Prop} (h0 : I items acc σ)
    (hs : ∀ x xs acc σ, I (x :: xs) acc σ → okW σ ws ∧ acc.length < LIM ∧ wpM (turn x) σ (fun o σ1 => I xs (acc ++ o.toList) (wipeD σ1 vs)) (fun _ _ => False)) (he : ∀ acc σ, I [] acc σ → okW σ ws ∧ Q acc σ) : wpLc ws vs turn items acc σ Q := by
  induction items generalizing σ acc with
  | nil =>
    obtain ⟨h1, h2⟩ := he acc σ h0
    unfold wpLc lcGo
    rw [if_pos h1]
    exact h2
  | cons x xs ih =>
    obtain ⟨h1, h2, h3⟩ := hs x xs acc σ h0
    unfold wpLc lcGo
    rw [if_pos ⟨h1, h2⟩]
    unfold wpM at h3
    cases e : turn x σ with
    | none => rw [e] at h3; exact h3.elim
    | some q =>
      obtain ⟨q, σ1⟩ := q
      rw [e] at h3
      cases q with
      | ex c => exact h3.elim
      | ok o =>
        cases o with
        | none =>
          have h3 : I xs acc (wipeD σ1 vs) := by simpa using h3
          have := ih h3
          unfold wpLc at this
          simpa [e] using this
        | some d =>
          have h3 : I xs (acc ++ [d]) (wipeD σ1 vs) := by simpa using h3
          have := ih h3
          unfold wpLc at this
          simpa [e] using this
theorem wpLc_nil {ws : List (Nat × D)} {vs : List Nat} {turn : D → M (Option D)} {acc : List D} {Q : List D → Fr → Prop} : wpLc ws vs turn [] acc σ Q ↔ okW σ ws ∧ Q acc σ := by
  unfold wpLc lcGo
  by_cases h : okW σ ws <;> simp [h]
theorem wpLc_cons {ws : List (Nat × D)} {vs : List Nat} {turn : D → M (Option D)} {x : D} {xs acc : List D} {Q : List D → Fr → Prop} : wpLc ws vs turn (x :: xs) acc σ Q ↔ okW σ ws ∧ acc.length < LIM ∧ wpM (turn x) σ (fun o σ1 => wpLc ws vs turn xs (acc ++ o.toList) (wipeD σ1 vs) Q) (fun _ _ => False) := by
  unfold wpLc
  rw [lcGo]
  by_cases h : okW σ ws ∧ acc.length < LIM
  · rw [if_pos h]
    unfold wpM
    cases e : turn x σ with
    | none => simp
    | some q =>
      obtain ⟨q, σ1⟩ := q
      cases q with
      | ex c => simp
      | ok o => cases o <;> simp [h]
  · rw [if_neg h]
    simp only [false_iff]
    exact fun ⟨h1, h2, _⟩ => h ⟨h1, h2⟩
@[simp] theorem okW_nil' {σ : Fr} : okW σ [] ↔ True := ⟨fun _ => trivial, fun _ => okW_nil σ⟩
/-- each turn alone, the frame as it was -/
theorem wpLc_map {ws : List (Nat × D)} {vs : List Nat} {turn : D → M (Option D)} (f : D → Option D) {items acc : List D} {Q : List D → Fr → Prop} (ok : okW σ ws) (hl : acc.length + items.length ≤ LIM)
    (hs : ∀ x ∈ items, wpM (turn x) σ (fun o σ1 => o = f x ∧ wipeD σ1 vs = σ) (fun _ _ => False)) (he : Q (acc ++ items.filterMap f) σ) : wpLc ws vs turn items acc σ Q := by
  refine wpLc_inv (fun xs a σ' => σ' = σ ∧ (∀ x ∈ xs, x ∈ items) ∧ a.length + xs.length ≤ LIM ∧ a ++ xs.filterMap f = acc ++ items.filterMap f) ⟨rfl, fun _ h => h, hl, rfl⟩ (fun x xs a σ' ⟨h1, h2, h3, h4⟩ => ?_) fun a σ' ⟨h1, h2, h3, h4⟩ => ?_
  · subst h1
    rw [List.length_cons] at h3
    refine ⟨ok, by omega, wpM_mono (hs x (h2 x List.mem_cons_self)) (fun o σ1 ⟨e1, e2⟩ => ⟨e2, fun y hy => h2 y (List.mem_cons_of_mem _ hy), ?_, ?_⟩) fun _ _ h => h⟩
    · rw [List.length_append]
      have : o.toList.length ≤ 1 := by cases o <;> simp
      omega
    · subst e1
      rw [← h4, List.filterMap_cons]
      cases f x <;> simp
  · subst h1
    rw [List.filterMap_nil, List.append_nil] at h4
    subst h4
    exact ⟨ok, he⟩
theorem wipeD_idem {σ : Fr} {vs : List Nat} : wipeD (wipeD σ vs) vs = wipeD σ vs := by
  apply List.ext_getElem?
  intro j
  by_cases h : j ∈ vs
  · have side : ∀ (σ : Fr) (vs : List Nat), j ∈ vs → (wipeD σ vs)[j]? = if j < σ.length then some .no else none := fun σ vs hj => by
      induction vs with
      | nil => cases hj
      | cons v vs ih =>
        rw [wipeD, lset_get, wipeD_len]
        by_cases e : v = j
        · rw [if_pos e, e]
        · rw [if_neg e]
          exact ih ((List.mem_cons.mp hj).resolve_left fun z => e z.symm)
    rw [side _ _ h, side _ _ h, wipeD_len]
  · rw [wipeD_out h, wipeD_out h]
theorem restore_wipe {σ : Fr} {vs : List Nat} : restore σ vs (wipeD σ vs) = σ := by
  apply List.ext_getElem?
  intro j
  rw [restore_get wipeD_len]
  split
  · rfl
  · rename_i h; exact wipeD_out h
end
end Ev

set_option Elab.async false
set_option linter.all false
set_option maxRecDepth 100000
/-! Ev, part Z: dicts. A tree of a dict with tuples for keys begins with (None, None). -/
namespace Ev
open PySem PySem.Spec PyProof.Rows L2

def keyK : D → Option Key
  | .int i => some (.inl i)
  | .str s => some (.inr ⟨s.toArray⟩)
  | _ => none
def keyT : List D → Option (List Key)
  | [] => some []
  | d :: ds => match keyK d, keyT ds with
    | some k, some r => some (k :: r)
    | _, _ => none
def isTD : List (D × D) → Bool
  | (.non, _) :: _ => true
  | _ => false
/-- a key of the dict's kind -/
def dKey (ps : List (D × D)) (k : D) : Bool := if isTD ps = true then (match k with
  | .tup l => (keyT l).isSome
  | _ => false) else (keyK k).isSome
def dlook (ps : List (D × D)) (k : D) : Option D := (ps.find? fun p => decide (p.1 = k)).map (·.2)
def dputL (ps : List (D × D)) (k v : D) : List (D × D) := if (ps.any fun p => decide (p.1 = k)) = true then ps.map (fun p => if p.1 = k then (p.1, v) else p) else ps ++ [(k, v)]
def dgetG : D → D → Option (D × Bool)
  | .dic ps, k => if dKey ps k = true then (dlook ps k).map (·, false) else none
  | _, _ => none
def dinG : D → D → Option Bool
  | k, .dic ps => if dKey ps k = true then some (dlook ps k).isSome else none
  | _, _ => none
theorem keyK_kD {d : D} {k : Key} (h : keyK d = some k) : d = kD k := by
  cases d with
  | int i => cases h; rfl
  | str s => cases h; simp [kD]
  | _ => cases h
theorem keyT_kD : ∀ {l : List D} {k : List Key}, keyT l = some k → l = k.map kD
  | [], _, h => by cases h; rfl
  | d :: ds, k, h => by
    unfold keyT at h
    cases e1 : keyK d with
    | none => rw [e1] at h; cases h
    | some q =>
      cases e2 : keyT ds with
      | none => rw [e1, e2] at h; cases h
      | some r =>
        rw [e1, e2] at h; cases h
        rw [keyK_kD e1, keyT_kD e2]; rfl
theorem kD_inj {a b : Key} (h : kD a = kD b) : a = b := by
  cases a with
  | inl i =>
    cases b with
    | inl j => simp only [kD] at h; injection h with h; rw [h]
    | inr y => simp only [kD] at h; cases h
  | inr x =>
    cases b with
    | inl j => simp only [kD] at h; cases h
    | inr y =>
      simp only [kD] at h
      injection h with h
      obtain ⟨⟨x⟩⟩ := x
      obtain ⟨⟨y⟩⟩ := y
      have h : x = y := h
      rw [h]
theorem kDs_inj : ∀ {a b : List Key}, a.map kD = b.map kD → a = b
  | [], [], _ => rfl
  | [], _ :: _, h => by cases h
  | _ :: _, [], h => by cases h
  | x :: a, y :: b, h => by
    simp only [List.map_cons, List.cons.injEq] at h
    rw [kD_inj h.1, kDs_inj h.2]
section
variable {K : PySem.W.Frag} {Z H : Hp}
theorem rp_key {d : D} {k : Key} {v : V} (h : keyK d = some k) (r : Rp K Z d v) : v = kV k := by
  cases d with
  | int i => cases h; simp only [Rp] at r; exact r
  | str s => cases h; simp only [Rp] at r; exact r
  | _ => cases h
theorem rp_keys : ∀ {l : List D} {k : List Key} {xs : List V}, keyT l = some k → RpL K Z l xs → xs = k.map kV
  | [], _, _, h, r => by cases h; exact r.inv0
  | d :: ds, k, xs, h, r => by
    unfold keyT at h
    obtain ⟨x, q, rfl, r1, r2⟩ := r.inv
    cases e1 : keyK d with
    | none => rw [e1] at h; cases h
    | some q1 =>
      cases e2 : keyT ds with
      | none => rw [e1, e2] at h; cases h
      | some q2 =>
        rw [e1, e2] at h; cases h
        rw [rp_key e1 r1, rp_keys e2 r2]; rfl
theorem RO.mono' {Z Z2 : Hp} {d : D} {v : V} (s : Sub Z Z2) (h : RO K Z H d v) : RO K Z2 H d v := h.imp (fun h => h.mono s) fun ⟨a, e, c⟩ => ⟨a, e, c.mono s⟩
/-- what is found, on both sides -/
def LookR (K : PySem.W.Frag) (Z : Hp) : Option D → Option V → Prop
  | none, none => True
  | some d, some v => Rp K Z d v
  | _, _ => False
theorem dlook_nil {k : D} : dlook [] k = none := rfl
theorem dlook_pos {p : D × D} {ps : List (D × D)} {k : D} (h : p.1 = k) : dlook (p :: ps) k = some p.2 := by simp [dlook, List.find?_cons, h]
theorem dlook_neg {p : D × D} {ps : List (D × D)} {k : D} (h : ¬ p.1 = k) : dlook (p :: ps) k = dlook ps k := by simp [dlook, List.find?_cons, h]
theorem dlook_any (k : D) : ∀ ps : List (D × D), (ps.any fun p => decide (p.1 = k)) = (dlook ps k).isSome
  | [] => rfl
  | p :: ps => by
    by_cases h : p.1 = k
    · rw [dlook_pos h]; simp [h]
    · rw [dlook_neg h, ← dlook_any k ps]; simp [h]
theorem rpK_look (q : Key) : ∀ {ps : List (D × D)} {ks : List (Key × V)}, RpK K Z ps ks → LookR K Z (dlook ps (kD q)) (valV ks q)
  | [], _, h => by simp only [RpK] at h; subst h; trivial
  | (k, d) :: ps, _, h => by
    simp only [RpK] at h
    obtain ⟨k', x, r, rfl, rfl, h1, h2⟩ := h
    by_cases e : k' = q
    · subst e; rw [dlook_pos rfl, valV_pos rfl]; exact h1
    · rw [dlook_neg fun z => e (kD_inj z), valV_neg e]; exact rpK_look q h2
theorem rpT_look (q : List Key) : ∀ {ps : List (D × D)} {ks : List (List Key × V)}, RpT K Z ps ks → LookR K Z (dlook ps (.tup (q.map kD))) (valV ks q)
  | [], _, h => by simp only [RpT] at h; subst h; trivial
  | (k, d) :: ps, _, h => by
    simp only [RpT] at h
    obtain ⟨k', x, r, rfl, rfl, h1, h2⟩ := h
    by_cases e : k' = q
    · subst e; rw [dlook_pos rfl, valV_pos rfl]; exact h1
    · rw [dlook_neg fun z => e (kDs_inj (by injection z)), valV_neg e]; exact rpT_look q h2
theorem rpK_map (q : Key) {d : D} {v : V} (hv : Rp K Z d v) : ∀ {ps : List (D × D)} {ks : List (Key × V)}, RpK K Z ps ks → RpK K Z (ps.map fun p => if p.1 = kD q then (p.1, d) else p) (ks.map fun p => if p.1 = q then (p.1, v) else p)
  | [], _, h => by simp only [RpK] at h; subst h; simp [RpK]
  | (k, e) :: ps, _, h => by
    simp only [RpK] at h
    obtain ⟨k', x, r, rfl, rfl, h1, h2⟩ := h
    have ih := rpK_map q hv h2
    by_cases e : k' = q
    · subst e
      simp only [List.map_cons, if_pos, RpK]
      exact ⟨_, _, _, rfl, rfl, hv, ih⟩
    · have e' : ¬ kD k' = kD q := fun z => e (kD_inj z)
      simp only [List.map_cons, if_neg e, if_neg e', RpK]
      exact ⟨_, _, _, rfl, rfl, h1, ih⟩
theorem rpT_map (q : List Key) {d : D} {v : V} (hv : Rp K Z d v) : ∀ {ps : List (D × D)} {ks : List (List Key × V)}, RpT K Z ps ks → RpT K Z (ps.map fun p => if p.1 = .tup (q.map kD) then (p.1, d) else p) (ks.map fun p => if p.1 = q then (p.1, v) else p)
  | [], _, h => by simp only [RpT] at h; subst h; simp [RpT]
  | (k, e) :: ps, _, h => by
    simp only [RpT] at h
    obtain ⟨k', x, r, rfl, rfl, h1, h2⟩ := h
    have ih := rpT_map q hv h2
    by_cases e : k' = q
    · subst e
      simp only [List.map_cons, if_pos, RpT]
      exact ⟨_, _, _, rfl, rfl, hv, ih⟩
    · have e' : ¬ D.tup (k'.map kD) = .tup (q.map kD) := fun z => e (kDs_inj (by injection z))
      simp only [List.map_cons, if_neg e, if_neg e', RpT]
      exact ⟨_, _, _, rfl, rfl, h1, ih⟩
theorem rpK_app (q : Key) {d : D} {v : V} (hv : Rp K Z d v) : ∀ {ps : List (D × D)} {ks : List (Key × V)}, RpK K Z ps ks → RpK K Z (ps ++ [(kD q, d)]) (ks ++ [(q, v)])
  | [], _, h => by simp only [RpK] at h; subst h; simp only [List.nil_append, RpK]; exact ⟨_, _, _, rfl, rfl, hv, rfl⟩
  | (k, e) :: ps, _, h => by
    simp only [RpK] at h
    obtain ⟨k', x, r, rfl, rfl, h1, h2⟩ := h
    simp only [List.cons_append, RpK]
    exact ⟨_, _, _, rfl, rfl, h1, rpK_app q hv h2⟩
theorem rpT_app (q : List Key) {d : D} {v : V} (hv : Rp K Z d v) : ∀ {ps : List (D × D)} {ks : List (List Key × V)}, RpT K Z ps ks → RpT K Z (ps ++ [(.tup (q.map kD), d)]) (ks ++ [(q, v)])
  | [], _, h => by simp only [RpT] at h; subst h; simp only [List.nil_append, RpT]; exact ⟨_, _, _, rfl, rfl, hv, rfl⟩
  | (k, e) :: ps, _, h => by
    simp only [RpT] at h
    obtain ⟨k', x, r, rfl, rfl, h1, h2⟩ := h
    simp only [List.cons_append, RpT]
    exact ⟨_, _, _, rfl, rfl, h1, rpT_app q hv h2⟩
theorem LookR.some_eq {o : Option D} {u : Option V} (h : LookR K Z o u) : o.isSome = u.isSome := by
  cases o <;> cases u <;> first | rfl | exact h.elim
theorem rpK_put (q : Key) {d : D} {v : V} (hv : Rp K Z d v) {ps : List (D × D)} {ks : List (Key × V)} (h : RpK K Z ps ks) : RpK K Z (dputL ps (kD q) d) (putK ks q v) := by
  have e := (rpK_look q h).some_eq
  unfold dputL putK
  rw [dlook_any, valV_any, e]
  split
  · exact rpK_map q hv h
  · exact rpK_app q hv h
theorem rpT_put (q : List Key) {d : D} {v : V} (hv : Rp K Z d v) {ps : List (D × D)} {ks : List (List Key × V)} (h : RpT K Z ps ks) : RpT K Z (dputL ps (.tup (q.map kD)) d) (putK ks q v) := by
  have e := (rpT_look q h).some_eq
  unfold dputL putK
  rw [dlook_any, valV_any, e]
  split
  · exact rpT_map q hv h
  · exact rpT_app q hv h
theorem rpS_inv {ps : List (D × D)} {ks : List (List Key × V)} (h : RpS K Z ps ks) : ∃ r, ps = (.non, .non) :: r ∧ RpT K Z r ks := by
  cases ps with
  | nil => exact h.elim
  | cons p r =>
    obtain ⟨k, d⟩ := p
    simp only [RpS] at h
    obtain ⟨rfl, rfl, h⟩ := h
    exact ⟨r, rfl, h⟩
theorem rpK_notT {ps : List (D × D)} {ks : List (Key × V)} (h : RpK K Z ps ks) : isTD ps = false := by
  cases ps with
  | nil => rfl
  | cons p r =>
    obtain ⟨k, d⟩ := p
    simp only [RpK] at h
    obtain ⟨q, x, r, _, rfl, _⟩ := h
    cases q <;> rfl
theorem dputL_T (r : List (D × D)) (l : List D) (d : D) : dputL ((.non, .non) :: r) (.tup l) d = (.non, .non) :: dputL r (.tup l) d := by
  have e : ((((D.non, D.non) :: r).any fun p => decide (p.1 = D.tup l)) = true) = ((r.any fun p => decide (p.1 = D.tup l)) = true) := by simp
  unfold dputL
  by_cases h : (r.any fun p => decide (p.1 = D.tup l)) = true
  · rw [if_pos h, if_pos (by rw [e]; exact h)]; simp
  · rw [if_neg h, if_neg (by rw [e]; exact h)]; rfl
/-- a dict's look-up -/
theorem dget_of {ps : List (D × D)} {k : D} {x y : V} (sub : Sub Z H) (hx : RO K Z H (.dic ps) x) (hy : RO K Z H k y) (hk : dKey ps k = true) : ∃ a o, x = .ref a ∧ DGet H a y o ∧ LookR K Z (dlook ps k) o := by
  obtain ⟨a, rfl, h⟩ := hx.dic sub
  rcases h with ⟨ks, ha, r⟩ | ⟨ks, ha, r⟩
  · unfold dKey at hk
    rw [rpK_notT r] at hk
    simp only [Bool.false_eq_true, if_false] at hk
    obtain ⟨q, eq⟩ := Option.isSome_iff_exists.mp hk
    have ey : y = kV q := by
      cases k with
      | int i => cases eq; exact hy.int
      | str s => cases eq; exact hy.str
      | _ => cases eq
    refine ⟨a, valV ks q, rfl, .inl ⟨ks, q, .inl ha, ey, rfl⟩, ?_⟩
    rw [keyK_kD eq]; exact rpK_look q r
  · obtain ⟨r', rfl, rt⟩ := rpS_inv r
    unfold dKey at hk
    simp only [isTD, if_true] at hk
    cases k with
    | tup l =>
      obtain ⟨q, eq⟩ := Option.isSome_iff_exists.mp hk
      obtain ⟨b, xs, rfl, _, hb, rl⟩ := hy.tup sub
      have exs := rp_keys eq rl
      subst exs
      refine ⟨a, valV ks q, rfl, .inr ⟨ks, q, b, .inl ha, rfl, sub _ _ hb, rfl⟩, ?_⟩
      rw [keyT_kD eq, dlook_neg fun z => by cases z]
      exact rpT_look q rt
    | _ => cases hk
end
section
variable {X : Cx} {K : PySem.W.Frag}
theorem op_inDic (hK : X.K = K) (hu : X.A.units + 65 < cLine) : OpR X (compareOp .In) (Op2 K (gB dinG)) := by
  subst hK
  intro pins s σ H x y v u Q I rx ry h
  obtain ⟨Z, dx, dy, r, sub, hx, hy, e, q⟩ := h
  cases dy with
  | dic ps =>
    simp only [gB, dinG] at e
    split at e
    · rename_i hk
      cases e
      obtain ⟨a, o, rfl, g, l⟩ := dget_of sub hy hx hk
      obtain rfl : u = Value.ref a := ry
      have q' := q.bl sub
      rw [l.some_eq] at q'
      exact d_in (by omega) I g rx fun s3 I3 => ⟨.bl o.isSome, H, I3, rfl, q'⟩
    · cases e
  | _ => cases dx <;> cases e
theorem op_notinDic (hK : X.K = K) (hu : X.A.units + 65 < cLine) : OpR X (compareOp .NotIn) (Op2 K (gB (notG dinG))) := by
  subst hK
  intro pins s σ H x y v u Q I rx ry h
  obtain ⟨Z, dx, dy, r, sub, hx, hy, e, q⟩ := h
  cases dy with
  | dic ps =>
    simp only [gB, notG, dinG] at e
    split at e
    · rename_i hk
      cases e
      obtain ⟨a, o, rfl, g, l⟩ := dget_of sub hy hx hk
      obtain rfl : u = Value.ref a := ry
      have q' := q.bl sub
      rw [l.some_eq] at q'
      exact d_notIn (by omega) I g rx fun s3 I3 => ⟨.bl (!o.isSome), H, I3, rfl, q'⟩
    · cases e
  | _ => cases dx <;> cases e
end
section
variable {p : Pl} {a b : Expr} {fa fb : SE} {pos : Pos}
theorem ho_ind (X : Cx) (h : X.K = p.K) (hu : X.A.units + 65 < cLine) : OpR X (compareOp .In) (Op2 p.K (gB dinG)) := op_inDic h hu
theorem ho_notind (X : Cx) (h : X.K = p.K) (hu : X.A.units + 65 < cLine) : OpR X (compareOp .NotIn) (Op2 p.K (gB (notG dinG))) := op_notinDic h hu
theorem de_dget (ha : DE p a fa) (hb : DE p b fb) (hs : NoSl b := by exact fun _ _ => rfl) : DE p (.Subscript a b pos) (e2 dgetG fa fb) := fun X W c tk =>
  PE_imp (pe_dget (by have := c.room.un; omega) (ha X W c tk) (hb X W c tk) hs) fun σ H Q h => by
    refine rd_mono (rd_e2 h) fun x H1 h1 => rd_mono h1 fun y H2 h2 => ?_
    obtain ⟨Z, dx, dy, r, sub, hx, hy, e, q⟩ := h2
    cases dx with
    | dic ps =>
      simp only [dgetG] at e
      split at e
      · rename_i hk
        obtain ⟨a, o, rfl, g, l⟩ := dget_of sub hx hy hk
        cases ed : dlook ps dy with
        | none => rw [ed] at e; cases e
        | some d =>
          rw [ed] at e l
          cases e
          cases o with
          | none => exact l.elim
          | some v => exact ⟨a, v, rfl, g, q.old sub l⟩
      · cases e
    | _ => cases e
end
/-! ### d[k] = v -/
def dputAt (k : Nat) (key v : D) : S := fun σ => match hel σ k with
  | some (.dic ps) => if dKey ps key = true ∧ ps.length < LIM then some (.nx, setSl σ k (.dic (dputL ps key v))) else none
  | _ => none
def sDStore (f fo fi : SE) : S := sM (eAll [f, fo, fi]) fun rs => match rs with
  | [r, .s k, ri] => sM (get ri) fun di => sM (froz1 r) fun d => dputAt k di d
  | _ => sNo
section
variable {K : PySem.W.Frag} {W : WX} {B : Bd} {Z H Z1 H1 : Hp} {σ : L2.St} {σD σD' : Fr} {N : Ends} {v : V} {r : R} {d d' : D}
theorem rpK_len : ∀ {ps : List (D × D)} {ks : List (Key × V)}, RpK K Z ps ks → ks.length = ps.length
  | [], _, h => by simp only [RpK] at h; subst h; rfl
  | (k, e) :: ps, _, h => by
    simp only [RpK] at h
    obtain ⟨k', x, r, rfl, rfl, h1, h2⟩ := h
    simp [rpK_len h2]
theorem rpT_len : ∀ {ps : List (D × D)} {ks : List (List Key × V)}, RpT K Z ps ks → ks.length = ps.length
  | [], _, h => by simp only [RpT] at h; subst h; rfl
  | (k, e) :: ps, _, h => by
    simp only [RpT] at h
    obtain ⟨k', x, r, rfl, rfl, h1, h2⟩ := h
    simp [rpT_len h2]
theorem AftS.dput {k : Nat} {key : D} {o y : V} (s : Sta K B Z σD σ H) (hk : σ[k]? = some (some o)) (ry : RO K Z H key y) (rv : Rp K Z d v) (h : AftS K W N B Z H (dputAt k key d σD)) : rSetD o y v H fun H4 => N.nx σ H4 := by
  unfold Ev.dputAt at h
  cases e : hel σD k with
  | none => rw [e] at h; exact h.elim
  | some t =>
    rw [e] at h
    cases t with
    | dic ps =>
      have h : AftS K W N B Z H (if dKey ps key = true ∧ ps.length < LIM then some (.nx, setSl σD k (.dic (dputL ps key d))) else none) := h
      obtain ⟨a, rfl, ha⟩ := s.helV e hk
      by_cases hq : dKey ps key = true ∧ ps.length < LIM
      · rw [if_pos hq] at h
        obtain ⟨hkk, hl⟩ := hq
        unfold dKey at hkk
        rcases ha with ⟨ks, ha, rx⟩ | ⟨ks, ha, rx⟩
        · rw [rpK_notT rx] at hkk
          simp only [Bool.false_eq_true, if_false] at hkk
          obtain ⟨q, eq⟩ := Option.isSome_iff_exists.mp hkk
          have ey : y = kV q := by
            cases key with
            | int i => cases eq; exact ry.int
            | str s => cases eq; exact ry.str
            | _ => cases eq
          have hlen : ks.length < sizeLine := by rw [rpK_len rx]; have := lim_line (Nat.le_of_lt hl); have : LIM = 1000000 := rfl; have := sizeLine_eq; omega
          obtain ⟨s2, x2⟩ := s.mut (o := .dK (putK ks q v)) (d' := .dic (dputL ps key d)) (hel_iff.mp e) hk (.inl ⟨_, rfl, by rw [keyK_kD eq]; exact rpK_put q rv rx⟩)
          exact ⟨a, _, rfl, .inl ⟨ks, q, ha, ey, hlen, rfl⟩, h σ Z _ s2 x2⟩
        · obtain ⟨r', rfl, rxt⟩ := rpS_inv rx
          simp only [isTD, if_true] at hkk
          cases key with
          | tup l =>
            obtain ⟨q, eq⟩ := Option.isSome_iff_exists.mp hkk
            obtain ⟨b, xs, rfl, _, hb, rl⟩ := ry.tup s.sub
            have exs := rp_keys eq rl
            subst exs
            have hlen : ks.length < sizeLine := by rw [rpT_len rxt]; simp only [List.length_cons] at hl; have : LIM = 1000000 := rfl; have := sizeLine_eq; omega
            obtain ⟨s2, x2⟩ := s.mut (o := .dT (putK ks q v)) (d' := .dic (dputL ((.non, .non) :: r') (.tup l) d)) (hel_iff.mp e) hk (.inr ⟨_, rfl, by
              have e1 := dputL_T r' l d
              rw [e1]
              simp only [RpS]
              refine ⟨trivial, trivial, ?_⟩
              rw [keyT_kD eq]; exact rpT_put q rv rxt⟩)
            exact ⟨a, _, rfl, .inr ⟨ks, q, b, ha, rfl, s.sub _ _ hb, hlen, rfl⟩, h σ Z _ s2 x2⟩
          | _ => cases hkk
      · rw [if_neg hq] at h; exact h.elim
    | _ => exact h.elim
variable {p : Pl} {pos : Pos} {e o i : Expr} {f fo fi : SE}
theorem ds_dstore {spos : Pos} (he : DE p e f) (ho : DE p o fo) (hi : DE p i fi) (ha : ∀ (env : Env) v, assign (.Subscript o i spos) env v = (do
      let ov ← holding [v] (eval o env)
      let iv ← holding [v, ov] (eval i env)
      standAt spos
      holding [v, ov, iv] (setItem ov iv v)
      release [v, ov, iv] []) := by intro _ _; rfl) (hs : ∀ env : Env, swapsWithSole [.Subscript o i spos] e pos.line env = pure false := by intro _; rfl) (hw : ∀ env : Env, swappedStores [.Subscript o i spos] e env = pure none := by intro _; rfl)
    (h1 : ∀ env : Env, (assignEach [.Subscript o i spos] env).map (·.2) = [assign (.Subscript o i spos) env] := by intro _; rfl) : DS p (.Assign [.Subscript o i spos] e pos) (sDStore f fo fi) := fun X W c tk =>
  PS_imp (ps_asg (he X W c tk) (pg_sub (ho X W c tk) (hi X W c tk) (set_dict (by have := c.room.un; omega)) (ha X.env)) (hs X.env) (hw X.env) (h1 X.env)) fun D σ H h => by
    refine rd_mono (rdA_3 (rdS_A h)) fun x H1 h1 => rd_mono h1 fun o H2 h2 => rd_mono h2 fun y H3 h3 => ?_
    obtain ⟨B, Z, σD, σD0, rs, s, hv, q, _⟩ := h3
    obtain ⟨a, b, g, rfl, r1, r2, r3⟩ := three_of hv
    cases b with
    | v _ _ => exact q.elim
    | s k =>
      obtain ⟨di, ei, q⟩ := AftS.get q
      have hy := (r3.ro ((s.tmp r1).tmp r2) ei)
      obtain ⟨d, Z2, σD2, s2, x2, rd, hz, q⟩ := AftS.froz s r1 q
      exact q.dput s2 r2 (hy.mono' x2.sub) rd
end
end Ev

set_option Elab.async false
set_option linter.all false
set_option maxRecDepth 100000
set_option maxHeartbeats 4000000
/-! Ev, part ZA: sorted, of a list or a tuple of whole numbers. -/
namespace Ev
open PySem PySem.Spec PyProof.Rows L2

section
variable {prog : Program} {w : World} {A : Around} {E : Value → Shared → Prop} {s : Shared}
theorem gatherT {t : Addr} {its : List Value} {Q : List Value → Shared → Prop} (ht : s.heap.IsTuple t its.toArray) (hz : its.length ≤ sizeLine)
    (k : Q its { s with heap := (s.heap.push (seqObj "list" #[] 0)).update s.heap.objs.size (Obj.mapSeq (· ++ its.toArray)) }) : wpAny (model prog w) A (collect (.ref t)) Q E s := by
  obtain ⟨ob, hob, cls, cnt, dat⟩ := id ht
  unfold collect
  refine wpAny_bind (wpAny_runValue (codeAny_builtin entry_proto_collect' ?_))
  show wpAny _ _ (do again (.builtin "list.__iadd__" ⟨[← newList [], .ref t], []⟩)) _ _ s
  refine wpAny_bind (wpAny_newList (wpAny_pure ⟨Code.quiet_builtin _ (by decide +kernel), codeAny_builtin entry_list_iadd' ?_⟩))
  show wpAny _ _ (Builtin.List.listExtendWith (.ref s.heap.objs.size) (.ref t) (.ref s.heap.objs.size)) _ _ { s with heap := s.heap.push (seqObj "list" #[] 0) }
  unfold Builtin.List.listExtendWith
  have hob2 : (s.heap.push (seqObj "list" #[] 0)).get? t = some ob := Heap.get?_push_of_some _ hob
  refine wpAny_bind (wpAny_typeOf (T := "tuple") ⟨ob, hob2, cls⟩ ?_)
  have same : (Value.type "tuple" == Value.type "tuple") = true := by rfl
  rw [if_pos (by rw [same]; simp)]
  refine wpAny_bind (listItems_at hob2 dat ?_)
  refine wpAny_bind (listItems_at (xs := #[]) (n := 0) (Heap.get?_push_size _ rfl) rfl ?_)
  rw [if_neg (by simp)]
  refine wpAny_bind (listUpdate_at (xs := #[]) (n := 0) (Heap.get?_push_size _ rfl) rfl ?_ (Nat.zero_le _) (by
    show (#[] ++ its.toArray).size ≤ sizeLine + 1
    simp only [Array.size_append, List.size_toArray, List.length_nil]
    omega))
  refine wpAny_pure ?_
  show wpAny (model prog w) A (do
      let x ← load s.heap.objs.size
      match x.data with
      | .seq q _ => pure q.toList
      | _ => unsupported "internal:collect") Q E { s with heap := (s.heap.push (seqObj "list" #[] 0)).update s.heap.objs.size (Obj.mapSeq (· ++ its.toArray)) }
  refine wpAny_bind (wpAny_load (get?_update_seq (Heap.get?_push_size _ rfl) _) ?_)
  show wpAny _ _ (pure ((#[] : Array Value) ++ its.toArray).toList) Q E _
  rw [show ((#[] : Array Value) ++ its.toArray).toList = its by simp]
  exact wpAny_pure k
theorem sortedT_raw {t : Addr} {its : List Value} {ltv : Value → Value → Bool} {Q : Value → Shared → Prop} (O : SrtO.Swo ltv) (ht : s.heap.IsTuple t its.toArray) (hz : its.length ≤ sizeLine)
    (hS : 2 ≤ its.length → ∀ (h₁ : Heap) (a : Addr), SrtO.SortableO prog w A.in1.in1 { s with heap := h₁ } a its ltv)
    (k : ∀ out : List Value, SrtO.Srtd ltv out → SrtO.Stb ltv out its → Q (.ref (s.heap.objs.size + 1)) { s with heap := sortedAll s.heap its out.toArray }) :
    wpAny (model prog w) A (call (.builtin "sorted") [.ref t]) Q E s := by
  refine Calls.call_function_entry kind_sorted plain_sorted entry_sorted (args_sorted1 _) ?_
  unfold Builtin.«sorted»
  refine wpAny_bind (m := checkCount "sorted" 1 1 _) (wpAny_pure ?_)
  refine wpAny_bind (gatherT ht hz ?_)
  refine wpAny_bind (wpAny_newList ?_ hz)
  have e1 : ((s.heap.push (seqObj "list" #[] 0)).update s.heap.objs.size (Obj.mapSeq (· ++ its.toArray))).objs.size = s.heap.objs.size + 1 := by
    rw [Heap.size_update]
    exact size_push' _ _
  have e2 : (((s.heap.push (seqObj "list" #[] 0)).update s.heap.objs.size (Obj.mapSeq (· ++ its.toArray))).push (seqObj "list" its.toArray 0)).get? (s.heap.objs.size + 1) = some (seqObj "list" its.toArray 0) := by
    rw [← e1]
    exact Heap.get?_push_size _ rfl
  show wpAny _ _ _ _ _ { s with heap := ((s.heap.push (seqObj "list" #[] 0)).update s.heap.objs.size (Obj.mapSeq (· ++ its.toArray))).push (seqObj "list" its.toArray 0) }
  rw [e1]
  refine wpAny_bind (wpAny_holding (wpAny_call_entry slot_list_sort ⟨_, e2, rfl⟩ entry_list_sort (SrtO.list_sort_ord O e2 hz (fun h2 => hS h2 _ _) fun out hs hb => ⟨_, rfl, ?_⟩) (args_list_sort _)))
  exact wpAny_pure ⟨_, rfl, k out hs hb⟩
end
section
variable {K : PySem.W.Frag} {X : Cx}
def ins1 (x : Int) : List Int → List Int
  | [] => [x]
  | y :: l => if x ≤ y then x :: y :: l else y :: ins1 x l
def isort : List Int → List Int
  | [] => []
  | x :: l => ins1 x (isort l)
theorem ins1_perm (x : Int) : ∀ l, (ins1 x l).Perm (x :: l)
  | [] => .refl _
  | y :: l => by
    unfold ins1
    split
    · exact .refl _
    · exact ((ins1_perm x l).cons y).trans (.swap x y l)
theorem isort_perm : ∀ l, (isort l).Perm l
  | [] => .refl _
  | x :: l => (ins1_perm x _).trans ((isort_perm l).cons x)
theorem ins1_sorted (x : Int) : ∀ {l : List Int}, l.Pairwise (· ≤ ·) → (ins1 x l).Pairwise (· ≤ ·)
  | [], _ => by simp [ins1]
  | y :: l, h => by
    obtain ⟨h1, h2⟩ := List.pairwise_cons.mp h
    unfold ins1
    split
    · rename_i hxy
      refine List.pairwise_cons.mpr ⟨fun z hz => ?_, h⟩
      rcases List.mem_cons.mp hz with rfl | hz
      · exact hxy
      · exact Int.le_trans hxy (h1 z hz)
    · rename_i hxy
      refine List.pairwise_cons.mpr ⟨fun z hz => ?_, ins1_sorted x h2⟩
      rcases List.mem_cons.mp ((ins1_perm x l).mem_iff.mp hz) with rfl | hz
      · omega
      · exact h1 z hz
theorem isort_sorted : ∀ l : List Int, (isort l).Pairwise (· ≤ ·)
  | [] => .nil
  | x :: l => ins1_sorted x (isort_sorted l)
theorem sorted_uniq : ∀ {a b : List Int}, a.Perm b → a.Pairwise (· ≤ ·) → b.Pairwise (· ≤ ·) → a = b
  | [], b, h, _, _ => by simp at h; exact h.symm
  | x :: a, [], h, _, _ => by simp at h
  | x :: a, y :: b, h, ha, hb => by
    obtain ⟨a1, a2⟩ := List.pairwise_cons.mp ha
    obtain ⟨b1, b2⟩ := List.pairwise_cons.mp hb
    have hx : x ∈ y :: b := h.mem_iff.mp List.mem_cons_self
    have hy : y ∈ x :: a := h.mem_iff.mpr List.mem_cons_self
    have e : x = y := by
      rcases List.mem_cons.mp hx with e | hx
      · exact e
      · rcases List.mem_cons.mp hy with e | hy
        · exact e.symm
        · have := a1 y hy; have := b1 x hx; omega
    subst e
    rw [sorted_uniq (List.Perm.cons_inv h) a2 b2]
def sortG : D → Option (D × Bool)
  | .lst l => (isInts l).map fun ns => (.lst ((isort ns).map .int), true)
  | .tup l => (isInts l).map fun ns => (.lst ((isort ns).map .int), true)
  | _ => none
theorem cd_sorted (hK : X.K = K) : CallR X (.builtin "sorted") (OpN K (un1 sortG)) := by
  subst hK
  intro pins s σ H xs us Q I r h
  obtain ⟨Z, ds, q, sub, ho, e, hq⟩ := h
  replace e := un1_inv e
  obtain ⟨d, rfl, e⟩ := e
  obtain ⟨x, _, rfl, hx, e0⟩ := ho.inv
  cases e0
  cases d with
  | lst l =>
    simp only [sortG] at e
    cases ei : isInts l with
    | none => rw [ei] at e; cases e
    | some ns =>
      rw [ei] at e; cases e
      obtain ⟨a, xs, rfl, h1, r1⟩ := hx.lst sub
      have el := isInts_map ei
      subst el
      have ex := r1.ints
      subst ex
      refine cr_sortedI pins s σ H _ us Q I r ⟨a, ns, rfl, h1, fun ns' p hp hs hn => ?_⟩
      have : ns' = isort ns := sorted_uniq (hp.trans (isort_perm ns).symm) hs (isort_sorted ns)
      subst this
      exact hq.lst sub (RpL.of_ints _) hn
  | tup l =>
    simp only [sortG] at e
    cases ei : isInts l with
    | none => rw [ei] at e; cases e
    | some ns =>
      rw [ei] at e; cases e
      obtain ⟨a, xs, rfl, h1, _, r1⟩ := hx.tup sub
      have el := isInts_map ei
      subst el
      have ex := r1.ints
      subst ex
      obtain ⟨its, rv, hl, hz⟩ := I.tuple h1
      rw [Vals.ref1 r]
      have hi := rv.ints
      refine sortedT_raw SrtO.swo_int hl (by rw [← rv.length]; exact hz) (fun h2 h₁ a' => SrtO.ints_sortable hi h2) fun out q1 q2 => ?_
      obtain ⟨k1, k2, k3⟩ := SrtO.ints_out hi q1 q2
      have e2 : out.map SrtO.iv = isort ns := sorted_uniq (k2.trans (isort_perm ns).symm) k3 (isort_sorted ns)
      obtain ⟨ep, he⟩ := PyProof.Rows.sortedAll_at s.heap its out.toArray
      have hl2 : ((isort ns).map V.int).length ≤ sizeLine := by
        rw [List.length_map, (isort_perm ns).length_eq]
        rw [List.length_map] at hz
        exact hz
      rw [e2] at k1
      refine ⟨.ref _, upd H (s.heap.objs.size + 1) (.lst ((isort ns).map V.int)), I.laid (t' := s.toks) (fun _ _ => PyProof.Rows.sortedAll_old) (Nat.le_succ _) ⟨hl2, out, ep, vals_of_ints k1, he⟩, rfl, ?_⟩
      exact hq.lst sub (RpL.of_ints _) (I.hok.fresh (Nat.le_succ _))
  | _ => cases e
end
section
variable {p : Pl} {e : Expr} {fs : List SE} {q pos : Pos}
theorem de_sorted (b : BI p.mg) (ha : DA p [e] fs) (hg : Glo p "sorted" := by rfl) : DE p (.Call (.Name "sorted" q) [e] [] pos) (eN (un1 sortG) fs) := de_callB (fun X c => cd_sorted c.hK) b.sorted (by decide +kernel) hg ha
end
/-! ### two names at once, the first takes a new list -/
def sParO (i j : Nat) (fs : List SE) : S := sM (eAll fs) fun rs => match rs with
  | [.v d true, .v e false] => sSeq (sPut i (.v d true)) (sPut j (.v e false))
  | _ => sNo
section
variable {p : Pl} {pos : Pos}
theorem AftS.putR {K : PySem.W.Frag} {W : WX} {N : Ends} {B : Bd} {Z H : Hp} {σ : L2.St} {σD : Fr} {v : V} {r : R} {i : Nat} {t : S} (s : Sta K B Z σD σ H) (q : RR K B Z σD σ H r v) (h : AftS K W N B Z H (sSeq (sPut i r) t σD)) :
    ∃ Z' σD', Sta K B Z' σD' (σ.set i (some v)) H ∧ Ext B Z H Z' H ∧ AftS K W N B Z' H (t σD') := by
  unfold sSeq at h
  cases e : sPut i r σD with
  | none => rw [e] at h; exact h.elim
  | some o =>
    obtain ⟨fl, σD'⟩ := o
    rw [e] at h
    unfold sPut at e
    cases e2 : Ev.put i r σD with
    | none => rw [e2] at e; cases e
    | some σ2 =>
      rw [e2] at e
      cases e
      obtain ⟨Z', s', x'⟩ := put_ok s q e2
      exact ⟨Z', _, s', x', AftS.back x' h⟩
theorem ds_parO (i j : Nat) {x y : Str} {a b : Expr} {px py pt : Pos} {kt k2 pt2} {fs : List SE} (ha : DA p [a, b] fs) (hi : p.N[i]? = some x := by rfl) (hj : p.N[j]? = some y := by rfl) (hij : i ≠ j := by decide)
    (hx : p.sc.names.lookup x = some .local := by rfl) (hy : p.sc.names.lookup y = some .local := by rfl)
    (hw : ∀ env : Env, env.scope = p.sc → swappedStores [.Tuple [.Name x px, .Name y py] kt pt] (.Tuple [a, b] k2 pt2) env = pure (some [x, y]) := by rintro ⟨⟩ rfl; rfl)
    (hs : ∀ env : Env, env.scope = p.sc → swapsWithSole [.Tuple [.Name x px, .Name y py] kt pt] (.Tuple [a, b] k2 pt2) pos.line env = pure false := by intro _ _; rfl) :
    DS p (.Assign [.Tuple [.Name x px, .Name y py] kt pt] (.Tuple [a, b] k2 pt2) pos) (sParO i j fs) := fun X W c tk =>
  PS_imp (ps_par (i := i) (j := j) c.calm (by rw [c.hN]; exact c.nd) (by rw [c.hN]; exact hi) (by rw [c.hN]; exact hj) hij (by rw [c.hsc]; exact hx) (by rw [c.hsc]; exact hy) (ha.run X W c tk) (hw X.env c.hsc) (hs X.env c.hsc)) fun D σ H h => by
    obtain ⟨B, Z, σD, s, h⟩ := h
    refine ⟨B, Z, σD, s, h.m.imp fun rs Z' σD' H' s' x q vs hv => ?_⟩
    split at q
    · rename_i d e
      obtain ⟨v, t, rfl, h1, h2⟩ := hv
      obtain ⟨w, t, rfl, h3, h4⟩ := h2
      cases h4
      obtain ⟨Z2, σD2, s2, x2, q⟩ := AftS.putR s' h1 q
      have h3' : RR p.K B Z2 σD2 (σ.set i (some v)) H' (.v e false) w := Rp.mono x2.sub h3
      have q : AftS p.K W D B Z2 H' (sSeq (sPut j (.v e false)) sNx σD2) := by rw [sSeq_nx]; exact q
      obtain ⟨Z3, σD3, s3, x3, q⟩ := AftS.putR s2 h3' q
      exact ⟨v, w, rfl, q.nx s3⟩
    · exact q.elim
end
section
variable {σ : Fr} {Q : Fl → Fr → Prop}
def parOK (i j : Nat) (rs : List R) : S := match rs with
  | [.v d true, .v e false] => sSeq (sPut i (.v d true)) (sPut j (.v e false))
  | _ => sNo
@[simp] theorem ws_parO {i j : Nat} {fs : List SE} : wpS (sParO i j fs) σ Q ↔ wpM (eAll fs) σ (fun rs σ1 => wpS (parOK i j rs) σ1 Q) (fun c σ1 => Q (.ex c) σ1) := by unfold sParO; exact ws_m
@[simp] theorem ws_parOK {i j : Nat} {d e : D} : wpS (parOK i j [.v d true, .v e false]) σ Q ↔ wpS (sSeq (sPut i (.v d true)) (sPut j (.v e false))) σ Q := ⟨id, id⟩
end
end Ev

set_option Elab.async false
set_option linter.all false
set_option maxRecDepth 100000
set_option maxHeartbeats 4000000
/-! Ev, part ZB: dict of a list of pairs whose keys are tuples. -/
namespace Ev
open PySem PySem.Spec PyProof.Rows L2
/-- a pair as it lies in the heap: its place, the key, the key's place, the value -/
structure Pr where
  t : Addr
  k : List Key
  b : Addr
  y : V
def mergeT (kvs : List (List Key × V)) (l : List Pr) : List (List Key × V) := l.foldl (fun acc p => putK acc p.k p.y) kvs
theorem mergeT_len : ∀ (l : List Pr) (kvs : List (List Key × V)), (mergeT kvs l).length ≤ kvs.length + l.length
  | [], kvs => by show kvs.length ≤ kvs.length + 0; omega
  | p :: l, kvs => by
    have h1 := mergeT_len l (putK kvs p.k p.y)
    have h2 := length_putK kvs p.k p.y
    show (mergeT (putK kvs p.k p.y) l).length ≤ _
    rw [List.length_cons]; omega
section
variable {X : Cx}
theorem prs_of {pins : List (Addr × Obj)} {σ : L2.St} {H : Hp} {s : Shared} (I : Inv X pins σ H s) : ∀ {l : List Pr}, (∀ p ∈ l, SqT X.K H p.t [.ref p.b, p.y]) → ∃ us : List Value, us.length = l.length ∧ ∀ (j : Nat) (p : Pr), l[j]? = some p → ∃ u, us[j]? = some u ∧ RelV p.y u ∧ s.heap.IsTuple p.t #[.ref p.b, u]
  | [], _ => ⟨[], rfl, fun j p e => by simp at e⟩
  | p :: l, h => by
    obtain ⟨us, hl, hp⟩ := prs_of I (l := l) fun q hq => h q (List.mem_cons_of_mem _ hq)
    obtain ⟨its, rv, ht, _⟩ := I.tuple (h p List.mem_cons_self)
    obtain ⟨u, y, ei, ru, ry⟩ := vals2 rv
    subst ei
    cases (show u = Value.ref p.b from ru)
    refine ⟨y :: us, by simp [hl], fun j q e => ?_⟩
    cases j with
    | zero => cases e; exact ⟨y, rfl, ry, ht⟩
    | succ j => exact hp j q (by simpa using e)
theorem KT.mergeT {H : Hp} : ∀ {l : List Pr} {us : List Value} {kvs : List (List Key × V)} {xs : List (List Key × Addr × Value)}, us.length = l.length → (∀ (j : Nat) (p : Pr), l[j]? = some p → ∃ u, us[j]? = some u ∧ RelV p.y u ∧ H p.b = some (.tup (p.k.map kV))) → KT H kvs xs →
    KT H (mergeT kvs l) (storedAllH xs (List.zipWith (fun p u => (p.k, p.b, u)) l us))
  | [], _, _, _, _, _, r => by simpa [Ev.mergeT, storedAllH] using r
  | p :: l, [], _, _, hl, _, _ => by simp at hl
  | p :: l, u :: us, kvs, xs, hl, h, r => by
    obtain ⟨u', e, ry, hb⟩ := h 0 p rfl
    cases e
    have := KT.mergeT (l := l) (us := us) (by simpa using hl) (fun j q e => by
      obtain ⟨w, e1, e2, e3⟩ := h (j + 1) q (by simpa using e)
      exact ⟨w, by simpa using e1, e2, e3⟩) (r.put p.k hb ry)
    exact this
theorem call_dictTP (hcalm : X.calm = true) (hu : X.A.units + 8 < cLine) : CallR X (.type "dict") (fun xs H Q => ∃ (a : Addr) (l : List Pr), xs = [.ref a] ∧ SqL X.K H a (l.map fun p => V.ref p.t) ∧ (∀ p ∈ l, SqT X.K H p.t [.ref p.b, p.y] ∧ H p.b = some (.tup (p.k.map kV))) ∧
    ∀ q, H q = none → Q (.ref q) (upd H q (.dT (mergeT [] l)))) := by
  intro pins s σ H xs us0 Q I r q
  obtain ⟨a, l, ex, hq, hp, q⟩ := q
  subst ex
  obtain ⟨u, eu, rx⟩ := vals1 r
  subst eu
  cases rx
  obtain ⟨its, rv, pl, hz⟩ := I.list hq
  have el : (l.map fun p => V.ref p.t) = (l.map (·.t)).map V.ref := by rw [List.map_map]; rfl
  rw [el] at rv
  have ei := refs_at rv
  subst ei
  rw [List.length_map] at hz
  obtain ⟨us, hl, hpr⟩ := prs_of I fun p hpm => (hp p hpm).1
  obtain ⟨o, n, ho, hc, hd, hdat⟩ := pl
  have hzl : (List.zipWith (fun (p : Pr) u => (p.k, p.b, u)) l us).length = l.length := by rw [List.length_zipWith, hl]; omega
  have hzv : (List.zipWith (fun (p : Pr) u => (Value.ref p.b, u)) l us).length = l.length := by rw [List.length_zipWith, hl]; omega
  have at1 : ∀ (i : Nat) (p : Pr) (u : Value), l[i]? = some p → us[i]? = some u → (List.zipWith (fun (p : Pr) u => (p.k, p.b, u)) l us)[i]? = some (p.k, p.b, u) := fun i p u e1 e2 => by rw [List.getElem?_zipWith, e1, e2]
  refine call_dict_pairsH (knd := tupleKind (mixKind X.prog X.w)) (ps := List.zipWith (fun (p : Pr) u => (p.k, p.b, u)) l us) (PairArg.list a ((l.map (·.t)).map Value.ref).toArray (fun j => (l.map (·.t)).getD j 0) (List.zipWith (fun (p : Pr) u => (Value.ref p.b, u)) l us))
    (I.ok.hd hcalm) (show X.A.units + 1 + 1 < cLine by omega) ⟨⟨o, n, ho, hc, hd, hdat⟩, ?_, fun j k v e => ?_⟩ ⟨hzl.trans hzv.symm, fun i key v e => ?_⟩ (fun h' hk x hx => ?_) (by rw [hzv]; exact hz) fun h' tk dd k => ?_
  · rw [hzv]; simp
  · rw [List.getElem?_zipWith] at e
    cases e1 : l[j]? with
    | none => rw [e1] at e; simp at e
    | some p =>
      obtain ⟨u, e2, _, ht⟩ := hpr j p e1
      rw [e1, e2] at e
      cases e
      refine ⟨by simp [e1], ?_⟩
      have : (l.map (·.t)).getD j 0 = p.t := by simp [List.getD_eq_getElem?_getD, e1]
      show PairAt s.heap ((l.map (·.t)).getD j 0) _ _
      rw [this]
      exact .inl ht
  · have e : (List.zipWith (fun (p : Pr) u => (Value.ref p.b, u)) l us)[i]? = some (key, v) := e
    rw [List.getElem?_zipWith] at e
    cases e1 : l[i]? with
    | none => rw [e1] at e; simp at e
    | some p =>
      obtain ⟨u, e2, _, ht⟩ := hpr i p e1
      rw [e1, e2] at e
      cases e
      exact ⟨p.k, p.b, at1 i p _ e1 e2, rfl⟩
  · obtain ⟨i, hi⟩ := List.mem_iff_getElem?.mp hx
    rw [List.getElem?_zipWith] at hi
    cases e1 : l[i]? with
    | none => rw [e1] at hi; simp at hi
    | some p =>
      obtain ⟨u, e2, _, _⟩ := hpr i p e1
      rw [e1, e2] at hi
      cases hi
      have hm := List.mem_of_getElem? e1
      obtain ⟨o2, it2, n2, g1, g2⟩ := key_of I.hok (hp p hm).2
      exact ⟨o2, it2, n2, hk _ _ (Nat.ne_of_lt (Heap.lt_size g1)) (by simp) g1, g2⟩
  · have hm : (s.heap.objs.size == sysModules) = false := beq_eq_false_iff_ne.mpr (Nat.ne_of_gt I.big)
    have hlen : (mergeT [] l).length ≤ sizeLine := Nat.le_trans (mergeT_len l []) (by rw [List.length_nil, Nat.zero_add]; exact hz)
    have hn := I.hok.fresh (Nat.le_refl s.heap.objs.size)
    have rel : KT H (mergeT [] l) (storedAllH [] (List.zipWith (fun (p : Pr) u => (p.k, p.b, u)) l us)) := KT.mergeT hl (fun j p e => by
      obtain ⟨u, e1, e2, _⟩ := hpr j p e
      exact ⟨u, e1, e2, (hp p (List.mem_of_getElem? e)).2⟩) .nil
    obtain ⟨o3, es, ep, f1, f2, f3, f4, _, f6⟩ := dd
    exact ⟨.ref s.heap.objs.size, upd H s.heap.objs.size (.dT (mergeT [] l)), I.laid (t' := tk) (fun b o e => k b o (by simp) e) (Nat.le_refl _) (show ObjOk X.prog X.w _ _ _ (.dT (mergeT [] l)) from ⟨hlen, hm, _, rel.keeps (fun c ys ec => by
      rw [upd_ne fun z => by rw [z, hn] at ec; cases ec]
      exact ec), o3, es, ep, f1, f2, f3, f4, f6⟩), rfl, q _ hn⟩
end
/-! ### on trees -/
def prD : D → Option (D × D)
  | .tup [.tup kl, d] => if (keyT kl).isSome = true then some (.tup kl, d) else none
  | _ => none
def prsD : List D → Option (List (D × D))
  | [] => some []
  | x :: l => match prD x, prsD l with
    | some p, some r => some (p :: r)
    | _, _ => none
def dicM (acc ps : List (D × D)) : List (D × D) := ps.foldl (fun acc p => dputL acc p.1 p.2) acc
def dictTG : D → Option (D × Bool)
  | .lst l => (prsD l).map fun ps => (.dic (dicM [(.non, .non)] ps), true)
  | _ => none
section
variable {K : PySem.W.Frag} {Z H : Hp}
theorem prD_inv {x : D} {p : D × D} (h : prD x = some p) : ∃ kl q, x = .tup [.tup kl, p.2] ∧ p.1 = .tup kl ∧ keyT kl = some q := by
  unfold prD at h
  split at h
  · split at h
    · rename_i kl d hk
      obtain ⟨q, eq⟩ := Option.isSome_iff_exists.mp hk
      cases h
      exact ⟨kl, q, rfl, rfl, eq⟩
    · cases h
  · cases h
theorem prs_rp (sub : Sub Z H) : ∀ {l : List D} {ps : List (D × D)} {xs : List V} {r : List (D × D)} {ks : List (List Key × V)}, prsD l = some ps → RpL K Z l xs → RpT K Z r ks →
    ∃ L : List Pr, xs = (L.map fun p => V.ref p.t) ∧ (∀ p ∈ L, SqT K H p.t [.ref p.b, p.y] ∧ H p.b = some (.tup (p.k.map kV))) ∧ RpS K Z (dicM ((.non, .non) :: r) ps) (mergeT ks L)
  | [], ps, xs, r, ks, h, rl, rt => by
    cases h
    have := rl.inv0
    subst this
    exact ⟨[], rfl, fun p hp => (by cases hp), by simp only [dicM, mergeT, List.foldl_nil, RpS]; exact ⟨trivial, trivial, rt⟩⟩
  | x :: l, ps, xs, r, ks, h, rl, rt => by
    unfold prsD at h
    obtain ⟨v, ys, rfl, r1, r2⟩ := rl.inv
    cases e1 : prD x with
    | none => rw [e1] at h; cases h
    | some p =>
      cases e2 : prsD l with
      | none => rw [e1, e2] at h; cases h
      | some ps' =>
        rw [e1, e2] at h
        cases h
        obtain ⟨kl, q, rfl, ep, eq⟩ := prD_inv e1
        obtain ⟨t, ws, rfl, ht, _, rw2⟩ := RO.tup sub (show RO K Z H _ _ from .inl r1)
        obtain ⟨kv, t2, rfl, k1, k2⟩ := rw2.inv
        obtain ⟨y, t3, rfl, y1, y2⟩ := k2.inv
        cases y2.inv0
        obtain ⟨b, us, rfl, _, hb, ru⟩ := RO.tup sub (show RO K Z H _ _ from .inl k1)
        have eu := rp_keys eq ru
        subst eu
        have key := prs_rp sub (r := dputL r (.tup (q.map kD)) p.2) (ks := putK ks q y) e2 r2 (rpT_put q y1 rt)
        obtain ⟨L, e3, e4, e5⟩ := key
        refine ⟨⟨t, q, b, y⟩ :: L, by rw [e3]; rfl, fun p' hp' => ?_, ?_⟩
        · rcases List.mem_cons.mp hp' with e | hp'
          · subst e; exact ⟨ht, sub _ _ hb⟩
          · exact e4 p' hp'
        · have e6 : dicM ((.non, .non) :: r) (p :: ps') = dicM ((.non, .non) :: dputL r (.tup (q.map kD)) p.2) ps' := by
            show dicM (dputL ((.non, .non) :: r) p.1 p.2) ps' = _
            rw [ep, keyT_kD eq, dputL_T]
          rw [e6]
          exact e5
end
section
variable {X : Cx} {K : PySem.W.Frag}
theorem cd_dictT (hK : X.K = K) (hc : X.calm = true) (hu : X.A.units + 8 < cLine) : CallR X (.type "dict") (OpN K (un1 dictTG)) := by
  subst hK
  intro pins s σ H xs us Q I r h
  obtain ⟨Z, ds, q, sub, ho, e, hq⟩ := h
  replace e := un1_inv e
  obtain ⟨d, rfl, e⟩ := e
  obtain ⟨x, _, rfl, hx, e0⟩ := ho.inv
  cases e0
  cases d with
  | lst l =>
    simp only [dictTG] at e
    cases ei : prsD l with
    | none => rw [ei] at e; cases e
    | some ps =>
      rw [ei] at e; cases e
      obtain ⟨a, xs, rfl, h1, r1⟩ := hx.lst sub
      obtain ⟨L, rfl, e4, e5⟩ := prs_rp (H := H) sub (r := []) (ks := []) ei r1 (by simp [RpT])
      refine call_dictTP hc hu pins s σ H _ us Q I r ⟨a, L, rfl, h1, e4, fun p hp => ?_⟩
      exact hq _ _ _ (Grow.own sub hp) ⟨p, rfl, hp, sub.none hp, .inr ⟨_, upd_same, e5⟩⟩
  | _ => cases e
end
section
variable {p : Pl} {e : Expr} {fs : List SE} {q pos : Pos}
theorem de_dictT (b : BI p.mg) (ha : DA p [e] fs) (hg : Glo p "dict" := by rfl) : DE p (.Call (.Name "dict" q) [e] [] pos) (eN (un1 dictTG) fs) := de_callT (fun X c => cd_dictT c.hK c.calm (by have := c.room.un; omega)) b.dict (by decide +kernel) hg ha
end
end Ev

set_option Elab.async false
set_option linter.all false
set_option maxRecDepth 100000
set_option maxHeartbeats 4000000
/-! Ev, part ZC: list(zip(a, b)), two lists. -/
namespace Ev
open PySem PySem.Spec PyProof.Rows L2
section
variable {prog : Program} {w : World} {A : Around} {R : Result → Shared → Prop} {z TI TO i1 i2 l1 l2 S : Addr} {xs ys : Array Value}
/-- the zip at its i-th turn -/
def ZAt (z TI TO i1 i2 l1 l2 : Addr) (xs ys : Array Value) (S : Addr) (i : Nat) (h : Heap) : Prop :=
  IsPair h TI (.ref i1) (.ref i2) ∧ h.IsListIter i1 l1 i ∧ h.IsListIter i2 l2 i ∧ h.IsList l1 xs ∧ h.IsList l2 ys ∧ (∃ o, h.get? TO = some o) ∧
  ((IsZip h z TI TO .none ∧ ∃ a b, IsPair h TO a b) ∨ ∃ T f oT, IsZipHeld h z TI TO T f ∧ h.get? T = some oT ∧ T ≠ z ∧ T ≠ i1 ∧ T ≠ i2 ∧ T ≠ S)
/-- what was given out so far -/
def Given (bad : List Addr) (n0 : Nat) (xs ys : Array Value) (h : Heap) (L : List Addr) : Prop :=
  L.Nodup ∧ ∀ (j : Nat) (T : Addr), L[j]? = some T → T ∉ bad ∧ n0 ≤ T ∧ ∃ x y, xs[j]? = some x ∧ ys[j]? = some y ∧ IsPair h T x y
theorem Given.keep {bad : List Addr} {n0 : Nat} {h h' : Heap} {L : List Addr} (g : Given bad n0 xs ys h L) (k : ∀ b o, b ∉ bad → h.get? b = some o → h'.get? b = some o) : Given bad n0 xs ys h' L :=
  ⟨g.1, fun j T e => let ⟨a, b, x, y, e1, e2, e3⟩ := g.2 j T e; ⟨a, b, x, y, e1, e2, k _ _ a e3⟩⟩
theorem Given.push {bad : List Addr} {n0 : Nat} {h : Heap} {L : List Addr} {x y : Value} {T : Addr} (g : Given bad n0 xs ys h L) (hT : T ∉ bad) (hn : n0 ≤ T) (hx : xs[L.length]? = some x) (hy : ys[L.length]? = some y) (hp : IsPair h T x y) (hnew : T ∉ L) : Given bad n0 xs ys h (L ++ [T]) := by
  refine ⟨List.nodup_append.mpr ⟨g.1, by simp, fun a ha b hb => ?_⟩, fun j T' e => ?_⟩
  · rw [List.mem_singleton.mp hb]; exact fun z => hnew (z ▸ ha)
  · by_cases hj : j < L.length
    · rw [List.getElem?_append_left hj] at e; exact g.2 j T' e
    · rw [List.getElem?_append_right (Nat.le_of_not_lt hj)] at e
      have h0 : j - L.length = 0 := by
        cases q : j - L.length with
        | zero => rfl
        | succ m => rw [q] at e; simp at e
      rw [h0] at e
      cases e
      have : j = L.length := by omega
      subst this
      exact ⟨hT, hn, x, y, hx, hy, hp⟩
theorem zl_loop (D : ZipApart z TI TO i1 i2 l1 l2) (hh : A.in1.handled = none) (hS : S ∉ [z, TI, TO, i1, i2, l1, l2]) (n0 : Nat) (res : Value) (hsz : min xs.size ys.size ≤ sizeLine) :
    ∀ (k : Nat) (s : Shared) (L : List Addr) (c : Nat), min xs.size ys.size - L.length = k → L.length ≤ min xs.size ys.size → n0 ≤ s.heap.objs.size → ZAt z TI TO i1 i2 l1 l2 xs ys S L.length s.heap → Given [z, TO, i1, i2, S] n0 xs ys s.heap L →
      s.heap.get? S = some { cls := .type "list", dict := none, data := .seq (L.map Value.ref).toArray c, slots := #[] } →
      (∀ h' L' c', (∀ b o, b ∉ [z, TO, i1, i2, S] → s.heap.get? b = some o → h'.get? b = some o) → h'.get? S = some { cls := .type "list", dict := none, data := .seq (L'.map Value.ref).toArray c', slots := #[] } → L'.length = min xs.size ys.size → Given [z, TO, i1, i2, S] n0 xs ys h' L' → R (.ok (.ret res)) { s with heap := h' }) →
      codeAny (model prog w) A (.builtin "list.extend.loop" ⟨[.ref S, .ref z, res], []⟩) R s := by
  intro k
  simp only [List.mem_cons, List.not_mem_nil, or_false, not_or] at hS
  obtain ⟨Sz, STI, STO, Si1, Si2, Sl1, Sl2⟩ := hS
  have lt : ∀ {h : Heap} {c o}, h.get? c = some o → h.objs.size ≠ c := fun e => Nat.ne_of_gt (Heap.lt_size e)
  induction k with
  | zero =>
    intro s L c hk hi hn st g hL hR
    have hLn : L.length = min xs.size ys.size := by omega
    refine codeAny_builtin F.entry_extend_loop ?_
    rw [Around.under_plainId F.plain_extend_loop _]
    show wpAny _ A.in1 (pyNext (.ref z) >>= _) _ _ s
    obtain ⟨hTI, h1, h2, hl1, hl2, ⟨oTO, gTO⟩, hz⟩ := st
    have hend : xs[L.length]? = none ∨ ys[L.length]? = none := by
      rcases Nat.le_total xs.size ys.size with h | h
      · exact .inl (Array.getElem?_eq_none (by rw [hLn, Nat.min_eq_left h]; exact Nat.le_refl _))
      · exact .inr (Array.getElem?_eq_none (by rw [hLn, Nat.min_eq_right h]; exact Nat.le_refl _))
    have fin : ∀ h', (∀ b o, b ∉ [z, TO, i1, i2] → s.heap.get? b = some o → h'.get? b = some o) → R (.ok (.ret res)) { s with heap := h' } := fun h' kp => by
      have kp' : ∀ b o, b ∉ [z, TO, i1, i2, S] → s.heap.get? b = some o → h'.get? b = some o := fun b o hb e => kp b o (fun q => hb (by simp only [List.mem_cons, List.not_mem_nil, or_false] at q ⊢; rcases q with q | q | q | q <;> simp [q])) e
      exact hR h' L c kp' (kp S _ (by simp [Sz, STO, Si1, Si2]) hL) hLn (g.keep kp')
    rcases hz with ⟨hz, a, b, hTO⟩ | ⟨T, f, oT, hz, hT, r1, r2, r3, r4⟩
    · refine wpAny_bind (wpAny_pyNext_zip_end hh D hz hTI hTO h1 h2 hl1 hl2 hend fun h' kp => wpAny_pure (fin h' fun b o hb e => ?_))
      simp only [List.mem_cons, List.not_mem_nil, or_false, not_or] at hb
      exact kp b o hb.1 hb.2.1 hb.2.2.1 hb.2.2.2 e
    · refine wpAny_bind (wpAny_pyNext_zip_end_held hh D hz hT hTI h1 h2 hl1 hl2 hend fun h' kp => wpAny_pure (fin h' fun b o hb e => ?_))
      simp only [List.mem_cons, List.not_mem_nil, or_false, not_or] at hb
      exact kp b o hb.1 hb.2.2.1 hb.2.2.2 e
  | succ k ih =>
    intro s L c hk hi hn st g hL hR
    have hlt : L.length < min xs.size ys.size := by omega
    refine codeAny_builtin F.entry_extend_loop ?_
    rw [Around.under_plainId F.plain_extend_loop _]
    show wpAny _ A.in1 (pyNext (.ref z) >>= _) _ _ s
    obtain ⟨hTI, h1, h2, hl1, hl2, ⟨oTO, gTO⟩, hz⟩ := st
    have ex := Array.getElem?_eq_getElem (Nat.lt_of_lt_of_le hlt (Nat.min_le_left ..))
    have ey := Array.getElem?_eq_getElem (Nat.lt_of_lt_of_le hlt (Nat.min_le_right ..))
    have n1 : s.heap.objs.size ≠ i1 := let ⟨_, e, _⟩ := h1; lt e
    have n2 : s.heap.objs.size ≠ i2 := let ⟨_, e, _⟩ := h2; lt e
    have nS : s.heap.objs.size ≠ S := lt hL
    have nL : s.heap.objs.size ∉ L := fun hm => by
      obtain ⟨j, e⟩ := List.mem_iff_getElem?.mp hm
      obtain ⟨_, _, _, _, _, _, e3⟩ := g.2 j _ e
      exact lt e3 rfl
    have step : ∀ (h' : Heap) (x y : Value) (nz : s.heap.objs.size ≠ z) (nTO : s.heap.objs.size ≠ TO), xs[L.length]? = some x → ys[L.length]? = some y → (∃ f, IsZipHeld h' z TI TO s.heap.objs.size f ∨ ∃ T oT, IsZipHeld h' z TI TO T f ∧ h'.get? T = some oT ∧ T ≠ z ∧ T ≠ i1 ∧ T ≠ i2 ∧ T ≠ S) → h'.IsListIter i1 l1 (L.length + 1) → h'.IsListIter i2 l2 (L.length + 1) → IsPair h' s.heap.objs.size x y → h'.objs.size = s.heap.objs.size + 1 → (∃ o, h'.get? TO = some o) →
        (∀ b o, b ∉ [z, TO, i1, i2] → s.heap.get? b = some o → h'.get? b = some o) →
        wpAny (model prog w) A.in1 (do Builtin.List.listUpdate (.ref S) (·.push (.ref s.heap.objs.size)); again (.builtin "list.extend.loop" ⟨[.ref S, .ref z, res], []⟩)) (fun fin s' => match fin with | .done f => R (.ok f) s' | .again c' => c'.quiet = true ∧ codeAny (model prog w) A c' R s') (fun e s' => R (.error e) s') { s with heap := h' } := by
      intro h' x y nz nTO e1 e2 hz' a3 a4 a5 a6 ⟨oT', gT'⟩ kp
      have kp' : ∀ b o, b ∉ [z, TO, i1, i2, S] → s.heap.get? b = some o → h'.get? b = some o := fun b o hb e => kp b o (fun q => hb (by simp only [List.mem_cons, List.not_mem_nil, or_false] at q ⊢; rcases q with q | q | q | q <;> simp [q])) e
      have hS' := kp S _ (by simp [Sz, STO, Si1, Si2]) hL
      show wpAny _ A.in1 (updateSeq S (·.push (.ref s.heap.objs.size)) >>= _) _ _ _
      refine wpAny_bind ?_
      have up : ∀ b o, b ≠ S → h'.get? b = some o → (h'.update S (Obj.mapSeq (·.push (.ref s.heap.objs.size)))).get? b = some o := fun b o hb e => (Heap.get?_update_other _ _ (Ne.symm hb)).trans e
      have hS2 : (h'.update S (Obj.mapSeq (·.push (.ref s.heap.objs.size)))).get? S = some { cls := .type "list", dict := none, data := .seq ((L ++ [s.heap.objs.size]).map Value.ref).toArray (c + 1), slots := #[] } := by
        rw [Heap.get?_update_self _ hS' rfl]
        simp [Obj.mapSeq]
      refine wpAny_updateSeq hS' rfl (wpAny_pure ⟨plainId_quiet F.plain_extend_loop _, ih _ (L ++ [s.heap.objs.size]) _ (by simp; omega) (by simp; omega) ?_ ?_ ?_ hS2 fun h'' L' c' q1 q2 q3 q4 => ?_⟩)
        (by simp; omega) (by simp; omega)
      · show n0 ≤ (h'.update S _).objs.size
        rw [Heap.size_update, a6]; omega
      · rw [List.length_append, List.length_singleton]
        have hTI' : IsPair h' TI (.ref i1) (.ref i2) := kp _ _ (by simp [D.TIz, D.TITO, D.TIi1, D.TIi2]) hTI
        have hl1' : h'.IsList l1 xs := hl1.at fun o e => kp _ o (by simp [D.l1z, D.l1TO, D.l1i1, D.l1i2]) e
        have hl2' : h'.IsList l2 ys := hl2.at fun o e => kp _ o (by simp [D.l2z, D.l2TO, D.l2i1, D.l2i2]) e
        refine ⟨up _ _ (Ne.symm STI) hTI', a3.at fun o e => up _ o (Ne.symm Si1) e, a4.at fun o e => up _ o (Ne.symm Si2) e, hl1'.at fun o e => up _ o (Ne.symm Sl1) e, hl2'.at fun o e => up _ o (Ne.symm Sl2) e, ⟨oT', up _ _ (Ne.symm STO) gT'⟩, .inr ?_⟩
        obtain ⟨f, hz' | ⟨T, oT, hz', hT, r1, r2, r3, r4⟩⟩ := hz'
        · exact ⟨s.heap.objs.size, f, _, up _ _ (Ne.symm Sz) hz', up _ _ nS a5, nz, n1, n2, nS⟩
        · exact ⟨T, f, oT, up _ _ (Ne.symm Sz) hz', up _ _ r4 hT, r1, r2, r3, r4⟩
      · have g' := g.keep kp'
        have gp : Given [z, TO, i1, i2, S] n0 xs ys h' (L ++ [s.heap.objs.size]) := g'.push (by simp [nz, nTO, n1, n2, nS]) hn e1 e2 a5 nL
        exact gp.keep fun b o hb e => up b o (fun q => hb (by simp [q])) e
      · refine hR h'' L' c' (fun b o hb e => q1 b o hb (up b o (fun q => hb (by simp [q])) (kp' b o hb e))) q2 q3 q4
    rcases hz with ⟨hz, a, b, hTO⟩ | ⟨T, f, oT, hz, hT, r1, r2, r3, r4⟩
    · refine wpAny_bind (wpAny_pyNext_zip_item D hz hTI hTO h1 h2 hl1 hl2 ex ey fun h' a1 a2 a3 a4 a5 a6 kp => ?_)
      exact step h' _ _ (lt hz) (lt hTO) ex ey ⟨false, .inl a1⟩ a3 a4 a5 a6 ⟨_, a2⟩ fun b o hb e => by
        simp only [List.mem_cons, List.not_mem_nil, or_false, not_or] at hb
        exact kp b o hb.1 hb.2.1 hb.2.2.1 hb.2.2.2 e
    · refine wpAny_bind (wpAny_pyNext_zip_item_held D hz hT hTI h1 h2 hl1 hl2 ex ey fun h' a1 a3 a4 a5 a6 kp => ?_)
      exact step h' _ _ (lt hz) (lt gTO) ex ey ⟨true, .inr ⟨T, oT, a1, kp _ _ r1 r2 r3 hT, r1, r2, r3, r4⟩⟩ a3 a4 a5 a6 ⟨oTO, kp _ _ D.TOz D.TOi1 D.TOi2 gTO⟩ fun b o hb e => by
        simp only [List.mem_cons, List.not_mem_nil, or_false, not_or] at hb
        exact kp b o hb.1 hb.2.2.1 hb.2.2.2 e
end

theorem zip_no_len : typeLookup (.type "zip") "__len__" = pure none := by rw [typeLookup_type, builtinLookup_eq_fast]; kernel_rfl
theorem zip_no_hint : typeLookup (.type "zip") "__length_hint__" = pure none := by rw [typeLookup_type, builtinLookup_eq_fast]; kernel_rfl
section
variable {prog : Program} {w : World} {A : Around} {E : Value → Shared → Prop} {s : Shared} {z TI TO i1 i2 l1 l2 : Addr} {xs ys : Array Value}
theorem ZAt.upd {S : Addr} {i : Nat} {h h' : Heap} (st : ZAt z TI TO i1 i2 l1 l2 xs ys S i h) (hS : S ∉ [z, TI, TO, i1, i2, l1, l2]) (k : ∀ b o, b ≠ S → h.get? b = some o → h'.get? b = some o) : ZAt z TI TO i1 i2 l1 l2 xs ys S i h' := by
  simp only [List.mem_cons, List.not_mem_nil, or_false, not_or] at hS
  obtain ⟨Sz, STI, STO, Si1, Si2, Sl1, Sl2⟩ := hS
  obtain ⟨hTI, h1, h2, hl1, hl2, ⟨oTO, gTO⟩, hz⟩ := st
  refine ⟨k _ _ (Ne.symm STI) hTI, h1.at fun o e => k _ o (Ne.symm Si1) e, h2.at fun o e => k _ o (Ne.symm Si2) e, hl1.at fun o e => k _ o (Ne.symm Sl1) e, hl2.at fun o e => k _ o (Ne.symm Sl2) e, ⟨oTO, k _ _ (Ne.symm STO) gTO⟩, ?_⟩
  rcases hz with ⟨hz, a, b, hTO⟩ | ⟨T, f, oT, hz, hT, r1, r2, r3, r4⟩
  · exact .inl ⟨k _ _ (Ne.symm Sz) hz, a, b, k _ _ (Ne.symm STO) hTO⟩
  · exact .inr ⟨T, f, oT, k _ _ (Ne.symm Sz) hz, k _ _ r4 hT, r1, r2, r3, r4⟩
theorem ZAt.isZ {S : Addr} {i : Nat} {s : Shared} (st : ZAt z TI TO i1 i2 l1 l2 xs ys S i s.heap) : s.TypeIs (.ref z) "zip" := by
  obtain ⟨_, _, _, _, _, _, hz⟩ := st
  rcases hz with ⟨hz, _⟩ | ⟨_, _, _, hz, _⟩
  · exact ⟨_, hz, rfl⟩
  · exact ⟨_, hz, rfl⟩
theorem ZAt.iter {S : Addr} {i : Nat} {M : Model} {Q : Value → Shared → Prop} (st : ZAt z TI TO i1 i2 l1 l2 xs ys S i s.heap) (h : Q (.ref z) s) : wpAny (model prog w) A (pyIter (.ref z)) Q E s := by
  obtain ⟨_, _, _, _, _, _, hz⟩ := st
  rcases hz with ⟨hz, _⟩ | ⟨T, f, oT, hz, _⟩
  · exact wpAny_pyIter_zip hz h
  · have hT : s.TypeIs (.ref z) "zip" := ⟨_, hz, rfl⟩
    refine wpAny_pyIter_slot hT F.slot_zip_iter (wpAny_call_entry F.slot_zip_iter hT F.entry_zip_iter ?_ (F.args_zip_iter_1 _))
    show wpAny _ _ (ret (.ref z)) _ _ s
    exact wpAny_pure ⟨_, rfl, "zip", _, hT, F.slot_zip_next.lookup, h⟩
theorem zip_extend {R : Result → Shared → Prop} {S n0 : Addr} (hh : A.in1.handled = none) (D : ZipApart z TI TO i1 i2 l1 l2) (res : Value) (c0 : Nat) (st : ZAt z TI TO i1 i2 l1 l2 xs ys S 0 s.heap) (hSb : S ∉ [z, TI, TO, i1, i2, l1, l2]) (hn : n0 ≤ s.heap.objs.size) (hsz : min xs.size ys.size ≤ sizeLine)
    (g1 : s.heap.get? S = some { cls := .type "list", dict := none, data := .seq #[] c0, slots := #[] })
    (k : ∀ h' L c, (∀ b o, b ∉ [z, TO, i1, i2, S] → s.heap.get? b = some o → h'.get? b = some o) → h'.get? S = some { cls := .type "list", dict := none, data := .seq (L.map Value.ref).toArray c, slots := #[] } → L.length = min xs.size ys.size → Given [z, TO, i1, i2, S] n0 xs ys h' L → R (.ok (.ret res)) { s with heap := h' }) :
    wpAny (model prog w) A.in1 (Builtin.List.listExtendWith (.ref S) (.ref z) res)
      (fun fin s' => match fin with | .done f => R (.ok f) s' | .again c' => c'.quiet = true ∧ codeAny (model prog w) A c' R s') (fun e s' => R (.error e) s') s := by
  have hSz : S ≠ z := fun e => hSb (by rw [e]; simp)
  unfold Builtin.List.listExtendWith
  refine wpAny_bind (wpAny_typeOf st.isZ ?_)
  have b1 : Builtin.List.listSameRef (.ref S) (.ref z) = false := by simp [Builtin.List.listSameRef, hSz]
  have b2 : (Value.type "zip" == Value.type "list") = false := by decide
  have b3 : (Value.type "zip" == Value.type "tuple") = false := by decide
  simp only [b1, b2, b3, Bool.or_false, Bool.false_eq_true, if_false]
  refine wpAny_bind (st.iter (M := model prog w) ?_)
  refine wpAny_bind (wpAny_holding ?_)
  unfold Builtin.List.listLengthHint
  refine wpAny_bind (wpAny_specialOf st.isZ zip_no_len ?_)
  show wpAny _ _ (specialOf (Value.ref z) (Str.ofString "__length_hint__") >>= _) _ _ _
  refine wpAny_bind (wpAny_specialOf st.isZ zip_no_hint ?_)
  refine wpAny_pure ?_
  show wpAny _ _ (rule "list.extend.makes-room" >>= fun _ => Builtin.List.listTouch (.ref S) >>= fun _ => again (.builtin "list.extend.loop" ⟨[.ref S, .ref z, res], []⟩)) _ _ _
  refine wpAny_bind (wpAny_rule ?_)
  refine wpAny_bind ?_
  show wpAny _ _ (updateSeq S (·.push .none) >>= fun _ => updateSeq S (·.pop)) _ _ _
  refine wpAny_bind (wpAny_updateSeq g1 rfl ?_)
  have g2 := Heap.get?_update_self (Obj.mapSeq (·.push Value.none)) g1 rfl
  refine wpAny_updateSeq (hz := by seq_fits) g2 rfl ?_
  have g3 := Heap.get?_update_self (Obj.mapSeq (·.pop)) g2 rfl
  have kk : ∀ b o, b ≠ S → s.heap.get? b = some o → ((s.heap.update S (Obj.mapSeq (·.push Value.none))).update S (Obj.mapSeq (·.pop))).get? b = some o := fun b o hb e => (Heap.get?_update_other _ _ (Ne.symm hb)).trans ((Heap.get?_update_other _ _ (Ne.symm hb)).trans e)
  have hsize : n0 ≤ ((s.heap.update S (Obj.mapSeq (·.push Value.none))).update S (Obj.mapSeq (·.pop))).objs.size := by
    rw [Heap.size_update, Heap.size_update]; exact hn
  have s1 := st.upd hSb kk
  generalize (s.heap.update S (Obj.mapSeq (·.push Value.none))).update S (Obj.mapSeq (·.pop)) = hp at g3 kk hsize s1 ⊢
  refine wpAny_pure ⟨plainId_quiet F.plain_extend_loop _, zl_loop D hh hSb n0 res hsz _ _ [] (c0 + 1 + 1) rfl (Nat.zero_le _) hsize s1 ⟨List.nodup_nil, fun j T e => by simp at e⟩ (g3.trans ?_) fun h' L' c' q1 q2 q3 q4 => ?_⟩
  · simp [Obj.mapSeq]
  · exact k h' L' c' (fun b o hb e => q1 b o hb (kk b o (fun q => hb (by simp [q])) e)) q2 q3 q4
theorem zip_init {R : Result → Shared → Prop} {S n0 : Addr} (hh : A.in1.handled = none) (D : ZipApart z TI TO i1 i2 l1 l2) (st : ZAt z TI TO i1 i2 l1 l2 xs ys S 0 s.heap) (hSb : S ∉ [z, TI, TO, i1, i2, l1, l2]) (hn : n0 ≤ s.heap.objs.size) (hsz : min xs.size ys.size ≤ sizeLine)
    (g0 : s.heap.get? S = some { cls := .type "list", data := .seq #[] })
    (k : ∀ h' L c, (∀ b o, b ∉ [z, TO, i1, i2, S] → s.heap.get? b = some o → h'.get? b = some o) → h'.get? S = some { cls := .type "list", dict := none, data := .seq (L.map Value.ref).toArray c, slots := #[] } → L.length = min xs.size ys.size → Given [z, TO, i1, i2, S] n0 xs ys h' L → R (.ok (.ret .none)) { s with heap := h' }) :
    wpAny (model prog w) A.in1 (Builtin.«list.__init__» ⟨[.ref S, .ref z], []⟩)
      (fun fin s' => match fin with | .done f => R (.ok f) s' | .again c' => c'.quiet = true ∧ codeAny (model prog w) A c' R s') (fun e s' => R (.error e) s') s := by
  show wpAny _ A.in1 (do let old ← Builtin.List.listItems (.ref S); Builtin.List.listUpdate (.ref S) (fun _ => #[]); letGo old.toList.reverse; Builtin.List.listExtendWith (.ref S) (.ref z) .none) _ _ s
  refine wpAny_bind ?_
  unfold Builtin.List.listItems
  refine wpAny_bind (wpAny_seqItems g0 rfl (wpAny_pure ?_))
  show wpAny _ A.in1 (updateSeq S (fun _ => #[]) >>= fun _ => letGo (#[] : Array Value).toList.reverse >>= fun _ => Builtin.List.listExtendWith (.ref S) (.ref z) .none) _ _ s
  refine wpAny_bind (wpAny_updateSeq g0 rfl ?_)
  have g1 := Heap.get?_update_self (Obj.mapSeq (fun _ => (#[] : Array Value))) g0 rfl
  have kk : ∀ b o, b ≠ S → s.heap.get? b = some o → (s.heap.update S (Obj.mapSeq (fun _ => (#[] : Array Value)))).get? b = some o := fun b o hb e => (Heap.get?_update_other _ _ (Ne.symm hb)).trans e
  have hsize : n0 ≤ (s.heap.update S (Obj.mapSeq (fun _ => (#[] : Array Value)))).objs.size := by
    rw [Heap.size_update]; exact hn
  have s1 := st.upd hSb kk
  refine wpAny_bind (wpAny_letGo ?_)
  generalize s.heap.update S (Obj.mapSeq (fun _ => (#[] : Array Value))) = hp at g1 kk hsize s1 ⊢
  exact zip_extend (s := { s with heap := hp }) hh D .none _ s1 hSb hsize hsz g1 fun h' L c q1 q2 q3 q4 => k h' L c (fun b o hb e => q1 b o hb (kk b o (fun q => hb (by simp [q])) e)) q2 q3 q4
theorem call_list_zip {Q : Value → Shared → Prop} (hh : A.handled = none) (D : ZipApart z TI TO i1 i2 l1 l2) (st : ∀ S, S = s.heap.objs.size → ZAt z TI TO i1 i2 l1 l2 xs ys S 0 s.heap) (hfp : ∀ b ∈ [z, TI, TO, i1, i2, l1, l2], b < s.heap.objs.size) (hsz : min xs.size ys.size ≤ sizeLine)
    (k : ∀ h' L c, (∀ b o, b ∉ [z, TO, i1, i2] → s.heap.get? b = some o → h'.get? b = some o) → h'.get? s.heap.objs.size = some { cls := .type "list", dict := none, data := .seq (L.map Value.ref).toArray c, slots := #[] } → L.length = min xs.size ys.size → Given [z, TO, i1, i2, s.heap.objs.size] s.heap.objs.size xs ys h' L → Q (.ref s.heap.objs.size) { s with heap := h' }) :
    wpAny (model prog w) A (call (.type "list") [.ref z]) Q E s := by
  have hSb : s.heap.objs.size ∉ [z, TI, TO, i1, i2, l1, l2] := fun hm => Nat.lt_irrefl _ (hfp _ hm)
  refine callType_codes (Q₁ := fun obj q => obj = .ref s.heap.objs.size ∧ q = { s with heap := s.heap.push { cls := .type "list", data := .seq #[] } }) F.called_list (F.typeCall_list_1 _) F.entry_list_init
    (code_list_new _ ⟨rfl, rfl⟩) fun obj q hq => ?_
  obtain ⟨rfl, rfl⟩ := hq
  have g0 : (s.heap.push { cls := .type "list", data := .seq #[] }).get? s.heap.objs.size = some { cls := .type "list", data := .seq #[] } := Heap.get?_push_size _ rfl
  have kk : ∀ b o, s.heap.get? b = some o → (s.heap.push { cls := .type "list", data := .seq #[] }).get? b = some o := fun b o e => Heap.get?_push_of_some _ e
  have s1 := (st _ rfl).upd hSb fun b o _ e => kk b o e
  have hsize : s.heap.objs.size ≤ (s.heap.push { cls := .type "list", data := .seq #[] }).objs.size := by rw [Heap.size_push]; omega
  refine ⟨⟨_, g0, rfl⟩, F.args_list_init_2 _ _, ?_⟩
  generalize s.heap.push { cls := .type "list", data := .seq #[] } = hp at g0 kk s1 hsize ⊢
  refine zip_init (s := { s with heap := hp }) (n0 := s.heap.objs.size) hh D s1 hSb hsize hsz g0 fun h' L c q1 q2 q3 q4 => ⟨rfl, k h' L c (fun b o hb e => ?_) q2 q3 q4⟩
  have hbS : b ≠ s.heap.objs.size := Nat.ne_of_lt (Heap.lt_size e)
  refine q1 b o (fun q => hb ?_) (kk b o e)
  simp only [List.mem_cons, List.not_mem_nil, or_false] at q ⊢
  rcases q with q | q | q | q | q
  · exact .inl q
  · exact .inr (.inl q)
  · exact .inr (.inr (.inl q))
  · exact .inr (.inr (.inr q))
  · exact absurd q hbS
end

/-! ### as a rule -/
def tupsH (H : Hp) (l : List (Addr × V × V)) : Hp := l.foldl (fun H p => upd H p.1 (.tup [p.2.1, p.2.2])) H
section
variable {P : Program} {w : World} {H H0 : Hp} {h h2 : Heap} {fs ex : List Addr} {a : Addr} {o : HO}
theorem un_more (u : Un fs ex H H0 h h2) (hp : h.objs.size ≤ a) (hn : H0 a = none) : Un fs ex H (upd H0 a o) h h2 where
  keep := u.keep
  slot := u.slot
  free := fun b ob q n hx => by
    rw [upd_ne (Nat.ne_of_lt (Nat.lt_of_lt_of_le (Heap.lt_size q) hp))]
    exact u.free b ob q n hx
  there := u.there
  tups := fun b xs q => by
    have q' := u.tups b xs q
    rw [upd_ne (ne_of_none q' hn)]; exact q'
  frzs := fun b ob xs q => by
    have q' := u.frzs b ob xs q
    rw [upd_ne (ne_of_none q' hn)]; exact q'
  tbls := fun b ps q => by
    obtain ⟨more, q'⟩ := u.tbls b ps q
    exact ⟨more, by rw [upd_ne (ne_of_none q' hn)]; exact q'⟩
theorem hok_more (x : HOk P w H0 h2) (hn : H0 a = none) (new : ObjOk P w (upd H0 a o) h2 a o) : HOk P w (upd H0 a o) h2 := fun b u e => by
  by_cases hb : b = a
  · subst hb; rw [upd_same] at e; cases e; exact new
  · rw [upd_ne hb] at e
    exact (x b u e).stay (fun c v _ q => q) (fun c q => by rw [upd_ne (ne_of_none q hn)]; exact q) fun c xs q => by rw [upd_ne (ne_of_none q hn)]; exact q
theorem tups_laid : ∀ (l : List (Addr × V × V)) {H0 : Hp}, Un fs ex H H0 h h2 → HOk P w H0 h2 → (l.map (·.1)).Nodup → (∀ p ∈ l, h.objs.size ≤ p.1 ∧ H0 p.1 = none ∧ ∃ u v, RelV p.2.1 u ∧ RelV p.2.2 v ∧ IsPair h2 p.1 u v) → Un fs ex H (tupsH H0 l) h h2 ∧ HOk P w (tupsH H0 l) h2 ∧ ∀ b, b ∉ l.map (·.1) → tupsH H0 l b = H0 b
  | [], _, u, x, _, _ => ⟨u, x, fun _ _ => rfl⟩
  | p :: l, H0, u, x, nd, hl => by
    obtain ⟨nd1, nd2⟩ := List.nodup_cons.mp nd
    obtain ⟨g1, g2, v1, v2, r1, r2, r3⟩ := hl p List.mem_cons_self
    have new : ObjOk P w (upd H0 p.1 (.tup [p.2.1, p.2.2])) h2 p.1 (.tup [p.2.1, p.2.2]) := ⟨by show 2 ≤ sizeLine; decide, [v1, v2], .cons r1 (.cons r2 .nil), ⟨_, r3, rfl, _, rfl⟩⟩
    have key := tups_laid l (H0 := upd H0 p.1 (.tup [p.2.1, p.2.2])) (un_more u g1 g2) (hok_more x g2 new) nd2 fun q hq => by
      obtain ⟨k1, k2, k3⟩ := hl q (List.mem_cons_of_mem _ hq)
      have hne : q.1 ≠ p.1 := fun e => nd1 (List.mem_map.mpr ⟨q, hq, e⟩)
      exact ⟨k1, by rw [upd_ne hne]; exact k2, k3⟩
    refine ⟨key.1, key.2.1, fun b hb => ?_⟩
    simp only [List.map_cons, List.mem_cons, not_or] at hb
    exact (key.2.2 b hb.2).trans (upd_ne hb.1)
end
def tLzip (K : PySem.W.Frag) (ta : TA) : TE := fun σ H Q => ta σ H fun vs H1 => ∃ a b xs ys, vs = [.ref a, .ref b] ∧ SqL K H1 a xs ∧ SqL K H1 b ys ∧
  ∀ (L : List Addr) (S : Addr), L.Nodup → L.length = min xs.length ys.length → (∀ T ∈ L, H1 T = none ∧ T ≠ S) → H1 S = none → Q (.ref S) (upd (tupsH H1 (L.zip (xs.zip ys))) S (.lst (L.map V.ref)))
section
variable {X : Cx} {e e2 : Expr} {ta : TA} {p q pos pos2 : Pos}
theorem pe_lzip (hc : X.calm = true) (hg : Gl X "list") (hm : X.mg "list" = none) (hg2 : Gl X "zip") (hm2 : X.mg "zip" = none) (ha : PA X [e, e2] ta)
    (na : starEach [Expr.Call (.Name "zip" q) [e, e2] [] pos2] X.env = (false, eval (.Call (.Name "zip" q) [e, e2] [] pos2) X.env) :: starEach [] X.env := by rfl)
    (hs : starEach [e, e2] X.env = (false, eval e X.env) :: starEach [e2] X.env := by rfl) (hpl : (backTo pos2 (starEach [e2] X.env)).any (·.1) = false := by rfl) :
    PE X (.Call (.Name "list" p) [.Call (.Name "zip" q) [e, e2] [] pos2] [] pos) (tLzip X.K ta) := by
  refine ⟨fun pins s σ H Q I h => ?_⟩
  refine Call_ (ld_blt I hg hm boot_list (PyProof.Rows.callWith_type1 (args_cons ?_ na) na))
  refine Call_ (ld_blt I hg2 hm2 PyProof.Rows.boot_zip (PyProof.Rows.callWith_type1 (thn (ha.run pos2 pins s σ H _ I h) fun us s1 ⟨vs, H1, I1, r1, q1⟩ => ?_) hs hpl))
  obtain ⟨a, b, xs, ys, rfl, ha1, hb1, q2⟩ := q1
  obtain ⟨u, u2, rfl, ru, ru2⟩ := vals2 r1
  cases (show u = Value.ref a from ru)
  cases (show u2 = Value.ref b from ru2)
  obtain ⟨its, rv, pl, hz⟩ := I1.list ha1
  obtain ⟨its2, rv2, pl2, hz2⟩ := I1.list hb1
  have hla : a < s1.heap.objs.size := by obtain ⟨_, _, g, _⟩ := pl; exact Heap.lt_size g
  have hlb : b < s1.heap.objs.size := by obtain ⟨_, _, g, _⟩ := pl2; exact Heap.lt_size g
  refine call_zip_2 pl.isList pl2.isList fun h1 gz gTI gTO g1 g2 gs kp => args_nil ?_
  generalize hN : s1.heap.objs.size = N at *
  have D := zipApart_new (n := N) hla hlb
  have lN : ∀ {c : Addr}, (c = N + 4 ∨ c = N + 2 ∨ c = N + 3 ∨ c = N ∨ c = N + 1) → N ≤ c := fun {c} h => by
    rcases h with z | z | z | z | z
    · rw [z]; exact Nat.le_add_right _ _
    · rw [z]; exact Nat.le_add_right _ _
    · rw [z]; exact Nat.le_add_right _ _
    · rw [z]; exact Nat.le_refl _
    · rw [z]; exact Nat.le_add_right _ _
  have old : ∀ {c : Addr} {o : Obj}, s1.heap.get? c = some o → ¬ N ≤ c := fun e h => absurd (Heap.lt_size e) (by rw [hN]; exact Nat.not_lt.mpr h)
  have gla : h1.IsList a its.toArray := pl.isList.at fun o e => kp _ o e
  have glb : h1.IsList b its2.toArray := pl2.isList.at fun o e => kp _ o e
  refine call_list_zip (s := { s1 with heap := h1 }) (xs := its.toArray) (ys := its2.toArray) (I1.ok.hd hc) D (fun S _ => ⟨gTI, g1, g2, gla, glb, ⟨_, gTO⟩, .inl ⟨gz, _, _, gTO⟩⟩) ?_ ?_ fun h' L c kp2 gS hL gv => ?_
  · intro d hd
    simp only [List.mem_cons, List.not_mem_nil, or_false] at hd
    show d < h1.objs.size
    rcases hd with z | z | z | z | z | z | z
    · rw [z]; exact Heap.lt_size gz
    · rw [z]; exact Heap.lt_size gTI
    · rw [z]; exact Heap.lt_size gTO
    · rw [z]; obtain ⟨_, g, _⟩ := g1; exact Heap.lt_size g
    · rw [z]; obtain ⟨_, g, _⟩ := g2; exact Heap.lt_size g
    · rw [z]; obtain ⟨_, g, _⟩ := gla; exact Heap.lt_size g
    · rw [z]; obtain ⟨_, g, _⟩ := glb; exact Heap.lt_size g
  · have : its.toArray.size ≤ sizeLine := by simp only [List.size_toArray]; rw [← rv.length]; exact hz
    exact Nat.le_trans (Nat.min_le_left _ _) this
  · have hsz1 : N ≤ h1.objs.size := by rw [gs]; exact Nat.le_add_right _ _
    have kept : ∀ d o, s1.heap.get? d = some o → h'.get? d = some o := fun d o e => kp2 d o (fun hm => by
      simp only [List.mem_cons, List.not_mem_nil, or_false] at hm
      refine old e (lN ?_)
      rcases hm with z | z | z | z
      · exact .inl z
      · exact .inr (.inr (.inl z))
      · exact .inr (.inr (.inr (.inl z)))
      · exact .inr (.inr (.inr (.inr z)))) (kp d o e)
    have lenX := rv.length
    have lenY := rv2.length
    have hLl : L.length = min xs.length ys.length := by rw [hL]; simp only [List.size_toArray]; rw [lenX, lenY]
    have fresh : ∀ {d : Addr}, N ≤ d → H1 d = none := fun h => I1.hok.fresh (by rw [hN]; exact h)
    have hTL : ∀ T ∈ L, N ≤ T ∧ T ≠ h1.objs.size := fun T hT => by
      obtain ⟨j, e⟩ := List.mem_iff_getElem?.mp hT
      obtain ⟨q1, q2, _⟩ := gv.2 j T e
      exact ⟨Nat.le_trans hsz1 q2, fun z => q1 (by rw [z]; simp)⟩
    have hmap : (L.zip (xs.zip ys)).map (·.1) = L := by
      rw [List.map_fst_zip]
      rw [List.length_zip, hLl]; exact Nat.le_refl _
    have laid := tups_laid (P := X.prog) (w := X.w) (fs := X.fs) (ex := []) (H := H1) (h := s1.heap) (h2 := h') (L.zip (xs.zip ys)) (H0 := H1) (Un.kept kept) (I1.hok.kept kept) (by rw [hmap]; exact gv.1) fun p hp => by
      obtain ⟨j, e⟩ := List.mem_iff_getElem?.mp hp
      rw [List.getElem?_zip_eq_some] at e
      obtain ⟨e1, e2⟩ := e
      rw [List.getElem?_zip_eq_some] at e2
      obtain ⟨e3, e4⟩ := e2
      obtain ⟨q1, q2, x, y, q3, q4, q5⟩ := gv.2 j p.1 e1
      obtain ⟨x', q6, q7⟩ := rv.get e3
      obtain ⟨y', q8, q9⟩ := rv2.get e4
      have ex : x' = x := by simp only [List.getElem?_toArray] at q3; rw [q6] at q3; exact Option.some.inj q3
      have ey : y' = y := by simp only [List.getElem?_toArray] at q4; rw [q8] at q4; exact Option.some.inj q4
      subst ex ey
      have hNp := (hTL p.1 (List.mem_of_getElem? e1)).1
      exact ⟨by rw [hN]; exact hNp, fresh hNp, _, _, q7, q9, q5⟩
    obtain ⟨u1, x1, f1⟩ := laid
    have hSn : tupsH H1 (L.zip (xs.zip ys)) h1.objs.size = none := (f1 _ (by rw [hmap]; exact fun hm => (hTL _ hm).2 rfl)).trans (fresh hsz1)
    have hlen : (L.map V.ref).length ≤ sizeLine := by
      rw [List.length_map, hLl, lenX]
      exact Nat.le_trans (Nat.min_le_left _ _) (by rw [← lenX]; exact hz)
    have vls : ∀ L : List Addr, Vals (L.map V.ref) (L.map Value.ref) := fun L => by
      induction L with
      | nil => exact .nil
      | cons d L ih => exact .cons rfl ih
    have new : ObjOk X.prog X.w (upd (tupsH H1 (L.zip (xs.zip ys))) h1.objs.size (.lst (L.map V.ref))) h' h1.objs.size (.lst (L.map V.ref)) := ⟨hlen, L.map Value.ref, c, vls L, gS⟩
    have I2 : Inv X pins σ (upd (tupsH H1 (L.zip (xs.zip ys))) h1.objs.size (.lst (L.map V.ref))) { s1 with heap := h', toks := s1.toks } := I1.un (un_more u1 (by rw [hN]; exact hsz1) hSn) (hok_more x1 hSn new)
    exact ⟨.ref h1.objs.size, _, I2, rfl, q2 L h1.objs.size gv.1 hLl (fun T hT => ⟨fresh (hTL T hT).1, (hTL T hT).2⟩) (fresh hsz1)⟩
end

/-! ### on trees -/
def lzipG : List D → Option (D × Bool)
  | [.lst a, .lst b] => some (.lst (List.zipWith (fun x y => .tup [x, y]) a b), true)
  | _ => none
section
variable {K : PySem.W.Frag} {Z H : Hp}
theorem tupsH_out : ∀ (l : List (Addr × V × V)) (Z : Hp) (b : Addr), b ∉ l.map (·.1) → tupsH Z l b = Z b
  | [], _, _, _ => rfl
  | p :: l, Z, b, h => by
    simp only [List.map_cons, List.mem_cons, not_or] at h
    exact (tupsH_out l _ b h.2).trans (upd_ne h.1)
theorem tupsH_in : ∀ (l : List (Addr × V × V)) (Z : Hp), (l.map (·.1)).Nodup → ∀ p ∈ l, tupsH Z l p.1 = some (.tup [p.2.1, p.2.2])
  | [], _, _, p, h => by cases h
  | q :: l, Z, nd, p, h => by
    obtain ⟨n1, n2⟩ := List.nodup_cons.mp nd
    rcases List.mem_cons.mp h with rfl | h
    · exact (tupsH_out l _ _ n1).trans upd_same
    · exact tupsH_in l _ n2 p h
theorem Grow.tups : ∀ (l : List (Addr × V × V)) {Z H : Hp}, Sub Z H → (l.map (·.1)).Nodup → (∀ p ∈ l, H p.1 = none) → Grow Z H (tupsH Z l) (tupsH H l)
  | [], _, _, s, _, _ => Grow.refl s
  | p :: l, Z, H, s, nd, hn => by
    obtain ⟨n1, n2⟩ := List.nodup_cons.mp nd
    have g := Grow.fro (o := .tup [p.2.1, p.2.2]) s (hn p List.mem_cons_self)
    refine g.trans (Grow.tups l g.sub n2 fun q hq => ?_)
    rw [upd_ne fun e => n1 (List.mem_map.mpr ⟨q, hq, e⟩)]
    exact hn q (List.mem_cons_of_mem _ hq)
theorem rpl_zip : ∀ (L : List Addr) (xs ys : List V) (a b : List D), (∀ p ∈ L.zip (xs.zip ys), Z p.1 = some (.tup [p.2.1, p.2.2])) → RpL K Z a xs → RpL K Z b ys → L.length = min xs.length ys.length → RpL K Z (List.zipWith (fun x y => D.tup [x, y]) a b) (L.map V.ref)
  | L, xs, ys, [], b, _, ra, _, hl => by
    cases ra.inv0
    have : L = [] := List.length_eq_zero_iff.mp (by simpa using hl)
    subst this
    exact .nil
  | L, xs, ys, x :: a, [], _, _, rb, hl => by
    cases rb.inv0
    have : L = [] := List.length_eq_zero_iff.mp (by simpa using hl)
    subst this
    exact .nil
  | L, xs, ys, x :: a, y :: b, hz, ra, rb, hl => by
    obtain ⟨u, xs', rfl, r1, r2⟩ := ra.inv
    obtain ⟨v, ys', rfl, s1, s2⟩ := rb.inv
    cases L with
    | nil => simp at hl
    | cons T L =>
      have h0 := hz (T, u, v) (by simp)
      refine .cons ?_ (rpl_zip L xs' ys' a b (fun p hp => hz p (by simp [hp])) r2 s2 (by simp at hl; omega))
      simp only [Rp]
      exact ⟨T, [u, v], rfl, h0, .cons r1 (.cons s1 .nil)⟩
end
section
variable {p : Pl} {e e2 : Expr} {fs : List SE} {q q2 pos pos2 : Pos}
theorem de_lzip (b : BI p.mg) (ha : DA p [e, e2] fs) (hg : Glo p "list" := by rfl) (hg2 : Glo p "zip" := by rfl)
    (na : ∀ env : Env, starEach [Expr.Call (.Name "zip" q2) [e, e2] [] pos2] env = (false, eval (.Call (.Name "zip" q2) [e, e2] [] pos2) env) :: starEach [] env := by intro _; rfl)
    (hs : ∀ env : Env, starEach [e, e2] env = (false, eval e env) :: starEach [e2] env := by intro _; rfl) (hpl : ∀ env : Env, (backTo pos2 (starEach [e2] env)).any (·.1) = false := by intro _; rfl) :
    DE p (.Call (.Name "list" q) [.Call (.Name "zip" q2) [e, e2] [] pos2] [] pos) (eN lzipG fs) := fun X W c tk =>
  PE_imp (pe_lzip c.calm (c.gl hg) (by rw [c.hmg]; exact b.list) (c.gl hg2) (by rw [c.hmg]; exact b.zip) (ha.run X W c tk) (na X.env) (hs X.env) (hpl X.env)) fun σ H Q h => by
    rw [c.hK]
    refine rdA_mono (rd_eN h) fun vs H1 h1 => ?_
    obtain ⟨Z, ds, r, sub, ho, e0, hq⟩ := h1
    unfold lzipG at e0
    split at e0
    · rename_i a b
      cases e0
      obtain ⟨x, t, rfl, hx, ho⟩ := ho.inv
      obtain ⟨y, t, rfl, hy, ho⟩ := ho.inv
      cases ho
      obtain ⟨a1, xs, rfl, hax, rx⟩ := hx.lst sub
      obtain ⟨b1, ys, rfl, hby, ry⟩ := hy.lst sub
      refine ⟨a1, b1, xs, ys, rfl, hax, hby, fun L S nd hl hT hS => ?_⟩
      have hmap : (L.zip (xs.zip ys)).map (·.1) = L := by
        rw [List.map_fst_zip]
        rw [List.length_zip, hl]; exact Nat.le_refl _
      have g := Grow.tups (L.zip (xs.zip ys)) sub (by rw [hmap]; exact nd) fun p hp => (hT p.1 (by rw [← hmap]; exact List.mem_map.mpr ⟨p, hp, rfl⟩)).1
      have hS2 : tupsH H1 (L.zip (xs.zip ys)) S = none := (tupsH_out _ _ _ (by rw [hmap]; exact fun hm => (hT _ hm).2 rfl)).trans hS
      refine hq _ _ _ (g.trans (Grow.own g.sub hS2)) ⟨S, rfl, hS, g.sub.none hS2, _, upd_same, ?_⟩
      exact rpl_zip L xs ys a b (fun p hp => tupsH_in _ _ (by rw [hmap]; exact nd) p hp) (rx.mono g.z) (ry.mono g.z) hl
    · cases e0
end
end Ev

set_option Elab.async false
set_option linter.all false
set_option maxRecDepth 100000
/-! what the defs that several laws share do to trees: printed by gen.py -/
namespace Ev
open PySem
/-- is_whole: value -/
def B_is_whole  : S := sSeq (sRet (eAnd truG (e1 (isiG ["int"]) (eVar 0)) (eB (notB (tr (e1 (isiG ["bool"]) (eVar 0)) truG)))))
    (sNx)
/-- is_told: told, word, count -/
def B_is_told  : S := sSeq (sIf (orB (notB (tr (e1 (isiG ["tuple"]) (eVar 0)) truG)) (cmp2 neG (eN (un1 lenG) [eVar 0]) (eVar 2))) (sSeq (sRet (ec (.bl false)))
    (sNx)) (sNx))
    (sSeq (sRet (eAnd truG (e1 (isiG ["str"]) (e2 ixG (eVar 0) (ec (.int 0)))) (eB (cmp2 eqG (e2 ixG (eVar 0) (ec (.int 0))) (eVar 1)))))
    (sNx))
/-- are_wholes: value, count, part -/
def B_are_wholes (f_is_whole : FSem) : S := sSeq (sRet (eAnd truG (e1 (isiG ["tuple"]) (eVar 0)) (eAnd truG (eB (cmp2 eqG (eN (un1 lenG) [eVar 0]) (eVar 1))) (eB (cmp2 (notG inG) (ec (.bl false)) (eLc (srcL (eVar 0)) [2] (gN 2) (M.pure true) (eCall f_is_whole [false] [eVar 2])))))))
    (sNx)
/-- is_table: value, height, width, row -/
def B_is_table (f_are_wholes : FSem) : S := sSeq (sIf (orB (notB (tr (e1 (isiG ["tuple"]) (eVar 0)) truG)) (cmp2 neG (eN (un1 lenG) [eVar 0]) (eVar 1))) (sSeq (sRet (ec (.bl false)))
    (sNx)) (sNx))
    (sSeq (sRet (eB (cmp2 (notG inG) (ec (.bl false)) (eLc (srcL (eVar 0)) [3] (gN 3) (M.pure true) (eCall f_are_wholes [false, false] [eVar 3, eVar 2])))))
    (sNx))
/-- keeps: rows, told, row, line, one, other, pairs -/
def B_keeps  : S := sSeq (sSet 6 (eLc2 (srcZ (eVar 0) (eVar 1)) [2, 3, 4, 5] (gT 2 (gsCons (gN 2) (gsCons (gN 3) (gsNil)))) (M.pure true) (srcZ (eVar 2) (eVar 3)) [4, 5] (gT 2 (gsCons (gN 4) (gsCons (gN 5) (gsNil)))) (M.pure true) (eTup [eVar 4, eVar 5])))
    (sSeq (sRet (eB (cmp2 (notG inG) (ec (.bl true)) (eLc (srcL (eVar 6)) [4, 5] (gT 2 (gsCons (gN 4) (gsCons (gN 5) (gsNil)))) (M.pure true) (eAnd truG (eB (cmp2 neG (eVar 4) (ec (.int 0)))) (eB (cmp2 neG (eVar 4) (eVar 5))))))))
    (sNx))
-- B_is_latin: lacking call range/2
-- B_goes_in: lacking iter enumerate/1
-- B_all_filled: lacking global name MOST_TRIES
/-- _law_next: state, limit, cell, value -/
def B_law_next  : S := sSeq (sIf (andB (cmp2 eqG (e2 ixG (eVar 0) (ec (.int 2))) (ec (.int 0))) (cmp2 ltG (e2 ixG (eVar 0) (ec (.int 1))) (eN (un1 lenG) [e2 ixG (eVar 0) (ec (.int 0))]))) (sSeq (sSet 2 (e2 ixG (e2 ixG (eVar 0) (ec (.int 0))) (e2 ixG (eVar 0) (ec (.int 1)))))
    (sSeq (sAugS (fun i j => i + j) (eVar 0) (ec (.int 1)) (ec (.int 1)))
    (sSeq (sIf (cmp2 geG (eVar 2) (e2 powG (ec (.int 10)) (ec (.int 18)))) (sSeq (sStore (eVar 2) (eVar 0) (ec (.int 2)))
    (sNx)) (sSeq (sStore (e2 modG (eN (un1 intG) [e2 addG (e2 addG (e2 mulG (e2 ixG (eVar 0) (ec (.int 3))) (ec (.int 48271))) (e2 modG (eN (un1 intG) [eVar 2]) (ec (.int 2147483647)))) (ec (.int 7))]) (ec (.int 2147483647))) (eVar 0) (ec (.int 3)))
    (sNx)))
    (sNx)))) (sNx))
    (sSeq (sIf (cmp2 gtG (e2 ixG (eVar 0) (ec (.int 2))) (ec (.int 0))) (sSeq (sSet 3 (e2 modG (eN (un1 intG) [e2 ixG (eVar 0) (ec (.int 2))]) (eVar 1)))
    (sSeq (sStore (e2 divG (e2 ixG (eVar 0) (ec (.int 2))) (eVar 1)) (eVar 0) (ec (.int 2)))
    (sSeq (sRet (eVar 3))
    (sNx)))) (sNx))
    (sSeq (sStore (e2 modG (eN (un1 intG) [e2 addG (e2 mulG (e2 ixG (eVar 0) (ec (.int 3))) (ec (.int 69621))) (ec (.int 12345))]) (ec (.int 2147483647))) (eVar 0) (ec (.int 3)))
    (sSeq (sRet (e2 modG (eN (un1 intG) [e2 divG (e2 ixG (eVar 0) (ec (.int 3))) (ec (.int 7))]) (eVar 1)))
    (sNx))))
/-- _law_same: actual, expected, k -/
def B_law_same (f_law_same : FSem) : S := sSeq (sIf (cmp2 isG (eVar 1) (ec .non)) (sSeq (sRet (eB (cmp2 isG (eVar 0) (ec .non))))
    (sNx)) (sNx))
    (sSeq (sIf (tr (e1 (isiG ["bool"]) (eVar 1)) truG) (sSeq (sRet (eAnd truG (e1 (isiG ["bool"]) (eVar 0)) (eB (cmp2 eqG (eVar 0) (eVar 1)))))
    (sNx)) (sNx))
    (sSeq (sIf (tr (e1 (isiG ["int"]) (eVar 1)) truG) (sSeq (sRet (eAnd truG (e1 (isiG ["int"]) (eVar 0)) (eAnd truG (eB (notB (tr (e1 (isiG ["bool"]) (eVar 0)) truG))) (eB (cmp2 eqG (eVar 0) (eVar 1))))))
    (sNx)) (sNx))
    (sSeq (sIf (tr (e1 (isiG ["str"]) (eVar 1)) truG) (sSeq (sRet (eAnd truG (e1 (isiG ["str"]) (eVar 0)) (eB (cmp2 eqG (eVar 0) (eVar 1)))))
    (sNx)) (sNx))
    (sSeq (sIf (andB (tr (e1 (isiG ["tuple"]) (eVar 1)) truG) (notB (tr (e1 (isiG ["tuple"]) (eVar 0)) truG))) (sSeq (sRet (ec (.bl false)))
    (sNx)) (sNx))
    (sSeq (sIf (andB (tr (e1 (isiG ["list"]) (eVar 1)) truG) (notB (tr (e1 (isiG ["list"]) (eVar 0)) truG))) (sSeq (sRet (ec (.bl false)))
    (sNx)) (sNx))
    (sSeq (sIf (cmp2 neG (eN (un1 lenG) [eVar 0]) (eN (un1 lenG) [eVar 1])) (sSeq (sRet (ec (.bl false)))
    (sNx)) (sNx))
    (sSeq (sFor (srcR1 (eN (un1 lenG) [eVar 1])) (gN 2) (sSeq (sIf (notB (tr (eCall f_law_same [false, false] [e2 ixG (eVar 0) (eVar 2), e2 ixG (eVar 1) (eVar 2)]) truG)) (sSeq (sRet (ec (.bl false)))
    (sNx)) (sNx))
    (sNx)))
    (sSeq (sRet (ec (.bl true)))
    (sNx)))))))))
/-- _law_is_whole: value -/
def B_law_is_whole  : S := sSeq (sRet (eAnd truG (e1 (isiG ["int"]) (eVar 0)) (eB (notB (tr (e1 (isiG ["bool"]) (eVar 0)) truG)))))
    (sNx)
/-- _law_are_wholes: value, count, part -/
def B_law_are_wholes (f_law_is_whole : FSem) : S := sSeq (sRet (eAnd truG (e1 (isiG ["tuple"]) (eVar 0)) (eAnd truG (eB (cmp2 eqG (eN (un1 lenG) [eVar 0]) (eVar 1))) (eB (cmp2 eqG (eLc (srcL (eVar 0)) [2] (gN 2) (notB (tr (eCall f_law_is_whole [false] [eVar 2]) truG)) (eVar 2)) (eLst []))))))
    (sNx)
/-- _law_is: told, word, count -/
def B_law_is  : S := sSeq (sRet (eAnd truG (e1 (isiG ["tuple"]) (eVar 0)) (eAnd truG (eB (cmp2 eqG (eN (un1 lenG) [eVar 0]) (eVar 2))) (eAnd truG (e1 (isiG ["str"]) (e2 ixG (eVar 0) (ec (.int 0)))) (eB (cmp2 eqG (e2 ixG (eVar 0) (ec (.int 0))) (eVar 1)))))))
    (sNx)
/-- _law_changed: state, value, others, k, j, more, turn -/
def B_law_changed (f_law_next : FSem) (f_law_changed : FSem) : S := sSeq (sIf (tr (e1 (isiG ["bool"]) (eVar 1)) truG) (sSeq (sRet (e2 ixG (eLst [eB (notB (tr (eVar 1) truG)), eN (un1 intG) [eVar 1]]) (eCall f_law_next [true, false] [eVar 0, ec (.int 2)])))
    (sNx)) (sNx))
    (sSeq (sIf (orB (cmp2 isG (eVar 1) (ec .non)) (tr (e1 (isiG ["int"]) (eVar 1)) truG)) (sSeq (sRet (e2 ixG (eLst [e2 addG (eOr truG (eVar 1) (ec (.int 0))) (ec (.int 1)), e2 subG (eOr truG (eVar 1) (ec (.int 0))) (ec (.int 1)), ec (.int 0), ec .non, eB (cmp2 eqG (eVar 1) (ec (.int 1))), eN (un1 strG) [eVar 1], e2 mulG (ec (.int 2)) (eOr truG (eVar 1) (ec (.int 1)))]) (eCall f_law_next [true, false] [eVar 0, ec (.int 7)])))
    (sNx)) (sNx))
    (sSeq (sIf (tr (e1 (isiG ["str"]) (eVar 1)) truG) (sSeq (sSet 2 (eLst [eSl (eVar 1) (oSome (ec (.int 1))) (oNone), e2 addG (eVar 1) (ec (.str [97])), e1 revG (eVar 1), e2 addG (ec (.str [98])) (eVar 1), ec (.str []), eSl (eVar 1) (oNone) (oSome (e1 negG (ec (.int 1)))), ec (.str [108, 101, 102, 116]), ec (.int 3), ec (.str [105, 110])]))
    (sSeq (sRet (e2 ixG (eVar 2) (eCall f_law_next [true, false] [eVar 0, eN (un1 lenG) [eVar 2]])))
    (sNx))) (sNx))
    (sSeq (sIf (andB (tr (e1 (isiG ["tuple"]) (eVar 1)) truG) (andB (cmp2 neG (eVar 1) (eTup [])) (cmp2 gtG (eCall f_law_next [true, false] [eVar 0, ec (.int 4)]) (ec (.int 0))))) (sSeq (sSet 3 (eCall f_law_next [true, false] [eVar 0, eN (un1 lenG) [eVar 1]]))
    (sSeq (sRet (e2 addG (e2 addG (eSl (eVar 1) (oNone) (oSome (eVar 3))) (eTup [eCall f_law_changed [true, false] [eVar 0, e2 ixG (eVar 1) (eVar 3)]])) (eSl (eVar 1) (oSome (e2 addG (eVar 3) (ec (.int 1)))) (oNone))))
    (sNx))) (sNx))
    (sSeq (sIf (notB (tr (e1 (isiG ["tuple"]) (eVar 1)) truG)) (sSeq (sRet (eTup []))
    (sNx)) (sNx))
    (sSeq (sSet 3 (eCall f_law_next [true, false] [eVar 0, e2 addG (eN (un1 lenG) [eVar 1]) (ec (.int 1))]))
    (sSeq (sSet 4 (eCall f_law_next [true, false] [eVar 0, e2 addG (eN (un1 lenG) [eVar 1]) (ec (.int 1))]))
    (sSeq (sSet 5 (eLst [e2 addG (eSl (eVar 1) (oNone) (oSome (eVar 3))) (eSl (eVar 1) (oSome (e2 addG (eVar 3) (ec (.int 1)))) (oNone)), e2 addG (eVar 1) (eSl (eVar 1) (oNone) (oSome (ec (.int 1)))), e1 revG (eVar 1), e2 addG (eSl (eVar 1) (oSome (eVar 3)) (oNone)) (eSl (eVar 1) (oNone) (oSome (eVar 3))), eN (un1 lstG) [eVar 1], eSl (eVar 1) (oNone) (oSome (eVar 3)), eTup [], e2 addG (eVar 1) (eTup [ec (.int 0)])]))
    (sSeq (sIf (chain ltG ltG (eVar 3) (eVar 4) (eN (un1 lenG) [eVar 1])) (sSeq (sSet 5 (e2 addG (eVar 5) (eLc (srcR1 (ec (.int 3))) [6] (gN 6) (M.pure true) (e2 addG (e2 addG (e2 addG (e2 addG (eSl (eVar 1) (oNone) (oSome (eVar 3))) (eSl (eVar 1) (oSome (eVar 4)) (oSome (e2 addG (eVar 4) (ec (.int 1)))))) (eSl (eVar 1) (oSome (e2 addG (eVar 3) (ec (.int 1)))) (oSome (eVar 4)))) (eSl (eVar 1) (oSome (eVar 3)) (oSome (e2 addG (eVar 3) (ec (.int 1)))))) (eSl (eVar 1) (oSome (e2 addG (eVar 4) (ec (.int 1)))) (oNone))))))
    (sNx)) (sNx))
    (sSeq (sRet (e2 ixG (eVar 5) (eCall f_law_next [true, false] [eVar 0, eN (un1 lenG) [eVar 5]])))
    (sNx))))))))))
/-- _law_ints: value, found, part, number -/
def B_law_ints (f_law_ints : FSem) : S := sSeq (sIf (orB (tr (e1 (isiG ["bool"]) (eVar 0)) truG) (notB (tr (e1 (isiG ["int", "tuple"]) (eVar 0)) truG))) (sSeq (sRet (eLst []))
    (sNx)) (sNx))
    (sSeq (sIf (tr (e1 (isiG ["int"]) (eVar 0)) truG) (sSeq (sRet (eLst [eVar 0]))
    (sNx)) (sNx))
    (sSeq (sSet 1 (eLst []))
    (sSeq (sFor (srcL (eVar 0)) (gN 2) (sSeq (sSet 1 (e2 addG (eVar 1) (eLc (srcL (eCall f_law_ints [false] [eVar 2])) [3] (gN 3) (cmp2 (notG inG) (eVar 3) (eVar 1)) (eVar 3))))
    (sNx)))
    (sSeq (sRet (eVar 1))
    (sNx)))))
/-- _law_exchanged: value, one, other, part -/
def B_law_exchanged (f_law_exchanged : FSem) : S := sSeq (sIf (orB (tr (e1 (isiG ["bool"]) (eVar 0)) truG) (notB (tr (e1 (isiG ["int", "tuple"]) (eVar 0)) truG))) (sSeq (sRet (eVar 0))
    (sNx)) (sNx))
    (sSeq (sIf (tr (e1 (isiG ["int"]) (eVar 0)) truG) (sSeq (sRet (eIf (cmp2 eqG (eVar 0) (eVar 1)) (eVar 2) (eIf (cmp2 eqG (eVar 0) (eVar 2)) (eVar 1) (eVar 0))))
    (sNx)) (sNx))
    (sSeq (sRet (eN (un1 tupG) [eLc (srcL (eVar 0)) [3] (gN 3) (M.pure true) (eCall f_law_exchanged [false, false, false] [eVar 3, eVar 1, eVar 2])]))
    (sNx)))
/-- _law_cut: state, value, part, k, at, ways -/
def B_law_cut (f_law_next : FSem) (f_law_cut : FSem) : S := sSeq (sIf (orB (notB (tr (e1 (isiG ["tuple"]) (eVar 1)) truG)) (cmp2 eqG (eVar 1) (eTup []))) (sSeq (sRet (eVar 1))
    (sNx)) (sNx))
    (sSeq (sIf (cmp2 neG (eLc (srcL (eVar 1)) [2] (gN 2) (notB (tr (e1 (isiG ["str"]) (eVar 2)) truG)) (eVar 2)) (eLst [])) (sSeq (sSet 3 (eCall f_law_next [true, false] [eVar 0, eN (un1 lenG) [eVar 1]]))
    (sSeq (sRet (e2 addG (e2 addG (eSl (eVar 1) (oNone) (oSome (eVar 3))) (eTup [eCall f_law_cut [true, false] [eVar 0, e2 ixG (eVar 1) (eVar 3)]])) (eSl (eVar 1) (oSome (e2 addG (eVar 3) (ec (.int 1)))) (oNone))))
    (sNx))) (sNx))
    (sSeq (sSet 3 (eCall f_law_next [true, false] [eVar 0, eN (un1 lenG) [eVar 1]]))
    (sSeq (sSet 4 (eCall f_law_next [true, false] [eVar 0, e2 addG (eN (un1 lenG) [e2 ixG (eVar 1) (eVar 3)]) (ec (.int 1))]))
    (sSeq (sSet 5 (eLst [e2 addG (e2 addG (eSl (eVar 1) (oNone) (oSome (eVar 3))) (eTup [eSl (e2 ixG (eVar 1) (eVar 3)) (oNone) (oSome (eVar 4)), eSl (e2 ixG (eVar 1) (eVar 3)) (oSome (eVar 4)) (oNone)])) (eSl (eVar 1) (oSome (e2 addG (eVar 3) (ec (.int 1)))) (oNone)), e2 addG (e2 addG (eSl (eVar 1) (oNone) (oSome (eVar 3))) (eTup [eM1s joinG (ec (.str [])) (eSl (eVar 1) (oSome (eVar 3)) (oSome (e2 addG (eVar 3) (ec (.int 2)))))])) (eSl (eVar 1) (oSome (e2 addG (eVar 3) (ec (.int 2)))) (oNone))]))
    (sSeq (sSet 5 (e2 addG (eVar 5) (eLst [eTup [eM1s joinG (ec (.str [])) (eVar 1)], eN (un1 tupG) [eM1s joinG (ec (.str [])) (eVar 1)], e2 addG (e2 addG (eSl (eVar 1) (oNone) (oSome (eVar 3))) (eTup [ec (.str [])])) (eSl (eVar 1) (oSome (eVar 3)) (oNone)), e2 addG (e2 addG (eSl (eVar 1) (oNone) (oSome (eVar 3))) (e1 revG (eSl (eVar 1) (oSome (eVar 3)) (oSome (e2 addG (eVar 3) (ec (.int 2))))))) (eSl (eVar 1) (oSome (e2 addG (eVar 3) (ec (.int 2)))) (oNone))])))
    (sSeq (sRet (e2 ixG (eVar 5) (eCall f_law_next [true, false] [eVar 0, eN (un1 lenG) [eVar 5]])))
    (sNx)))))))
/-- _law_turned_about: state, told, numbers, pick, one, other, part, k, j -/
def B_law_turned_about (f_law_ints : FSem) (f_law_next : FSem) (f_law_exchanged : FSem) (f_law_cut : FSem) : S := sSeq (sSet 2 (eCall f_law_ints [false] [eVar 1]))
    (sSeq (sSet 3 (eCall f_law_next [true, false] [eVar 0, ec (.int 5)]))
    (sSeq (sIf (andB (cmp2 ltG (eVar 3) (ec (.int 3))) (cmp2 neG (eVar 2) (eLst []))) (sSeq (sSet 4 (e2 ixG (eVar 2) (eCall f_law_next [true, false] [eVar 0, eN (un1 lenG) [eVar 2]])))
    (sSeq (sSet 5 (eIf (cmp2 eqG (eVar 3) (ec (.int 0))) (e2 addG (eVar 4) (ec (.int 1))) (e2 ixG (eVar 2) (eCall f_law_next [true, false] [eVar 0, eN (un1 lenG) [eVar 2]]))))
    (sSeq (sRet (eCall f_law_exchanged [false, false, false] [eVar 1, eVar 4, eVar 5]))
    (sNx)))) (sNx))
    (sSeq (sIf (cmp2 eqG (eVar 3) (ec (.int 3))) (sSeq (sRet (e2 addG (eSl (eVar 1) (oNone) (oSome (ec (.int 1)))) (eIf (cmp2 gtG (eN (un1 lenG) [eVar 1]) (ec (.int 2))) (eCall f_law_cut [true, false] [eVar 0, eSl (eVar 1) (oSome (ec (.int 1))) (oNone)]) (eN (un1 tupG) [eLc (srcL (eSl (eVar 1) (oSome (ec (.int 1))) (oNone))) [6] (gN 6) (M.pure true) (eCall f_law_cut [true, false] [eVar 0, eVar 6])]))))
    (sNx)) (sNx))
    (sSeq (sPar 7 8 [eCall f_law_next [true, false] [eVar 0, eN (un1 lenG) [eVar 1]], eCall f_law_next [true, false] [eVar 0, eN (un1 lenG) [eVar 1]]])
    (sSeq (sIf (andB (cmp2 eqG (eN (un1 lenG) [eVar 1]) (ec (.int 2))) (andB (tr (e1 (isiG ["tuple"]) (e2 ixG (eVar 1) (ec (.int 1)))) truG) (cmp2 neG (e2 ixG (eVar 1) (ec (.int 1))) (eTup [])))) (sSeq (sPar 7 8 [eCall f_law_next [true, false] [eVar 0, eN (un1 lenG) [e2 ixG (eVar 1) (ec (.int 1))]], eCall f_law_next [true, false] [eVar 0, eN (un1 lenG) [e2 ixG (eVar 1) (ec (.int 1))]]])
    (sSeq (sRet (eTup [e2 ixG (eVar 1) (ec (.int 0)), e2 addG (e2 addG (eSl (e2 ixG (eVar 1) (ec (.int 1))) (oNone) (oSome (eVar 7))) (eSl (e2 ixG (eVar 1) (ec (.int 1))) (oSome (eVar 8)) (oSome (e2 addG (eVar 8) (ec (.int 1)))))) (eSl (e2 ixG (eVar 1) (ec (.int 1))) (oSome (e2 addG (eVar 7) (ec (.int 1)))) (oNone))]))
    (sNx))) (sNx))
    (sSeq (sRet (eIf (andB (cmp2 gtG (eVar 7) (ec (.int 0))) (cmp2 gtG (eVar 8) (ec (.int 0)))) (e2 addG (e2 addG (eSl (eVar 1) (oNone) (oSome (eVar 7))) (eSl (eVar 1) (oSome (eVar 8)) (oSome (e2 addG (eVar 8) (ec (.int 1)))))) (eSl (eVar 1) (oSome (e2 addG (eVar 7) (ec (.int 1)))) (oNone))) (eVar 1)))
    (sNx)))))))
/-- _law_odd: state, told, odd, pick -/
def B_law_odd (f_law_next : FSem) (f_law_turned_about : FSem) (f_law_changed : FSem) : S := sSeq (sSet 2 (eLst [ec .non, ec (.str []), ec (.str [121, 101, 115]), eDic0, eTup [], eSl (eVar 1) (oNone) (oSome (ec (.int 1))), eN (un1 lstG) [eVar 1], e2 addG (eVar 1) (eTup [ec (.int 0)]), e2 addG (eTup [eLst [e2 ixG (eVar 1) (ec (.int 0))]]) (eSl (eVar 1) (oSome (ec (.int 1))) (oNone)), e2 addG (eTup [ec (.str [110, 111, 110, 101, 32, 115, 117, 99, 104])]) (eSl (eVar 1) (oSome (ec (.int 1))) (oNone)), ec (.int 7)]))
    (sSeq (sSet 3 (eCall f_law_next [true, false] [eVar 0, ec (.int 9)]))
    (sSeq (sIf (cmp2 gtG (eVar 3) (ec (.int 4))) (sSeq (sRet (eCall f_law_turned_about [true, false] [eVar 0, eVar 1]))
    (sNx)) (sNx))
    (sSeq (sRet (eIf (cmp2 eqG (eVar 3) (ec (.int 0))) (e2 ixG (eVar 2) (eCall f_law_next [true, false] [eVar 0, eN (un1 lenG) [eVar 2]])) (eCall f_law_changed [true, false] [eVar 0, eVar 1])))
    (sNx))))
/-- _law_cells: rows, found, row, column -/
def B_law_cells  : S := sSeq (sSet 1 (eLst []))
    (sSeq (sFor (srcR1 (eN (un1 lenG) [eVar 0])) (gN 2) (sSeq (sSet 1 (e2 addG (eVar 1) (eLc (srcR1 (eN (un1 lenG) [e2 ixG (eVar 0) (ec (.int 0))])) [3] (gN 3) (M.pure true) (eTup [eVar 2, eVar 3]))))
    (sNx)))
    (sSeq (sRet (eVar 1))
    (sNx)))
/-- _law_at: rows, cell -/
def B_law_at  : S := sSeq (sRet (e2 ixG (e2 ixG (eVar 0) (e2 ixG (eVar 1) (ec (.int 0)))) (e2 ixG (eVar 1) (ec (.int 1)))))
    (sNx)
/-- _law_is_table: value, high, wide, row -/
def B_law_is_table (f_law_are_wholes : FSem) : S := sSeq (sRet (eAnd truG (e1 (isiG ["tuple"]) (eVar 0)) (eAnd truG (eB (cmp2 eqG (eN (un1 lenG) [eVar 0]) (eVar 1))) (eB (cmp2 eqG (eLc (srcL (eVar 0)) [3] (gN 3) (notB (tr (eCall f_law_are_wholes [false, false] [eVar 3, eVar 2]) truG)) (eVar 3)) (eLst []))))))
    (sNx)
/-- _law_keeps: rows, told, free, cell -/
def B_law_keeps (f_law_cells : FSem) (f_law_at : FSem) : S := sSeq (sRet (eB (cmp2 eqG (eLc (srcL (eCall f_law_cells [false] [eVar 0])) [3] (gN 3) (cmp2 (notG inG) (eCall f_law_at [false, false] [eVar 0, eVar 3]) (eLst [eVar 2, eCall f_law_at [false, false] [eVar 1, eVar 3]])) (eVar 3)) (eLst []))))
    (sNx)
/-- _law_orders: count, found, k, longer, row, j -/
def B_law_orders  : S := sSeq (sSet 1 (eLst [eTup []]))
    (sSeq (sFor (srcR1 (eVar 0)) (gN 2) (sSeq (sSet 3 (eLst []))
    (sSeq (sFor (srcL (eVar 1)) (gN 4) (sSeq (sSet 3 (e2 addG (eVar 3) (eLc (srcR1 (eVar 0)) [5] (gN 5) (cmp2 (notG inG) (eVar 5) (eVar 4)) (e2 addG (eVar 4) (eTup [eVar 5])))))
    (sNx)))
    (sSeq (sSet 1 (eVar 3))
    (sNx)))))
    (sSeq (sRet (eVar 1))
    (sNx)))
/-- _law_neighbour: state, value, step, k -/
def B_law_neighbour (f_law_next : FSem) (f_law_neighbour : FSem) : S := sSeq (sSet 2 (e2 ixG (eLst [ec (.int 1), e1 negG (ec (.int 1))]) (eCall f_law_next [true, false] [eVar 0, ec (.int 2)])))
    (sSeq (sIf (tr (e1 (isiG ["str"]) (eVar 1)) truG) (sSeq (sRet (eVar 1))
    (sNx)) (sNx))
    (sSeq (sIf (tr (e1 (isiG ["int"]) (eVar 1)) truG) (sSeq (sRet (e2 addG (eVar 1) (eVar 2)))
    (sNx)) (sNx))
    (sSeq (sIf (cmp2 eqG (eVar 1) (eTup [])) (sSeq (sRet (eVar 1))
    (sNx)) (sNx))
    (sSeq (sIf (tr (e1 (isiG ["str"]) (e2 ixG (eVar 1) (ec (.int 0)))) truG) (sSeq (sRet (eTup [e2 ixG (eVar 1) (ec (.int 0)), e2 addG (e2 ixG (eVar 1) (ec (.int 1))) (eVar 2)]))
    (sNx)) (sNx))
    (sSeq (sSet 3 (eCall f_law_next [true, false] [eVar 0, eN (un1 lenG) [eVar 1]]))
    (sSeq (sIf (andB (cmp2 eqG (eCall f_law_next [true, false] [eVar 0, ec (.int 3)]) (ec (.int 0))) (cmp2 gtG (eN (un1 lenG) [eVar 1]) (ec (.int 1)))) (sSeq (sRet (e2 addG (eSl (eVar 1) (oNone) (oSome (eVar 3))) (eSl (eVar 1) (oSome (e2 addG (eVar 3) (ec (.int 1)))) (oNone))))
    (sNx)) (sNx))
    (sSeq (sRet (e2 addG (e2 addG (eSl (eVar 1) (oNone) (oSome (eVar 3))) (eTup [eCall f_law_neighbour [true, false] [eVar 0, e2 ixG (eVar 1) (eVar 3)]])) (eSl (eVar 1) (oSome (e2 addG (eVar 3) (ec (.int 1)))) (oNone))))
    (sNx))))))))
/-- _law_columns: rows, row, k -/
def B_law_columns  : S := sSeq (sRet (eLc (srcR1 (eN (un1 lenG) [e2 ixG (eVar 0) (ec (.int 0))])) [2] (gN 2) (M.pure true) (eN (un1 tupG) [eLc (srcL (eVar 0)) [1] (gN 1) (M.pure true) (e2 ixG (eVar 1) (eVar 2))])))
    (sNx)
/-- _law_ways: count, size, found, k, longer, row, j -/
def B_law_ways  : S := sSeq (sSet 2 (eLst [eTup []]))
    (sSeq (sFor (srcR1 (eVar 1)) (gN 3) (sSeq (sSet 4 (eLst []))
    (sSeq (sFor (srcL (eVar 2)) (gN 5) (sSeq (sSet 4 (e2 addG (eVar 4) (eLc (srcR1 (eVar 0)) [6] (gN 6) (M.pure true) (e2 addG (eVar 5) (eTup [eVar 6])))))
    (sNx)))
    (sSeq (sSet 2 (eVar 4))
    (sNx)))))
    (sSeq (sRet (eVar 2))
    (sNx)))
/-- _law_board: state, low, high, part, wide, k, j -/
def B_law_board (f_law_next : FSem) : S := sSeq (sSet 4 (e2 addG (eVar 1) (eCall f_law_next [true, false] [eVar 0, e2 addG (e2 subG (eVar 2) (eVar 1)) (ec (.int 1))])))
    (sSeq (sRet (eN (un1 tupG) [eLc (srcR1 (e2 addG (eVar 1) (eCall f_law_next [true, false] [eVar 0, e2 addG (e2 subG (eVar 2) (eVar 1)) (ec (.int 1))]))) [6] (gN 6) (M.pure true) (eN (un1 tupG) [eLc (srcR1 (eVar 4)) [5] (gN 5) (M.pure true) (eN (un1 intG) [eB (cmp2 eqG (eCall f_law_next [true, false] [eVar 0, eVar 3]) (ec (.int 0)))])])]))
    (sNx))
/-- check_board: rows, most, width, row, cell -/
def B_check_board  : S := sSeq (sSet 2 (eN (un1 lenG) [e2 ixG (eVar 0) (ec (.int 0))]))
    (sSeq (sIf (orB (cmp2 eqG (eVar 2) (ec (.int 0))) (cmp2 inG (ec (.bl true)) (eLc (srcL (eVar 0)) [3] (gN 3) (M.pure true) (eB (cmp2 neG (eN (un1 lenG) [eVar 3]) (eVar 2)))))) (sSeq (sRaise "UnfitGrid")
    (sNx)) (sNx))
    (sSeq (sIf (cmp2 inG (ec (.bl true)) (eLc2 (srcL (eVar 0)) [3, 4] (gN 3) (M.pure true) (srcL (eVar 3)) [4] (gN 4) (M.pure true) (eB (cmp2 (notG inG) (eVar 4) (eTup [ec (.int 0), ec (.int 1)]))))) (sSeq (sRaise "UnfitGrid")
    (sNx)) (sNx))
    (sSeq (sIf (cmp2 gtG (e2 mulG (eN (un1 lenG) [eVar 0]) (eVar 2)) (eVar 1)) (sSeq (sRaise "TooWide")
    (sNx)) (sNx))
    (sSeq (sRet (eTup [eN (un1 lenG) [eVar 0], eVar 2]))
    (sNx)))))
/-- is_free: rows, row, column -/
def B_is_free  : S := sSeq (sRet (eAnd truG (eB (chain leG ltG (ec (.int 0)) (eVar 1) (eN (un1 lenG) [eVar 0]))) (eAnd truG (eB (chain leG ltG (ec (.int 0)) (eVar 2) (eN (un1 lenG) [e2 ixG (eVar 0) (ec (.int 0))]))) (eB (cmp2 eqG (e2 ixG (e2 ixG (eVar 0) (eVar 1)) (eVar 2)) (ec (.int 0)))))))
    (sNx)
/-- _law_is_place: value, most -/
def B_law_is_place (f_law_is_whole : FSem) : S := sSeq (sRet (eAnd truG (eCall f_law_is_whole [false] [eVar 0]) (eB (chain leG ltG (ec (.int 0)) (eVar 0) (eVar 1)))))
    (sNx)
/-- _law_are_places: value, most, part -/
def B_law_are_places (f_law_is_place : FSem) : S := sSeq (sRet (eAnd truG (e1 (isiG ["tuple"]) (eVar 0)) (eB (cmp2 eqG (eLc (srcL (eVar 0)) [2] (gN 2) (notB (tr (eCall f_law_is_place [false, false] [eVar 2, eVar 1]) truG)) (eVar 2)) (eLst [])))))
    (sNx)
/-- _law_inside: rows, cell -/
def B_law_inside  : S := sSeq (sRet (eAnd truG (eB (chain leG ltG (ec (.int 0)) (e2 ixG (eVar 1) (ec (.int 0))) (eN (un1 lenG) [eVar 0]))) (eB (chain leG ltG (ec (.int 0)) (e2 ixG (eVar 1) (ec (.int 1))) (eN (un1 lenG) [e2 ixG (eVar 0) (ec (.int 0))])))))
    (sNx)
/-- _law_free: rows, cell -/
def B_law_free (f_law_cells : FSem) (f_law_at : FSem) : S := sSeq (sRet (eLc (srcL (eCall f_law_cells [false] [eVar 0])) [1] (gN 1) (cmp2 eqG (eCall f_law_at [false, false] [eVar 0, eVar 1]) (ec (.int 0))) (eVar 1)))
    (sNx)
/-- _law_are_cells: value, rows, cell -/
def B_law_are_cells (f_law_are_wholes : FSem) (f_law_inside : FSem) : S := sSeq (sRet (eAnd truG (e1 (isiG ["tuple"]) (eVar 0)) (eB (cmp2 eqG (eLc (srcL (eVar 0)) [2] (gN 2) (orB (notB (tr (eCall f_law_are_wholes [false, false] [eVar 2, ec (.int 2)]) truG)) (notB (tr (eCall f_law_inside [false, false] [eVar 1, eVar 2]) truG))) (eVar 2)) (eLst [])))))
    (sNx)
/-- _law_around: rows, cell, other -/
def B_law_around (f_law_cells : FSem) : S := sSeq (sRet (eLc (srcL (eCall f_law_cells [false] [eVar 0])) [2] (gN 2) (andB (cmp2 neG (eVar 2) (eVar 1)) (cmp2 eqG (eN max4G [e2 subG (e2 ixG (eVar 2) (ec (.int 0))) (e2 ixG (eVar 1) (ec (.int 0))), e2 subG (e2 ixG (eVar 1) (ec (.int 0))) (e2 ixG (eVar 2) (ec (.int 0))), e2 subG (e2 ixG (eVar 2) (ec (.int 1))) (e2 ixG (eVar 1) (ec (.int 1))), e2 subG (e2 ixG (eVar 1) (ec (.int 1))) (e2 ixG (eVar 2) (ec (.int 1)))]) (ec (.int 1)))) (eVar 2)))
    (sNx)
/-- _law_all_sets: row, found, each, part -/
def B_law_all_sets  : S := sSeq (sSet 1 (eLst [eTup []]))
    (sSeq (sFor (srcL (eVar 0)) (gN 2) (sSeq (sSet 1 (e2 addG (eVar 1) (eLc (srcL (eVar 1)) [3] (gN 3) (M.pure true) (e2 addG (eVar 3) (eTup [eVar 2])))))
    (sNx)))
    (sSeq (sRet (eVar 1))
    (sNx)))
/-- _law_as_table: rows, known, column, row -/
def B_law_as_table  : S := sSeq (sRet (eN (un1 tupG) [eLc (srcR1 (eN (un1 lenG) [eVar 0])) [3] (gN 3) (M.pure true) (eN (un1 tupG) [eLc (srcR1 (eN (un1 lenG) [e2 ixG (eVar 0) (ec (.int 0))])) [2] (gN 2) (M.pure true) (e2 dgetG (eVar 1) (eTup [eVar 3, eVar 2]))])]))
    (sNx)
/-- check_table: rows, low, high, width, row, number -/
def B_check_table  : S := sSeq (sSet 3 (eN (un1 lenG) [e2 ixG (eVar 0) (ec (.int 0))]))
    (sSeq (sIf (orB (cmp2 eqG (eVar 3) (ec (.int 0))) (cmp2 inG (ec (.bl true)) (eLc (srcL (eVar 0)) [4] (gN 4) (M.pure true) (eB (cmp2 neG (eN (un1 lenG) [eVar 4]) (eVar 3)))))) (sSeq (sRaise "UnfitGrid")
    (sNx)) (sNx))
    (sSeq (sIf (cmp2 inG (ec (.bl true)) (eLc2 (srcL (eVar 0)) [4, 5] (gN 4) (M.pure true) (srcL (eVar 4)) [5] (gN 5) (M.pure true) (eB (notB (tr (eB (chain leG leG (eVar 1) (eVar 5) (eVar 2))) truG))))) (sSeq (sRaise "UnfitGrid")
    (sNx)) (sNx))
    (sSeq (sIf (cmp2 gtG (e2 mulG (eN (un1 lenG) [eVar 0]) (eVar 3)) (ec (.int 64))) (sSeq (sRaise "TooWide")
    (sNx)) (sNx))
    (sSeq (sRet (eTup [eN (un1 lenG) [eVar 0], eVar 3]))
    (sNx)))))
/-- around: cell, height, width, row, column, down, right, places, line, at -/
def B_around  : S := sSeq (sAsg (eVar 0) (gT 2 (gsCons (gN 3) (gsCons (gN 4) (gsNil)))))
    (sSeq (sSet 7 (eLc2 (srcL (eTup [e1 negG (ec (.int 1)), ec (.int 0), ec (.int 1)])) [5, 6] (gN 5) (M.pure true) (srcL (eTup [e1 negG (ec (.int 1)), ec (.int 0), ec (.int 1)])) [6] (gN 6) (cmp2 neG (eTup [eVar 5, eVar 6]) (eTup [ec (.int 0), ec (.int 0)])) (eTup [e2 addG (eVar 3) (eVar 5), e2 addG (eVar 4) (eVar 6)])))
    (sSeq (sRet (eLc (srcL (eVar 7)) [8, 9] (gT 2 (gsCons (gN 8) (gsCons (gN 9) (gsNil)))) (andB (chain leG ltG (ec (.int 0)) (eVar 8) (eVar 1)) (chain leG ltG (ec (.int 0)) (eVar 9) (eVar 2))) (eTup [eVar 8, eVar 9])))
    (sNx)))
/-- beside: cell, height, width, row, column, places, line, at -/
def B_beside  : S := sSeq (sAsg (eVar 0) (gT 2 (gsCons (gN 3) (gsCons (gN 4) (gsNil)))))
    (sSeq (sSet 5 (eLst [eTup [e2 subG (eVar 3) (ec (.int 1)), eVar 4], eTup [eVar 3, e2 subG (eVar 4) (ec (.int 1))], eTup [eVar 3, e2 addG (eVar 4) (ec (.int 1))], eTup [e2 addG (eVar 3) (ec (.int 1)), eVar 4]]))
    (sSeq (sRet (eLc (srcL (eVar 5)) [6, 7] (gT 2 (gsCons (gN 6) (gsCons (gN 7) (gsNil)))) (andB (chain leG ltG (ec (.int 0)) (eVar 6) (eVar 1)) (chain leG ltG (ec (.int 0)) (eVar 7) (eVar 2))) (eTup [eVar 6, eVar 7])))
    (sNx)))
/-- _law_beside: rows, cell, near, other -/
def B_law_beside (f_law_inside : FSem) : S := sSeq (sSet 2 (eLst [eTup [e2 subG (e2 ixG (eVar 1) (ec (.int 0))) (ec (.int 1)), e2 ixG (eVar 1) (ec (.int 1))], eTup [e2 ixG (eVar 1) (ec (.int 0)), e2 subG (e2 ixG (eVar 1) (ec (.int 1))) (ec (.int 1))], eTup [e2 ixG (eVar 1) (ec (.int 0)), e2 addG (e2 ixG (eVar 1) (ec (.int 1))) (ec (.int 1))], eTup [e2 addG (e2 ixG (eVar 1) (ec (.int 0))) (ec (.int 1)), e2 ixG (eVar 1) (ec (.int 1))]]))
    (sSeq (sRet (eLc (srcL (eVar 2)) [3] (gN 3) (tr (eCall f_law_inside [false, false] [eVar 0, eVar 3]) truG) (eVar 3)))
    (sNx))
/-- _law_drawn_table: state, low, high, least, most, wide, k, j -/
def B_law_drawn_table (f_law_next : FSem) : S := sSeq (sSet 5 (e2 addG (eVar 1) (eCall f_law_next [true, false] [eVar 0, e2 addG (e2 subG (eVar 2) (eVar 1)) (ec (.int 1))])))
    (sSeq (sRet (eN (un1 tupG) [eLc (srcR1 (e2 addG (eVar 1) (eCall f_law_next [true, false] [eVar 0, e2 addG (e2 subG (eVar 2) (eVar 1)) (ec (.int 1))]))) [7] (gN 7) (M.pure true) (eN (un1 tupG) [eLc (srcR1 (eVar 5)) [6] (gN 6) (M.pure true) (e2 addG (eVar 3) (eCall f_law_next [true, false] [eVar 0, e2 addG (e2 subG (eVar 4) (eVar 3)) (ec (.int 1))]))])]))
    (sNx))
/-- _law_part: rows, cells, start, met, place, other -/
def B_law_part (f_law_beside : FSem) : S := sSeq (sSet 3 (eN (un1 lstG) [eVar 2]))
    (sSeq (sSet 4 (ec (.int 0)))
    (sSeq (sWhile (cmp2 ltG (eVar 4) (eN (un1 lenG) [eVar 3])) (sSeq (sSet 3 (e2 addG (eVar 3) (eLc (srcL (eCall f_law_beside [false, false] [eVar 0, e2 ixG (eVar 3) (eVar 4)])) [5] (gN 5) (andB (cmp2 inG (eVar 5) (eVar 1)) (cmp2 (notG inG) (eVar 5) (eVar 3))) (eVar 5))))
    (sSeq (sSet 4 (e2 addG (eVar 4) (ec (.int 1))))
    (sNx))) 100000)
    (sSeq (sRet (eVar 3))
    (sNx))))
/-- cells_of: rows, row, column -/
def B_cells_of  : S := sSeq (sRet (eLc2 (srcR1 (eN (un1 lenG) [eVar 0])) [1, 2] (gN 1) (M.pure true) (srcR1 (eN (un1 lenG) [e2 ixG (eVar 0) (ec (.int 0))])) [2] (gN 2) (M.pure true) (eTup [eVar 1, eVar 2])))
    (sNx)
/-- as_table: rows, known, column, row -/
def B_as_table  : S := sSeq (sRet (eN (un1 tupG) [eLc (srcR1 (eN (un1 lenG) [eVar 0])) [3] (gN 3) (M.pure true) (eN (un1 tupG) [eLc (srcR1 (eN (un1 lenG) [e2 ixG (eVar 0) (ec (.int 0))])) [2] (gN 2) (M.pure true) (e2 dgetG (eVar 1) (eTup [eVar 3, eVar 2]))])]))
    (sNx)
/-- check_maze: rows, width, row, cell -/
def B_check_maze  : S := sSeq (sSet 1 (eN (un1 lenG) [e2 ixG (eVar 0) (ec (.int 0))]))
    (sSeq (sIf (orB (cmp2 eqG (eVar 1) (ec (.int 0))) (cmp2 inG (ec (.bl true)) (eLc (srcL (eVar 0)) [2] (gN 2) (M.pure true) (eB (cmp2 neG (eN (un1 lenG) [eVar 2]) (eVar 1)))))) (sSeq (sRaise "UnfitGrid")
    (sNx)) (sNx))
    (sSeq (sIf (cmp2 inG (ec (.bl true)) (eLc2 (srcL (eVar 0)) [2, 3] (gN 2) (M.pure true) (srcL (eVar 2)) [3] (gN 3) (M.pure true) (eB (notB (tr (eB (chain leG leG (ec (.int 0)) (eVar 3) (ec (.int 3)))) truG))))) (sSeq (sRaise "UnfitGrid")
    (sNx)) (sNx))
    (sSeq (sIf (cmp2 gtG (e2 mulG (eN (un1 lenG) [eVar 0]) (eVar 1)) (ec (.int 36))) (sSeq (sRaise "TooWide")
    (sNx)) (sNx))
    (sSeq (sRet (eTup [eN (un1 lenG) [eVar 0], eVar 1]))
    (sNx)))))
-- B_is_open: lacking global name SIDES
-- B_nexts: lacking iter enumerate/1
/-- _law_is_open: rows, one, two, low, high -/
def B_law_is_open (f_law_at : FSem) : S := sSeq (sPar 3 4 [eN min2G [eVar 1, eVar 2], eN max2G [eVar 1, eVar 2]])
    (sSeq (sRet (eIf (cmp2 eqG (e2 ixG (eVar 3) (ec (.int 0))) (e2 ixG (eVar 4) (ec (.int 0)))) (eB (cmp2 eqG (e2 modG (eCall f_law_at [false, false] [eVar 0, eVar 3]) (ec (.int 2))) (ec (.int 0)))) (eB (cmp2 ltG (eCall f_law_at [false, false] [eVar 0, eVar 3]) (ec (.int 2))))))
    (sNx))
/-- _law_nexts: rows, cell, other -/
def B_law_nexts (f_law_beside : FSem) (f_law_is_open : FSem) : S := sSeq (sRet (eLc (srcL (eCall f_law_beside [false, false] [eVar 0, eVar 1])) [2] (gN 2) (tr (eCall f_law_is_open [false, false, false] [eVar 0, eVar 1, eVar 2]) truG) (eVar 2)))
    (sNx)
end Ev

set_option Elab.async false
set_option linter.all false
set_option maxRecDepth 100000
set_option maxHeartbeats 4000000
namespace Ev
open PySem
@[simp] theorem hel_cons0_own {d : D} {σ : Fr} : hel (.own d :: σ) 0 = some d := rfl
@[simp] theorem hel_cons0_par {d : D} {σ : Fr} : hel (.par d :: σ) 0 = some d := rfl
@[simp] theorem hel_cons0_fro {d : D} {σ : Fr} : hel (.fro d :: σ) 0 = none := rfl
@[simp] theorem hel_cons0_no {σ : Fr} : hel (.no :: σ) 0 = none := rfl
@[simp] theorem hel_succ {l : Sl} {σ : Fr} {k : Nat} : hel (l :: σ) (k + 1) = hel σ k := by unfold hel; rw [List.getElem?_cons_succ]
@[simp] theorem setSl_cons0_own {d e : D} {σ : Fr} : setSl (.own d :: σ) 0 e = .own e :: σ := rfl
@[simp] theorem setSl_cons0_par {d e : D} {σ : Fr} : setSl (.par d :: σ) 0 e = .par e :: σ := rfl
@[simp] theorem setSl_succ {l : Sl} {σ : Fr} {k : Nat} {e : D} : setSl (l :: σ) (k + 1) e = l :: setSl σ k e := by
  unfold setSl
  rw [List.getElem?_cons_succ]
  split <;> simp_all
@[simp] theorem get_cons0_own {d : D} {σ : Fr} : R.get (.own d :: σ) (.s 0) = some d := rfl
@[simp] theorem get_cons0_par {d : D} {σ : Fr} : R.get (.par d :: σ) (.s 0) = some d := rfl
@[simp] theorem get_cons0_fro {d : D} {σ : Fr} : R.get (.fro d :: σ) (.s 0) = some d := rfl
@[simp] theorem get_cons_succ {l : Sl} {σ : Fr} {k : Nat} : R.get (l :: σ) (.s (k + 1)) = R.get σ (.s k) := by unfold R.get; simp only [List.getElem?_cons_succ]
@[simp] theorem get_v {σ : Fr} {d : D} {o : Bool} : R.get σ (.v d o) = some d := rfl
theorem ix_nat (l : List D) (k : Nat) (d : D) (h : l[k]? = some d) : ixG (.lst l) (.int k) = some (d, false) := by
  simp [ixG, L2.atI_nat h]
theorem ix_natT (l : List D) (k : Nat) (d : D) (h : l[k]? = some d) : ixG (.tup l) (.int k) = some (d, false) := by
  simp [ixG, L2.atI_nat h]
@[simp] theorem ixN0 {n : Nat} : L2.ixN (n + 1) 0 = some 0 := by simp [L2.ixN] <;> omega
@[simp] theorem ixN1 {n : Nat} : L2.ixN (n + 1 + 1) 1 = some 1 := by simp [L2.ixN] <;> omega
@[simp] theorem ixN2 {n : Nat} : L2.ixN (n + 1 + 1 + 1) 2 = some 2 := by simp [L2.ixN] <;> omega
@[simp] theorem ixN3 {n : Nat} : L2.ixN (n + 1 + 1 + 1 + 1) 3 = some 3 := by simp [L2.ixN] <;> omega
@[simp] theorem ixL0 {a : D} {l : List D} : ixG (.lst (a :: l)) (.int 0) = some (a, false) := ix_nat _ 0 _ rfl
@[simp] theorem ixL1 {a b : D} {l : List D} : ixG (.lst (a :: b :: l)) (.int 1) = some (b, false) := ix_nat _ 1 _ rfl
@[simp] theorem ixL2 {a b c : D} {l : List D} : ixG (.lst (a :: b :: c :: l)) (.int 2) = some (c, false) := ix_nat _ 2 _ rfl
@[simp] theorem ixL3 {a b c e : D} {l : List D} : ixG (.lst (a :: b :: c :: e :: l)) (.int 3) = some (e, false) := ix_nat _ 3 _ rfl
@[simp] theorem atIL0 {a : D} {l : List D} : L2.atI (a :: l) 0 = some a := L2.atI_nat (j := 0) rfl
@[simp] theorem atIL1 {a b : D} {l : List D} : L2.atI (a :: b :: l) 1 = some b := L2.atI_nat (j := 1) rfl
@[simp] theorem eq_ii {i j : Int} : eqG (.int i) (.int j) = some (decide (i = j)) := by simp [eqG, shp, eqv]
@[simp] theorem lt_ii {i j : Int} : ltG (.int i) (.int j) = some (decide (i < j)) := rfl
@[simp] theorem gt_ii {i j : Int} : gtG (.int i) (.int j) = some (decide (j < i)) := rfl
@[simp] theorem ge_ii {i j : Int} : geG (.int i) (.int j) = some (decide (j ≤ i)) := rfl
@[simp] theorem le_ii {i j : Int} : leG (.int i) (.int j) = some (decide (i ≤ j)) := rfl
@[simp] theorem add_ii {i j : Int} : addG (.int i) (.int j) = some (.int (i + j), false) := rfl
@[simp] theorem sub_ii {i j : Int} : subG (.int i) (.int j) = some (.int (i - j), false) := rfl
@[simp] theorem len_l {l : List D} : lenG (.lst l) = some (.int l.length, false) := rfl
@[simp] theorem len_t {l : List D} : lenG (.tup l) = some (.int l.length, false) := rfl
@[simp] theorem int_i {i : Int} : intG (.int i) = some (.int i, false) := rfl
@[simp] theorem un1_1 {g : D → Option (D × Bool)} {d : D} : un1 g [d] = g d := rfl
theorem mod_ii {i j : Int} (h : 0 < j) : modG (.int i) (.int j) = some (.int (i % j), false) := by simp [modG, h]
theorem div_ii {i j : Int} (h : 0 < j) (h2 : j < 1073741824) : divG (.int i) (.int j) = some (.int (i / j), false) := by simp [divG, h, h2]
theorem mul_ic {i j : Int} (h : -18446744073709551616 < j) (h2 : j < 18446744073709551616) : mulG (.int i) (.int j) = some (.int (i * j), false) := by simp [mulG, mulOk, h, h2]
@[simp] theorem pow_1018 : powG (.int 10) (.int 18) = some (.int 1000000000000000000, false) := by simp [powG]

def ST (ns : List Int) (i c s : Int) : D := .lst [.lst (ns.map .int), .int i, .int c, .int s]
@[simp] theorem fin_nil {σ : Fr} : finals [] σ = some [] := rfl
@[simp] theorem fin_fro {d : D} {as : List Ar} {l : Sl} {σ : Fr} : finals (.fro d :: as) (l :: σ) = (finals as σ).map (.fro d :: ·) := rfl
@[simp] theorem fin_ref {d e : D} {as : List Ar} {σ : Fr} : finals (.ref e :: as) (.par d :: σ) = (finals as σ).map (.ref d :: ·) := rfl
@[simp] theorem ret_v {σ : Fr} {d : D} {o : Bool} : retOf σ (.v d o) = some (d, o) := rfl
theorem next_ok (ns : List Int) (i c s lim : Int) (hi : 0 ≤ i) (hc : 0 ≤ c) (hl : 1 ≤ lim) (hl2 : lim ≤ 1000000) : wpF (mkF 4 B_law_next) [.ref (ST ns i c s), .fro (.int lim)]
    (fun d o fs => ∃ v i' c' s', d = .int v ∧ o = false ∧ 0 ≤ v ∧ v < lim ∧ 0 ≤ i' ∧ 0 ≤ c' ∧ fs = [.ref (ST ns i' c' s'), .fro (.int lim)]) (fun _ _ => False) := by
  rw [wf_mk]
  have e : frame 4 [.ref (ST ns i c s), .fro (.int lim)] = [.par (ST ns i c s), .fro (.int lim), .no, .no] := rfl
  have l0 : (0 : Int) < lim := by omega
  have l1 : lim < 1073741824 := by omega
  rw [e]
  unfold B_law_next ST
  have hix : i < ns.length → ∃ x, ixG (.lst (ns.map .int)) (.int i) = some (.int x, false) := fun h => by
    obtain ⟨k, rfl⟩ := Int.eq_ofNat_of_zero_le hi
    have hk : k < ns.length := by omega
    exact ⟨ns[k], ix_nat _ k _ (by simp [hk])⟩
  have m1 : ∀ z : Int, 0 ≤ z % lim := fun z => Int.emod_nonneg _ (by omega)
  have m2 : ∀ z : Int, z % lim < lim := fun z => Int.emod_lt_of_pos _ l0
  have i1 : 0 ≤ i + 1 := by omega
  by_cases h1 : c = 0
  · by_cases h2 : i < ns.length
    · obtain ⟨x, hx⟩ := hix h2
      simp [h1, h2, hx, mod_ii, div_ii, mul_ic, l0, l1, m1, m2, i1]
      split
      · intro _
        exact Int.ediv_nonneg (by omega) (by omega)
      · intro _
        omega
    · simp [h1, h2, mod_ii, div_ii, mul_ic, l0, l1, m1, m2, hi]
  · simp [h1, mod_ii, div_ii, mul_ic, l0, l1, m1, m2, hi, hc]
    intro _
    exact Int.ediv_nonneg hc (by omega)
end Ev

set_option Elab.async false
set_option linter.all false
set_option maxRecDepth 100000
set_option maxHeartbeats 4000000
namespace Ev
open PySem
@[simp] theorem isi1 {t : String} {d : D} : isiG [t] d = some (.bl (subT (tyN d) t), false) := by simp [isiG]
@[simp] theorem isi2 {t u : String} {d : D} : isiG [t, u] d = some (.bl (subT (tyN d) t || subT (tyN d) u), false) := by simp [isiG]
@[simp] theorem tru_b {b : Bool} : truG (.bl b) = some b := rfl
@[simp] theorem is_non {x : D} : isG x .non = some (isNon x) := by cases x <;> rfl
@[simp] theorem isNon_non : isNon .non = true := rfl
@[simp] theorem isNon_bl {b : Bool} : isNon (.bl b) = false := rfl
@[simp] theorem isNon_int {b : Int} : isNon (.int b) = false := rfl
@[simp] theorem isNon_str {b : List Nat} : isNon (.str b) = false := rfl
@[simp] theorem isNon_tup {b : List D} : isNon (.tup b) = false := rfl
@[simp] theorem isNon_lst {b : List D} : isNon (.lst b) = false := rfl
@[simp] theorem isNon_dic {b : List (D × D)} : isNon (.dic b) = false := rfl
@[simp] theorem ty_non : tyN .non = "NoneType" := rfl
@[simp] theorem ty_bl {b : Bool} : tyN (.bl b) = "bool" := rfl
@[simp] theorem ty_int {b : Int} : tyN (.int b) = "int" := rfl
@[simp] theorem ty_str {b : List Nat} : tyN (.str b) = "str" := rfl
@[simp] theorem ty_tup {b : List D} : tyN (.tup b) = "tuple" := rfl
@[simp] theorem ty_lst {b : List D} : tyN (.lst b) = "list" := rfl
@[simp] theorem ty_dic {b : List (D × D)} : tyN (.dic b) = "dict" := rfl
@[simp] theorem neg_ii {i j : Int} : neG (.int i) (.int j) = some (!decide (i = j)) := by simp [neG, shp, eqv]
@[simp] theorem eq_bb {i j : Bool} : eqG (.bl i) (.bl j) = some (decide (i = j)) := by simp [eqG, shp, eqv]
mutual
theorem shp_up : ∀ {n m : Nat} {d : D}, shp n d = true → n ≤ m → shp m d = true
  | _, _, .non, _, _ => by simp [shp]
  | _, _, .bl _, _, _ => by simp [shp]
  | _, _, .int _, _, _ => by simp [shp]
  | _, _, .str s, h, _ => by simp only [shp] at h ⊢; exact h
  | _, _, .dic _, h, _ => by simp [shp] at h
  | 0, _, .tup _, h, _ => by simp [shp] at h
  | 0, _, .lst _, h, _ => by simp [shp] at h
  | n + 1, 0, .tup _, _, hm => by omega
  | n + 1, 0, .lst _, _, hm => by omega
  | n + 1, m + 1, .tup l, h, hm => by simp only [shp] at h ⊢; exact shpL_up h (by omega)
  | n + 1, m + 1, .lst l, h, hm => by simp only [shp] at h ⊢; exact shpL_up h (by omega)
theorem shpL_up : ∀ {n m : Nat} {l : List D}, shpL n l = true → n ≤ m → shpL m l = true
  | _, _, [], _, _ => by simp [shpL]
  | n, m, d :: ds, h, hm => by
    simp only [shpL, Bool.and_eq_true] at h ⊢
    exact ⟨shp_up h.1 hm, shpL_up h.2 hm⟩
end
theorem shpL_mem : ∀ {n : Nat} {l : List D}, shpL n l = true ↔ ∀ d ∈ l, shp n d = true
  | _, [] => by simp [shpL]
  | n, d :: ds => by simp [shpL, shpL_mem (l := ds)]
theorem rng_len (n : Nat) (h : n ≤ 1000000) : rngG (.int 0) (.int n) = some ((List.range n).map fun (k : Nat) => .int (k : Int)) := by
  have h1 : okR 0 ∧ okR (n : Int) := ⟨by decide, by constructor <;> omega⟩
  show (if okR 0 ∧ okR (n : Int) then some ((List.range ((n : Int) - 0).toNat).map fun (k : Nat) => D.int (0 + (k : Int))) else none) = _
  rw [if_pos h1]
  simp
def SameP (a e : D) (d : D) (o : Bool) (fs : List Ar) : Prop := d = .bl (decide (a = e)) ∧ o = false ∧ fs = [.fro a, .fro e]
theorem ws_for0 {f : SE} {g : D → M Unit} {b : S} {σ : Fr} {Q : Fl → Fr → Prop} {l : List D} (h : wpM (srcR1 f) σ (fun s σ1 => s = ⟨l, []⟩ ∧ σ1 = σ) (fun _ _ => False)) (k : wpS (forGo [] g b l) σ Q) : wpS (sFor (srcR1 f) g b) σ Q := by
  refine ws_for.mpr (wpM_mono h (fun s σ1 ⟨e1, e2⟩ => ?_) fun _ _ h => h.elim)
  subst e1 e2
  exact ⟨fun w hw => (by cases hw), wpS_mono k fun fl σ2 q => ⟨okW_nil _, q⟩⟩
theorem map_drop_cons {n k : Nat} {x : D} {xs : List D} (h : x :: xs = ((List.range n).map fun (k : Nat) => D.int (k : Int)).drop k) : k < n ∧ x = .int k ∧ xs = ((List.range n).map fun (k : Nat) => D.int (k : Int)).drop (k + 1) := by
  by_cases hk : k < n
  · rw [List.drop_eq_getElem_cons (by simpa using hk)] at h
    injection h with h1 h2
    exact ⟨hk, by simpa using h1, h2⟩
  · rw [List.drop_eq_nil_of_le (by simpa using Nat.le_of_not_lt hk)] at h
    cases h
def SI (as l : List D) (a0 e0 : D) (rest : List D) (σ : Fr) : Prop := ∃ k x, rest = ((List.range l.length).map fun (k : Nat) => D.int (k : Int)).drop k ∧ k ≤ l.length ∧ (x = Sl.no ∨ ∃ d, x = Sl.fro d) ∧ σ = [.fro a0, .fro e0, x] ∧ as.take k = l.take k
/-- the loop of _law_same, over two lists as long -/
theorem same_loop (self : FSem) {a0 e0 : D} {as l : List D} (hl : as.length = l.length) (ha : ∀ (k : Nat) d, as[k]? = some d → ixG a0 (.int (k : Int)) = some (d, false)) (he : ∀ (k : Nat) d, l[k]? = some d → ixG e0 (.int (k : Int)) = some (d, false))
    (ih : ∀ (k : Nat) x y, as[k]? = some x → l[k]? = some y → wpF self [.fro x, .fro y] (SameP x y) (fun _ _ => False)) {Q : Fl → Fr → Prop} (hQ : ∀ x, as = l → Q .nx [.fro a0, .fro e0, x]) (hQ2 : ∀ x, as ≠ l → Q (.rt (.v (.bl false) false)) [.fro a0, .fro e0, x]) :
    wpS (forGo [] (gN 2) (sSeq (sIf (notB (tr (eCall self [false, false] [e2 ixG (eVar 0) (eVar 2), e2 ixG (eVar 1) (eVar 2)]) truG)) (sSeq (sRet (ec (.bl false))) sNx) sNx) sNx) ((List.range l.length).map fun (k : Nat) => D.int (k : Int))) [.fro a0, .fro e0, .no] Q := by
  refine ws_forGo (SI as l a0 e0) ⟨0, .no, by simp, Nat.zero_le _, .inl rfl, rfl, by simp⟩ (fun x xs σ ⟨k, sl, q1, q2, q3, q4, q5⟩ => ?_) fun σ ⟨k, sl, q1, q2, q3, q4, q5⟩ => ?_
  · obtain ⟨hk, rfl, hxs⟩ := map_drop_cons q1
    subst q4
    have hka : k < as.length := by omega
    have g1 := ha k _ (List.getElem?_eq_getElem hka)
    have g2 := he k _ (List.getElem?_eq_getElem hk)
    have hi := ih k _ _ (List.getElem?_eq_getElem hka) (List.getElem?_eq_getElem hk)
    have go : wpS (sSeq (sIf (notB (tr (eCall self [false, false] [e2 ixG (eVar 0) (eVar 2), e2 ixG (eVar 1) (eVar 2)]) truG)) (sSeq (sRet (ec (.bl false))) sNx) sNx) sNx) [.fro a0, .fro e0, .fro (.int k)] (fun fl σ2 => match fl with
      | .nx => SI as l a0 e0 xs σ2
      | .ct => SI as l a0 e0 xs σ2
      | .bk => Q .nx σ2
      | fl => Q fl σ2) := by
      simp [g1, g2, okA]
      refine wpF_mono hi (fun d o fs ⟨h1, h2, h3⟩ => ?_) fun _ _ h => h.elim
      subst h1 h2 h3
      simp [setAll]
      by_cases hd : as[k] = l[k]
      · simp [hd]
        refine ⟨k + 1, .fro (.int k), hxs, by omega, .inr ⟨_, rfl⟩, rfl, ?_⟩
        rw [List.take_succ_eq_append_getElem hka, List.take_succ_eq_append_getElem hk, q5, hd]
      · simp [hd]
        exact hQ2 _ fun h => hd (by subst h; rfl)
    rcases q3 with rfl | ⟨d, rfl⟩
    · exact wp_gN.mpr (wpT_no.mpr go)
    · exact wp_gN.mpr (wpT_fro.mpr go)
  · subst q4
    have hk : l.length ≤ k := by
      have := congrArg List.length q1
      simp at this
      omega
    refine hQ _ ?_
    rw [List.take_of_length_le (by omega), List.take_of_length_le hk] at q5
    exact q5
theorem same_ok {a e : D} (self : FSem) (n : Nat) (hn : n ≤ 63) (ih : ∀ x y, (∃ l, (e = .tup l ∨ e = .lst l) ∧ y ∈ l) → shp 64 x = true → wpF self [.fro x, .fro y] (SameP x y) (fun _ _ => False)) (hb : ∀ l, (e = .tup l ∨ e = .lst l) → l.length ≤ 1000000) (he : shp (n + 1) e = true) (ha : shp 64 a = true ∨ ∃ l, a = .dic l) :
    wpF (mkF 3 (B_law_same self)) [.fro a, .fro e] (SameP a e) (fun _ _ => False) := by
  rw [wf_mk]
  have e0 : frame 3 [.fro a, .fro e] = [.fro a, .fro e, .no] := rfl
  rw [e0]
  unfold B_law_same SameP
  cases e with
  | non => cases a <;> simp
  | bl b => cases a <;> simp [subT]
  | int b => cases a <;> simp [subT]
  | str s =>
    have hs : shp 64 (.str s) = true := shp_up he (by omega)
    cases a with
    | str t =>
      have ht : shp 64 (.str t) = true := by
        rcases ha with h | ⟨l, h⟩
        · exact h
        · cases h
      simp [subT, eqG, hs, ht, eqv]
    | _ => simp [subT]
  | tup l =>
    cases a with
    | tup as =>
      by_cases hl : as.length = l.length
      · simp [subT, hl]
        have h1 := hb l (.inl rfl)
        refine ws_for0 (l := (List.range l.length).map fun (k : Nat) => D.int (k : Int)) (by simp [rng_len _ h1]) ?_
        have sa : ∀ x ∈ as, shp 64 x = true := fun x hx => by
          rcases ha with h | ⟨l, h⟩
          · simp only [shp] at h; exact shp_up (shpL_mem.mp h x hx) (by omega)
          · cases h
        have se : ∀ x ∈ l, shp n x = true := by
          simp only [shp] at he; exact shpL_mem.mp he
        refine same_loop self hl (fun k d h => ix_natT _ k d h) (fun k d h => ix_natT _ k d h) (fun k x y hx hy => ih x y ⟨l, .inl rfl, List.mem_of_getElem? hy⟩ (sa x (List.mem_of_getElem? hx))) (fun x h => ?_) fun x h => ?_
        · simp [h]
        · simp [h]
      · have hne : as ≠ l := fun h => hl (by rw [h])
        have hi : ¬ (as.length : Int) = (l.length : Int) := by omega
        simp [subT, hl, hne, hi]
    | _ => simp [subT]
  | lst l =>
    cases a with
    | lst as =>
      by_cases hl : as.length = l.length
      · simp [subT, hl]
        have h1 := hb l (.inr rfl)
        refine ws_for0 (l := (List.range l.length).map fun (k : Nat) => D.int (k : Int)) (by simp [rng_len _ h1]) ?_
        have sa : ∀ x ∈ as, shp 64 x = true := fun x hx => by
          rcases ha with h | ⟨l, h⟩
          · simp only [shp] at h; exact shp_up (shpL_mem.mp h x hx) (by omega)
          · cases h
        have se : ∀ x ∈ l, shp n x = true := by
          simp only [shp] at he; exact shpL_mem.mp he
        refine same_loop self hl (fun k d h => ix_nat _ k d h) (fun k d h => ix_nat _ k d h) (fun k x y hx hy => ih x y ⟨l, .inr rfl, List.mem_of_getElem? hy⟩ (sa x (List.mem_of_getElem? hx))) (fun x h => ?_) fun x h => ?_
        · simp [h]
        · simp [h]
      · have hne : as ≠ l := fun h => hl (by rw [h])
        have hi : ¬ (as.length : Int) = (l.length : Int) := by omega
        simp [subT, hl, hne, hi]
    | _ => simp [subT]
  | dic l => simp [shp] at he
end Ev

set_option Elab.async false
set_option linter.all false
set_option maxRecDepth 100000
set_option maxHeartbeats 4000000
namespace Ev
open PySem
/-! ### weight, whole numbers within a bound -/
mutual
def wt : D → Nat
  | .non => 8
  | .bl _ => 8
  | .int _ => 16
  | .str s => 12 * s.length + 4
  | .tup l => 4 + wtL l
  | .lst l => 4 + wtL l
  | .dic _ => 0
def wtL : List D → Nat
  | [] => 0
  | d :: ds => wt d + 2 + wtL ds
end
mutual
def gi (J : Nat) : D → Bool
  | .int i => decide (i.natAbs ≤ J)
  | .tup l => giL J l
  | .lst l => giL J l
  | .dic _ => false
  | _ => true
def giL (J : Nat) : List D → Bool
  | [] => true
  | d :: ds => gi J d && giL J ds
end
theorem giL_mem {J : Nat} : ∀ {l : List D}, giL J l = true ↔ ∀ d ∈ l, gi J d = true
  | [] => by simp [giL]
  | d :: ds => by simp [giL, giL_mem (l := ds)]
theorem wtL_append : ∀ (a b : List D), wtL (a ++ b) = wtL a + wtL b
  | [], b => by simp [wtL]
  | d :: ds, b => by simp [wtL, wtL_append ds b]; omega
theorem wtL_mem : ∀ {l : List D} {d : D}, d ∈ l → wt d + 2 ≤ wtL l
  | e :: es, d, h => by
    rw [wtL]
    rcases List.mem_cons.mp h with rfl | h
    · omega
    · have := wtL_mem h; omega
theorem len_wtL : ∀ (l : List D), l.length * 2 ≤ wtL l
  | [] => by simp
  | d :: ds => by have := len_wtL ds; simp [wtL]; omega
theorem wtL_take (k : Nat) : ∀ (l : List D), wtL (l.take k) ≤ wtL l := fun l => by
  have := wtL_append (l.take k) (l.drop k)
  rw [List.take_append_drop] at this
  omega
theorem wtL_drop (k : Nat) (l : List D) : wtL (l.drop k) ≤ wtL l := by
  have := wtL_append (l.take k) (l.drop k)
  rw [List.take_append_drop] at this
  omega
theorem wtL_reverse : ∀ (l : List D), wtL l.reverse = wtL l
  | [] => rfl
  | d :: ds => by rw [List.reverse_cons, wtL_append, wtL_reverse ds]; simp [wtL]; omega
structure Gd (n W J : Nat) (d : D) : Prop where
  sh : shp n d = true
  w : wt d ≤ W
  i : gi J d = true
theorem Gd.up {n W J n' W' J' : Nat} {d : D} (h : Gd n W J d) (h1 : n ≤ n') (h2 : W ≤ W') (h3 : ∀ i : Int, i.natAbs ≤ J → i.natAbs ≤ J') : Gd n' W' J' d := by
  refine ⟨shp_up h.sh h1, Nat.le_trans h.w h2, ?_⟩
  have go : ∀ k d, wt d < k → gi J d = true → gi J' d = true := by
    intro k
    induction k with
    | zero => intro d h; omega
    | succ k ih =>
      intro d hk h
      have gl : ∀ l : List D, wtL l < k → giL J l = true → giL J' l = true := fun l hl h => by
        rw [giL_mem] at h ⊢
        exact fun x hx => ih x (by have := wtL_mem hx; omega) (h x hx)
      cases d with
      | int i => simp only [gi, decide_eq_true_eq] at h ⊢; exact h3 i h
      | tup l => simp only [gi, wt] at h hk ⊢; exact gl l (by omega) h
      | lst l => simp only [gi, wt] at h hk ⊢; exact gl l (by omega) h
      | dic l => simp [gi] at h
      | non => simp [gi]
      | bl b => simp [gi]
      | str s => simp [gi]
  exact go _ d (Nat.lt_succ_self _) h.i
theorem Gd.tup {n W J : Nat} {l : List D} (h : Gd (n + 1) W J (.tup l)) : 4 + wtL l ≤ W ∧ ∀ x ∈ l, Gd n W J x := by
  have h1 := h.w; have h2 := h.sh; have h3 := h.i
  simp only [wt, shp, gi] at h1 h2 h3
  refine ⟨h1, fun x hx => ⟨shpL_mem.mp h2 x hx, ?_, giL_mem.mp h3 x hx⟩⟩
  have := wtL_mem hx; omega
theorem Gd.lst {n W J : Nat} {l : List D} (h : Gd (n + 1) W J (.lst l)) : 4 + wtL l ≤ W ∧ ∀ x ∈ l, Gd n W J x := by
  have h1 := h.w; have h2 := h.sh; have h3 := h.i
  simp only [wt, shp, gi] at h1 h2 h3
  refine ⟨h1, fun x hx => ⟨shpL_mem.mp h2 x hx, ?_, giL_mem.mp h3 x hx⟩⟩
  have := wtL_mem hx; omega
theorem Gd.mkT {n W J : Nat} {l : List D} (h : 4 + wtL l ≤ W) (hx : ∀ x ∈ l, shp n x = true ∧ gi J x = true) : Gd (n + 1) W J (.tup l) := by
  refine ⟨?_, ?_, ?_⟩
  · simp only [shp]; exact shpL_mem.mpr fun x hy => (hx x hy).1
  · simpa only [wt] using h
  · simp only [gi]; exact giL_mem.mpr fun x hy => (hx x hy).2
theorem Gd.mkL {n W J : Nat} {l : List D} (h : 4 + wtL l ≤ W) (hx : ∀ x ∈ l, shp n x = true ∧ gi J x = true) : Gd (n + 1) W J (.lst l) := by
  refine ⟨?_, ?_, ?_⟩
  · simp only [shp]; exact shpL_mem.mpr fun x hy => (hx x hy).1
  · simpa only [wt] using h
  · simp only [gi]; exact giL_mem.mpr fun x hy => (hx x hy).2
/-! ### _law_same, by fuel -/
def FamSame (f : Nat → FSem) : Prop := ∀ k, f (k + 1) = mkF 3 (B_law_same (f k))
theorem same_fam {f : Nat → FSem} (h : FamSame f) {W J : Nat} (hW : W ≤ 1000000) : ∀ (n k : Nat) (a e : D), n ≤ k → n ≤ 60 → Gd n W J e → (shp 64 a = true ∨ ∃ l, a = .dic l) → wpF (f (k + 1)) [.fro a, .fro e] (SameP a e) (fun _ _ => False) := by
  intro n
  induction n with
  | zero =>
    intro k a e _ _ he ha
    rw [h k]
    rw [wf_mk]
    have e0 : frame 3 [.fro a, .fro e] = [.fro a, .fro e, .no] := rfl
    rw [e0]
    unfold B_law_same SameP
    have hs := he.sh
    cases e with
    | non => cases a <;> simp
    | bl b => cases a <;> simp [subT]
    | int b => cases a <;> simp [subT]
    | str s =>
      have hs : shp 64 (.str s) = true := shp_up hs (by omega)
      cases a with
      | str t =>
        have ht : shp 64 (.str t) = true := by
          rcases ha with h | ⟨l, h⟩
          · exact h
          · cases h
        simp [subT, eqG, hs, ht, eqv]
      | _ => simp [subT]
    | tup l => simp [shp] at hs
    | lst l => simp [shp] at hs
    | dic l => simp [shp] at hs
  | succ n ih =>
    intro k a e hk hn he ha
    obtain ⟨k, rfl⟩ : ∃ j, k = j + 1 := ⟨k - 1, by omega⟩
    rw [h (k + 1)]
    refine same_ok (f (k + 1)) n (by omega) (fun x y hy hx => ih k x y (by omega) (by omega) ?_ (.inl hx)) (fun l hl => ?_) he.sh ha
    · obtain ⟨l, h | h, hm⟩ := hy
      · subst h; exact he.tup.2 y hm
      · subst h; exact he.lst.2 y hm
    · rcases hl with rfl | rfl
      · have := he.tup.1; have := len_wtL l; omega
      · have := he.lst.1; have := len_wtL l; omega
end Ev

set_option Elab.async false
set_option linter.all false
set_option maxRecDepth 100000
set_option maxHeartbeats 4000000
namespace Ev
open PySem
def WS (d : D) : Prop := ∃ ns i c s, d = ST ns i c s ∧ 0 ≤ i ∧ 0 ≤ c
def NextOk (nx : FSem) : Prop := ∀ st lim, WS st → 1 ≤ lim → lim ≤ 1000000 → wpF nx [.ref st, .fro (.int lim)] (fun d o fs => ∃ v st', d = .int v ∧ o = false ∧ 0 ≤ v ∧ v < lim ∧ WS st' ∧ fs = [.ref st', .fro (.int lim)]) (fun _ _ => False)
theorem next_NextOk : NextOk (mkF 4 B_law_next) := fun st lim ⟨ns, i, c, s, e, hi, hc⟩ h1 h2 => by
  subst e
  refine wpF_mono (next_ok ns i c s lim hi hc h1 h2) (fun d o fs ⟨v, i', c', s', e1, e2, e3, e4, e5, e6, e7⟩ => ⟨v, _, e1, e2, e3, e4, ⟨ns, i', c', s', rfl, e5, e6⟩, e7⟩) fun _ _ h => h.elim
theorem NextOk.run {nx : FSem} (h : NextOk nx) {st : D} {lim : Int} {Q : D → Bool → List Ar → Prop} {X : Str → List Ar → Prop} (hs : WS st) (h1 : 1 ≤ lim) (h2 : lim ≤ 1000000) (k : ∀ v st', 0 ≤ v → v < lim → WS st' → Q (.int v) false [.ref st', .fro (.int lim)]) : wpF nx [.ref st, .fro (.int lim)] Q X := by
  refine wpF_mono (h st lim hs h1 h2) (fun d o fs ⟨v, st', e1, e2, e3, e4, e5, e6⟩ => ?_) fun _ _ h => h.elim
  subst e1 e2 e6
  exact k v st' e3 e4 e5
theorem ixL_any {l : List D} {v : Int} (h0 : 0 ≤ v) (h1 : v < l.length) : ∃ d, ixG (.lst l) (.int v) = some (d, false) ∧ d ∈ l := by
  obtain ⟨k, rfl⟩ := Int.eq_ofNat_of_zero_le h0
  have hk : k < l.length := by omega
  exact ⟨l[k], ix_nat _ k _ (List.getElem?_eq_getElem hk), List.getElem_mem hk⟩
theorem ixT_any {l : List D} {v : Int} (h0 : 0 ≤ v) (h1 : v < l.length) : ∃ d, ixG (.tup l) (.int v) = some (d, false) ∧ d ∈ l := by
  obtain ⟨k, rfl⟩ := Int.eq_ofNat_of_zero_le h0
  have hk : k < l.length := by omega
  exact ⟨l[k], ix_natT _ k _ (List.getElem?_eq_getElem hk), List.getElem_mem hk⟩
@[simp] theorem setAll0 {σ : Fr} : setAll [] [] σ = some σ := rfl
@[simp] theorem setAll_f {k : Nat} {d e : D} {as : List (Nat × Ar)} {bs : List Ar} {σ : Fr} : setAll ((k, .fro d) :: as) (.fro e :: bs) σ = setAll as bs σ := rfl
@[simp] theorem setAll_r {k : Nat} {d e : D} {as : List (Nat × Ar)} {bs : List Ar} {σ : Fr} : setAll ((k, .ref d) :: as) (.ref e :: bs) σ = setAll as bs (setSl σ k e) := rfl
@[simp] theorem okA0 {σ : Fr} : okA σ [] = true := rfl
@[simp] theorem okA_f {k : Nat} {d : D} {as : List (Nat × Ar)} {σ : Fr} : okA σ ((k, .fro d) :: as) = okA σ as := rfl
@[simp] theorem okA_r {k : Nat} {d : D} {as : List (Nat × Ar)} {σ : Fr} : okA σ ((k, .ref d) :: as) = true ↔ hel σ k = some d ∧ k ∉ okA.refs as ∧ okA σ as = true := by
  rw [okA]
  cases h : hel σ k with
  | none => simp
  | some e => simp [and_assoc]
@[simp] theorem refs0 : okA.refs [] = [] := rfl
@[simp] theorem refs_f {k : Nat} {d : D} {as : List (Nat × Ar)} : okA.refs ((k, .fro d) :: as) = okA.refs as := rfl
@[simp] theorem tru_non : truG .non = some false := rfl
@[simp] theorem tru_int {i : Int} : truG (.int i) = some (decide (i ≠ 0)) := rfl
@[simp] theorem tru_tup {l : List D} : truG (.tup l) = some (!l.isEmpty) := rfl
@[simp] theorem tru_lst {l : List D} : truG (.lst l) = some (!l.isEmpty) := rfl
theorem intL_eq (i : Int) : intL i = (toString i).toList.map Char.toNat := by
  unfold intL
  rw [PySem.Str.ofString_eq_toList]
theorem char_lt (c : Char) : c.toNat < 1114112 := by
  have := c.valid
  rcases this with h | ⟨h1, h2⟩
  · have : c.val.toNat < 55296 := h
    show c.val.toNat < _
    omega
  · exact h2
theorem intL_codes (i : Int) : ∀ c ∈ intL i, c < 1114112 := by
  rw [intL_eq]
  intro c hc
  obtain ⟨ch, _, rfl⟩ := List.mem_map.mp hc
  exact char_lt ch
theorem intL_len {i : Int} (h : i.natAbs < 1000000000000) : (intL i).length ≤ 13 := by
  rw [intL_eq, List.length_map]
  have dig : ∀ n : Nat, n < 1000000000000 → (Nat.repr n).toList.length ≤ 12 := fun n hn => by
    rw [Nat.toList_repr]
    exact (Nat.length_toDigits_le_iff (by decide) (by decide)).mpr hn
  cases i with
  | ofNat n =>
    have := dig n h
    show (Nat.repr n).toList.length ≤ 13
    omega
  | negSucc n =>
    have := dig (n + 1) h
    show ("-" ++ Nat.repr (n + 1)).toList.length ≤ 13
    rw [String.toList_append, List.length_append]
    have e : "-".toList.length = 1 := by decide
    omega
theorem Gd.int {n W J : Nat} {i : Int} (h : i.natAbs ≤ J) (hw : 16 ≤ W) : Gd n W J (.int i) := ⟨by simp [shp], by simpa [wt] using hw, by simpa [gi] using h⟩
theorem Gd.bl {n W J : Nat} {b : Bool} (hw : 8 ≤ W) : Gd n W J (.bl b) := ⟨by simp [shp], by simpa [wt] using hw, by simp [gi]⟩
theorem Gd.non {n W J : Nat} (hw : 8 ≤ W) : Gd n W J .non := ⟨by simp [shp], by simpa [wt] using hw, by simp [gi]⟩
theorem Gd.str {n W J : Nat} {s : List Nat} (h : ∀ c ∈ s, c < 1114112) (hw : 12 * s.length + 4 ≤ W) : Gd n W J (.str s) := ⟨by simpa [shp] using h, by simpa [wt] using hw, by simp [gi]⟩
@[simp] theorem neg_i {i : Int} : negG (.int i) = some (.int (-i), false) := rfl
@[simp] theorem intOf_i {i : Int} : intOf (.int i) = some i := rfl
theorem cutL_mem {α : Type} {l : List α} {lo hi : Option Int} {x : α} (h : x ∈ cutL l lo hi) : x ∈ l := List.mem_of_mem_drop (List.mem_of_mem_take h)
theorem cutL_len {α : Type} {l : List α} {lo hi : Option Int} : (cutL l lo hi).length ≤ l.length := by
  unfold cutL
  simp only [List.length_take, List.length_drop]
  omega
theorem wtL_cut {l : List D} {lo hi : Option Int} : wtL (cutL l lo hi) ≤ wtL l := Nat.le_trans (wtL_take _ _) (wtL_drop _ _)
def ChPost (n W J : Nat) (v : D) (d : D) (fs : List Ar) : Prop := ∃ st', WS st' ∧ fs = [.ref st', .fro v] ∧ Gd (n + 1) (5 * W + 300) (2 * J + 10) d
end Ev

set_option Elab.async false
set_option linter.all false
set_option maxRecDepth 100000
set_option maxHeartbeats 4000000
namespace Ev
open PySem
theorem six_nat {n d k : Nat} (h : k ≤ n) : HT.sIx n d (some (k : Int)) = k := by
  rw [HT.sIx_nat]
  exact Nat.min_eq_left h
theorem cut_hi {α : Type} {l : List α} {k : Nat} (h : k ≤ l.length) : cutL l none (some (k : Int)) = l.take k := by
  unfold cutL
  rw [six_nat h]
  simp [HT.sIx]
theorem cut_lo {α : Type} {l : List α} {k : Nat} (h : k ≤ l.length) : cutL l (some (k : Int)) none = l.drop k := by
  unfold cutL
  rw [six_nat h]
  simp [HT.sIx]
  rw [List.take_of_length_le (by simp)]
theorem cut_mid {α : Type} {l : List α} {i j : Nat} (hi : i ≤ l.length) (hj : j ≤ l.length) : cutL l (some (i : Int)) (some (j : Int)) = (l.drop i).take (j - i) := by
  unfold cutL
  rw [six_nat hi, six_nat hj]
theorem ne_tnil {l : List D} (h : shp 64 (.tup l) = true) : neG (.tup l) (.tup []) = some (!l.isEmpty) := by
  have h2 : shp 64 (.tup []) = true := by simp [shp, shpL]
  unfold neG
  rw [if_pos ⟨h, h2⟩]
  cases l <;> simp [eqv, eqvL]

/-! ### bounds on lengths, found by instances -/
class Sh {α : Type} (l : List α) (n : outParam Nat) : Prop where
  h : l.length ≤ n
instance {α : Type} : Sh ([] : List α) 0 := ⟨by simp⟩
instance {α : Type} {x : α} {l : List α} {n : Nat} [Sh l n] : Sh (x :: l) (n + 1) := ⟨by have := Sh.h (l := l); simpa using this⟩
instance {α : Type} {l : List α} {n : Nat} {lo hi : Option Int} [Sh l n] : Sh (cutL l lo hi) n := ⟨Nat.le_trans cutL_len Sh.h⟩
instance {α : Type} {a b : List α} {n m : Nat} [Sh a n] [Sh b m] : Sh (a ++ b) (n + m) := ⟨by have := Sh.h (l := a); have := Sh.h (l := b); rw [List.length_append]; omega⟩
instance {α : Type} {l : List α} {n : Nat} [Sh l n] : Sh l.reverse n := ⟨by rw [List.length_reverse]; exact Sh.h⟩
theorem add_tt {a b : List D} {n m : Nat} [Sh a n] [Sh b m] (h : n + m ≤ 1000000) : addG (.tup a) (.tup b) = some (.tup (a ++ b), false) := by
  have h1 := Sh.h (l := a)
  have h2 := Sh.h (l := b)
  show (if a.length + b.length ≤ LIM then some (D.tup (a ++ b), false) else none) = _
  rw [if_pos (show a.length + b.length ≤ 1000000 by omega)]
theorem add_ll {a b : List D} {n m : Nat} [Sh a n] [Sh b m] (h : n + m ≤ 1000000) : addG (.lst a) (.lst b) = some (.lst (a ++ b), true) := by
  have h1 := Sh.h (l := a)
  have h2 := Sh.h (l := b)
  show (if a.length + b.length ≤ LIM then some (D.lst (a ++ b), true) else none) = _
  rw [if_pos (show a.length + b.length ≤ 1000000 by omega)]
@[simp] theorem sl_t {l : List D} {lo hi : Option Int} : sliceG lo hi (.tup l) = some (.tup (cutL l lo hi), false) := rfl
@[simp] theorem sl_l {l : List D} {lo hi : Option Int} : sliceG lo hi (.lst l) = some (.lst (cutL l lo hi), true) := rfl
@[simp] theorem rev_t {l : List D} : revG (.tup l) = some (.tup l.reverse, false) := rfl
@[simp] theorem lst_t {l : List D} : lstG (.tup l) = some (.lst l, true) := rfl
@[simp] theorem tup_l {l : List D} : tupG (.lst l) = some (.tup l, false) := rfl
@[simp] theorem tup_t {l : List D} : tupG (.tup l) = some (.tup l, false) := rfl
def chMore (nx : FSem) : S := (sSeq (sSet 3 (eCall nx [true, false] [eVar 0, e2 addG (eN (un1 lenG) [eVar 1]) (ec (.int 1))]))
    (sSeq (sSet 4 (eCall nx [true, false] [eVar 0, e2 addG (eN (un1 lenG) [eVar 1]) (ec (.int 1))]))
    (sSeq (sSet 5 (eLst [e2 addG (eSl (eVar 1) (oNone) (oSome (eVar 3))) (eSl (eVar 1) (oSome (e2 addG (eVar 3) (ec (.int 1)))) (oNone)), e2 addG (eVar 1) (eSl (eVar 1) (oNone) (oSome (ec (.int 1)))), e1 revG (eVar 1), e2 addG (eSl (eVar 1) (oSome (eVar 3)) (oNone)) (eSl (eVar 1) (oNone) (oSome (eVar 3))), eN (un1 lstG) [eVar 1], eSl (eVar 1) (oNone) (oSome (eVar 3)), eTup [], e2 addG (eVar 1) (eTup [ec (.int 0)])]))
    (sSeq (sIf (chain ltG ltG (eVar 3) (eVar 4) (eN (un1 lenG) [eVar 1])) (sSeq (sSet 5 (e2 addG (eVar 5) (eLc (srcR1 (ec (.int 3))) [6] (gN 6) (M.pure true) (e2 addG (e2 addG (e2 addG (e2 addG (eSl (eVar 1) (oNone) (oSome (eVar 3))) (eSl (eVar 1) (oSome (eVar 4)) (oSome (e2 addG (eVar 4) (ec (.int 1)))))) (eSl (eVar 1) (oSome (e2 addG (eVar 3) (ec (.int 1)))) (oSome (eVar 4)))) (eSl (eVar 1) (oSome (eVar 3)) (oSome (e2 addG (eVar 3) (ec (.int 1)))))) (eSl (eVar 1) (oSome (e2 addG (eVar 4) (ec (.int 1)))) (oNone))))))
    (sNx)) (sNx))
    (sSeq (sRet (e2 ixG (eVar 5) (eCall nx [true, false] [eVar 0, eN (un1 lenG) [eVar 5]])))
    (sNx))))))
/-- made of parts of l (and zeros), not heavier than c times l -/
class Mo (l t : List D) (c : outParam Nat) : Prop where
  m : ∀ x ∈ t, x ∈ l ∨ x = .int 0
  w : wtL t ≤ c * wtL l + 18 * c
instance {l : List D} : Mo l l 1 := ⟨fun x h => .inl h, by omega⟩
instance {l t : List D} {c : Nat} {lo hi : Option Int} [Mo l t c] : Mo l (cutL t lo hi) c := ⟨fun x h => Mo.m x (cutL_mem h), Nat.le_trans wtL_cut Mo.w⟩
instance {l t u : List D} {c d : Nat} [Mo l t c] [Mo l u d] : Mo l (t ++ u) (c + d) := ⟨fun x h => (List.mem_append.mp h).elim (Mo.m x) (Mo.m x), by
  have h1 := Mo.w (l := l) (t := t)
  have h2 := Mo.w (l := l) (t := u)
  rw [wtL_append, Nat.add_mul, Nat.mul_add]
  omega⟩
instance {l t : List D} {c : Nat} [Mo l t c] : Mo l t.reverse c := ⟨fun x h => Mo.m x (by simpa using h), by rw [wtL_reverse]; exact Mo.w⟩
instance {l : List D} : Mo l [] 0 := ⟨fun x h => (by cases h), by simp [wtL]⟩
instance {l : List D} : Mo l [.int 0] 1 := ⟨fun x h => .inr (by simpa using h), by simp [wtL, wt]⟩
def MoreOk (l : List D) (d : D) : Prop := ∃ t, (d = .tup t ∨ d = .lst t) ∧ (∀ x ∈ t, x ∈ l ∨ x = .int 0) ∧ wtL t ≤ 5 * wtL l + 90
theorem moT {l t : List D} {c : Nat} [h : Mo l t c] (hc : c ≤ 5) : MoreOk l (.tup t) := ⟨t, .inl rfl, Mo.m, Nat.le_trans (Mo.w (l := l) (t := t)) (by have := Nat.mul_le_mul_right (wtL l) hc; omega)⟩
theorem moL {l t : List D} {c : Nat} [h : Mo l t c] (hc : c ≤ 5) : MoreOk l (.lst t) := ⟨t, .inr rfl, Mo.m, Nat.le_trans (Mo.w (l := l) (t := t)) (by have := Nat.mul_le_mul_right (wtL l) hc; omega)⟩
theorem wpO_ixL {l : List D} {v : Int} {K : D × Bool → Prop} (h0 : 0 ≤ v) (h1 : v < l.length) (k : ∀ d ∈ l, K (d, false)) : wpO (ixG (.lst l) (.int v)) K := by
  obtain ⟨d, h, hm⟩ := ixL_any h0 h1
  rw [h]; exact wpO_some.mpr (k d hm)
theorem wpO_ixT {l : List D} {v : Int} {K : D × Bool → Prop} (h0 : 0 ≤ v) (h1 : v < l.length) (k : ∀ d ∈ l, K (d, false)) : wpO (ixG (.tup l) (.int v)) K := by
  obtain ⟨d, h, hm⟩ := ixT_any h0 h1
  rw [h]; exact wpO_some.mpr (k d hm)
theorem ch_more {nx : FSem} (hn : NextOk nx) {st : D} (hs : WS st) {l : List D} (hl : l.length ≤ 50000) {Q : Fl → Fr → Prop}
    (hQ : ∀ st' d σ, WS st' → (∃ x y z w, σ = [.par st', .fro (.tup l), x, y, z, w, .no]) → MoreOk l d → Q (.rt (.v d false)) σ) :
    wpS (chMore nx) [.par st, .fro (.tup l), .no, .no, .no, .no, .no] Q := by
  haveI : Sh l 50000 := ⟨hl⟩
  unfold chMore
  simp
  refine hn.run (lim := (l.length : Int) + 1) hs (by omega) (by omega) fun v3 st3 h1 h2 hs3 => ?_
  obtain ⟨k, rfl⟩ := Int.eq_ofNat_of_zero_le h1
  simp
  refine hn.run (lim := (l.length : Int) + 1) hs3 (by omega) (by omega) fun v4 st4 h3 h4 hs4 => ?_
  obtain ⟨j, rfl⟩ := Int.eq_ofNat_of_zero_le h3
  have r3 : rngG (.int 0) (.int 3) = some [.int 0, .int 1, .int 2] := rfl
  have hlim : (1 : Nat) < LIM ∧ 2 < LIM ∧ 0 < LIM := by decide
  simp [add_tt, r3, wpLc_cons, wpLc_nil, wipeD, restore, hlim, add_ll]
  split
  · split
    · refine hn.run (lim := 11) hs4 (by omega) (by omega) fun v5 st5 h5 h6 hs5 => ?_
      simp
      refine wpO_ixL h5 (by simpa using h6) fun d hd => ?_
      simp at hd
      rcases hd with rfl | rfl | rfl | rfl | rfl | rfl | rfl | rfl | rfl <;> first | exact hQ _ _ _ hs5 ⟨_, _, _, _, rfl⟩ (moT (by decide)) | exact hQ _ _ _ hs5 ⟨_, _, _, _, rfl⟩ (moL (by decide))
    · refine hn.run (lim := 8) hs4 (by omega) (by omega) fun v5 st5 h5 h6 hs5 => ?_
      simp
      refine wpO_ixL h5 (by simpa using h6) fun d hd => ?_
      simp at hd
      rcases hd with rfl | rfl | rfl | rfl | rfl | rfl | rfl | rfl <;> first | exact hQ _ _ _ hs5 ⟨_, _, _, _, rfl⟩ (moT (by decide)) | exact hQ _ _ _ hs5 ⟨_, _, _, _, rfl⟩ (moL (by decide))
  · refine hn.run (lim := 8) hs4 (by omega) (by omega) fun v5 st5 h5 h6 hs5 => ?_
    simp
    refine wpO_ixL h5 (by simpa using h6) fun d hd => ?_
    simp at hd
    rcases hd with rfl | rfl | rfl | rfl | rfl | rfl | rfl | rfl <;> first | exact hQ _ _ _ hs5 ⟨_, _, _, _, rfl⟩ (moT (by decide)) | exact hQ _ _ _ hs5 ⟨_, _, _, _, rfl⟩ (moL (by decide))
end Ev

set_option Elab.async false
set_option linter.all false
set_option maxRecDepth 100000
set_option maxHeartbeats 4000000
namespace Ev
open PySem
theorem changed_ok (nx self : FSem) (hn : NextOk nx) (n W J : Nat) (hn6 : n ≤ 60) (hW : W ≤ 100000) (hJ : J ≤ 100000000000) (v : D) (hv : Gd n W J v) (st : D) (hs : WS st)
    (ih : ∀ m l, n = m + 1 → v = .tup l → ∀ st x, WS st → x ∈ l → wpF self [.ref st, .fro x] (fun d o fs => ChPost m (wt x) J x d fs ∧ o = false) (fun _ _ => False)) :
    wpF (mkF 7 (B_law_changed nx self)) [.ref st, .fro v] (fun d o fs => ChPost n W J v d fs ∧ o = false) (fun _ _ => False) := by
  rw [wf_mk]
  have e0 : frame 7 [.ref st, .fro v] = [.par st, .fro v, .no, .no, .no, .no, .no] := rfl
  rw [e0]
  unfold B_law_changed
  cases v with
  | bl b =>
    simp [subT, intG]
    refine hn.run (lim := 2) hs (by omega) (by omega) fun x st' h1 h2 hs' => ?_
    obtain ⟨d, h3, h4⟩ := ixL_any (l := [.bl (!b), .int (if b then 1 else 0)]) h1 (by simpa using h2)
    simp [h3]
    refine ⟨st', hs', rfl, ?_⟩
    simp at h4
    rcases h4 with rfl | rfl
    · exact ⟨by simp [shp], by simp [wt] <;> omega, by simp [gi]⟩
    · exact ⟨by simp [shp], by simp [wt] <;> omega, by cases b <;> simp [gi] <;> omega⟩
  | non =>
    simp [subT, eqG, shp, eqv, strG, mul_ic, intL]
    refine hn.run (lim := 7) hs (by omega) (by omega) fun x st' h1 h2 hs' => ?_
    obtain ⟨d, h3, h4⟩ := ixL_any (l := [.int (0 + 1), .int (0 - 1), .int 0, .non, .bl false, .str [78, 111, 110, 101], .int (2 * 1)]) h1 (by simpa using h2)
    simp at h3 h4
    simp [h3]
    refine ⟨st', hs', rfl, ?_⟩
    rcases h4 with rfl | rfl | rfl | rfl | rfl | rfl | rfl <;> exact ⟨by simp [shp], by simp [wt] <;> omega, by simp [gi] <;> omega⟩
  | int i =>
    have hi : i.natAbs ≤ J := by have := hv.i; simpa [gi] using this
    have hz : i.natAbs < 1000000000000 := by omega
    have hb1 : (if i ≠ 0 then i else 1).natAbs ≤ J + 1 := by split <;> omega
    have hl := intL_len hz
    have hc := intL_codes i
    by_cases h0 : i = 0
    · subst h0
      simp [subT, strG, mul_ic, eqG, shp, eqv]
      refine hn.run (lim := 7) hs (by omega) (by omega) fun x st' h1 h2 hs' => ?_
      obtain ⟨d, h3, h4⟩ := ixL_any (l := [.int 1, .int (-1), .int 0, .non, .bl false, .str (intL 0), .int 2]) h1 (by simpa using h2)
      simp [h3]
      refine ⟨st', hs', rfl, ?_⟩
      simp at h4
      rcases h4 with rfl | rfl | rfl | rfl | rfl | rfl | rfl
      · exact Gd.int (by omega) (by omega)
      · exact Gd.int (by omega) (by omega)
      · exact Gd.int (by omega) (by omega)
      · exact Gd.non (by omega)
      · exact Gd.bl (by omega)
      · exact Gd.str hc (by omega)
      · exact Gd.int (by omega) (by omega)
    · simp [subT, strG, hz, h0, mulG, mulOk]
      refine hn.run (lim := 7) hs (by omega) (by omega) fun x st' h1 h2 hs' => ?_
      obtain ⟨d, h3, h4⟩ := ixL_any (l := [.int (i + 1), .int (i - 1), .int 0, .non, .bl (decide (i = 1)), .str (intL i), .int (2 * i)]) h1 (by simpa using h2)
      simp [h3]
      refine ⟨st', hs', rfl, ?_⟩
      simp at h4
      rcases h4 with rfl | rfl | rfl | rfl | rfl | rfl | rfl
      · exact Gd.int (by omega) (by omega)
      · exact Gd.int (by omega) (by omega)
      · exact Gd.int (by omega) (by omega)
      · exact Gd.non (by omega)
      · exact Gd.bl (by omega)
      · exact Gd.str hc (by omega)
      · exact Gd.int (by omega) (by omega)
  | str s =>
    have hw : 12 * s.length + 4 ≤ W := by have := hv.w; simpa [wt] using this
    have hc : ∀ c ∈ s, c < 1114112 := by have := hv.sh; simpa [shp] using this
    have hL : s.length ≤ LIM := by have : LIM = 1000000 := rfl; omega
    have hL1 : s.length + 1 ≤ LIM := by have : LIM = 1000000 := rfl; omega
    have hL2 : 1 + s.length ≤ LIM := by have : LIM = 1000000 := rfl; omega
    simp [subT, sliceG, revG, addG, hL, hL1, hL2]
    refine hn.run (lim := 9) hs (by omega) (by omega) fun x st' h1 h2 hs' => ?_
    obtain ⟨d, h3, h4⟩ := ixL_any (l := [.str (cutL s (some 1) none), .str (s ++ [97]), .str s.reverse, .str (98 :: s), .str [], .str (cutL s none (some (-1))), .str [108, 101, 102, 116], .int 3, .str [105, 110]]) h1 (by simpa using h2)
    simp [h3]
    refine ⟨st', hs', rfl, ?_⟩
    simp at h4
    have hk1 := cutL_len (l := s) (lo := some 1) (hi := none)
    have hk2 := cutL_len (l := s) (lo := none) (hi := some (-1))
    rcases h4 with rfl | rfl | rfl | rfl | rfl | rfl | rfl | rfl | rfl
    · exact Gd.str (fun c h => hc c (cutL_mem h)) (by omega)
    · exact Gd.str (fun c h => by rcases List.mem_append.mp h with h | h; exact hc c h; simp at h; omega) (by simp; omega)
    · exact Gd.str (fun c h => hc c (by simpa using h)) (by simp; omega)
    · exact Gd.str (fun c h => by rcases List.mem_cons.mp h with h | h; omega; exact hc c h) (by simp; omega)
    · exact Gd.str (fun c h => by cases h) (by simp)
    · exact Gd.str (fun c h => hc c (cutL_mem h)) (by omega)
    · exact Gd.str (by decide) (by simp <;> omega)
    · exact Gd.int (by omega) (by omega)
    · exact Gd.str (by decide) (by simp <;> omega)
  | tup l =>
    obtain ⟨m, rfl⟩ : ∃ m, n = m + 1 := by
      cases n with
      | zero => have := hv.sh; simp [shp] at this
      | succ m => exact ⟨m, rfl⟩
    have hsh : shp 64 (.tup l) = true := shp_up hv.sh (by omega)
    obtain ⟨hw, hit⟩ := hv.tup
    have hlen : l.length ≤ 50000 := by have := len_wtL l; omega
    have hne := ne_tnil hsh
    haveI : Sh l 50000 := ⟨hlen⟩
    have fin : ∀ st', WS st' → wpS (chMore nx) [.par st', .fro (.tup l), .no, .no, .no, .no, .no] (fun fl σ => endQ [.ref st, .fro (.tup l)] (fun d o fs => ChPost (m + 1) W J (.tup l) d fs ∧ o = false) (fun _ _ => False) fl σ) := fun st' hs' => ch_more hn hs' hlen fun st2 d σ h2 ⟨x, y, z, w, e⟩ hd => by
      subst e
      simp
      refine ⟨st2, h2, rfl, ?_⟩
      obtain ⟨t, ht, hm, hwt⟩ := hd
      have hx : ∀ x ∈ t, shp (m + 1) x = true ∧ gi (2 * J + 10) x = true := fun x hx => by
        rcases hm x hx with h | h
        · have := (hit x h).up (n' := m + 1) (W' := W) (J' := 2 * J + 10) (by omega) (by omega) fun i hi => by omega
          exact ⟨this.sh, this.i⟩
        · subst h; exact ⟨by simp [shp], by simp [gi]⟩
      rcases ht with rfl | rfl
      · exact Gd.mkT (by omega) hx
      · exact Gd.mkL (by omega) hx
    simp [subT, hne]
    split
    · have f := fin st hs
      unfold chMore at f
      simpa using f
    · refine hn.run (lim := 4) hs (by omega) (by omega) fun v0 st1 h1 h2 hs1 => ?_
      simp
      split
      · have hl0 : l ≠ [] := by assumption
        have hl1 : 1 ≤ l.length := List.length_pos_iff.mpr hl0
        refine hn.run (lim := (l.length : Int)) hs1 (by omega) (by omega) fun v1 st2 h3 h4 hs2 => ?_
        obtain ⟨k, rfl⟩ := Int.eq_ofNat_of_zero_le h3
        have hk : k < l.length := by omega
        have hx := ix_natT l k l[k] (List.getElem?_eq_getElem hk)
        simp [hx]
        refine wpF_mono (ih m l rfl rfl st2 l[k] hs2 (List.getElem_mem hk)) (fun d o fs ⟨⟨st3, hs3, e1, hd⟩, e2⟩ => ?_) fun _ _ h => h.elim
        subst e1 e2
        have hk1 : ((k : Int) + 1) = ((k + 1 : Nat) : Int) := by omega
        simp [add_tt]
        refine ⟨st3, hs3, rfl, ?_⟩
        rw [hk1, cut_hi (by omega), cut_lo (by omega)]
        have hsum : wtL l = wtL (l.take k) + (wt l[k] + 2 + wtL (l.drop (k + 1))) := by
          have h := wtL_append (l.take k) (l.drop k)
          rw [List.take_append_drop] at h
          rw [h, List.drop_eq_getElem_cons hk, wtL]
        have up : ∀ x ∈ l, shp (m + 1) x = true ∧ gi (2 * J + 10) x = true := fun x hx => by
          have := (hit x hx).up (n' := m + 1) (W' := W) (J' := 2 * J + 10) (by omega) (by omega) fun i hi => by omega
          exact ⟨this.sh, this.i⟩
        refine Gd.mkT ?_ fun x hx => ?_
        · have := hd.w
          simp only [wtL_append, wtL] at *
          omega
        · simp only [List.mem_append, List.mem_cons] at hx
          rcases hx with h | h | h
          · exact up x (List.mem_of_mem_take h)
          · subst h; exact ⟨hd.sh, hd.i⟩
          · exact up x (List.mem_of_mem_drop h)
      · have f := fin st1 hs1
        unfold chMore at f
        simp at f
        exact f
  | lst l =>
    simp [subT]
    refine ⟨st, hs, rfl, ?_⟩
    exact ⟨by simp [shp, shpL], by simp [wt, wtL], by simp [gi, giL]⟩
  | dic l => exact absurd hv.sh (by simp [shp])
end Ev
namespace Ev
open PySem
theorem changed_fam {f nx : Nat → FSem} (h : ∀ k, f (k + 1) = mkF 7 (B_law_changed (nx k) (f k))) (hnx : ∀ k, nx (k + 1) = mkF 4 B_law_next) : ∀ (n k W J : Nat) (v st : D), n + 1 ≤ k → n ≤ 60 → W ≤ 100000 → J ≤ 100000000000 → Gd n W J v → WS st →
    wpF (f (k + 1)) [.ref st, .fro v] (fun d o fs => ChPost n W J v d fs ∧ o = false) (fun _ _ => False) := by
  intro n
  induction n with
  | zero =>
    intro k W J v st hk hn hW hJ hv hs
    obtain ⟨k, rfl⟩ : ∃ j, k = j + 1 := ⟨k - 1, by omega⟩
    rw [h (k + 1)]
    exact changed_ok _ _ (by rw [hnx]; exact next_NextOk) 0 W J hn hW hJ v hv st hs fun m l hm => by omega
  | succ n ih =>
    intro k W J v st hk hn hW hJ hv hs
    obtain ⟨k, rfl⟩ : ∃ j, k = j + 1 := ⟨k - 1, by omega⟩
    rw [h (k + 1)]
    refine changed_ok _ _ (by rw [hnx]; exact next_NextOk) (n + 1) W J hn hW hJ v hv st hs fun m l hm hl st' x hs' hx => ?_
    obtain rfl : n = m := by omega
    subst hl
    have hx' := hv.tup.2 x hx
    exact ih k (wt x) J x st' (by omega) (by omega) (Nat.le_trans hx'.w hW) hJ ⟨hx'.sh, Nat.le_refl _, hx'.i⟩ hs'
end Ev

set_option Elab.async false
set_option linter.all false
set_option maxRecDepth 100000
set_option maxHeartbeats 4000000
namespace Ev
open PySem
theorem ws_forG {src : M Src} {g : D → M Unit} {b : S} {σ : Fr} {Q : Fl → Fr → Prop} (h : wpM src σ (fun s σ1 => s.ws = [] ∧ wpS (forGo [] g b s.items) σ1 Q) (fun c σ1 => Q (.ex c) σ1)) : wpS (sFor src g b) σ Q := by
  refine ws_for.mpr (wpM_mono h (fun s σ1 ⟨e1, e2⟩ => ?_) fun _ _ h => h)
  obtain ⟨l, ws⟩ := s
  subst e1
  exact ⟨fun w hw => (by cases hw), wpS_mono e2 fun fl σ2 q => ⟨okW_nil _, q⟩⟩
@[simp] theorem items_l {l : List D} : itemsOf (.lst l) = some l := rfl
@[simp] theorem items_t {l : List D} : itemsOf (.tup l) = some l := rfl
theorem shp_ints {L : List Int} {n : Nat} : shp (n + 1) (.lst (L.map .int)) = true := by
  simp only [shp]
  refine shpL_mem.mpr fun d hd => ?_
  obtain ⟨i, _, rfl⟩ := List.mem_map.mp hd
  simp [shp]
theorem in_ints {L : List Int} {i : Int} : inG (.int i) (.lst (L.map .int)) = some (decide (i ∈ L)) := by
  show (if shp 64 (.int i) = true ∧ shp 64 (.lst (L.map .int)) = true then some ((L.map D.int).any fun z => eqv z (.int i)) else none) = _
  rw [if_pos ⟨by simp [shp], shp_ints⟩]
  congr 1
  rw [List.any_map]
  rw [Bool.eq_iff_iff]
  simp [eqv]
def notIn (L : List Int) : D → Option D
  | .int i => if i ∈ L then none else some (.int i)
  | _ => none
theorem notIn_map (L : List Int) : ∀ M : List Int, (M.map D.int).filterMap (notIn L) = (M.filter fun i => !decide (i ∈ L)).map D.int
  | [] => rfl
  | a :: M => by
    have ih := notIn_map L M
    by_cases ha : a ∈ L <;> simp [ha, notIn] at ih ⊢ <;> exact ih
def IntsP (v : D) (J : Nat) (d : D) (o : Bool) (fs : List Ar) : Prop := ∃ L : List Int, d = .lst (L.map .int) ∧ o = true ∧ fs = [.fro v] ∧ (∀ i ∈ L, i.natAbs ≤ J) ∧ L.length ≤ wt v
theorem ints_ok (self : FSem) (n W J : Nat) (hW : W ≤ 100000) (v : D) (hv : Gd n W J v) (ih : ∀ m l, n = m + 1 → v = .tup l → ∀ x ∈ l, wpF self [.fro x] (IntsP x J) (fun _ _ => False)) :
    wpF (mkF 4 (B_law_ints self)) [.fro v] (IntsP v J) (fun _ _ => False) := by
  rw [wf_mk]
  have e0 : frame 4 [.fro v] = [.fro v, .no, .no, .no] := rfl
  rw [e0]
  unfold B_law_ints IntsP
  have nil : ∃ L : List Int, D.lst [] = .lst (L.map .int) ∧ (∀ i ∈ L, i.natAbs ≤ J) ∧ L.length ≤ wt v := ⟨[], rfl, by simp, by simp⟩
  cases v with
  | non => simpa [subT] using nil
  | bl b => simpa [subT] using nil
  | str s => simpa [subT] using nil
  | lst l => simpa [subT] using nil
  | dic l => exact absurd hv.sh (by simp [shp])
  | int i =>
    simp [subT]
    have hi := hv.i
    simp only [gi, decide_eq_true_eq] at hi
    exact ⟨[i], rfl, by simpa using hi, by simp [wt]⟩
  | tup l =>
    obtain ⟨m, rfl⟩ : ∃ m, n = m + 1 := by
      cases n with
      | zero => have := hv.sh; simp [shp] at this
      | succ m => exact ⟨m, rfl⟩
    have hw := hv.tup.1
    simp [subT]
    refine ws_forG ?_
    simp
    refine ws_forGo (fun rest σ => ∃ (L : List Int) (x : Sl), (x = .no ∨ ∃ d, x = .fro d) ∧ σ = [.fro (.tup l), .own (.lst (L.map .int)), x, .no] ∧ (∀ y ∈ rest, y ∈ l) ∧ (∀ i ∈ L, i.natAbs ≤ J) ∧ L.length + wtL rest ≤ wtL l) ?_ (fun x xs σ ⟨L, sl, q1, q2, q3, q4, q5⟩ => ?_) fun σ ⟨L, sl, q1, q2, q3, q4, q5⟩ => ?_
    · exact ⟨[], .no, .inl rfl, rfl, fun _ h => h, by simp, by simp⟩
    · subst q2
      have go : wpS (sSeq (sSet 1 (e2 addG (eVar 1) (eLc (srcL (eCall self [false] [eVar 2])) [3] (gN 3) (cmp2 (notG inG) (eVar 3) (eVar 1)) (eVar 3)))) sNx) [.fro (.tup l), .own (.lst (L.map .int)), .fro x, .no] (fun fl σ2 => match fl with
        | .nx => ∃ (L : List Int) (x : Sl), (x = .no ∨ ∃ d, x = .fro d) ∧ σ2 = [.fro (.tup l), .own (.lst (L.map .int)), x, .no] ∧ (∀ y ∈ xs, y ∈ l) ∧ (∀ i ∈ L, i.natAbs ≤ J) ∧ L.length + wtL xs ≤ wtL l
        | .ct => ∃ (L : List Int) (x : Sl), (x = .no ∨ ∃ d, x = .fro d) ∧ σ2 = [.fro (.tup l), .own (.lst (L.map .int)), x, .no] ∧ (∀ y ∈ xs, y ∈ l) ∧ (∀ i ∈ L, i.natAbs ≤ J) ∧ L.length + wtL xs ≤ wtL l
        | _ => False) := by
        simp
        refine wpF_mono (ih m l rfl rfl x (q3 x List.mem_cons_self)) (fun d o fs ⟨M, e1, e2, e3, e4, e5⟩ => ?_) fun _ _ h => h.elim
        subst e1 e2 e3
        have hM : M.length ≤ LIM := by
          have : LIM = 1000000 := rfl
          simp only [wtL] at q5
          omega
        simp [wipeD]
        refine wpLc_map (notIn L) (okW_nil _) (by simpa using hM) (fun y hy => ?_) ?_
        · obtain ⟨i, hi, rfl⟩ := List.mem_map.mp hy
          simp [in_ints, notG]
          by_cases h : i ∈ L <;> simp [h, wipeD, notIn]
        · have hf := notIn_map L M
          have hlen : (L.map D.int).length + ((M.filter fun i => !decide (i ∈ L)).map D.int).length ≤ 1000000 := by
            have := List.length_filter_le (fun i => !decide (i ∈ L)) M
            simp only [wtL] at q5
            simp only [List.length_map]
            omega
          haveI : Sh (L.map D.int) (L.map D.int).length := ⟨Nat.le_refl _⟩
          haveI : Sh ((M.filter fun i => !decide (i ∈ L)).map D.int) ((M.filter fun i => !decide (i ∈ L)).map D.int).length := ⟨Nat.le_refl _⟩
          rw [hf]
          simp only [List.nil_append]
          simp [restore, add_ll hlen]
          refine ⟨L ++ M.filter fun i => !decide (i ∈ L), .fro x, ⟨x, rfl⟩, ⟨by simp, rfl⟩, fun y hy => q3 y (List.mem_cons_of_mem _ hy), fun i hi => ?_, ?_⟩
          · rcases List.mem_append.mp hi with h | h
            · exact q4 i h
            · exact e4 i (List.mem_filter.mp h).1
          · have := List.length_filter_le (fun i => !decide (i ∈ L)) M
            simp only [wtL] at q5
            rw [List.length_append]
            omega
      rcases q1 with rfl | ⟨d, rfl⟩
      · refine wp_gN.mpr (wpT_no.mpr ?_)
        refine wpS_mono go fun fl σ2 h => ?_
        cases fl <;> first | exact h | exact h.elim
      · refine wp_gN.mpr (wpT_fro.mpr ?_)
        refine wpS_mono go fun fl σ2 h => ?_
        cases fl <;> first | exact h | exact h.elim
    · subst q2
      simp [retOf]
      exact ⟨L, rfl, q4, by simp only [wt]; omega⟩
end Ev

set_option Elab.async false
set_option linter.all false
set_option maxRecDepth 100000
set_option maxHeartbeats 4000000
namespace Ev
open PySem
theorem ints_fam {f : Nat → FSem} (h : ∀ k, f (k + 1) = mkF 4 (B_law_ints (f k))) : ∀ (n k W J : Nat) (v : D), n ≤ k → W ≤ 100000 → Gd n W J v → wpF (f (k + 1)) [.fro v] (IntsP v J) (fun _ _ => False) := by
  intro n
  induction n with
  | zero => exact fun k W J v _ hW hv => by rw [h]; exact ints_ok _ 0 W J hW v hv fun m l hm => by omega
  | succ n ih =>
    intro k W J v hk hW hv
    rw [h]
    refine ints_ok _ (n + 1) W J hW v hv fun m l hm hl x hx => ?_
    obtain rfl : n = m := by omega
    subst hl
    obtain ⟨k, rfl⟩ : ∃ j, k = j + 1 := ⟨k - 1, by omega⟩
    have hx' := hv.tup.2 x hx
    exact ih k W J x (by omega) hW hx'
/-! ### _law_exchanged: ints swapped, everything else as it was -/
mutual
def exch (a b : Int) : D → D
  | .int i => .int (if i = a then b else if i = b then a else i)
  | .tup l => .tup (exchL a b l)
  | d => d
def exchL (a b : Int) : List D → List D
  | [] => []
  | d :: ds => exch a b d :: exchL a b ds
end
theorem exchL_map (a b : Int) : ∀ l, exchL a b l = l.map (exch a b)
  | [] => rfl
  | d :: ds => by rw [exchL, exchL_map a b ds]; rfl
theorem exchanged_ok (self : FSem) (n W J : Nat) (hW : W ≤ 100000) (a b : Int) (v : D) (hv : Gd n W J v) (ih : ∀ m l, n = m + 1 → v = .tup l → ∀ x ∈ l, wpF self [.fro x, .fro (.int a), .fro (.int b)] (fun d o fs => d = exch a b x ∧ o = false ∧ fs = [.fro x, .fro (.int a), .fro (.int b)]) (fun _ _ => False)) :
    wpF (mkF 4 (B_law_exchanged self)) [.fro v, .fro (.int a), .fro (.int b)] (fun d o fs => d = exch a b v ∧ o = false ∧ fs = [.fro v, .fro (.int a), .fro (.int b)]) (fun _ _ => False) := by
  rw [wf_mk]
  have e0 : frame 4 [.fro v, .fro (.int a), .fro (.int b)] = [.fro v, .fro (.int a), .fro (.int b), .no] := rfl
  rw [e0]
  unfold B_law_exchanged
  cases v with
  | non => simp [subT, retOf, exch]
  | bl c => simp [subT, retOf, exch]
  | str s => simp [subT, retOf, exch]
  | lst l => simp [subT, retOf, exch]
  | dic l => exact absurd hv.sh (by simp [shp])
  | int i =>
    simp [subT]
    by_cases h1 : i = a
    · simp [h1, retOf, exch]
    · by_cases h2 : i = b
      · simp [h1, h2, retOf, exch]
        split <;> omega
      · simp [h1, h2, retOf, exch]
  | tup l =>
    obtain ⟨m, rfl⟩ : ∃ m, n = m + 1 := by
      cases n with
      | zero => have := hv.sh; simp [shp] at this
      | succ m => exact ⟨m, rfl⟩
    have hw := hv.tup.1
    have hlen := len_wtL l
    simp [subT, wipeD]
    refine wpLc_map (fun d => some (exch a b d)) (okW_nil _) (by have : LIM = 1000000 := rfl; simp only [List.length_nil]; omega) (fun y hy => ?_) ?_
    · simp
      refine wpF_mono (ih m l rfl rfl y hy) (fun d o fs ⟨e1, e2, e3⟩ => ?_) fun _ _ h => h.elim
      subst e1 e2 e3
      simp [wipeD]
    · simp [restore, exch, exchL_map]
theorem exchanged_fam {f : Nat → FSem} (h : ∀ k, f (k + 1) = mkF 4 (B_law_exchanged (f k))) (a b : Int) : ∀ (n k W J : Nat) (v : D), n ≤ k → W ≤ 100000 → Gd n W J v → wpF (f (k + 1)) [.fro v, .fro (.int a), .fro (.int b)] (fun d o fs => d = exch a b v ∧ o = false ∧ fs = [.fro v, .fro (.int a), .fro (.int b)]) (fun _ _ => False) := by
  intro n
  induction n with
  | zero => exact fun k W J v _ hW hv => by rw [h]; exact exchanged_ok _ 0 W J hW a b v hv fun m l hm => by omega
  | succ n ih =>
    intro k W J v hk hW hv
    rw [h]
    refine exchanged_ok _ (n + 1) W J hW a b v hv fun m l hm hl x hx => ?_
    obtain rfl : n = m := by omega
    subst hl
    obtain ⟨k, rfl⟩ : ∃ j, k = j + 1 := ⟨k - 1, by omega⟩
    exact ih k W J x (by omega) hW (hv.tup.2 x hx)
theorem exch_gd {a b : Int} {J : Nat} (ha : a.natAbs ≤ J) (hb : b.natAbs ≤ J) : ∀ (k n : Nat) (v : D), wt v < k → shp n v = true → gi J v = true → shp n (exch a b v) = true ∧ gi J (exch a b v) = true ∧ wt (exch a b v) = wt v := by
  intro k
  induction k with
  | zero => intro n v h; omega
  | succ k ih =>
    intro n v hk h1 h2
    cases v with
    | tup l =>
      cases n with
      | zero => simp [shp] at h1
      | succ n =>
        simp only [shp, gi, wt, exch, exchL_map] at *
        rw [shpL_mem] at h1
        rw [giL_mem] at h2
        have hx : ∀ x ∈ l, shp n (exch a b x) = true ∧ gi J (exch a b x) = true ∧ wt (exch a b x) = wt x := fun x hx => ih n x (by have := wtL_mem hx; omega) (h1 x hx) (h2 x hx)
        refine ⟨shpL_mem.mpr fun y hy => ?_, giL_mem.mpr fun y hy => ?_, ?_⟩
        · obtain ⟨x, hm, rfl⟩ := List.mem_map.mp hy
          exact (hx x hm).1
        · obtain ⟨x, hm, rfl⟩ := List.mem_map.mp hy
          exact (hx x hm).2.1
        · have : ∀ l : List D, (∀ x ∈ l, wt (exch a b x) = wt x) → wtL (l.map (exch a b)) = wtL l := fun l => by
            induction l with
            | nil => intro _; rfl
            | cons x l ihl =>
              intro h
              rw [List.map_cons, wtL, wtL, h x List.mem_cons_self, ihl fun y hy => h y (List.mem_cons_of_mem _ hy)]
          rw [this l fun x h => (hx x h).2.2]
    | int i =>
      simp only [exch, shp, gi, wt, decide_eq_true_eq] at *
      refine ⟨trivial, ?_, trivial⟩
      split
      · exact hb
      · split
        · exact ha
        · exact h2
    | _ => exact ⟨by simpa [exch] using h1, by simpa [exch] using h2, by simp [exch]⟩
theorem exch_Gd {a b : Int} {n W J : Nat} {v : D} (ha : a.natAbs ≤ J) (hb : b.natAbs ≤ J) (h : Gd n W J v) : Gd n W J (exch a b v) := by
  obtain ⟨h1, h2, h3⟩ := exch_gd ha hb (wt v + 1) n v (by omega) h.sh h.i
  exact ⟨h1, by rw [h3]; exact h.w, h2⟩
end Ev

set_option Elab.async false
set_option linter.all false
set_option maxRecDepth 100000
set_option maxHeartbeats 4000000
namespace Ev
open PySem
theorem ne_lnil {l : List D} (h : shp 64 (.lst l) = true) : neG (.lst l) (.lst []) = some (!l.isEmpty) := by
  have h2 : shp 64 (.lst []) = true := by simp [shp, shpL]
  unfold neG
  rw [if_pos ⟨h, h2⟩]
  cases l <;> simp [eqv, eqvL]
theorem eq_tnil {l : List D} (h : shp 64 (.tup l) = true) : eqG (.tup l) (.tup []) = some l.isEmpty := by
  have h2 : shp 64 (.tup []) = true := by simp [shp, shpL]
  unfold eqG
  rw [if_pos ⟨h, h2⟩]
  cases l <;> simp [eqv, eqvL]
theorem eq_lnil {l : List D} (h : shp 64 (.lst l) = true) : eqG (.lst l) (.lst []) = some l.isEmpty := by
  have h2 : shp 64 (.lst []) = true := by simp [shp, shpL]
  unfold eqG
  rw [if_pos ⟨h, h2⟩]
  cases l <;> simp [eqv, eqvL]
def isS : D → Bool
  | .str _ => true
  | _ => false
theorem sub_str {d : D} : subT (tyN d) "str" = isS d := by cases d <;> simp [subT, isS]
def offS (d : D) : Option D := if isS d = true then none else some d
theorem offS_sub {l : List D} {x : D} (h : x ∈ l.filterMap offS) : x ∈ l := by
  obtain ⟨y, hy, he⟩ := List.mem_filterMap.mp h
  unfold offS at he
  split at he
  · cases he
  · cases he; exact hy
theorem offS_nil {l : List D} (h : l.filterMap offS = []) : ∀ x ∈ l, ∃ s, x = .str s := fun x hx => by
  by_cases hb : isS x = true
  · cases x <;> first | exact ⟨_, rfl⟩ | cases hb
  · have : x ∈ l.filterMap offS := List.mem_filterMap.mpr ⟨x, hx, by simp [offS, hb]⟩
    rw [h] at this; cases this
/-- a text of true characters -/
def SC (x : D) : Prop := ∃ s, x = .str s ∧ ∀ c ∈ s, c < 1114112
theorem SC.ok {x : D} (h : SC x) (n J : Nat) : shp n x = true ∧ gi J x = true := by
  obtain ⟨s, rfl, h⟩ := h
  exact ⟨by simpa [shp] using h, by simp [gi]⟩
theorem SC.mk {s : List Nat} (h : ∀ c ∈ s, c < 1114112) : SC (.str s) := ⟨s, rfl, h⟩
theorem joinL_ok : ∀ (ss : List (List Nat)), TL.joinL [] ss = ss.flatten
  | [] => rfl
  | [p] => by simp [TL.joinL]
  | p :: q :: r => by
    show p ++ ([] ++ TL.joinL [] (q :: r)) = _
    rw [joinL_ok (q :: r)]; simp
theorem join_ok {l : List D} (h : ∀ x ∈ l, SC x) (hw : wtL l ≤ 200000) : ∃ t, joinG [] (.tup l) = some (.str t, false) ∧ 12 * t.length ≤ wtL l ∧ ∀ c ∈ t, c < 1114112 := by
  have key : ∃ ss, isStrs l = some ss ∧ 12 * (ss.map (·.length)).sum ≤ wtL l ∧ ∀ c ∈ ss.flatten, c < 1114112 := by
    clear hw
    induction l with
    | nil => exact ⟨[], rfl, by simp [wtL], by simp⟩
    | cons x l ih =>
      obtain ⟨s, rfl, hs⟩ := h x List.mem_cons_self
      obtain ⟨ss, e1, e2, e3⟩ := ih fun y hy => h y (List.mem_cons_of_mem _ hy)
      refine ⟨s :: ss, by simp [isStrs, e1], by simp [wtL, wt]; omega, fun c hc => ?_⟩
      rw [List.flatten_cons] at hc
      exact (List.mem_append.mp hc).elim (hs c) (e3 c)
  obtain ⟨ss, e1, e2, e3⟩ := key
  refine ⟨ss.flatten, ?_, by rw [List.length_flatten]; exact e2, e3⟩
  have : LIM = 1000000 := rfl
  simp only [joinG, e1, Option.bind_some]
  rw [if_pos (by simp only [List.length_nil]; omega), joinL_ok]
def CutP (n W J : Nat) (v : D) (d : D) (fs : List Ar) : Prop := ∃ st', WS st' ∧ fs = [.ref st', .fro v] ∧ Gd n (4 * W + 300) J d ∧ ∀ l, v = .tup l → ∃ l', d = .tup l'
theorem cut_ok (nx self : FSem) (hn : NextOk nx) (n W J : Nat) (hn6 : n ≤ 60) (hW : W ≤ 100000) (v : D) (hv : Gd n W J v) (st : D) (hs : WS st)
    (ih : ∀ m l, n = m + 1 → v = .tup l → ∀ st x, WS st → x ∈ l → wpF self [.ref st, .fro x] (fun d o fs => CutP m (wt x) J x d fs ∧ o = false) (fun _ _ => False)) :
    wpF (mkF 6 (B_law_cut nx self)) [.ref st, .fro v] (fun d o fs => CutP n W J v d fs ∧ o = false) (fun _ _ => False) := by
  rw [wf_mk]
  have e0 : frame 6 [.ref st, .fro v] = [.par st, .fro v, .no, .no, .no, .no] := rfl
  rw [e0]
  unfold B_law_cut
  have same : CutP n W J v v [.ref st, .fro v] := ⟨st, hs, rfl, hv.up (Nat.le_refl _) (by omega) fun i h => h, fun l h => ⟨l, h⟩⟩
  cases v with
  | non => simpa [subT, retOf] using same
  | bl c => simpa [subT, retOf] using same
  | int c => simpa [subT, retOf] using same
  | str s => simpa [subT, retOf] using same
  | lst l => simpa [subT, retOf] using same
  | dic l => exact absurd hv.sh (by simp [shp])
  | tup l =>
    obtain ⟨m, rfl⟩ : ∃ m, n = m + 1 := by
      cases n with
      | zero => have := hv.sh; simp [shp] at this
      | succ m => exact ⟨m, rfl⟩
    obtain ⟨hw, hit⟩ := hv.tup
    have hsh : shp 64 (.tup l) = true := shp_up hv.sh (by omega)
    have hlen : l.length ≤ 50000 := by have := len_wtL l; omega
    haveI : Sh l 50000 := ⟨hlen⟩
    simp [subT, eq_tnil hsh]
    split
    · simpa [retOf] using same
    · have hl0 : l ≠ [] := by assumption
      have hl1 : 1 ≤ l.length := List.length_pos_iff.mpr hl0
      simp [wipeD]
      refine wpLc_map offS (okW_nil _) (by have : LIM = 1000000 := rfl; simp only [List.length_nil]; omega) (fun y hy => ?_) ?_
      · by_cases hb : isS y = true <;> simp [sub_str, wipeD, hb, offS]
      · have hf : shp 64 (.lst (l.filterMap offS)) = true := by
          simp only [shp]
          exact shpL_mem.mpr fun d hd => shp_up (hit d (offS_sub hd)).sh (by omega)
        simp only [List.nil_append]
        have hne := ne_lnil hf
        by_cases hall : l.filterMap offS = []
        · have hss := offS_nil hall
          have hsc : ∀ x ∈ l, SC x := fun x hx => by
            obtain ⟨s, rfl⟩ := hss x hx
            have := (hit _ hx).sh
            exact ⟨s, rfl, by simpa [shp] using this⟩
          rw [hall] at hne ⊢
          simp [restore, hne]
          refine hn.run (lim := (l.length : Int)) hs (by omega) (by omega) fun v1 st2 h3 h4 hs2 => ?_
          obtain ⟨k, rfl⟩ := Int.eq_ofNat_of_zero_le h3
          have hk : k < l.length := by omega
          have hm := List.getElem_mem hk
          have hwx := wtL_mem hm
          obtain ⟨s, hs0⟩ := hss _ hm
          have hx := ix_natT l k (.str s) (by rw [List.getElem?_eq_getElem hk, hs0])
          rw [hs0] at hwx hm
          simp only [wt] at hwx
          have hsl : s.length ≤ LIM := by have : LIM = 1000000 := rfl; omega
          have hsc1 : ∀ c ∈ s, c < 1114112 := by
            obtain ⟨t, e, h⟩ := hsc _ hm
            cases e; exact h
          have hj2 := fun lo hi => join_ok (l := cutL l lo hi) (fun x hx => hsc x (cutL_mem hx)) (by have := wtL_cut (l := l) (lo := lo) (hi := hi); omega)
          obtain ⟨t1, j1, j2, j3⟩ := hj2 (some (k : Int)) (some ((k : Int) + 2))
          obtain ⟨t, j4, j5, j6⟩ := join_ok hsc (by omega)
          have j7 := wtL_cut (l := l) (lo := some (k : Int)) (hi := some ((k : Int) + 2))
          have htl : t.length ≤ LIM := by have : LIM = 1000000 := rfl; omega
          simp [hx, lenG, hsl]
          refine hn.run (lim := (s.length : Int) + 1) hs2 (by omega) (by omega) fun v2 st3 h5 h6 hs3 => ?_
          simp [hx, sliceG, hsl, add_tt, add_ll, j1, j4, strOf, tupG, htl]
          refine hn.run (lim := 6) hs3 (by omega) (by omega) fun v3 st4 h7 h8 hs4 => ?_
          simp
          have b1 := cutL_len (l := s) (lo := none) (hi := some v2)
          have b2 := cutL_len (l := s) (lo := some v2) (hi := none)
          have c1 := fun lo hi => wtL_cut (l := l) (lo := lo) (hi := hi)
          have c2 := c1 none (some (k : Int))
          have c3 := c1 (some ((k : Int) + 1)) none
          have c4 := c1 (some ((k : Int) + 2)) none
          have c5 := c1 (some (k : Int)) none
          have k1 : SC (.str (cutL s none (some v2))) := .mk fun c h => hsc1 c (cutL_mem h)
          have k2 : SC (.str (cutL s (some v2) none)) := .mk fun c h => hsc1 c (cutL_mem h)
          have kc : ∀ lo hi x, x ∈ cutL l lo hi → SC x := fun lo hi x h => hsc x (cutL_mem h)
          have fin : ∀ q : List D, (∀ x ∈ q, SC x) → wtL q ≤ 4 * wtL l + 250 → CutP (m + 1) W J (.tup l) (.tup q) [.ref st4, .fro (.tup l)] := fun q h1 h2 =>
            ⟨st4, hs4, rfl, Gd.mkT (by omega) fun x hx => (h1 x hx).ok m J, fun l' _ => ⟨q, rfl⟩⟩
          refine wpO_ixL h7 (by simpa using h8) fun d hd => ?_
          simp at hd
          simp
          rcases hd with rfl | rfl | rfl | rfl | rfl | rfl
          · refine fin _ (fun x hx => ?_) (by simp only [wtL_append, wtL, wt]; omega)
            simp only [List.mem_append, List.mem_cons] at hx
            rcases hx with h | rfl | rfl | h
            · exact kc _ _ _ h
            · exact k1
            · exact k2
            · exact kc _ _ _ h
          · refine fin _ (fun x hx => ?_) (by simp only [wtL_append, wtL, wt]; omega)
            simp only [List.mem_append, List.mem_cons] at hx
            rcases hx with h | rfl | h
            · exact kc _ _ _ h
            · exact .mk j3
            · exact kc _ _ _ h
          · refine fin _ (fun x hx => ?_) (by simp only [wtL, wt]; omega)
            simp only [List.mem_cons, List.not_mem_nil, or_false] at hx
            subst hx
            exact .mk j6
          · refine fin _ (fun x hx => ?_) ?_
            · obtain ⟨c, hc, rfl⟩ := List.mem_map.mp hx
              exact .mk fun e he => by simp at he; subst he; exact j6 _ hc
            · have : ∀ t : List Nat, wtL (t.map fun c => D.str [c]) = 18 * t.length := fun t => by
                induction t with
                | nil => rfl
                | cons c t ih => rw [List.map_cons, wtL, ih]; simp only [wt, List.length_cons, List.length_nil]; omega
              rw [this]; omega
          · refine fin _ (fun x hx => ?_) (by simp only [wtL_append, wtL, wt, List.length_nil]; omega)
            simp only [List.mem_append, List.mem_cons] at hx
            rcases hx with h | rfl | h
            · exact kc _ _ _ h
            · exact .mk fun c h => by cases h
            · exact kc _ _ _ h
          · refine fin _ (fun x hx => ?_) (by simp only [wtL_append, wtL_reverse]; omega)
            simp only [List.mem_append, List.mem_reverse] at hx
            rcases hx with h | h | h <;> exact kc _ _ _ h
        · have hb : (l.filterMap offS).isEmpty = false := by simpa [List.isEmpty_iff] using hall
          rw [hb] at hne
          generalize l.filterMap offS = r at hne
          simp [restore, hne]
          refine hn.run (lim := (l.length : Int)) hs (by omega) (by omega) fun v1 st2 h3 h4 hs2 => ?_
          obtain ⟨k, rfl⟩ := Int.eq_ofNat_of_zero_le h3
          have hk : k < l.length := by omega
          have hx := ix_natT l k l[k] (List.getElem?_eq_getElem hk)
          simp [hx]
          refine wpF_mono (ih m l rfl rfl st2 l[k] hs2 (List.getElem_mem hk)) (fun d o fs ⟨⟨st3, hs3, e1, hd, _⟩, e2⟩ => ?_) fun _ _ h => h.elim
          subst e1 e2
          have hk1 : ((k : Int) + 1) = ((k + 1 : Nat) : Int) := by omega
          simp [add_tt]
          refine ⟨st3, hs3, rfl, ?_, fun l' _ => ⟨_, rfl⟩⟩
          rw [hk1, cut_hi (by omega), cut_lo (by omega)]
          have hsum : wtL l = wtL (l.take k) + (wt l[k] + 2 + wtL (l.drop (k + 1))) := by
            have h := wtL_append (l.take k) (l.drop k)
            rw [List.take_append_drop] at h
            rw [h, List.drop_eq_getElem_cons hk, wtL]
          refine Gd.mkT ?_ fun x hx => ?_
          · have := hd.w
            simp only [wtL_append, wtL] at *
            omega
          · simp only [List.mem_append, List.mem_cons] at hx
            rcases hx with h | h | h
            · have := hit x (List.mem_of_mem_take h); exact ⟨this.sh, this.i⟩
            · subst h; exact ⟨hd.sh, hd.i⟩
            · have := hit x (List.mem_of_mem_drop h); exact ⟨this.sh, this.i⟩
theorem cut_fam {f nx : Nat → FSem} (h : ∀ k, f (k + 1) = mkF 6 (B_law_cut (nx k) (f k))) (hnx : ∀ k, nx (k + 1) = mkF 4 B_law_next) : ∀ (n k W J : Nat) (v st : D), n + 1 ≤ k → n ≤ 60 → W ≤ 100000 → Gd n W J v → WS st →
    wpF (f (k + 1)) [.ref st, .fro v] (fun d o fs => CutP n W J v d fs ∧ o = false) (fun _ _ => False) := by
  intro n
  induction n with
  | zero =>
    intro k W J v st hk hn hW hv hs
    obtain ⟨k, rfl⟩ : ∃ j, k = j + 1 := ⟨k - 1, by omega⟩
    rw [h (k + 1)]
    exact cut_ok _ _ (by rw [hnx]; exact next_NextOk) 0 W J hn hW v hv st hs fun m l hm => by omega
  | succ n ih =>
    intro k W J v st hk hn hW hv hs
    obtain ⟨k, rfl⟩ : ∃ j, k = j + 1 := ⟨k - 1, by omega⟩
    rw [h (k + 1)]
    refine cut_ok _ _ (by rw [hnx]; exact next_NextOk) (n + 1) W J hn hW v hv st hs fun m l hm hl st' x hs' hx => ?_
    obtain rfl : n = m := by omega
    subst hl
    have hx' := hv.tup.2 x hx
    exact ih k (wt x) J x st' (by omega) (by omega) (Nat.le_trans hx'.w hW) ⟨hx'.sh, Nat.le_refl _, hx'.i⟩ hs'
end Ev

set_option Elab.async false
set_option linter.all false
set_option maxRecDepth 100000
set_option maxHeartbeats 4000000
namespace Ev
open PySem
def IntsOk (N : Nat) (f : FSem) : Prop := ∀ n W J v, n ≤ N → W ≤ 100000 → Gd n W J v → wpF f [.fro v] (IntsP v J) (fun _ _ => False)
def ExchOk (N : Nat) (f : FSem) : Prop := ∀ n W J v a b, n ≤ N → W ≤ 100000 → Gd n W J v → wpF f [.fro v, .fro (.int a), .fro (.int b)] (fun d o fs => d = exch a b v ∧ o = false ∧ fs = [.fro v, .fro (.int a), .fro (.int b)]) (fun _ _ => False)
def CutOk (N : Nat) (f : FSem) : Prop := ∀ n W J v st, n ≤ N → W ≤ 100000 → Gd n W J v → WS st → wpF f [.ref st, .fro v] (fun d o fs => CutP n W J v d fs ∧ o = false) (fun _ _ => False)
def ChOk (N : Nat) (f : FSem) : Prop := ∀ n W J v st, n ≤ N → W ≤ 100000 → J ≤ 100000000000 → Gd n W J v → WS st → wpF f [.ref st, .fro v] (fun d o fs => ChPost n W J v d fs ∧ o = false) (fun _ _ => False)
def taLast (nx : FSem) : S := (sSeq (sPar 7 8 [eCall nx [true, false] [eVar 0, eN (un1 lenG) [eVar 1]], eCall nx [true, false] [eVar 0, eN (un1 lenG) [eVar 1]]])
    (sSeq (sIf (andB (cmp2 eqG (eN (un1 lenG) [eVar 1]) (ec (.int 2))) (andB (tr (e1 (isiG ["tuple"]) (e2 ixG (eVar 1) (ec (.int 1)))) truG) (cmp2 neG (e2 ixG (eVar 1) (ec (.int 1))) (eTup [])))) (sSeq (sPar 7 8 [eCall nx [true, false] [eVar 0, eN (un1 lenG) [e2 ixG (eVar 1) (ec (.int 1))]], eCall nx [true, false] [eVar 0, eN (un1 lenG) [e2 ixG (eVar 1) (ec (.int 1))]]])
    (sSeq (sRet (eTup [e2 ixG (eVar 1) (ec (.int 0)), e2 addG (e2 addG (eSl (e2 ixG (eVar 1) (ec (.int 1))) (oNone) (oSome (eVar 7))) (eSl (e2 ixG (eVar 1) (ec (.int 1))) (oSome (eVar 8)) (oSome (e2 addG (eVar 8) (ec (.int 1)))))) (eSl (e2 ixG (eVar 1) (ec (.int 1))) (oSome (e2 addG (eVar 7) (ec (.int 1)))) (oNone))]))
    (sNx))) (sNx))
    (sSeq (sRet (eIf (andB (cmp2 gtG (eVar 7) (ec (.int 0))) (cmp2 gtG (eVar 8) (ec (.int 0)))) (e2 addG (e2 addG (eSl (eVar 1) (oNone) (oSome (eVar 7))) (eSl (eVar 1) (oSome (eVar 8)) (oSome (e2 addG (eVar 8) (ec (.int 1)))))) (eSl (eVar 1) (oSome (e2 addG (eVar 7) (ec (.int 1)))) (oNone))) (eVar 1)))
    (sNx))))
theorem ta_last {nx : FSem} (hn : NextOk nx) {st : D} (hs : WS st) {l xs : List D} {p : Int} (hl : l ≠ []) (hlen : l.length ≤ 50000) (hin : ∀ r, D.tup r ∈ l → r.length ≤ 50000 ∧ shp 64 (.tup r) = true) {Q : Fl → Fr → Prop}
    (hQ : ∀ st' q σ, WS st' → (∃ x y, σ = [.par st', .fro (.tup l), .own (.lst xs), .fro (.int p), .no, .no, .no, x, y]) → (∀ P : D → Prop, (∀ x ∈ l, P x) → (∀ r, D.tup r ∈ l → ∀ t : List D, (∀ x ∈ t, x ∈ r) → wtL t ≤ 3 * wtL r → P (.tup t)) → ∀ x ∈ q, P x) → wtL q ≤ 3 * wtL l + 20 → Q (.rt (.v (.tup q) false)) σ) :
    wpS (taLast nx) [.par st, .fro (.tup l), .own (.lst xs), .fro (.int p), .no, .no, .no, .no, .no] Q := by
  haveI : Sh l 50000 := ⟨hlen⟩
  have hl1 : 1 ≤ l.length := List.length_pos_iff.mpr hl
  unfold taLast
  simp
  refine hn.run (lim := (l.length : Int)) hs (by omega) (by omega) fun k st1 h1 h2 hs1 => ?_
  simp
  refine hn.run (lim := (l.length : Int)) hs1 (by omega) (by omega) fun j st2 h3 h4 hs2 => ?_
  simp
  have z1 := wtL_cut (l := l) (lo := none) (hi := some k)
  have z2 := wtL_cut (l := l) (lo := some j) (hi := some (j + 1))
  have z3 := wtL_cut (l := l) (lo := some (k + 1)) (hi := none)
  have fb1 : Q (.rt (.v (.tup (cutL l none (some k) ++ (cutL l (some j) (some (j + 1)) ++ cutL l (some (k + 1)) none))) false)) [.par st2, .fro (.tup l), .own (.lst xs), .fro (.int p), .no, .no, .no, .fro (.int k), .fro (.int j)] := by
    refine hQ _ _ _ hs2 ⟨_, _, rfl⟩ (fun P h1 _ x hx => ?_) (by simp only [wtL_append]; omega)
    simp only [List.mem_append] at hx
    rcases hx with h | h | h <;> exact h1 x (cutL_mem h)
  have fb2 : Q (.rt (.v (.tup l) false)) [.par st2, .fro (.tup l), .own (.lst xs), .fro (.int p), .no, .no, .no, .fro (.int k), .fro (.int j)] := hQ _ _ _ hs2 ⟨_, _, rfl⟩ (fun P h1 _ => h1) (by omega)
  by_cases h2 : l.length = 2
  · obtain ⟨a, b, rfl⟩ : ∃ a b, l = [a, b] := by
      cases l with
      | nil => cases h2
      | cons a l =>
        cases l with
        | nil => cases h2
        | cons b l =>
          cases l with
          | nil => exact ⟨a, b, rfl⟩
          | cons c l => simp at h2
    have x1 : ixG (.tup [a, b]) (.int 1) = some (b, false) := ix_natT _ 1 _ rfl
    have x0 : ixG (.tup [a, b]) (.int 0) = some (a, false) := ix_natT _ 0 _ rfl
    cases b with
    | tup r =>
      obtain ⟨hr, hsh⟩ := hin r (by simp)
      haveI : Sh r 50000 := ⟨hr⟩
      simp [x1, subT, ne_tnil hsh]
      split
      · simp [add_tt]
        split
        · split
          · exact fb1
          · exact fb2
        · exact fb2
      · have hr0 : r ≠ [] := by assumption
        have hr1 : 1 ≤ r.length := List.length_pos_iff.mpr hr0
        skip
        refine hn.run (lim := (r.length : Int)) hs2 (by omega) (by omega) fun k2 st3 h5 h6 hs3 => ?_
        simp [x1]
        refine hn.run (lim := (r.length : Int)) hs3 (by omega) (by omega) fun j2 st4 h7 h8 hs4 => ?_
        simp [x1, x0, add_tt]
        have y1 := wtL_cut (l := r) (lo := none) (hi := some k2)
        have y2 := wtL_cut (l := r) (lo := some j2) (hi := some (j2 + 1))
        have y3 := wtL_cut (l := r) (lo := some (k2 + 1)) (hi := none)
        refine hQ _ _ _ hs4 ⟨_, _, rfl⟩ (fun P g1 g2 x hx => ?_) (by simp only [wtL_append, wtL, wt]; omega)
        simp only [List.mem_cons, List.not_mem_nil, or_false] at hx
        rcases hx with rfl | rfl
        · exact g1 x (by simp)
        · refine g2 r (by simp) _ (fun x hx => ?_) (by simp only [wtL_append]; omega)
          simp only [List.mem_append] at hx
          rcases hx with h | h | h <;> exact cutL_mem h
    | _ =>
      simp [x1, subT, add_tt]
      split
      · split
        · exact fb1
        · exact fb2
      · exact fb2
  · have h2' : ¬ (l.length : Int) = 2 := by omega
    simp [h2', add_tt]
    split
    · split
      · exact fb1
      · exact fb2
    · exact fb2
/-- told something like it -/
def TaP (n W J : Nat) (v : D) (d : D) (fs : List Ar) : Prop := ∃ st', WS st' ∧ fs = [.ref st', .fro v] ∧ Gd n (5 * W + 600) (2 * J + 10) d
theorem turned_ok {N : Nat} (ii nx ex cu : FSem) (hn : NextOk nx) (hi : IntsOk N ii) (he : ExchOk N ex) (hc : CutOk N cu) (n W J : Nat) (hnN : n ≤ N) (hN : N ≤ 60) (hW : W ≤ 100000) (l : List D) (hl : l ≠ []) (hv : Gd n W J (.tup l)) (st : D) (hs : WS st) :
    wpF (mkF 9 (B_law_turned_about ii nx ex cu)) [.ref st, .fro (.tup l)] (fun d o fs => TaP n W J (.tup l) d fs ∧ o = false) (fun _ _ => False) := by
  rw [wf_mk]
  have e0 : frame 9 [.ref st, .fro (.tup l)] = [.par st, .fro (.tup l), .no, .no, .no, .no, .no, .no, .no] := rfl
  rw [e0]
  unfold B_law_turned_about
  obtain ⟨m, rfl⟩ : ∃ m, n = m + 1 := by
    cases n with
    | zero => have := hv.sh; simp [shp] at this
    | succ m => exact ⟨m, rfl⟩
  obtain ⟨hw, hit⟩ := hv.tup
  have hlen : l.length ≤ 50000 := by have := len_wtL l; omega
  have hl1 : 1 ≤ l.length := List.length_pos_iff.mpr hl
  haveI : Sh l 50000 := ⟨hlen⟩
  simp
  refine wpF_mono (hi (m + 1) W J (.tup l) hnN hW hv) (fun d o fs ⟨M, e1, e2, e3, e4, e5⟩ => ?_) fun _ _ h => h.elim
  subst e1 e2 e3
  have hM : M.length ≤ 100000 := Nat.le_trans e5 (Nat.le_trans hv.w hW)
  simp
  refine hn.run (lim := 5) hs (by omega) (by omega) fun p st1 h1 h2 hs1 => ?_
  simp
  have upx : ∀ x ∈ l, shp m x = true ∧ gi (2 * J + 10) x = true := fun x hx => by
    have := (hit x hx).up (n' := m) (W' := W) (J' := 2 * J + 10) (Nat.le_refl _) (Nat.le_refl _) fun i hi => by omega
    exact ⟨this.sh, this.i⟩
  have fin : ∀ st', WS st' → ∀ q : List D, (∀ x ∈ q, shp m x = true ∧ gi (2 * J + 10) x = true) → wtL q ≤ 5 * wtL l + 550 → TaP (m + 1) W J (.tup l) (.tup q) [.ref st', .fro (.tup l)] := fun st' hs' q h1 h2 =>
    ⟨st', hs', rfl, Gd.mkT (by omega) h1⟩
  have hne := ne_lnil (l := M.map D.int) shp_ints
  simp at hne
  by_cases hp : p < 3 ∧ M ≠ []
  · obtain ⟨hp1, hp2⟩ := hp
    simp [hp1, hp2, hne]
    have hM1 : 1 ≤ M.length := List.length_pos_iff.mpr hp2
    refine hn.run (lim := (M.length : Int)) hs1 (by omega) (by omega) fun v1 st2 h3 h4 hs2 => ?_
    simp
    refine wpO_ixL h3 (by simpa using h4) fun d hd => ?_
    obtain ⟨a, ha, rfl⟩ := List.mem_map.mp hd
    have ha' := e4 a ha
    simp
    have hv1 := hv.up (n' := m + 1) (W' := W) (J' := 2 * J + 10) (Nat.le_refl _) (Nat.le_refl _) fun i hi => by omega
    have fin2 : ∀ st', WS st' → ∀ b : Int, b.natAbs ≤ J + 1 → TaP (m + 1) W J (.tup l) (exch a b (.tup l)) [.ref st', .fro (.tup l)] := fun st' hs' b hb =>
      ⟨st', hs', rfl, (exch_Gd (by omega) (by omega) hv1).up (Nat.le_refl _) (by omega) fun i h => h⟩
    split
    · refine wpF_mono (he (m + 1) W J (.tup l) a (a + 1) hnN hW hv) (fun d o fs ⟨q1, q2, q3⟩ => ?_) fun _ _ h => h.elim
      subst q1 q2 q3
      simp
      exact fin2 _ hs2 _ (by omega)
    · refine hn.run (lim := (M.length : Int)) hs2 (by omega) (by omega) fun v2 st3 h5 h6 hs3 => ?_
      simp
      refine wpO_ixL h5 (by simpa using h6) fun d hd => ?_
      obtain ⟨b, hb, rfl⟩ := List.mem_map.mp hd
      have hb' := e4 b hb
      simp
      refine wpF_mono (he (m + 1) W J (.tup l) a b hnN hW hv) (fun d o fs ⟨q1, q2, q3⟩ => ?_) fun _ _ h => h.elim
      subst q1 q2 q3
      simp
      exact fin2 _ hs3 _ (by omega)
  · have lastQ : ∀ xs : List D, wpS (taLast nx) [.par st1, .fro (.tup l), .own (.lst xs), .fro (.int p), .no, .no, .no, .no, .no] (fun fl σ => endQ [.ref st, .fro (.tup l)] (fun d o fs => TaP (m + 1) W J (.tup l) d fs ∧ o = false) (fun _ _ => False) fl σ) := fun xs => by
      refine ta_last hn hs1 hl hlen (fun r hr => ?_) fun st' q σ h3 ⟨x, y, e⟩ h4 h5 => ?_
      · have h6 := (hit _ hr).w
        have h7 := len_wtL r
        simp only [wt] at h6
        exact ⟨by omega, shp_up (hit _ hr).sh (by omega)⟩
      · subst e
        simp
        refine fin st' h3 q (h4 _ upx fun r hr t ht _ => ?_) (by omega)
        have hr1 := upx _ hr
        cases m with
        | zero => simp [shp] at hr1
        | succ m =>
          simp only [shp, gi] at hr1 ⊢
          exact ⟨shpL_mem.mpr fun x hx => shpL_mem.mp hr1.1 x (ht x hx), giL_mem.mpr fun x hx => giL_mem.mp hr1.2 x (ht x hx)⟩
    by_cases hp1 : p < 3
    · have hM0 : M = [] := Classical.byContradiction fun h2 => hp ⟨hp1, h2⟩
      subst hM0
      have hp3 : ¬ p = 3 := by omega
      have f := lastQ []
      unfold taLast at f
      simp [hp1, hp3, ne_lnil (l := []) (by simp [shp, shpL])]
      simp at f
      exact f
    · by_cases hp3 : p = 3
      · subst hp3
        simp
        have w1 := wtL_cut (l := l) (lo := some 1) (hi := none)
        have w0 := wtL_cut (l := l) (lo := none) (hi := some 1)
        have hg : Gd (m + 1) W J (.tup (cutL l (some 1) none)) := Gd.mkT (by omega) fun x hx => by
          have := hit x (cutL_mem hx); exact ⟨this.sh, this.i⟩
        split
        · refine wpF_mono (hc (m + 1) (4 + wtL (cutL l (some 1) none)) J _ st1 hnN (by omega) ⟨hg.sh, by simp [wt], hg.i⟩ hs1) (fun d o fs ⟨⟨st2, hs2, q1, q2, q3⟩, q4⟩ => ?_) fun _ _ h => h.elim
          subst q1 q4
          obtain ⟨t, rfl⟩ := q3 _ rfl
          have q5 := q2.w
          have q6 := q2.sh
          have q7 := (q2.up (n' := m + 1) (W' := 4 * (4 + wtL (cutL l (some 1) none)) + 300) (J' := 2 * J + 10) (Nat.le_refl _) (Nat.le_refl _) fun i hi => by omega).tup.2
          simp only [wt] at q5
          have ht := len_wtL t
          haveI : Sh t 300000 := ⟨by omega⟩
          simp [add_tt]
          refine fin st2 hs2 _ (fun x hx => ?_) (by rw [wtL_append]; omega)
          rcases List.mem_append.mp hx with h | h
          · exact upx x (cutL_mem h)
          · exact ⟨(q7 x h).sh, (q7 x h).i⟩
        · have hc1 : (cutL l (some 1) none).length ≤ 1 := by
            have := cut_lo (l := l) (k := 1) hl1
            have e1 : ((1 : Nat) : Int) = 1 := rfl
            rw [e1] at this
            rw [this, List.length_drop]; omega
          refine wpLc_inv (fun xs acc σ => ∃ st', WS st' ∧ σ = [.par st', .fro (.tup l), .own (.lst (M.map .int)), .fro (.int 3), .no, .no, .no, .no, .no] ∧ (∀ x ∈ xs, x ∈ l) ∧ (∀ y ∈ acc, shp m y = true ∧ gi (2 * J + 10) y = true) ∧ wtL acc + 4 * wtL xs + 302 * xs.length ≤ 4 * wtL (cutL l (some 1) none) + 302) ⟨st1, hs1, rfl, fun x hx => cutL_mem hx, by simp, by simp only [wtL]; omega⟩ (fun x xs acc σ ⟨st2, hs2, q1, q2, q3, q4⟩ => ?_) fun acc σ ⟨st2, hs2, q1, q2, q3, q4⟩ => ?_
          · subst q1
            have hx := hit x (q2 x List.mem_cons_self)
            have ha := len_wtL acc
            refine ⟨okW_nil _, by have : LIM = 1000000 := rfl; omega, ?_⟩
            simp
            refine wpF_mono (hc m (wt x) J x st2 (by omega) (Nat.le_trans hx.w hW) ⟨hx.sh, Nat.le_refl _, hx.i⟩ hs2) (fun d o fs ⟨⟨st3, hs3, g1, g2, _⟩, g4⟩ => ?_) fun _ _ h => h.elim
            subst g1 g4
            simp [wipeD]
            have g5 := g2.up (n' := m) (W' := 4 * wt x + 300) (J' := 2 * J + 10) (Nat.le_refl _) (Nat.le_refl _) fun i hi => by omega
            refine ⟨st3, hs3, rfl, fun y hy => q2 y (List.mem_cons_of_mem _ hy), fun y hy => ?_, ?_⟩
            · rcases hy with h | rfl
              · exact q3 y h
              · exact ⟨g5.sh, g5.i⟩
            · have := g2.w
              simp only [wtL_append, wtL, List.length_cons] at *
              omega
          · subst q1
            refine ⟨okW_nil _, ?_⟩
            have ha := len_wtL acc
            simp only [wtL, List.length_nil] at q4
            haveI : Sh acc 300000 := ⟨by omega⟩
            simp [restore, add_tt]
            refine fin st2 hs2 _ (fun x hx => ?_) (by rw [wtL_append]; omega)
            rcases List.mem_append.mp hx with h | h
            · exact upx x (cutL_mem h)
            · exact q3 x h
      · have f := lastQ (M.map D.int)
        unfold taLast at f
        simp [hp1, hp3]
        simp at f
        exact f
end Ev

set_option Elab.async false
set_option linter.all false
set_option maxRecDepth 100000
set_option maxHeartbeats 4000000
namespace Ev
open PySem
def TurnOk (N : Nat) (f : FSem) : Prop := ∀ n W J l st, n ≤ N → W ≤ 100000 → l ≠ [] → Gd n W J (.tup l) → WS st → wpF f [.ref st, .fro (.tup l)] (fun d o fs => TaP n W J (.tup l) d fs ∧ o = false) (fun _ _ => False)
def OddP (n W J : Nat) (v : D) (d : D) (fs : List Ar) : Prop := ∃ st', WS st' ∧ fs = [.ref st', .fro v] ∧ (Gd (n + 1) (5 * W + 600) (2 * J + 10) d ∨ d = .dic [])
theorem odd_ok {N : Nat} (nx tu ch : FSem) (hn : NextOk nx) (ht : TurnOk N tu) (hc : ChOk N ch) (n W J : Nat) (hnN : n ≤ N) (hN : N ≤ 60) (hW : W ≤ 100000) (hJ : J ≤ 100000000000) (l : List D) (hl : l ≠ []) (hv : Gd n W J (.tup l)) (st : D) (hs : WS st) :
    wpF (mkF 4 (B_law_odd nx tu ch)) [.ref st, .fro (.tup l)] (fun d o fs => OddP n W J (.tup l) d fs ∧ o = false) (fun _ _ => False) := by
  rw [wf_mk]
  have e0 : frame 4 [.ref st, .fro (.tup l)] = [.par st, .fro (.tup l), .no, .no] := rfl
  rw [e0]
  unfold B_law_odd
  obtain ⟨m, rfl⟩ : ∃ m, n = m + 1 := by
    cases n with
    | zero => have := hv.sh; simp [shp] at this
    | succ m => exact ⟨m, rfl⟩
  obtain ⟨hw, hit⟩ := hv.tup
  have hlen : l.length ≤ 50000 := by have := len_wtL l; omega
  have hl1 : 1 ≤ l.length := List.length_pos_iff.mpr hl
  haveI : Sh l 50000 := ⟨hlen⟩
  have hx0 := ix_natT l 0 l[0] (List.getElem?_eq_getElem hl1)
  simp at hx0
  simp [hx0, add_tt, eDic0]
  refine hn.run (lim := 9) hs (by omega) (by omega) fun p st1 h1 h2 hs1 => ?_
  simp
  have w1 := wtL_cut (l := l) (lo := some 1) (hi := none)
  have w0 := wtL_cut (l := l) (lo := none) (hi := some 1)
  have upx : ∀ k, m ≤ k → ∀ x ∈ l, shp k x = true ∧ gi (2 * J + 10) x = true := fun k hk x hx => by
    have := (hit x hx).up (n' := k) (W' := W) (J' := 2 * J + 10) hk (Nat.le_refl _) fun i hi => by omega
    exact ⟨this.sh, this.i⟩
  have hfst : l[0] ∈ l := List.getElem_mem hl1
  have hwf := wtL_mem hfst
  split
  · refine wpF_mono (ht (m + 1) W J l st1 hnN hW hl hv hs1) (fun d o fs ⟨⟨st2, hs2, q1, q2⟩, q3⟩ => ?_) fun _ _ h => h.elim
    subst q1 q3
    simp
    exact ⟨st2, hs2, rfl, .inl (q2.up (by omega) (Nat.le_refl _) fun i h => h)⟩
  · split
    · refine hn.run (lim := 11) hs1 (by omega) (by omega) fun v st2 h3 h4 hs2 => ?_
      simp
      refine wpO_ixL h3 (by simpa using h4) fun d hd => ?_
      simp at hd
      simp
      refine ⟨st2, hs2, rfl, ?_⟩
      rcases hd with rfl | rfl | rfl | rfl | rfl | rfl | rfl | rfl | rfl | rfl | rfl
      · exact .inl (Gd.non (by omega))
      · exact .inl (Gd.str (by simp) (by simp))
      · exact .inl (Gd.str (by decide) (by simp <;> omega))
      · exact .inr rfl
      · exact .inl (Gd.mkT (by simp [wtL]) (by simp))
      · exact .inl (Gd.mkT (by omega) fun x hx => upx _ (by omega) x (cutL_mem hx))
      · exact .inl (Gd.mkL (by omega) fun x hx => upx _ (by omega) x hx)
      · refine .inl (Gd.mkT (by rw [wtL_append]; simp only [wtL, wt]; omega) fun x hx => ?_)
        rcases List.mem_append.mp hx with h | h
        · exact upx _ (by omega) x h
        · simp at h; subst h; exact ⟨by simp [shp], by simp [gi]⟩
      · refine .inl (Gd.mkT (by simp only [wtL, wt]; omega) fun x hx => ?_)
        rcases List.mem_cons.mp hx with h | h
        · subst h
          have := upx m (Nat.le_refl _) _ hfst
          exact ⟨by simp only [shp, shpL, this.1]; rfl, by simp only [gi, giL, this.2]; rfl⟩
        · exact upx _ (by omega) x (cutL_mem h)
      · refine .inl (Gd.mkT (by simp only [wtL, wt, List.length_cons, List.length_nil]; omega) fun x hx => ?_)
        rcases List.mem_cons.mp hx with h | h
        · subst h
          exact ⟨by simp [shp], by simp [gi]⟩
        · exact upx _ (by omega) x (cutL_mem h)
      · exact .inl (Gd.int (by omega) (by omega))
    · refine wpF_mono (hc (m + 1) W J (.tup l) st1 hnN hW hJ hv hs1) (fun d o fs ⟨⟨st2, hs2, q1, q2⟩, q3⟩ => ?_) fun _ _ h => h.elim
      subst q1 q3
      simp
      exact ⟨st2, hs2, rfl, .inl (q2.up (Nat.le_refl _) (by omega) fun i h => h)⟩
end Ev

set_option Elab.async false
set_option linter.all false
set_option maxRecDepth 100000
set_option maxHeartbeats 4000000
namespace Ev
open PySem PyProof.Rows
open PySem.Builtin.Str (reprChar)
/-! ### the texts that repr gives -/
def sL (x : Str) : List Nat := x.cps.toList
theorem sL_append (a b : Str) : sL (a ++ b) = sL a ++ sL b := by
  show (a.cps ++ b.cps).toList = _
  rw [Array.toList_append]; rfl
theorem shown_dd (d : D) : shownL d = sL (toPy d).shown := rfl
theorem shownAll_map : ∀ l : List D, PyData.shownAll (toPyL l) = l.map fun d => (toPy d).shown
  | [] => rfl
  | d :: ds => by simp only [toPyL, PyData.shownAll, shownAll_map ds, List.map_cons]
/-- behind the first item's text -/
def bR : List (List Nat) → List Nat
  | [] => [41]
  | [a] => a ++ [41]
  | a :: b :: r => a ++ (44 :: 32 :: bR (b :: r))
def bT : List (List Nat) → List Nat
  | [a] => a ++ [44, 41]
  | l => bR l
theorem join_bR : ∀ ts : List Str, sL (Str.join ", " ts) ++ [41] = bR (ts.map sL)
  | [] => rfl
  | [a] => rfl
  | a :: b :: r => by
    show sL (a ++ ", " ++ Str.join ", " (b :: r)) ++ [41] = sL a ++ (44 :: 32 :: bR ((b :: r).map sL))
    rw [sL_append, sL_append, ← join_bR (b :: r)]
    have e : sL (", " : String) = [44, 32] := by decide +kernel
    rw [e]
    simp
theorem tupleText_bT (ts : List Str) : sL (tupleText ts) = 40 :: bT (ts.map sL) := by
  unfold tupleText
  rw [sL_append, sL_append]
  have e : sL ("(" : String) = [40] := by decide +kernel
  have e1 : sL (")" : String) = [41] := by decide +kernel
  have e2 : sL (",)" : String) = [44, 41] := by decide +kernel
  rw [e]
  match ts with
  | [] => rw [show (([] : List Str).length == 1) = false from rfl]; simp only [Bool.false_eq_true, if_false, e1]; rfl
  | [a] => rw [show (([a] : List Str).length == 1) = true from rfl]; simp only [if_true, e2]; rfl
  | a :: b :: r =>
    rw [show ((a :: b :: r).length == 1) = false from by simp]
    simp only [Bool.false_eq_true, if_false, e1]
    have := join_bR (a :: b :: r)
    show [40] ++ sL (Str.join ", " (a :: b :: r)) ++ [41] = 40 :: bR ((a :: b :: r).map sL)
    rw [List.append_assoc, this]; rfl
theorem shown_tup (l : List D) : shownL (.tup l) = 40 :: bT (l.map shownL) := by
  rw [shown_dd]
  simp only [toPy, PyData.shown]
  rw [tupleText_bT, shownAll_map, List.map_map]; rfl
theorem shown_int (i : Int) : shownL (.int i) = intL i := rfl
theorem textFrom_pre : ∀ (ts : List Str) (k : Nat) (acc : Str), ∃ t, sL (textFrom k acc ts) = sL acc ++ t
  | [], k, acc => ⟨[], by simp [textFrom]⟩
  | a :: ts, k, acc => by
    obtain ⟨t, e⟩ := textFrom_pre ts (k + 1) (acc ++ (if k > 0 then ", " else "" : String) ++ a)
    rw [textFrom, e, sL_append, sL_append]
    exact ⟨_, by rw [List.append_assoc, List.append_assoc]⟩
theorem repr_pre (q : Nat) (g : Nat → List Nat) : ∀ (l : List Nat) (acc : Array Nat), ∃ t, (l.foldl (fun out c => out ++ (g c).toArray) acc).toList = acc.toList ++ t
  | [], acc => ⟨[], by simp⟩
  | c :: l, acc => by
    obtain ⟨t, e⟩ := repr_pre q g l (acc ++ (g c).toArray)
    rw [List.foldl_cons, e, Array.toList_append]
    exact ⟨_, by rw [List.append_assoc]⟩
theorem shown_lst (l : List D) : ∃ t, shownL (.lst l) = 91 :: t := by
  rw [shown_dd]
  simp only [toPy, PyData.shown, listText]
  obtain ⟨t, e⟩ := textFrom_pre (PyData.shownAll (toPyL l)) 0 ("[" : String)
  rw [sL_append, e]
  have e1 : sL ("[" : String) = [91] := by decide +kernel
  rw [e1]
  exact ⟨_, rfl⟩
theorem shown_str (s : List Nat) : ∃ q t, shownL (.str s) = q :: t ∧ (q = 34 ∨ q = 39) := by
  rw [shown_dd]
  simp only [toPy, PyData.shown, reprText, sL]
  rw [Array.toList_push, ← Array.foldl_toList]
  obtain ⟨t, e⟩ := repr_pre (reprQuote ⟨s.toArray⟩) (reprChar (reprQuote ⟨s.toArray⟩)) s #[reprQuote ⟨s.toArray⟩]
  rw [e]
  refine ⟨_, _, rfl, ?_⟩
  unfold reprQuote
  split <;> simp
theorem shown_non : ∃ t, shownL .non = 78 :: t := ⟨[111, 110, 101], by rw [shown_dd]; simp only [toPy, PyData.shown]; decide +kernel⟩
theorem shown_bl (b : Bool) : ∃ q t, shownL (.bl b) = q :: t ∧ (q = 84 ∨ q = 70) := by
  rw [shown_dd]
  simp only [toPy, PyData.shown]
  cases b
  · exact ⟨70, [97, 108, 115, 101], by decide +kernel, .inr rfl⟩
  · exact ⟨84, [114, 117, 101], by decide +kernel, .inl rfl⟩
theorem shown_dic (l : List (D × D)) : ∃ t, shownL (.dic l) = 123 :: t := ⟨[125], by rw [shown_dd]; simp only [toPy, PyData.shown, PyData.shownKv]; decide +kernel⟩
/-! ### whole numbers' texts -/
def dg (c : Nat) : Prop := c = 45 ∨ (48 ≤ c ∧ c ≤ 57)
theorem intL_dg {i : Int} {c : Nat} (h : c ∈ intL i) : dg c := by
  apply Classical.byContradiction
  intro hn
  unfold dg at hn
  exact int_text_free' c (by omega) i h
theorem intL_chars (i : Int) : intL i = (toString i).toList.map Char.toNat := intL_eq i
theorem charNat_inj : ∀ a b : List Char, a.map Char.toNat = b.map Char.toNat → a = b
  | [], [], _ => rfl
  | [], _ :: _, h => by simp at h
  | _ :: _, [], h => by simp at h
  | x :: a, y :: b, h => by
    simp only [List.map_cons, List.cons.injEq] at h
    rw [charNat_inj a b h.2]
    have : x = y := Char.ext (UInt32.toNat_inj.mp h.1)
    rw [this]
theorem natRepr_inj {a b : Nat} (h : (Nat.repr a).toList = (Nat.repr b).toList) : a = b := by
  rw [Nat.toList_repr, Nat.toList_repr] at h
  have := Nat.ofDigitChars_ten_toDigits (n := a)
  rw [h, Nat.ofDigitChars_ten_toDigits] at this
  exact this.symm
theorem natRepr_noDash {a : Nat} {t : List Char} (h : (Nat.repr a).toList = '-' :: t) : False := by
  rw [Nat.toList_repr] at h
  have := Nat.isDigit_of_mem_toDigits (b := 10) (n := a) (c := '-') (by decide) (by decide) (by rw [h]; exact List.mem_cons_self)
  exact absurd this (by decide)
theorem intL_inj {i j : Int} (h : intL i = intL j) : i = j := by
  rw [intL_chars, intL_chars] at h
  have h := charNat_inj _ _ h
  have ed : ∀ n, (toString (Int.negSucc n)).toList = '-' :: (Nat.repr (n + 1)).toList := fun n => by
    show ("-" ++ Nat.repr (n + 1)).toList = _
    rw [String.toList_append]
    rfl
  have en : ∀ n : Nat, (toString (Int.ofNat n)).toList = (Nat.repr n).toList := fun n => rfl
  cases i with
  | ofNat a =>
    cases j with
    | ofNat b => rw [en, en] at h; rw [natRepr_inj h]
    | negSucc b => rw [en, ed] at h; exact (natRepr_noDash h).elim
  | negSucc a =>
    cases j with
    | ofNat b => rw [en, ed] at h; exact (natRepr_noDash h.symm).elim
    | negSucc b => rw [ed, ed] at h; injection h with _ h; have := natRepr_inj h; congr 1; omega
theorem intL_ne (i : Int) : intL i ≠ [] := by
  rw [intL_chars]
  intro h
  have h := List.map_eq_nil_iff.mp h
  cases i with
  | ofNat a =>
    have h : (Nat.repr a).toList = [] := h
    rw [Nat.toList_repr] at h
    exact Nat.toDigits_ne_nil h
  | negSucc a =>
    have h : ("-" ++ Nat.repr (a + 1)).toList = [] := h
    rw [String.toList_append] at h
    simp at h
/-- a text whose first sign is none of a number -/
def nd (r : List Nat) : Prop := ∀ c t, r = c :: t → ¬ dg c
theorem span_inj {p : Nat → Prop} : ∀ (a b r s : List Nat), (∀ c ∈ a, p c) → (∀ c ∈ b, p c) → (∀ c t, r = c :: t → ¬ p c) → (∀ c t, s = c :: t → ¬ p c) → a ++ r = b ++ s → a = b ∧ r = s
  | [], [], r, s, _, _, _, _, h => ⟨rfl, h⟩
  | [], y :: b, r, s, _, hb, hr, _, h => absurd (hb y List.mem_cons_self) (hr y _ h)
  | x :: a, [], r, s, ha, _, _, hs, h => absurd (ha x List.mem_cons_self) (hs x _ h.symm)
  | x :: a, y :: b, r, s, ha, hb, hr, hs, h => by
    simp only [List.cons_append, List.cons.injEq] at h
    obtain ⟨h1, h2⟩ := span_inj a b r s (fun c hc => ha c (List.mem_cons_of_mem _ hc)) (fun c hc => hb c (List.mem_cons_of_mem _ hc)) hr hs h.2
    exact ⟨by rw [h.1, h1], h2⟩
/-! ### trees of tuples and whole numbers -/
mutual
def itB : D → Bool
  | .int _ => true
  | .tup l => itL l
  | _ => false
def itL : List D → Bool
  | [] => true
  | d :: ds => itB d && itL ds
end
theorem itL_mem : ∀ {l : List D}, itL l = true ↔ ∀ d ∈ l, itB d = true
  | [] => by simp [itL]
  | d :: ds => by simp [itL, itL_mem (l := ds)]
def InjP (x : D) : Prop := ∀ (y : D) (r s : List Nat), nd r → nd s → shownL y ++ r = shownL x ++ s → y = x ∧ r = s
theorem nd_cons {c : Nat} {t : List Nat} (h : ¬ dg c) : nd (c :: t) := fun c' t' e => by
  injection e with e1 _
  subst e1; exact h
theorem n44 : ¬ dg 44 := by unfold dg; omega
theorem n41 : ¬ dg 41 := by unfold dg; omega
/-- no item's text begins with ) -/
theorem hd41 (d : D) : ∃ c t, shownL d = c :: t ∧ c ≠ 41 := by
  cases d with
  | non => obtain ⟨t, e⟩ := shown_non; exact ⟨_, t, e, by omega⟩
  | bl b => obtain ⟨q, t, e, h⟩ := shown_bl b; exact ⟨q, t, e, by omega⟩
  | str s => obtain ⟨q, t, e, h⟩ := shown_str s; exact ⟨q, t, e, by omega⟩
  | lst l => obtain ⟨t, e⟩ := shown_lst l; exact ⟨_, t, e, by omega⟩
  | dic l => obtain ⟨t, e⟩ := shown_dic l; exact ⟨_, t, e, by omega⟩
  | tup l => exact ⟨_, _, shown_tup l, by omega⟩
  | int i =>
    rw [shown_int]
    cases h : intL i with
    | nil => exact absurd h (intL_ne i)
    | cons c t =>
      have : dg c := intL_dg (i := i) (by rw [h]; exact List.mem_cons_self)
      exact ⟨c, t, rfl, fun e => n41 (e ▸ this)⟩
theorem bR_inj : ∀ (xs ys : List D) (r s : List Nat), xs ≠ [] → ys ≠ [] → (∀ x ∈ xs, InjP x) → bR (ys.map shownL) ++ r = bR (xs.map shownL) ++ s → ys = xs ∧ r = s
  | [], _, _, _, h, _, _, _ => absurd rfl h
  | _ :: _, [], _, _, _, h, _, _ => absurd rfl h
  | [x], [y], r, s, _, _, hx, h => by
    simp only [List.map_cons, List.map_nil, bR, List.append_assoc] at h
    obtain ⟨e1, e2⟩ := hx x (by simp) y _ _ (nd_cons n41) (nd_cons n41) h
    injection e2 with _ e2
    exact ⟨by rw [e1], e2⟩
  | x :: x2 :: xs, [y], r, s, _, _, hx, h => by
    simp only [List.map_cons, List.map_nil, bR, List.append_assoc] at h
    obtain ⟨e1, e2⟩ := hx x (by simp) y _ _ (nd_cons n41) (nd_cons n44) h
    injection e2 with e3 _
    omega
  | [x], y :: y2 :: ys, r, s, _, _, hx, h => by
    simp only [List.map_cons, List.map_nil, bR, List.append_assoc] at h
    obtain ⟨e1, e2⟩ := hx x (by simp) y _ _ (nd_cons n44) (nd_cons n41) h
    injection e2 with e3 _
    omega
  | x :: x2 :: xs, y :: y2 :: ys, r, s, _, _, hx, h => by
    simp only [List.map_cons, bR, List.append_assoc] at h
    obtain ⟨e1, e2⟩ := hx x (by simp) y _ _ (nd_cons n44) (nd_cons n44) h
    have e2 : bR (shownL y2 :: List.map shownL ys) ++ r = bR (shownL x2 :: List.map shownL xs) ++ s := by
      have e2 : 44 :: 32 :: (bR (shownL y2 :: List.map shownL ys) ++ r) = 44 :: 32 :: (bR (shownL x2 :: List.map shownL xs) ++ s) := e2
      injection e2 with _ e2
      injection e2
    obtain ⟨e3, e4⟩ := bR_inj (x2 :: xs) (y2 :: ys) r s (by simp) (by simp) (fun z hz => hx z (List.mem_cons_of_mem _ hz)) (by simpa only [List.map_cons] using e2)
    exact ⟨by rw [e1, e3], e4⟩
theorem bT_inj (xs ys : List D) (r s : List Nat) (hx : ∀ x ∈ xs, InjP x) (h : bT (ys.map shownL) ++ r = bT (xs.map shownL) ++ s) : ys = xs ∧ r = s := by
  match xs, ys with
  | [], [] =>
    simp only [List.map_nil, bT, bR, List.cons_append, List.nil_append, List.cons.injEq, true_and] at h
    exact ⟨rfl, h⟩
  | [], y :: ys =>
    obtain ⟨c, t, e, hc⟩ := hd41 y
    match ys with
    | [] => simp [bT, bR, e] at h; exact absurd h.1 hc
    | y2 :: ys => simp [bT, bR, e] at h; exact absurd h.1 hc
  | x :: xs, [] =>
    obtain ⟨c, t, e, hc⟩ := hd41 x
    match xs with
    | [] => simp [bT, bR, e] at h; exact absurd h.1.symm hc
    | x2 :: xs => simp [bT, bR, e] at h; exact absurd h.1.symm hc
  | [x], [y] =>
    simp only [List.map_cons, List.map_nil, bT, List.append_assoc] at h
    obtain ⟨e1, e2⟩ := hx x (by simp) y _ _ (nd_cons n44) (nd_cons n44) h
    simp at e2
    exact ⟨by rw [e1], e2⟩
  | x :: x2 :: xs, [y] =>
    simp only [List.map_cons, List.map_nil, bT, bR, List.append_assoc] at h
    obtain ⟨e1, e2⟩ := hx x (by simp) y _ _ (nd_cons n44) (nd_cons n44) h
    simp at e2
  | [x], y :: y2 :: ys =>
    simp only [List.map_cons, List.map_nil, bT, bR, List.append_assoc] at h
    obtain ⟨e1, e2⟩ := hx x (by simp) y _ _ (nd_cons n44) (nd_cons n44) h
    simp at e2
  | x :: x2 :: xs, y :: y2 :: ys => exact bR_inj (x :: x2 :: xs) (y :: y2 :: ys) r s (by simp) (by simp) hx h
theorem inj_ok : ∀ (k : Nat) (x : D), wt x < k → itB x = true → InjP x := by
  intro k
  induction k with
  | zero => intro x h; omega
  | succ k ih =>
    intro x hk hx y r s hr hs h
    cases x with
    | int i =>
      rw [shown_int] at h
      have other : ∀ c t, shownL y = c :: t → ¬ dg c → False := fun c t e hc => by
        rw [e] at h
        cases hi : intL i with
        | nil => exact absurd hi (intL_ne i)
        | cons c2 t2 =>
          rw [hi] at h
          injection h with h1 _
          exact hc (h1 ▸ intL_dg (i := i) (by rw [hi]; exact List.mem_cons_self))
      cases y with
      | int j =>
        rw [shown_int] at h
        obtain ⟨e1, e2⟩ := span_inj (p := dg) _ _ r s (fun c hc => intL_dg hc) (fun c hc => intL_dg hc) hr hs h
        rw [intL_inj e1]; exact ⟨rfl, e2⟩
      | non => obtain ⟨t, e⟩ := shown_non; exact (other _ _ e (by unfold dg; omega)).elim
      | bl b => obtain ⟨q, t, e, hq⟩ := shown_bl b; exact (other _ _ e (by unfold dg; omega)).elim
      | str b => obtain ⟨q, t, e, hq⟩ := shown_str b; exact (other _ _ e (by unfold dg; omega)).elim
      | lst l => obtain ⟨t, e⟩ := shown_lst l; exact (other _ _ e (by unfold dg; omega)).elim
      | dic l => obtain ⟨t, e⟩ := shown_dic l; exact (other _ _ e (by unfold dg; omega)).elim
      | tup l => exact (other _ _ (shown_tup l) (by unfold dg; omega)).elim
    | tup xs =>
      rw [shown_tup] at h
      have other : ∀ c t, shownL y = c :: t → c ≠ 40 → False := fun c t e hc => by
        rw [e] at h
        injection h with h1 _
        exact hc h1
      have hxs : ∀ x ∈ xs, InjP x := fun x hm => ih x (by have := wtL_mem hm; simp only [wt] at hk; omega) (itL_mem.mp (by simpa only [itB] using hx) x hm)
      cases y with
      | tup ys =>
        rw [shown_tup] at h
        simp only [List.cons_append, List.cons.injEq, true_and] at h
        obtain ⟨e1, e2⟩ := bT_inj xs ys r s hxs h
        exact ⟨by rw [e1], e2⟩
      | int j =>
        rw [shown_int] at h
        cases hi : intL j with
        | nil => exact absurd hi (intL_ne j)
        | cons c2 t2 =>
          rw [hi] at h
          injection h with h1 _
          have : dg c2 := intL_dg (i := j) (by rw [hi]; exact List.mem_cons_self)
          rw [h1] at this
          exact absurd this (by unfold dg; omega)
      | non => obtain ⟨t, e⟩ := shown_non; exact (other _ _ e (by omega)).elim
      | bl b => obtain ⟨q, t, e, hq⟩ := shown_bl b; exact (other _ _ e (by omega)).elim
      | str b => obtain ⟨q, t, e, hq⟩ := shown_str b; exact (other _ _ e (by omega)).elim
      | lst l => obtain ⟨t, e⟩ := shown_lst l; exact (other _ _ e (by omega)).elim
      | dic l => obtain ⟨t, e⟩ := shown_dic l; exact (other _ _ e (by omega)).elim
    | _ => simp [itB] at hx
theorem str_shown_eq (w : List Nat) (xs ys : List D) (hx : itL xs = true) (h : shownL (.tup (.str w :: ys)) = shownL (.tup (.str w :: xs))) : ys = xs := by
  rw [shown_tup, shown_tup] at h
  have hxs : ∀ x ∈ xs, InjP x := fun x hm => inj_ok (wt x + 1) x (by omega) (itL_mem.mp hx x hm)
  simp only [List.cons.injEq, true_and, List.map_cons] at h
  match xs, ys with
  | [], [] => rfl
  | [], y :: ys =>
    simp only [List.map_nil, List.map_cons, bT, bR] at h
    have h := List.append_cancel_left h
    simp at h
  | x :: xs, [] =>
    simp only [List.map_nil, List.map_cons, bT, bR] at h
    have h := List.append_cancel_left h
    simp at h
  | x :: xs, y :: ys =>
    simp only [List.map_cons, bT, bR] at h
    have h := List.append_cancel_left h
    simp only [List.cons.injEq, true_and] at h
    have := bR_inj (x :: xs) (y :: ys) [] [] (by simp) (by simp) hxs (by simpa using h)
    exact this.1
/-! ### how long -/
theorem shw_gi {J : Nat} (hJ : J < 1000000000000) : ∀ (k : Nat) (d : D), wt d < k → gi J d = true → shw d = true := by
  intro k
  induction k with
  | zero => intro d h; omega
  | succ k ih =>
    intro d hk h
    have go : ∀ l : List D, wtL l < k → giL J l = true → shwL l = true := fun l => by
      induction l with
      | nil => intro _ _; rfl
      | cons x l ihl =>
        intro hl h
        simp only [giL, Bool.and_eq_true, wtL] at h hl
        simp only [shwL, Bool.and_eq_true]
        exact ⟨ih x (by omega) h.1, ihl (by omega) h.2⟩
    cases d with
    | int i => simp only [gi, shw, decide_eq_true_eq] at h ⊢; omega
    | tup l => simp only [gi, shw, wt] at h hk ⊢; exact go l (by omega) h
    | lst l => simp only [gi, shw, wt] at h hk ⊢; exact go l (by omega) h
    | dic l => simp [gi] at h
    | non => simp [shw]
    | bl b => simp [shw]
    | str s => simp [shw]
theorem shown_len : ∀ (k : Nat) (n : Nat) (d : D), wt d < k → shp n d = true → shw d = true → (toPy d).shown.length ≤ wt d := by
  intro k
  induction k with
  | zero => intro n d h; omega
  | succ k ih =>
    intro n d hk h1 h2
    have go : ∀ (n : Nat) (l : List D), wtL l < k → shpL n l = true → shwL l = true → ((l.map fun d => (toPy d).shown).map (·.length)).sum + 2 * l.length ≤ wtL l := fun n l => by
      induction l with
      | nil => intro _ _ _; simp [wtL]
      | cons x l ihl =>
        intro hl h1 h2
        simp only [shpL, shwL, Bool.and_eq_true, wtL] at h1 h2 hl
        have a := ih n x (by omega) h1.1 h2.1
        have b := ihl (by omega) h1.2 h2.2
        simp only [List.map_cons, List.sum_cons, List.length_cons, wtL]
        omega
    cases d with
    | non => have : (toPy .non).shown.length = 4 := by simp only [toPy, PyData.shown]; decide +kernel
             simp only [wt]; omega
    | bl b => have : (toPy (.bl b)).shown.length ≤ 5 := by cases b <;> (simp only [toPy, PyData.shown]; decide +kernel)
              simp only [wt]; omega
    | int i =>
      simp only [shw, decide_eq_true_eq] at h2
      have e : (toPy (.int i)).shown.length = (intL i).length := by
        show (Str.ofString (toString i)).cps.size = (Str.ofString (toString i)).cps.toList.length
        rw [Array.length_toList]
      have := intL_len h2
      simp only [wt]; omega
    | str s =>
      have hc : ∀ c ∈ (⟨s.toArray⟩ : Str).cps.toList, c < 16 ^ 8 := fun c hc => by
        simp only [shp, List.all_eq_true, decide_eq_true_eq] at h1
        have := h1 c hc
        have : (16 : Nat) ^ 8 = 4294967296 := by decide
        omega
      have := StrLaws.reprText_len ⟨s.toArray⟩ hc
      have e : (⟨s.toArray⟩ : Str).length = s.length := by simp [Str.length]
      simp only [toPy, PyData.shown, wt]
      rw [e] at this
      by_cases h0 : s = []
      · subst h0
        have : (reprText ⟨[].toArray⟩).length = 2 := by decide +kernel
        simp only [List.length_nil]; omega
      · have := List.length_pos_iff.mpr h0
        omega
    | tup l =>
      cases n with
      | zero => simp [shp] at h1
      | succ n =>
        simp only [shp, shw, wt] at h1 h2 hk
        have a := go n l (by omega) h1 h2
        have b := tupleText_len_le (l.map fun d => (toPy d).shown)
        rw [List.length_map] at b
        simp only [toPy, PyData.shown, wt, shownAll_map]
        omega
    | lst l =>
      cases n with
      | zero => simp [shp] at h1
      | succ n =>
        simp only [shp, shw, wt] at h1 h2 hk
        have a := go n l (by omega) h1 h2
        have b := listText_len_le (l.map fun d => (toPy d).shown)
        rw [List.length_map] at b
        simp only [toPy, PyData.shown, wt, shownAll_map]
        omega
    | dic l => simp [shp] at h1
theorem repr_gd {n W J : Nat} {l : List D} (h : Gd n W J (.tup l)) (hn : n ≤ 64) (hW : W ≤ 1000000) (hJ : J < 1000000000000) : reprG (.tup l) = some (.str (shownL (.tup l)), false) := by
  have h1 := shw_gi hJ _ _ (Nat.lt_succ_self _) h.i
  have h2 := shown_len _ n _ (Nat.lt_succ_self _) h.sh h1
  have h3 := h.w
  have e : (shownL (.tup l)).length = (toPy (.tup l)).shown.length := by rw [shown_dd]; simp [sL, Str.length]
  have : LIM = 1000000 := rfl
  show (if shp 64 (.tup l) = true ∧ shw (.tup l) = true ∧ (shownL (.tup l)).length ≤ LIM then some (D.str (shownL (.tup l)), false) else none) = _
  rw [if_pos ⟨shp_up h.sh hn, h1, by omega⟩]
/-! ### codes of these texts -/
theorem mem_bR {c : Nat} : ∀ ts : List (List Nat), c ∈ bR ts → c = 41 ∨ c = 44 ∨ c = 32 ∨ ∃ t ∈ ts, c ∈ t
  | [], h => by simp [bR] at h; exact .inl h
  | [a], h => by
    simp only [bR, List.mem_append, List.mem_cons, List.not_mem_nil, or_false] at h
    rcases h with h | h
    · exact .inr (.inr (.inr ⟨a, by simp, h⟩))
    · exact .inl h
  | a :: b :: r, h => by
    simp only [bR, List.mem_append, List.mem_cons] at h
    rcases h with h | h | h | h
    · exact .inr (.inr (.inr ⟨a, by simp, h⟩))
    · exact .inr (.inl h)
    · exact .inr (.inr (.inl h))
    · rcases mem_bR (b :: r) h with h | h | h | ⟨t, ht, h⟩
      · exact .inl h
      · exact .inr (.inl h)
      · exact .inr (.inr (.inl h))
      · exact .inr (.inr (.inr ⟨t, List.mem_cons_of_mem _ ht, h⟩))
theorem mem_bT {c : Nat} (ts : List (List Nat)) (h : c ∈ bT ts) : c = 41 ∨ c = 44 ∨ c = 32 ∨ ∃ t ∈ ts, c ∈ t := by
  match ts with
  | [] => exact mem_bR [] h
  | [a] =>
    simp only [bT, List.mem_append, List.mem_cons, List.not_mem_nil, or_false] at h
    rcases h with h | h | h
    · exact .inr (.inr (.inr ⟨a, by simp, h⟩))
    · exact .inr (.inl h)
    · exact .inl h
  | a :: b :: r => exact mem_bR (a :: b :: r) h
theorem mem_textFrom {c : Nat} : ∀ (ts : List Str) (k : Nat) (acc : Str), c ∈ sL (textFrom k acc ts) → c ∈ sL acc ∨ c = 44 ∨ c = 32 ∨ ∃ t ∈ ts, c ∈ sL t
  | [], k, acc, h => .inl (by simpa [textFrom] using h)
  | a :: ts, k, acc, h => by
    rw [textFrom] at h
    rcases mem_textFrom ts _ _ h with h | h | h | ⟨t, ht, h⟩
    · rw [sL_append, sL_append, List.mem_append, List.mem_append] at h
      rcases h with (h | h) | h
      · exact .inl h
      · have e : sL (", " : String) = [44, 32] := by decide +kernel
        have e0 : sL ("" : String) = [] := by decide +kernel
        split at h
        · rw [e] at h
          simp at h
          exact h.elim (fun h => .inr (.inl h)) fun h => .inr (.inr (.inl h))
        · rw [e0] at h; cases h
      · exact .inr (.inr (.inr ⟨a, by simp, h⟩))
    · exact .inr (.inl h)
    · exact .inr (.inr (.inl h))
    · exact .inr (.inr (.inr ⟨t, List.mem_cons_of_mem _ ht, h⟩))
theorem hex_codes {n c : Nat} (h : c ∈ (Nat.toDigits 16 n).map Char.toNat) : c < 1114112 := by
  obtain ⟨ch, _, rfl⟩ := List.mem_map.mp h
  exact char_lt ch
theorem reprChar_codes {q x c : Nat} (hq : q < 1114112) (hx : x < 1114112) (h : c ∈ reprChar q x) : c < 1114112 := by
  have hh : ∀ w, c ∈ List.replicate w 48 ++ (Nat.toDigits 16 x).map Char.toNat → c < 1114112 := fun w h => by
    rcases List.mem_append.mp h with h | h
    · rw [List.eq_of_mem_replicate h]; omega
    · exact hex_codes h
  unfold reprChar at h
  split at h
  · simp at h; omega
  · split at h
    · simp at h; omega
    · split at h
      · simp at h; omega
      · split at h
        · simp at h; omega
        · split at h
          · simp at h; omega
          · split at h
            · simp only [List.cons_append, List.nil_append, List.mem_cons] at h
              rcases h with h | h | h
              · omega
              · omega
              · exact hh _ h
            · split at h
              · simp only [List.cons_append, List.nil_append, List.mem_cons] at h
                rcases h with h | h | h
                · omega
                · omega
                · exact hh _ h
              · simp only [List.cons_append, List.nil_append, List.mem_cons] at h
                rcases h with h | h | h
                · omega
                · omega
                · exact hh _ h
theorem reprText_codes {s : List Nat} (hs : ∀ c ∈ s, c < 1114112) : ∀ c ∈ sL (reprText ⟨s.toArray⟩), c < 1114112 := by
  have hq : reprQuote ⟨s.toArray⟩ < 1114112 := by unfold reprQuote; split <;> omega
  have go : ∀ (l : List Nat) (acc : Array Nat), (∀ c ∈ l, c < 1114112) → (∀ c ∈ acc.toList, c < 1114112) → ∀ c ∈ (l.foldl (fun out c => out ++ (reprChar (reprQuote ⟨s.toArray⟩) c).toArray) acc).toList, c < 1114112 := fun l => by
    induction l with
    | nil => intro acc _ h; exact h
    | cons x l ih =>
      intro acc h1 h2
      rw [List.foldl_cons]
      refine ih _ (fun c hc => h1 c (List.mem_cons_of_mem _ hc)) fun c hc => ?_
      rw [Array.toList_append, List.mem_append] at hc
      rcases hc with hc | hc
      · exact h2 c hc
      · exact reprChar_codes hq (h1 x List.mem_cons_self) hc
  intro c hc
  unfold reprText sL at hc
  rw [Array.toList_push, List.mem_append, ← Array.foldl_toList] at hc
  rcases hc with hc | hc
  · exact go s _ hs (fun c hc => by simp at hc; rw [hc]; exact hq) c hc
  · simp at hc; rw [hc]; exact hq
theorem shown_codes : ∀ (k n : Nat) (d : D), wt d < k → shp n d = true → ∀ c ∈ shownL d, c < 1114112 := by
  intro k
  induction k with
  | zero => intro n d h; omega
  | succ k ih =>
    intro n d hk h1 c hc
    cases d with
    | non => rw [shown_dd] at hc; simp only [toPy, PyData.shown] at hc
             have e : sL ("None" : String) = [78, 111, 110, 101] := by decide +kernel
             rw [e] at hc; simp at hc; omega
    | bl b =>
      have e : sL ("True" : String) = [84, 114, 117, 101] := by decide +kernel
      have e2 : sL ("False" : String) = [70, 97, 108, 115, 101] := by decide +kernel
      rw [shown_dd] at hc; simp only [toPy, PyData.shown] at hc
      cases b
      · simp only [Bool.false_eq_true, if_false, e2] at hc; simp at hc; omega
      · simp only [if_true, e] at hc; simp at hc; omega
    | int i => exact intL_codes i c hc
    | str s =>
      simp only [shp, List.all_eq_true, decide_eq_true_eq] at h1
      exact reprText_codes h1 c (by rw [shown_dd] at hc; simpa only [toPy, PyData.shown] using hc)
    | tup l =>
      cases n with
      | zero => simp [shp] at h1
      | succ n =>
        simp only [shp, wt] at h1 hk
        rw [shown_tup, List.mem_cons] at hc
        rcases hc with hc | hc
        · omega
        · rcases mem_bT _ hc with h | h | h | ⟨t, ht, h⟩
          · omega
          · omega
          · omega
          · obtain ⟨x, hx, rfl⟩ := List.mem_map.mp ht
            exact ih n x (by have := wtL_mem hx; omega) (shpL_mem.mp h1 x hx) c h
    | lst l =>
      cases n with
      | zero => simp [shp] at h1
      | succ n =>
        simp only [shp, wt] at h1 hk
        rw [shown_dd] at hc
        simp only [toPy, PyData.shown, listText, sL_append, shownAll_map, List.mem_append] at hc
        have e0 : sL ("[" : String) = [91] := by decide +kernel
        have e1 : sL ("]" : String) = [93] := by decide +kernel
        rw [e1] at hc
        rcases hc with hc | hc
        · rcases mem_textFrom _ _ _ hc with h | h | h | ⟨t, ht, h⟩
          · rw [e0] at h; simp at h; omega
          · omega
          · omega
          · obtain ⟨x, hx, rfl⟩ := List.mem_map.mp ht
            exact ih n x (by have := wtL_mem hx; omega) (shpL_mem.mp h1 x hx) c h
        · simp at hc; omega
    | dic l => simp [shp] at h1
theorem eq_shown {n W J m W2 J2 : Nat} {a b : List D} (ha : Gd n W J (.tup a)) (hb : Gd m W2 J2 (.tup b)) : eqG (.str (shownL (.tup a))) (.str (shownL (.tup b))) = some (decide (shownL (.tup a) = shownL (.tup b))) := by
  have h1 : shp 64 (.str (shownL (.tup a))) = true := by simpa [shp] using shown_codes _ n _ (Nat.lt_succ_self _) ha.sh
  have h2 : shp 64 (.str (shownL (.tup b))) = true := by simpa [shp] using shown_codes _ m _ (Nat.lt_succ_self _) hb.sh
  unfold eqG
  rw [if_pos ⟨h1, h2⟩]
  rfl
end Ev

set_option Elab.async false
set_option linter.all false
set_option maxRecDepth 100000
set_option maxHeartbeats 4000000
namespace Ev
open PySem
/-! ### more rules: try, append, comprehensions with two fors, loops that watch a slot -/
section
variable {α β : Type} {σ : Fr} {X : Str → Fr → Prop} {Q : Fl → Fr → Prop}
def tryQ (cls : List Cl) (Q : Fl → Fr → Prop) (fl : Fl) (σ : Fr) (_ : Fix Q := fx) : Prop := match fl with
  | .ex c => wpS (clGo c cls) σ Q
  | fl => Q fl σ
@[simp] theorem tryQ_nx {cls : List Cl} : tryQ cls Q .nx σ ↔ Q .nx σ := ⟨id, id⟩
@[simp] theorem tryQ_rt {cls : List Cl} {r : R} : tryQ cls Q (.rt r) σ ↔ Q (.rt r) σ := ⟨id, id⟩
@[simp] theorem tryQ_bk {cls : List Cl} : tryQ cls Q .bk σ ↔ Q .bk σ := ⟨id, id⟩
@[simp] theorem tryQ_ct {cls : List Cl} : tryQ cls Q .ct σ ↔ Q .ct σ := ⟨id, id⟩
@[simp] theorem tryQ_ex {cls : List Cl} {c : Str} : tryQ cls Q (.ex c) σ ↔ wpS (clGo c cls) σ Q := ⟨id, id⟩
@[simp] theorem ws_try {b : S} {cls : List Cl} : wpS (sTry b cls) σ Q ↔ wpS b σ fun fl σ' => tryQ cls Q fl σ' := by
  unfold wpS sTry tryQ
  cases h : b σ with
  | none => simp
  | some q => obtain ⟨fl, σ'⟩ := q; cases fl <;> rfl
@[simp] theorem ws_clNil {c : Str} : wpS (clGo c []) σ Q ↔ Q (.ex c) σ := ⟨id, id⟩
def wpU (l : Option Sl) (su : Su) (σ : Fr) (Q : Fl → Fr → Prop) (_ : Fix Q := fx) : Prop := match l with
  | some .no => (match su with
    | .ret0 => Q (.rt (.v (.tup []) false)) σ
    | .skip => Q .nx σ)
  | _ => False
@[simp] theorem wpU_ret0 : wpU (some .no) .ret0 σ Q ↔ Q (.rt (.v (.tup []) false)) σ := ⟨id, id⟩
@[simp] theorem wpU_skip : wpU (some .no) .skip σ Q ↔ Q .nx σ := ⟨id, id⟩
@[simp] theorem ws_clCons {c : Str} {q : Cl} {r : List Cl} : wpS (clGo c (q :: r)) σ Q ↔ wpO (q.takes c) fun t => if t = true then wpU σ[q.i]? q.su σ Q else wpS (clGo c r) σ Q := by
  cases h : q.takes c with
  | none => simp [wpS, clGo, h]
  | some t =>
    cases t with
    | false => simp [wpS, clGo, h]
    | true =>
      simp only [wpO_some, if_true]
      unfold wpS clGo wpU
      rw [h]
      cases h2 : σ[q.i]? with
      | none => simp
      | some l => cases l <;> simp <;> cases q.su <;> simp
def apK (m : Nat → SE) (ro : R) : SE := match ro with
  | .s k => fun σ => match hel σ k with
    | some (.lst _) => m k σ
    | _ => none
  | _ => M.no
@[simp] theorem wp_onL {fo : SE} {m : Nat → SE} {Q : R → Fr → Prop} : wpM (onL fo m) σ Q X ↔ wpM fo σ (fun ro σ1 => wpM (apK m ro) σ1 Q X) X := by
  have e : onL fo m = M.bind fo (apK m) := rfl
  rw [e, wp_bind]
@[simp] theorem wp_apK {m : Nat → SE} {k : Nat} {Q : R → Fr → Prop} : wpM (apK m (.s k)) σ Q X ↔ wpO (hel σ k) fun t => wpO (lstOf t) fun _ => wpM (m k) σ Q X := by
  unfold wpM apK
  cases h : hel σ k with
  | none => simp [h]
  | some t => cases t <;> simp [h, lstOf]
@[simp] theorem wp_mutL {k : Nat} {g : List D → Option (List D × D)} {Q : R → Fr → Prop} : wpM (mutL k g) σ Q X ↔ wpO (hel σ k) fun t => wpO (lstOf t) fun ds => wpO (g ds) fun p => Q (.v p.2 false) (setSl σ k (.lst p.1)) := by
  unfold wpM mutL
  cases h : hel σ k with
  | none => simp [h]
  | some t =>
    cases t with
    | lst ds => simp [h, lstOf]; cases h2 : g ds <;> simp [h2]
    | _ => simp [h, lstOf]
@[simp] theorem wp_eAppend {fo f : SE} {Q : R → Fr → Prop} : wpM (eAppend fo f) σ Q X ↔ wpM fo σ (fun ro σ1 => wpM (apK (fun k => M.bind f fun r => M.bind (froz1 r) fun d => mutL k (appG d)) ro) σ1 Q X) X := by
  unfold eAppend; exact wp_onL
theorem appG_ok {d : D} {ds : List D} (h : ds.length < 1000000) : appG d ds = some (ds ++ [d], .non) := by
  unfold appG; rw [if_pos h]
@[simp] theorem wp_lc2Turn {g : D → M Unit} {tt : M Bool} {src1 : M Src} {x : D} {Q : Option Src → Fr → Prop} : wpM (lc2Turn g tt src1 x) σ Q X ↔ wpM (g x) σ (fun _ σ1 => wpM tt σ1 (fun b σ2 => if b = true then wpM src1 σ2 (fun s σ3 => Q (some s) σ3) X else Q none σ2) X) X := by
  refine wp_bind.trans (wpM_q fun _ _ => wp_bind.trans (wpM_q fun b σ2 => ?_))
  cases b with
  | true => exact wp_bind.trans (wpM_q fun _ _ => wp_pure)
  | false => exact wp_pure
def wpLc2 (ws : List (Nat × D)) (vs vs1 : List Nat) (head : D → M (Option Src)) (turn : D → M (Option D)) (items acc : List D) (σ : Fr) (Q : List D → Fr → Prop) (_ : Fix Q := fx) : Prop := match lc2Go ws vs vs1 head turn items acc σ with
  | some (o, σ') => Q o σ'
  | none => False
theorem wp_lc2Run {s : Src} {vs vs1 : List Nat} {head : D → M (Option Src)} {turn : D → M (Option D)} {Q : R → Fr → Prop} : wpM (lc2Run s vs vs1 head turn) σ Q X ↔ wOk σ s.ws vs ∧ wpLc2 s.ws vs vs1 head turn s.items [] (wipeD (pinD σ s.ws) vs) (fun out σ' => Q (.v (.lst out) true) (restore σ (s.ws.map (·.1)) (restore (pinD σ s.ws) vs σ'))) := by
  unfold wpM lc2Run wpLc2
  by_cases h : wOk σ s.ws vs
  · simp only [h, if_true, true_and]
    cases lc2Go s.ws vs vs1 head turn s.items [] (wipeD (pinD σ s.ws) vs) with
    | none => simp
    | some q => obtain ⟨o, σ'⟩ := q; simp
  · simp [h]
@[simp] theorem wp_lc2Run0 {items : List D} {vs vs1 : List Nat} {head : D → M (Option Src)} {turn : D → M (Option D)} {Q : R → Fr → Prop} : wpM (lc2Run ⟨items, []⟩ vs vs1 head turn) σ Q X ↔ wpLc2 [] vs vs1 head turn items [] (wipeD σ vs) (fun out σ' => Q (.v (.lst out) true) (restore σ vs σ')) := by
  rw [wp_lc2Run]
  exact ⟨fun h => h.2, fun h => ⟨wOk_nil _ _, h⟩⟩
/-- what the head's turn leaves -/
def lc2Q (ws : List (Nat × D)) (vs vs1 : List Nat) (turn : D → M (Option D)) (acc : List D) (N : List D → Fr → Prop) (o : Option Src) (σ1 : Fr) (_ : Fix N := fx) : Prop := match o with
  | none => N acc (wipeD σ1 vs)
  | some s => wOk σ1 s.ws vs1 ∧ wpLc s.ws vs1 turn s.items acc (wipeD (pinD σ1 s.ws) vs1) (fun acc' σ2 => N acc' (wipeD (restore σ1 (s.ws.map (·.1)) σ2) vs))
@[simp] theorem lc2Q_none {ws : List (Nat × D)} {vs vs1 : List Nat} {turn : D → M (Option D)} {acc : List D} {N : List D → Fr → Prop} : lc2Q ws vs vs1 turn acc N none σ ↔ N acc (wipeD σ vs) := ⟨id, id⟩
@[simp] theorem lc2Q_some0 {ws : List (Nat × D)} {vs vs1 : List Nat} {turn : D → M (Option D)} {acc : List D} {N : List D → Fr → Prop} {l : List D} : lc2Q ws vs vs1 turn acc N (some ⟨l, []⟩) σ ↔ wpLc [] vs1 turn l acc (wipeD σ vs1) (fun acc' σ2 => N acc' (wipeD σ2 vs)) := ⟨fun h => h.2, fun h => ⟨wOk_nil _ _, h⟩⟩
theorem wpLc2_inv {ws : List (Nat × D)} {vs vs1 : List Nat} {head : D → M (Option Src)} {turn : D → M (Option D)} (I : List D → List D → Fr → Prop) {items acc : List D} {Q : List D → Fr → Prop} (h0 : I items acc σ)
    (hs : ∀ x xs acc σ, I (x :: xs) acc σ → okW σ ws ∧ wpM (head x) σ (fun o σ1 => lc2Q ws vs vs1 turn acc (I xs) o σ1) (fun _ _ => False)) (he : ∀ acc σ, I [] acc σ → okW σ ws ∧ Q acc σ) : wpLc2 ws vs vs1 head turn items acc σ Q := by
  induction items generalizing σ acc with
  | nil =>
    obtain ⟨h1, h2⟩ := he acc σ h0
    unfold wpLc2 lc2Go
    rw [if_pos h1]
    exact h2
  | cons x xs ih =>
    obtain ⟨h1, h3⟩ := hs x xs acc σ h0
    unfold wpLc2 lc2Go
    rw [if_pos h1]
    unfold wpM at h3
    cases e : head x σ with
    | none => rw [e] at h3; exact h3.elim
    | some q =>
      obtain ⟨q, σ1⟩ := q
      rw [e] at h3
      cases q with
      | ex c => exact h3.elim
      | ok o =>
        cases o with
        | none =>
          have := ih (σ := wipeD σ1 vs) (acc := acc) h3
          unfold wpLc2 at this
          simpa [e] using this
        | some s =>
          obtain ⟨h4, h5⟩ := h3
          unfold wpLc at h5
          simp only [if_pos h4]
          cases e2 : lcGo s.ws vs1 turn s.items acc (wipeD (pinD σ1 s.ws) vs1) with
          | none => rw [e2] at h5; exact h5.elim
          | some q =>
            obtain ⟨acc', σ2⟩ := q
            rw [e2] at h5
            have := ih (σ := wipeD (restore σ1 (s.ws.map (·.1)) σ2) vs) (acc := acc') h5
            unfold wpLc2 at this
            simpa using this
theorem ws_forGoW {ws : List (Nat × D)} {g : D → M Unit} {b : S} (I : List D → Fr → Prop) {items : List D} (h0 : I items σ) (hs : ∀ x xs σ, I (x :: xs) σ → okW σ ws ∧ wpM (g x) σ (fun _ σ1 => wpS b σ1 fun fl σ2 => match fl with
      | .nx => I xs σ2
      | .ct => I xs σ2
      | .bk => Q .nx σ2
      | fl => Q fl σ2) (fun _ _ => False)) (he : ∀ σ, I [] σ → okW σ ws ∧ Q .nx σ) : wpS (forGo ws g b items) σ Q := by
  induction items generalizing σ with
  | nil =>
    obtain ⟨h1, h2⟩ := he σ h0
    have e : forGo ws g b [] σ = some (.nx, σ) := by unfold forGo; rw [if_pos h1]
    unfold wpS; rw [e]; exact h2
  | cons x xs ih =>
    obtain ⟨h1, h⟩ := hs x xs σ h0
    unfold wpS forGo
    rw [if_pos h1]
    unfold wpM at h
    cases e1 : g x σ with
    | none => rw [e1] at h; exact h.elim
    | some q =>
      obtain ⟨q, σ1⟩ := q
      rw [e1] at h
      cases q with
      | ex c => exact h.elim
      | ok a =>
        have h : wpS b σ1 _ := h
        unfold wpS at h
        cases e2 : b σ1 with
        | none => rw [e2] at h; exact h.elim
        | some q =>
          obtain ⟨fl, σ2⟩ := q
          rw [e2] at h
          cases fl with
          | nx => have := ih (σ := σ2) h; unfold wpS at this; simpa [e2] using this
          | ct => have := ih (σ := σ2) h; unfold wpS at this; simpa [e2] using this
          | bk => simpa [e2] using h
          | rt r => simpa [e2] using h
          | ex c => simpa [e2] using h
def parK (i j : Nat) (ds : List D) : S := match ds with
  | [a, b] => sSeq (sG (gN i a)) (sG (gN j b))
  | _ => sNo
@[simp] theorem ws_par' {i j : Nat} {fs : List SE} : wpS (sPar i j fs) σ Q ↔ wpM (eAll fs) σ (fun rs σ1 => wpM (aliasAll rs) σ1 (fun ds σ2 => wpS (parK i j ds) σ2 Q) (fun c σ1 => Q (.ex c) σ1)) (fun c σ1 => Q (.ex c) σ1) := by
  have e : sPar i j fs = sM (eAll fs) fun rs => sM (aliasAll rs) (parK i j) := by
    unfold sPar
    congr 1
  rw [e]
  exact ws_m.trans (wpM_q fun _ _ => ws_m)
@[simp] theorem ws_parK {i j : Nat} {a b : D} : wpS (parK i j [a, b]) σ Q ↔ wpS (sSeq (sG (gN i a)) (sG (gN j b))) σ Q := ⟨id, id⟩
end
/-! ### what is asked -/
def Ask (W J : Nat) (d : D) : Prop := Gd 20 W J d ∨ d = .dic []
theorem Ask.tup {W J : Nat} {l : List D} (h : Ask W J (.tup l)) : Gd 20 W J (.tup l) := h.elim id fun e => by cases e
theorem Ask.same {W J : Nat} {d : D} (h : Ask W J d) : shp 64 d = true ∨ ∃ l, d = .dic l := h.elim (fun h => .inl (shp_up h.sh (by omega))) fun e => .inr ⟨[], e⟩
def isI : D → Bool
  | .int _ => true
  | _ => false
theorem isI_int {d : D} (h : isI d = true) : ∃ i, d = .int i := by cases d <;> first | exact ⟨_, rfl⟩ | cases h
theorem whole_ok (v : D) : wpF (mkF 1 B_is_whole) [.fro v] (fun d o fs => d = .bl (isI v) ∧ o = false ∧ fs = [.fro v]) (fun _ _ => False) := by
  rw [wf_mk]; rw [show frame 1 [.fro v] = [.fro v] from rfl]
  unfold B_is_whole
  cases v <;> simp [subT, isI, retOf]
theorem lwhole_ok (v : D) : wpF (mkF 1 B_law_is_whole) [.fro v] (fun d o fs => d = .bl (isI v) ∧ o = false ∧ fs = [.fro v]) (fun _ _ => False) := by
  rw [wf_mk]; rw [show frame 1 [.fro v] = [.fro v] from rfl]
  unfold B_law_is_whole
  cases v <;> simp [subT, isI, retOf]
def strB (w : List Nat) : D → Bool
  | .str s => decide (s = w)
  | _ => false
def toldB (w : List Nat) (c : Nat) : D → Bool
  | .tup (x :: l) => decide (l.length + 1 = c) && strB w x
  | _ => false
theorem eq_strs {s w : List Nat} (h : shp 64 (.str s) = true) (hw : ∀ c ∈ w, c < 1114112) : eqG (.str s) (.str w) = some (decide (s = w)) := by
  have h2 : shp 64 (.str w) = true := by simpa [shp] using hw
  unfold eqG; rw [if_pos ⟨h, h2⟩]; rfl
theorem told_ok {W J : Nat} (v : D) (hv : Ask W J v) (w : List Nat) (hw : ∀ c ∈ w, c < 1114112) (c : Nat) (hc : 1 ≤ c) : wpF (mkF 3 B_is_told) [.fro v, .fro (.str w), .fro (.int c)] (fun d o fs => d = .bl (toldB w c v) ∧ o = false ∧ fs = [.fro v, .fro (.str w), .fro (.int c)]) (fun _ _ => False) := by
  rw [wf_mk]; rw [show frame 3 [.fro v, .fro (.str w), .fro (.int c)] = [.fro v, .fro (.str w), .fro (.int c)] from rfl]
  unfold B_is_told
  cases v with
  | tup l =>
    cases l with
    | nil => have : ¬ (0 : Int) = (c : Int) := by omega
             simp [subT, toldB, retOf, this]
    | cons x l =>
      have hg := hv.tup
      have x0 : ixG (.tup (x :: l)) (.int 0) = some (x, false) := ix_natT _ 0 _ rfl
      by_cases hl : l.length + 1 = c
      · have hl2 : (l.length : Int) + 1 = (c : Int) := by omega
        simp [subT, hl2, x0, toldB]
        cases x with
        | str s =>
          have hs : shp 64 (.str s) = true := shp_up (hg.tup.2 _ (by simp)).sh (by omega)
          simp [subT, eq_strs hs hw, retOf, strB, hl]
        | _ => simp [subT, retOf, strB]
      · have hl2 : ¬ (l.length : Int) + 1 = (c : Int) := by omega
        simp [subT, hl2, toldB, retOf, hl]
  | _ => simp [subT, toldB, retOf]
theorem lis_ok {W J : Nat} (v : D) (hv : Ask W J v) (w : List Nat) (hw : ∀ c ∈ w, c < 1114112) (c : Nat) (hc : 1 ≤ c) : wpF (mkF 3 B_law_is) [.fro v, .fro (.str w), .fro (.int c)] (fun d o fs => d = .bl (toldB w c v) ∧ o = false ∧ fs = [.fro v, .fro (.str w), .fro (.int c)]) (fun _ _ => False) := by
  rw [wf_mk]; rw [show frame 3 [.fro v, .fro (.str w), .fro (.int c)] = [.fro v, .fro (.str w), .fro (.int c)] from rfl]
  unfold B_law_is
  cases v with
  | tup l =>
    cases l with
    | nil => have : ¬ (0 : Int) = (c : Int) := by omega
             simp [subT, toldB, retOf, this]
    | cons x l =>
      have hg := hv.tup
      have x0 : ixG (.tup (x :: l)) (.int 0) = some (x, false) := ix_natT _ 0 _ rfl
      by_cases hl : l.length + 1 = c
      · have hl2 : (l.length : Int) + 1 = (c : Int) := by omega
        simp [subT, hl2, x0, toldB]
        cases x with
        | str s =>
          have hs : shp 64 (.str s) = true := shp_up (hg.tup.2 _ (by simp)).sh (by omega)
          simp [subT, eq_strs hs hw, retOf, strB, hl]
        | _ => simp [subT, retOf, strB]
      · have hl2 : ¬ (l.length : Int) + 1 = (c : Int) := by omega
        simp [subT, hl2, toldB, retOf, hl]
  | _ => simp [subT, toldB, retOf]
end Ev

set_option Elab.async false
set_option linter.all false
set_option maxRecDepth 100000
set_option maxHeartbeats 4000000
namespace Ev
open PySem
theorem shp_bls {L : List Bool} {n : Nat} : shp (n + 1) (.lst (L.map .bl)) = true := by
  simp only [shp]
  refine shpL_mem.mpr fun d hd => ?_
  obtain ⟨i, _, rfl⟩ := List.mem_map.mp hd
  simp [shp]
theorem in_bls {L : List Bool} {b : Bool} : inG (.bl b) (.lst (L.map .bl)) = some (decide (b ∈ L)) := by
  show (if shp 64 (.bl b) = true ∧ shp 64 (.lst (L.map .bl)) = true then some ((L.map D.bl).any fun z => eqv z (.bl b)) else none) = _
  rw [if_pos ⟨by simp [shp], shp_bls⟩]
  congr 1
  rw [List.any_map, Bool.eq_iff_iff]
  simp [eqv]
theorem shp_intsT {L : List Int} {n : Nat} : shp (n + 1) (.tup (L.map .int)) = true := by
  simp only [shp]
  refine shpL_mem.mpr fun d hd => ?_
  obtain ⟨i, _, rfl⟩ := List.mem_map.mp hd
  simp [shp]
theorem in_intsT {L : List Int} {i : Int} : inG (.int i) (.tup (L.map .int)) = some (decide (i ∈ L)) := by
  show (if shp 64 (.int i) = true ∧ shp 64 (.tup (L.map .int)) = true then some ((L.map D.int).any fun z => eqv z (.int i)) else none) = _
  rw [if_pos ⟨by simp [shp], shp_intsT⟩]
  congr 1
  rw [List.any_map, Bool.eq_iff_iff]
  simp [eqv]
theorem eqvL_ints : ∀ (a b : List Int), eqvL (a.map .int) (b.map .int) = decide (a = b)
  | [], [] => by simp [eqvL]
  | [], _ :: _ => by simp [eqvL]
  | _ :: _, [] => by simp [eqvL]
  | x :: a, y :: b => by simp only [List.map_cons, eqvL, eqv, eqvL_ints a b, List.cons.injEq, Bool.decide_and]
theorem eq_intsT {a b : List Int} : eqG (.tup (a.map .int)) (.tup (b.map .int)) = some (decide (a = b)) := by
  unfold eqG
  rw [if_pos ⟨shp_intsT, shp_intsT⟩]
  simp only [eqv, eqvL_ints]
/-- the test of a comprehension that gives truths -/
def whB (n : Nat) : D → Bool
  | .tup l => decide (l.length = n) && l.all isI
  | _ => false
theorem whB_ints {n : Nat} {v : D} (h : whB n v = true) : ∃ L : List Int, v = .tup (L.map .int) ∧ L.length = n := by
  cases v with
  | tup l =>
    simp only [whB, Bool.and_eq_true, decide_eq_true_eq, List.all_eq_true] at h
    obtain ⟨h1, h2⟩ := h
    have : ∀ l : List D, (∀ x ∈ l, isI x = true) → ∃ L : List Int, l = L.map .int := fun l => by
      induction l with
      | nil => exact fun _ => ⟨[], rfl⟩
      | cons x l ih =>
        intro h
        obtain ⟨i, rfl⟩ := isI_int (h x List.mem_cons_self)
        obtain ⟨L, rfl⟩ := ih fun y hy => h y (List.mem_cons_of_mem _ hy)
        exact ⟨i :: L, rfl⟩
    obtain ⟨L, rfl⟩ := this l h2
    exact ⟨L, rfl, by simpa using h1⟩
  | _ => cases h
def WholeOk (f : FSem) : Prop := ∀ v, wpF f [.fro v] (fun d o fs => d = .bl (isI v) ∧ o = false ∧ fs = [.fro v]) (fun _ _ => False)
theorem Ask.len {W J : Nat} {l : List D} (h : Ask W J (.tup l)) (hW : W ≤ 1000000) : l.length ≤ LIM := by
  have h1 := h.tup.w
  have h2 := len_wtL l
  simp only [wt] at h1
  have : LIM = 1000000 := rfl
  omega
theorem lst_nil_eq {l : List D} (h : shp 64 (.lst l) = true) : eqG (.lst l) (.lst []) = some l.isEmpty := eq_lnil h
theorem wholes_ok {W J : Nat} (wh : FSem) (hw : WholeOk wh) (v : D) (hv : Ask W J v) (hW : W ≤ 1000000) (n : Nat) : wpF (mkF 3 (B_are_wholes wh)) [.fro v, .fro (.int n)] (fun d o fs => d = .bl (whB n v) ∧ o = false ∧ fs = [.fro v, .fro (.int n)]) (fun _ _ => False) := by
  rw [wf_mk]; rw [show frame 3 [.fro v, .fro (.int n)] = [.fro v, .fro (.int n), .no] from rfl]
  unfold B_are_wholes
  cases v with
  | tup l =>
    by_cases hl : l.length = n
    · simp [subT, hl]
      refine wpLc_map (fun d => some (.bl (isI d))) (okW_nil _) (by have := hv.len hW; simpa using this) (fun y hy => ?_) ?_
      · simp [wipeD]
        refine wpF_mono (hw y) (fun d o fs ⟨e1, e2, e3⟩ => ?_) fun _ _ h => h.elim
        subst e1 e2 e3
        simp [wipeD]
      · have e : (l.map fun d => D.bl (isI d)) = (l.map isI).map .bl := by rw [List.map_map]; rfl
        have hin : inG (.bl false) (.lst (l.map fun d => D.bl (isI d))) = some (decide (false ∈ l.map isI)) := by rw [e]; exact in_bls
        simp only [List.nil_append, List.filterMap_eq_map']
        simp [restore, wipeD, hin, notG, retOf, whB, hl]
        rw [Bool.eq_iff_iff]
        simp
    · have hl2 : ¬ (l.length : Int) = (n : Int) := by omega
      simp [subT, hl2, whB, hl, retOf]
  | _ => simp [subT, whB, retOf]
theorem lwholes_ok {W J : Nat} (wh : FSem) (hw : WholeOk wh) (v : D) (hv : Ask W J v) (hW : W ≤ 1000000) (n : Nat) : wpF (mkF 3 (B_law_are_wholes wh)) [.fro v, .fro (.int n)] (fun d o fs => d = .bl (whB n v) ∧ o = false ∧ fs = [.fro v, .fro (.int n)]) (fun _ _ => False) := by
  rw [wf_mk]; rw [show frame 3 [.fro v, .fro (.int n)] = [.fro v, .fro (.int n), .no] from rfl]
  unfold B_law_are_wholes
  cases v with
  | tup l =>
    by_cases hl : l.length = n
    · simp [subT, hl]
      refine wpLc_map (fun d => if isI d = true then none else some d) (okW_nil _) (by have := hv.len hW; simpa using this) (fun y hy => ?_) ?_
      · simp [wipeD]
        refine wpF_mono (hw y) (fun d o fs ⟨e1, e2, e3⟩ => ?_) fun _ _ h => h.elim
        subst e1 e2 e3
        cases h : isI y <;> simp [wipeD, h]
      · have hs : shp 64 (.lst (l.filterMap fun d => if isI d = true then none else some d)) = true := by
          simp only [shp]
          refine shpL_mem.mpr fun d hd => ?_
          obtain ⟨y, hy, e⟩ := List.mem_filterMap.mp hd
          split at e
          · cases e
          · cases e; exact shp_up (hv.tup.tup.2 _ hy).sh (by omega)
        simp [restore, wipeD, eq_lnil hs, retOf, whB, hl]
        rw [Bool.eq_iff_iff]
        simp
    · have hl2 : ¬ (l.length : Int) = (n : Int) := by omega
      simp [subT, hl2, whB, hl, retOf]
  | _ => simp [subT, whB, retOf]
def plB (m : Int) : D → Bool
  | .int i => decide (0 ≤ i) && decide (i < m)
  | _ => false
theorem place_ok (wh : FSem) (hw : WholeOk wh) (v : D) (m : Int) : wpF (mkF 2 (B_law_is_place wh)) [.fro v, .fro (.int m)] (fun d o fs => d = .bl (plB m v) ∧ o = false ∧ fs = [.fro v, .fro (.int m)]) (fun _ _ => False) := by
  rw [wf_mk]; rw [show frame 2 [.fro v, .fro (.int m)] = [.fro v, .fro (.int m)] from rfl]
  unfold B_law_is_place
  simp
  refine wpF_mono (hw v) (fun d o fs ⟨e1, e2, e3⟩ => ?_) fun _ _ h => h.elim
  subst e1 e2 e3
  cases v with
  | int i => by_cases h : 0 ≤ i <;> simp [isI, h, plB, retOf]
  | _ => simp [isI, plB, retOf]
def PlaceOk (f : FSem) : Prop := ∀ v (m : Int), wpF f [.fro v, .fro (.int m)] (fun d o fs => d = .bl (plB m v) ∧ o = false ∧ fs = [.fro v, .fro (.int m)]) (fun _ _ => False)
def plsB (m : Int) : D → Bool
  | .tup l => l.all (plB m)
  | _ => false
theorem plsB_ints {m : Int} {v : D} (h : plsB m v = true) : ∃ L : List Int, v = .tup (L.map .int) ∧ ∀ i ∈ L, 0 ≤ i ∧ i < m := by
  cases v with
  | tup l =>
    simp only [plsB, List.all_eq_true] at h
    induction l with
    | nil => exact ⟨[], rfl, by simp⟩
    | cons x l ih =>
      obtain ⟨L, e, hL⟩ := ih fun y hy => h y (List.mem_cons_of_mem _ hy)
      have hx := h x List.mem_cons_self
      cases x with
      | int i =>
        simp only [plB, Bool.and_eq_true, decide_eq_true_eq] at hx
        injection e with e
        refine ⟨i :: L, by rw [e]; rfl, fun j hj => ?_⟩
        rcases List.mem_cons.mp hj with rfl | hj
        · exact hx
        · exact hL j hj
      | _ => cases hx
  | _ => cases h
theorem places_ok {W J : Nat} (pl : FSem) (hp : PlaceOk pl) (v : D) (hv : Ask W J v) (hW : W ≤ 1000000) (m : Int) : wpF (mkF 3 (B_law_are_places pl)) [.fro v, .fro (.int m)] (fun d o fs => d = .bl (plsB m v) ∧ o = false ∧ fs = [.fro v, .fro (.int m)]) (fun _ _ => False) := by
  rw [wf_mk]; rw [show frame 3 [.fro v, .fro (.int m)] = [.fro v, .fro (.int m), .no] from rfl]
  unfold B_law_are_places
  cases v with
  | tup l =>
    simp [subT]
    refine wpLc_map (fun d => if plB m d = true then none else some d) (okW_nil _) (by have := hv.len hW; simpa using this) (fun y hy => ?_) ?_
    · simp [wipeD]
      refine wpF_mono (hp y m) (fun d o fs ⟨e1, e2, e3⟩ => ?_) fun _ _ h => h.elim
      subst e1 e2 e3
      cases h : plB m y <;> simp [wipeD, h]
    · have hs : shp 64 (.lst (l.filterMap fun d => if plB m d = true then none else some d)) = true := by
        simp only [shp]
        refine shpL_mem.mpr fun d hd => ?_
        obtain ⟨y, hy, e⟩ := List.mem_filterMap.mp hd
        split at e
        · cases e
        · cases e; exact shp_up (hv.tup.tup.2 _ hy).sh (by omega)
      simp [restore, wipeD, eq_lnil hs, retOf, plsB]
      rw [Bool.eq_iff_iff]
      simp
  | _ => simp [subT, plsB, retOf]
/-! ### _law_neighbour, on nests of tuples of whole numbers -/
def Tb (L J : Nat) : Nat → D → Prop
  | 0, d => ∃ i : Int, d = .int i ∧ i.natAbs ≤ J
  | k + 1, d => ∃ l, d = .tup l ∧ l.length ≤ L ∧ ∀ x ∈ l, Tb L J k x
theorem Tb.up {L J J' : Nat} (h : J ≤ J') : ∀ {k : Nat} {d : D}, Tb L J k d → Tb L J' k d
  | 0, d, ⟨i, e, hi⟩ => ⟨i, e, by omega⟩
  | k + 1, d, ⟨l, e, h1, h2⟩ => ⟨l, e, h1, fun x hx => (h2 x hx).up h⟩
def NbP (L J k : Nat) (v : D) (d : D) (o : Bool) (fs : List Ar) : Prop := ∃ st', WS st' ∧ fs = [.ref st', .fro v] ∧ o = false ∧ Tb L (J + 1) k d
theorem Tb.notStr {L J k : Nat} {d : D} (h : Tb L J k d) : isS d = false := by
  cases k with
  | zero => obtain ⟨i, rfl, _⟩ := h; rfl
  | succ k => obtain ⟨l, rfl, _⟩ := h; rfl
theorem Tb.shp {L J : Nat} : ∀ {k n : Nat} {d : D}, Tb L J k d → k ≤ n → shp n d = true
  | 0, n, d, ⟨i, e, hi⟩, _ => by subst e; simp [Ev.shp]
  | k + 1, 0, d, _, h => by omega
  | k + 1, n + 1, d, ⟨l, e, h1, h2⟩, h => by
    subst e
    simp only [Ev.shp]
    exact shpL_mem.mpr fun x hx => (h2 x hx).shp (by omega)
theorem nb_ok (nx self : FSem) (hn : NextOk nx) (L J : Nat) (hL : L ≤ 1000) (k : Nat) (hk : k ≤ 60) (v : D) (hv : Tb L J k v) (st : D) (hs : WS st)
    (ih : ∀ m l, k = m + 1 → v = .tup l → ∀ x ∈ l, ∀ st, WS st → wpF self [.ref st, .fro x] (NbP L J m x) (fun _ _ => False)) : wpF (mkF 4 (B_law_neighbour nx self)) [.ref st, .fro v] (NbP L J k v) (fun _ _ => False) := by
  rw [wf_mk]; rw [show frame 4 [.ref st, .fro v] = [.par st, .fro v, .no, .no] from rfl]
  unfold B_law_neighbour
  simp
  refine hn.run (lim := 2) hs (by omega) (by omega) fun p st1 h1 h2 hs1 => ?_
  simp
  refine wpO_ixL h1 (by simpa using h2) fun d hd => ?_
  obtain ⟨z, rfl, hz⟩ : ∃ z : Int, d = .int z ∧ z.natAbs ≤ 1 := by
    simp at hd
    rcases hd with rfl | rfl
    · exact ⟨1, rfl, by omega⟩
    · exact ⟨-1, rfl, by omega⟩
  simp
  cases k with
  | zero =>
    obtain ⟨i, rfl, hi⟩ := hv
    simp [subT, retOf, NbP]
    exact ⟨_, hs1, rfl, _, rfl, by omega⟩
  | succ k =>
    obtain ⟨l, rfl, hl, hx⟩ := hv
    have hsh : shp 64 (.tup l) = true := Tb.shp (k := k + 1) (n := 64) (L := L) (J := J) ⟨l, rfl, hl, hx⟩ (by omega)
    simp [subT, eq_tnil hsh]
    split
    · rename_i h0
      simp [NbP]
      exact ⟨_, hs1, rfl, [], by simp [h0], by simp, by simp⟩
    · rename_i h0
      have hl1 : 1 ≤ l.length := List.length_pos_iff.mpr h0
      have x0 := ix_natT l 0 l[0] (List.getElem?_eq_getElem hl1)
      simp at x0
      have hf := (hx l[0] (List.getElem_mem hl1)).notStr
      have hf2 : subT (tyN l[0]) "str" = false := by rw [sub_str]; exact hf
      haveI : Sh l 1000 := ⟨by omega⟩
      simp [x0, hf2]
      refine hn.run (lim := (l.length : Int)) hs1 (by omega) (by omega) fun q st2 h3 h4 hs2 => ?_
      simp
      refine hn.run (lim := 3) hs2 (by omega) (by omega) fun r st3 h5 h6 hs3 => ?_
      simp
      have tail : wpS (sSeq (sRet (e2 addG (e2 addG (eSl (eVar 1) (oNone) (oSome (eVar 3))) (eTup [eCall self [true, false] [eVar 0, e2 ixG (eVar 1) (eVar 3)]])) (eSl (eVar 1) (oSome (e2 addG (eVar 3) (ec (.int 1)))) (oNone)))) sNx) [.par st3, .fro (.tup l), .fro (.int z), .fro (.int q)] (fun fl σ => endQ [.ref st, .fro (.tup l)] (NbP L J (k + 1) (.tup l)) (fun _ _ => False) fl σ) := by
        simp
        obtain ⟨n, rfl⟩ := Int.eq_ofNat_of_zero_le h3
        have hn2 : n < l.length := by omega
        have xn := ix_natT l n l[n] (List.getElem?_eq_getElem hn2)
        simp [xn]
        refine wpF_mono (ih k l rfl rfl l[n] (List.getElem_mem hn2) st3 hs3) (fun d o fs ⟨st4, hs4, e1, e2, e3⟩ => ?_) fun _ _ h => h.elim
        subst e1 e2
        have c1 := cut_hi (l := l) (k := n) (by omega)
        have c2 := cut_lo (l := l) (k := n + 1) (by omega)
        have ec : ((n : Int) + 1) = ((n + 1 : Nat) : Int) := by omega
        simp [add_tt]
        refine ⟨st4, hs4, rfl, rfl, _, rfl, ?_, fun y hy => ?_⟩
        · rw [ec, c1, c2]
          simp only [List.length_append, List.length_take, List.length_drop, List.length_cons]
          omega
        · simp only [List.mem_append, List.mem_cons] at hy
          rcases hy with h | h | h
          · exact (hx y (cutL_mem h)).up (by omega)
          · subst h; exact e3
          · exact (hx y (cutL_mem h)).up (by omega)
      simp at tail
      split
      · split
        · simp [add_tt]
          refine ⟨st3, hs3, rfl, rfl, _, rfl, ?_, fun y hy => ?_⟩
          · obtain ⟨n, rfl⟩ := Int.eq_ofNat_of_zero_le h3
            have hn2 : n < l.length := by omega
            have c1 := cut_hi (l := l) (k := n) (by omega)
            have c2 := cut_lo (l := l) (k := n + 1) (by omega)
            have ec : ((n : Int) + 1) = ((n + 1 : Nat) : Int) := by omega
            rw [ec, c1, c2]
            simp only [List.length_append, List.length_take, List.length_drop]
            omega
          · rcases List.mem_append.mp hy with h | h
            · exact (hx y (cutL_mem h)).up (by omega)
            · exact (hx y (cutL_mem h)).up (by omega)
        · exact tail
      · exact tail
def NbOk (N : Nat) (f : FSem) : Prop := ∀ k L J v st, k ≤ N → L ≤ 1000 → Tb L J k v → WS st → wpF f [.ref st, .fro v] (NbP L J k v) (fun _ _ => False)
theorem nb_fam {f nx : Nat → FSem} (h : ∀ k, f (k + 1) = mkF 4 (B_law_neighbour (nx k) (f k))) (hn : ∀ k, NextOk (nx (k + 1))) : ∀ (n m : Nat) , n ≤ m → n ≤ 60 → NbOk n (f (m + 2)) := by
  have go : ∀ (n m : Nat) (L J : Nat) (v st : D), n ≤ m → n ≤ 60 → L ≤ 1000 → Tb L J n v → WS st → wpF (f (m + 2)) [.ref st, .fro v] (NbP L J n v) (fun _ _ => False) := by
    intro n
    induction n with
    | zero => intro m L J v st _ _ hL hv hs; rw [h]; exact nb_ok _ _ (hn m) L J hL 0 (by omega) v hv st hs fun m l e => by omega
    | succ n ih =>
      intro m L J v st hm hn' hL hv hs
      rw [h]
      refine nb_ok _ _ (hn m) L J hL (n + 1) hn' v hv st hs fun m' l e1 e2 x hx st' hs' => ?_
      obtain rfl : n = m' := by omega
      subst e2
      obtain ⟨m, rfl⟩ : ∃ j, m = j + 1 := ⟨m - 1, by omega⟩
      obtain ⟨l', e, _, h2⟩ := hv
      cases e
      exact ih m L J x st' (by omega) (by omega) hL (h2 x hx) hs'
  intro n m hm hn' k L J v st hk hL hv hs
  exact go k m L J v st (by omega) (by omega) hL hv hs
end Ev

set_option Elab.async false
set_option linter.all false
set_option maxRecDepth 100000
set_option maxHeartbeats 4000000
namespace Ev
open PySem
def tupI (L : List Int) : D := .tup (L.map .int)
@[simp] theorem truT {ns : List Int} : truG (tupI ns) = some (!ns.isEmpty) := by unfold tupI; simp
@[simp] theorem itemsT {ns : List Int} : itemsOf (tupI ns) = some (ns.map .int) := rfl
@[simp] theorem lenT {ns : List Int} : lenG (tupI ns) = some (.int ns.length, false) := by unfold tupI; simp
@[simp] theorem tupT {ns : List Int} : tupG (tupI ns) = some (tupI ns, false) := rfl
/-- a slot that is free, or holds a frozen value -/
def NF (s : Sl) : Prop := s = .no ∨ ∃ d, s = .fro d
theorem NF.no : NF .no := .inl rfl
theorem NF.fro (d : D) : NF (.fro d) := .inr ⟨d, rfl⟩
/-- a loop's variable takes a value, whatever stood there -/
theorem wp_gN_nf {i : Nat} {d : D} {σ : Fr} {s : Sl} {X : Str → Fr → Prop} {Q : Unit → Fr → Prop} (h : NF s) (e : σ[i]? = some s) (k : Q () (σ.set i (.fro d))) : wpM (gN i d) σ Q X := by
  refine wp_gN.mpr ?_
  rw [e]
  rcases h with rfl | ⟨d, rfl⟩
  · exact wpT_no.mpr k
  · exact wpT_fro.mpr k
theorem addL {a b : List D} (h : a.length + b.length ≤ 1000000) : addG (.lst a) (.lst b) = some (.lst (a ++ b), true) := by
  haveI : Sh a a.length := ⟨Nat.le_refl _⟩
  haveI : Sh b b.length := ⟨Nat.le_refl _⟩
  exact add_ll h
theorem addT {a b : List D} (h : a.length + b.length ≤ 1000000) : addG (.tup a) (.tup b) = some (.tup (a ++ b), false) := by
  haveI : Sh a a.length := ⟨Nat.le_refl _⟩
  haveI : Sh b b.length := ⟨Nat.le_refl _⟩
  exact add_tt h
def stp (c : Nat) (r : List Int) : List (List Int) := (List.range c).map fun (j : Nat) => r ++ [(j : Int)]
theorem stp_len (c : Nat) (r : List Int) : (stp c r).length = c := by simp [stp]
/-- all rows of n numbers below c -/
def waysI (c : Nat) : Nat → List (List Int)
  | 0 => [[]]
  | n + 1 => (waysI c n).flatMap (stp c)
theorem waysI_len (c n : Nat) : (waysI c n).length = c ^ n := by
  induction n with
  | zero => rfl
  | succ n ih =>
    rw [waysI, List.length_flatMap]
    simp only [stp, List.length_map, List.length_range, List.map_const', ih, Nat.pow_succ]
    simp [ih]
theorem waysI_mem {c : Nat} : ∀ {n : Nat} {r : List Int}, r ∈ waysI c n ↔ r.length = n ∧ ∀ x ∈ r, 0 ≤ x ∧ x < c := by
  intro n
  induction n with
  | zero =>
    intro r
    simp only [waysI, List.mem_singleton]
    constructor
    · rintro rfl; simp
    · rintro ⟨h, _⟩; exact List.length_eq_zero_iff.mp h
  | succ n ih =>
    intro r
    simp only [waysI, stp, List.mem_flatMap, List.mem_map, List.mem_range]
    constructor
    · rintro ⟨q, hq, j, hj, rfl⟩
      obtain ⟨h1, h2⟩ := ih.mp hq
      refine ⟨by simp [h1], fun x hx => ?_⟩
      rcases List.mem_append.mp hx with h | h
      · exact h2 x h
      · simp at h; subst h; omega
    · rintro ⟨h1, h2⟩
      have hne : r ≠ [] := fun h => by subst h; cases h1
      have e := List.dropLast_concat_getLast hne
      have hm : r.getLast hne ∈ r := List.getLast_mem hne
      obtain ⟨h3, h4⟩ := h2 _ hm
      obtain ⟨j, hj⟩ := Int.eq_ofNat_of_zero_le h3
      refine ⟨r.dropLast, ih.mpr ⟨by simp [h1], fun x hx => h2 x (List.mem_of_mem_take (by rwa [List.dropLast_eq_take] at hx))⟩, j, by rw [hj] at h4; omega, ?_⟩
      rw [← hj]; exact e
theorem okW_two {d : D} {a b : Sl} {r : Fr} {ws : List (Nat × D)} {s2 : Sl} (h : ws = [] ∨ (ws = [(2, d)] ∧ s2 = .par d)) : okW (a :: b :: s2 :: r) ws := by
  rcases h with rfl | ⟨rfl, rfl⟩
  · exact okW_nil _
  · intro w hw
    simp at hw; subst hw; rfl
def wayT (r : List Int) : D → Option D
  | .int j => some (tupI (r ++ [j]))
  | _ => none
theorem wayT_map (c : Nat) (r : List Int) : ((List.range c).map fun (k : Nat) => D.int (k : Int)).filterMap (wayT r) = (stp c r).map tupI := by
  unfold stp
  rw [List.filterMap_map, List.map_map, ← List.filterMap_eq_map]
  rfl
def WI1 (c n : Nat) (s2 k : Sl) (rows : List (List Int)) (rest : List D) (σ : Fr) : Prop :=
  ∃ (acc rs : List (List Int)) (x : Sl), NF x ∧ σ = [.fro (.int c), .fro (.int n), s2, k, .own (.lst (acc.map tupI)), x, .no] ∧ rest = rs.map tupI ∧ (∀ r ∈ rs, r.length ≤ 1000) ∧ acc ++ rs.flatMap (stp c) = rows.flatMap (stp c)
theorem ways_inner {c n : Nat} {ws : List (Nat × D)} {s2 : Sl} {dd : D} (hw : ws = [] ∨ (ws = [(2, dd)] ∧ s2 = .par dd)) (hc : c ≤ 1000) (hn : n ≤ 1000) (k : Sl) (x5 : Sl) (h5 : NF x5) (rows : List (List Int)) (hr : ∀ r ∈ rows, r.length ≤ 1000) (hl : (rows.flatMap (stp c)).length ≤ 900000) {Q : Fl → Fr → Prop}
    (hQ : ∀ x5, NF x5 → Q .nx [.fro (.int c), .fro (.int n), s2, k, .own (.lst ((rows.flatMap (stp c)).map tupI)), x5, .no]) :
    wpS (forGo ws (gN 5) (sSeq (sSet 4 (e2 addG (eVar 4) (eLc (srcR1 (eVar 0)) [6] (gN 6) (M.pure true) (e2 addG (eVar 5) (eTup [eVar 6]))))) sNx) (rows.map tupI)) [.fro (.int c), .fro (.int n), s2, k, .own (.lst []), x5, .no] Q := by
  refine ws_forGoW (WI1 c n s2 k rows) ⟨[], rows, x5, h5, rfl, rfl, hr, rfl⟩ (fun x xs σ ⟨acc, rs, sl, q1, q2, q3, q4, q5⟩ => ?_) fun σ ⟨acc, rs, sl, q1, q2, q3, q4, q5⟩ => ?_
  · subst q2
    refine ⟨okW_two hw, ?_⟩
    cases rs with
    | nil => cases q3
    | cons r rs =>
      rw [List.map_cons] at q3
      injection q3 with q3 q3'
      subst q3 q3'
      have hlen : acc.length + c ≤ 900000 := by
        have := congrArg List.length q5
        simp only [List.flatMap_cons, List.length_append, stp_len] at this
        omega
      refine wp_gN_nf q1 rfl ?_
      simp [rng_len c (by omega)]
      refine wpLc_map (wayT r) (okW_nil _) (by have : LIM = 1000000 := rfl; simp; omega) (fun y hy => ?_) ?_
      · obtain ⟨j, hj, rfl⟩ := List.mem_map.mp hy
        have hr1 := q4 r (by simp)
        haveI : Sh (r.map D.int) 1000 := ⟨by simpa using hr1⟩
        simp [wipeD, tupI, add_tt, wayT]
      · rw [wayT_map]
        have hlen2 : (acc.map tupI).length + ((stp c r).map tupI).length ≤ 1000000 := by simp [stp]; omega
        have hadd := addL hlen2
        simp only [List.nil_append]
        simp [restore, wipeD, hadd]
        refine ⟨acc ++ stp c r, rs, .fro (tupI r), NF.fro _, by simp, rfl, fun q hq => q4 q (List.mem_cons_of_mem _ hq), ?_⟩
        rw [← q5, List.flatMap_cons, List.append_assoc]
  · subst q2
    refine ⟨okW_two hw, ?_⟩
    cases rs with
    | nil =>
      simp at q5
      have := hQ sl q1
      rw [← q5] at this
      exact this
    | cons r rs => cases q3
def WI2 (c n : Nat) (rest : List D) (σ : Fr) : Prop :=
  ∃ (k : Nat) (s2 s3 s4 s5 : Sl), (s2 = .own (.lst ((waysI c k).map tupI)) ∨ s2 = .fro (.lst ((waysI c k).map tupI))) ∧ NF s3 ∧ NF s4 ∧ NF s5 ∧ σ = [.fro (.int c), .fro (.int n), s2, s3, s4, s5, .no] ∧ rest = ((List.range n).map fun (k : Nat) => D.int (k : Int)).drop k ∧ k ≤ n
theorem ways_ok (c n : Nat) (hc : c ≤ 1000) (hc1 : 1 ≤ c) (hn : n ≤ 900) (hb : c ^ n ≤ 900000) : wpF (mkF 7 B_law_ways) [.fro (.int c), .fro (.int n)] (fun d o fs => d = .lst ((waysI c n).map tupI) ∧ fs = [.fro (.int c), .fro (.int n)]) (fun _ _ => False) := by
  rw [wf_mk]; rw [show frame 7 [.fro (.int c), .fro (.int n)] = [.fro (.int c), .fro (.int n), .no, .no, .no, .no, .no] from rfl]
  unfold B_law_ways
  simp
  refine ws_forG ?_
  simp [rng_len n (by omega)]
  refine ws_forGo (WI2 c n) ⟨0, _, .no, .no, .no, .inl rfl, NF.no, NF.no, NF.no, rfl, by simp, by omega⟩ (fun x xs σ ⟨k, s2, s3, s4, s5, q1, q2, q3, q4, q5, q6, q7⟩ => ?_) fun σ ⟨k, s2, s3, s4, s5, q1, q2, q3, q4, q5, q6, q7⟩ => ?_
  · obtain ⟨hk, rfl, hxs⟩ := map_drop_cons q6
    subst q5
    have hrl : ∀ r ∈ waysI c k, r.length ≤ 1000 := fun r hr => by have := (waysI_mem.mp hr).1; omega
    have hlk : ((waysI c k).flatMap (stp c)).length ≤ 900000 := by
      have := waysI_len c (k + 1)
      rw [waysI] at this
      rw [this]
      exact Nat.le_trans (Nat.pow_le_pow_right hc1 (by omega)) hb
    refine wp_gN_nf q2 rfl ?_
    have e : ([Sl.fro (.int c), .fro (.int n), s2, s3, s4, s5, .no] : Fr).set 3 (.fro (.int k)) = [.fro (.int c), .fro (.int n), s2, .fro (.int k), s4, s5, .no] := rfl
    rw [e]
    have lp : ∀ Q : Fl → Fr → Prop, (∀ σ2, WI2 c n xs σ2 → Q .nx σ2) → wpS (sSeq (sFor (srcL (eVar 2)) (gN 5) (sSeq (sSet 4 (e2 addG (eVar 4) (eLc (srcR1 (eVar 0)) [6] (gN 6) (M.pure true) (e2 addG (eVar 5) (eTup [eVar 6])))))
    (sNx)))
    (sSeq (sSet 2 (eVar 4))
    (sNx))) [.fro (.int c), .fro (.int n), s2, .fro (.int k), .own (.lst []), s5, .no] Q := by
      intro Q hQ
      have fin : ∀ (s2 : Sl) (x5 : Sl), (s2 = .own (.lst ((waysI c k).map tupI)) ∨ s2 = .fro (.lst ((waysI c k).map tupI))) → NF x5 → wpS (sSeq (sSet 2 (eVar 4)) sNx) [.fro (.int c), .fro (.int n), s2, .fro (.int k), .own (.lst (((waysI c k).flatMap (stp c)).map tupI)), x5, .no] Q := by
        intro s2 x5 h2 h5
        have hw : WI2 c n xs [.fro (.int c), .fro (.int n), .fro (.lst (((waysI c k).flatMap (stp c)).map tupI)), .fro (.int k), .fro (.lst (((waysI c k).flatMap (stp c)).map tupI)), x5, .no] := ⟨k + 1, _, .fro (.int k), .fro _, x5, .inr rfl, NF.fro _, NF.fro _, h5, rfl, hxs, by omega⟩
        have := hQ _ hw
        rcases h2 with rfl | rfl
        · simpa using this
        · simpa using this
      refine ws_seq.mpr (ws_for.mpr ?_)
      rcases q1 with rfl | rfl
      · simp
        refine ⟨fun w hw => by simp at hw; subst hw; exact ⟨by simp, .inl rfl⟩, ?_⟩
        simp [pinD]
        refine ways_inner (.inr ⟨rfl, rfl⟩) hc (by omega) _ _ q4 _ hrl hlk fun x5 h5 => ?_
        refine ⟨fun w hw => by simp at hw; subst hw; rfl, ?_⟩
        have := fin _ x5 (.inl rfl) h5
        simpa [restore] using this
      · simp
        refine ⟨wOk_nil _ _, ?_⟩
        simp [pinD]
        refine ways_inner (dd := .non) (.inl rfl) hc (by omega) _ _ q4 _ hrl hlk fun x5 h5 => ?_
        have := fin _ x5 (.inr rfl) h5
        simpa [restore] using this
    have lp2 := lp (fun fl σ2 => match fl with
        | .nx => WI2 c n xs σ2
        | .ct => WI2 c n xs σ2
        | _ => False) fun σ2 h => h
    rcases q3 with rfl | ⟨d, rfl⟩
    · refine ws_seq.mpr ?_
      simp only [ws_set, wp_eLst, wp_all_nil, wp_aliasAll_nil]
      refine wpS_mono lp2 fun fl σ2 h => ?_
      cases fl <;> first | exact h | exact h.elim
    · refine ws_seq.mpr ?_
      simp only [ws_set, wp_eLst, wp_all_nil, wp_aliasAll_nil]
      refine wpS_mono lp2 fun fl σ2 h => ?_
      cases fl <;> first | exact h | exact h.elim
  · subst q5
    have hk : n ≤ k := by
      have := congrArg List.length q6
      simp at this
      omega
    obtain rfl : k = n := by omega
    rcases q1 with rfl | rfl
    · simp [retOf]
    · simp [retOf]
end Ev

set_option Elab.async false
set_option linter.all false
set_option maxRecDepth 100000
set_option maxHeartbeats 4000000
namespace Ev
open PySem
section
variable {σ : Fr} {X : Str → Fr → Prop} {Q : Fl → Fr → Prop}
/-- behind a turn of a loop over a list that stands there -/
def lpQ (g : D → M Unit) (b : S) (xs : List D) (Q : Fl → Fr → Prop) (fl : Fl) (σ : Fr) (_ : Fix Q := fx) : Prop := match fl with
  | .nx => wpS (forGo [] g b xs) σ Q
  | .ct => wpS (forGo [] g b xs) σ Q
  | .bk => Q .nx σ
  | fl => Q fl σ
variable {g : D → M Unit} {b : S} {xs : List D}
@[simp] theorem lpQ_nx : lpQ g b xs Q .nx σ ↔ wpS (forGo [] g b xs) σ Q := ⟨id, id⟩
@[simp] theorem lpQ_ct : lpQ g b xs Q .ct σ ↔ wpS (forGo [] g b xs) σ Q := ⟨id, id⟩
@[simp] theorem lpQ_bk : lpQ g b xs Q .bk σ ↔ Q .nx σ := ⟨id, id⟩
@[simp] theorem lpQ_rt {r : R} : lpQ g b xs Q (.rt r) σ ↔ Q (.rt r) σ := ⟨id, id⟩
@[simp] theorem lpQ_ex {c : Str} : lpQ g b xs Q (.ex c) σ ↔ Q (.ex c) σ := ⟨id, id⟩
theorem forGo_nil : wpS (forGo [] g b []) σ Q ↔ Q .nx σ := by
  unfold wpS forGo
  rw [if_pos (okW_nil _)]
theorem forGo_cons {x : D} : wpS (forGo [] g b (x :: xs)) σ Q ↔ wpM (g x) σ (fun _ σ1 => wpS b σ1 fun fl σ2 => lpQ g b xs Q fl σ2) (fun _ _ => False) := by
  unfold wpS
  rw [forGo, if_pos (okW_nil _)]
  unfold wpM
  cases e : g x σ with
  | none => simp
  | some q =>
    obtain ⟨q, σ1⟩ := q
    cases q with
    | ex c => simp
    | ok a =>
      simp only
      cases e2 : b σ1 with
      | none => simp
      | some q => obtain ⟨fl, σ2⟩ := q; cases fl <;> simp [lpQ, wpS]
end
def SameOk (f : FSem) : Prop := ∀ a e J, Gd 10 1000000 J e → (shp 64 a = true ∨ ∃ l, a = .dic l) → wpF f [.fro a, .fro e] (SameP a e) (fun _ _ => False)
theorem same_SameOk {f : Nat → FSem} (h : FamSame f) {k : Nat} (hk : 10 ≤ k) : SameOk (f (k + 1)) := fun a e J he ha => same_fam h (Nat.le_refl _) 10 k a e hk (by omega) he ha
theorem wtL_le {w : Nat} : ∀ {l : List D}, (∀ x ∈ l, wt x ≤ w) → wtL l ≤ (w + 2) * l.length
  | [], _ => by simp [wtL]
  | x :: l, h => by
    have h1 := h x List.mem_cons_self
    have h2 := wtL_le fun y hy => h y (List.mem_cons_of_mem _ hy)
    rw [wtL, List.length_cons, Nat.mul_succ]
    omega
theorem tupI_wt (ns : List Int) : wt (tupI ns) = 4 + 18 * ns.length := by
  unfold tupI
  rw [wt]
  have : ∀ l : List Int, wtL (l.map .int) = 18 * l.length := fun l => by
    induction l with
    | nil => rfl
    | cons x l ih => rw [List.map_cons, wtL, ih, wt, List.length_cons]; omega
  rw [this]
theorem tupI_shp (ns : List Int) (n : Nat) : shp (n + 1) (tupI ns) = true := shp_intsT
theorem tupI_gi {ns : List Int} {J : Nat} (h : ∀ x ∈ ns, x.natAbs ≤ J) : gi J (tupI ns) = true := by
  unfold tupI
  simp only [gi]
  refine giL_mem.mpr fun d hd => ?_
  obtain ⟨x, hx, rfl⟩ := List.mem_map.mp hd
  simpa [gi] using h x hx
theorem Gd.tupI {ns : List Int} {n W J : Nat} (hw : 4 + 18 * ns.length ≤ W) (h : ∀ x ∈ ns, x.natAbs ≤ J) : Gd (n + 1) W J (tupI ns) := ⟨tupI_shp ns n, by rw [tupI_wt]; exact hw, tupI_gi h⟩
/-- a table: rows of whole numbers -/
def tabI (rows : List (List Int)) : D := .tup (rows.map tupI)
theorem tabI_gd {rows : List (List Int)} {n J L m : Nat} (hl : rows.length ≤ m) (h : ∀ r ∈ rows, r.length ≤ L ∧ ∀ x ∈ r, x.natAbs ≤ J) : Gd (n + 2) (4 + (4 + 18 * L + 2) * m) J (tabI rows) := by
  refine Gd.mkT ?_ fun x hx => ?_
  · have := wtL_le (w := 4 + 18 * L) (l := rows.map Ev.tupI) fun x hx => by
      obtain ⟨r, hr, rfl⟩ := List.mem_map.mp hx
      rw [tupI_wt]
      have := (h r hr).1
      omega
    rw [List.length_map] at this
    have h2 : (4 + 18 * L + 2) * rows.length ≤ (4 + 18 * L + 2) * m := Nat.mul_le_mul_left _ hl
    omega
  · obtain ⟨r, hr, rfl⟩ := List.mem_map.mp hx
    exact ⟨tupI_shp r n, tupI_gi (h r hr).2⟩
theorem itB_tupI (ns : List Int) : itB (tupI ns) = true := by
  unfold tupI
  simp only [itB]
  refine itL_mem.mpr fun d hd => ?_
  obtain ⟨x, _, rfl⟩ := List.mem_map.mp hd
  rfl
theorem itB_tabI (rows : List (List Int)) : itB (tabI rows) = true := by
  unfold tabI
  simp only [itB]
  refine itL_mem.mpr fun d hd => ?_
  obtain ⟨x, _, rfl⟩ := List.mem_map.mp hd
  exact itB_tupI x
/-- a judge's last test, by repr: told is due -/
theorem judge_repr {W J W2 J2 : Nat} {w : List Nat} {v : D} {xs : List D} (hv : Ask W J v) (hW : W ≤ 1000000) (hJ : J < 1000000000000) (hx : itL xs = true) (hd : Gd 20 W2 J2 (.tup (.str w :: xs))) (hW2 : W2 ≤ 1000000) (hJ2 : J2 < 1000000000000)
    (ht : toldB w (xs.length + 1) v = true) : ∃ l, v = .tup l ∧ reprG v = some (.str (shownL v), false) ∧ reprG (.tup (.str w :: xs)) = some (.str (shownL (.tup (.str w :: xs))), false) ∧ eqG (.str (shownL v)) (.str (shownL (.tup (.str w :: xs)))) = some (decide (v = .tup (.str w :: xs))) := by
  cases v with
  | tup l =>
    refine ⟨l, rfl, repr_gd hv.tup (by omega) hW hJ, repr_gd hd (by omega) hW2 hJ2, ?_⟩
    rw [eq_shown hv.tup hd]
    congr 1
    rw [decide_eq_decide]
    constructor
    · intro h
      cases l with
      | nil => cases ht
      | cons x l =>
        simp only [toldB, Bool.and_eq_true] at ht
        cases x with
        | str s =>
          have : s = w := by simpa [strB] using ht.2
          subst this
          rw [str_shown_eq s xs l hx h]
        | _ => cases ht.2
    · intro h; rw [h]
  | _ => cases ht
def NP (s : Sl) : Prop := s = .no ∨ (∃ d, s = .fro d) ∨ ∃ d, s = .own d
theorem putV_np {s : Sl} (h : NP s) {i : Nat} {d : D} {o : Bool} {σ : Fr} : putV (some s) i d o σ = some (σ.set i (if o then .own d else .fro d)) := by
  rcases h with rfl | ⟨e, rfl⟩ | ⟨e, rfl⟩ <;> rfl
theorem mul_ci {i j : Int} (h : -18446744073709551616 < i) (h2 : i < 18446744073709551616) : mulG (.int i) (.int j) = some (.int (i * j), false) := by simp [mulG, mulOk, h, h2]
theorem NF.np {s : Sl} (h : NF s) : NP s := h.elim .inl fun h => .inr (.inl h)
theorem NP.own (d : D) : NP (.own d) := .inr (.inr ⟨d, rfl⟩)
theorem NP.fro (d : D) : NP (.fro d) := .inr (.inl ⟨d, rfl⟩)
theorem NP.no : NP .no := .inl rfl
end Ev

set_option Elab.async false
set_option linter.all false
set_option maxRecDepth 100000
set_option maxHeartbeats 4000000
namespace Ev
open PySem
def OddOk (N : Nat) (f : FSem) : Prop := ∀ n W J l st, n ≤ N → W ≤ 100000 → J ≤ 100000000000 → l ≠ [] → Gd n W J (.tup l) → WS st → wpF f [.ref st, .fro (.tup l)] (fun d o fs => OddP n W J (.tup l) d fs ∧ o = false) (fun _ _ => False)
theorem odd_fam {nx ch ii ex cu tu od : Nat → FSem} (hnx : ∀ k, nx (k + 1) = mkF 4 B_law_next) (hch : ∀ k, ch (k + 1) = mkF 7 (B_law_changed (nx k) (ch k))) (hii : ∀ k, ii (k + 1) = mkF 4 (B_law_ints (ii k))) (hex : ∀ k, ex (k + 1) = mkF 4 (B_law_exchanged (ex k)))
    (hcu : ∀ k, cu (k + 1) = mkF 6 (B_law_cut (nx k) (cu k))) (htu : ∀ k, tu (k + 1) = mkF 9 (B_law_turned_about (ii k) (nx k) (ex k) (cu k))) (hod : ∀ k, od (k + 1) = mkF 4 (B_law_odd (nx k) (tu k) (ch k))) (N k : Nat) (hN : N ≤ 50) (hk : N + 5 ≤ k) : OddOk N (od k) := by
  intro n W J l st hn hW hJ hl hv hs
  obtain ⟨k, rfl⟩ : ∃ j, k = j + 3 := ⟨k - 3, by omega⟩
  have nxo : ∀ j, NextOk (nx (j + 1)) := fun j => by rw [hnx]; exact next_NextOk
  rw [hod]
  refine odd_ok (N := N) _ _ _ (nxo _) ?_ ?_ n W J hn (by omega) hW hJ l hl hv st hs
  · intro n W J l st hn hW hl hv hs
    rw [htu]
    refine turned_ok (N := N) _ _ _ _ (nxo k) ?_ ?_ ?_ n W J hn (by omega) hW l hl hv st hs
    · exact fun n W J v h1 h2 h3 => ints_fam hii n k W J v (by omega) h2 h3
    · exact fun n W J v a b h1 h2 h3 => exchanged_fam hex a b n k W J v (by omega) h2 h3
    · exact fun n W J v st h1 h2 h3 h4 => cut_fam hcu hnx n k W J v st (by omega) (by omega) h2 h3 h4
  · exact fun n W J v st h1 h2 h3 h4 h5 => changed_fam hch hnx n (k + 1) W J v st (by omega) (by omega) h2 h3 h4 h5
theorem Ask.up {W J W' J' : Nat} {d : D} (h : Ask W J d) (h1 : W ≤ W') (h2 : J ≤ J') : Ask W' J' d := h.elim (fun h => .inl (h.up (Nat.le_refl _) h1 fun i hi => by omega)) .inr
theorem OddP.ask {n W J : Nat} {v d : D} {fs : List Ar} (h : OddP n W J v d fs) (hn : n ≤ 19) : ∃ st', WS st' ∧ fs = [.ref st', .fro v] ∧ Ask (5 * W + 600) (2 * J + 10) d := by
  obtain ⟨st', h1, h2, h3⟩ := h
  exact ⟨st', h1, h2, h3.elim (fun h => .inl (h.up (by omega) (Nat.le_refl _) fun i h => h)) .inr⟩
theorem wpT_nf {s : Sl} (h : NF s) {i : Nat} {d : D} {σ : Fr} {Q : Fr → Prop} : wpT (some s) i d σ Q ↔ Q (σ.set i (.fro d)) := by
  rcases h with rfl | ⟨e, rfl⟩
  · exact wpT_no
  · exact wpT_fro
theorem putV_nf {s : Sl} (h : NF s) {i : Nat} {d : D} {o : Bool} {σ : Fr} : putV (some s) i d o σ = some (σ.set i (if o then .own d else .fro d)) := putV_np h.np
theorem cutL_map {α β : Type} (f : α → β) (l : List α) (lo hi : Option Int) : cutL (l.map f) lo hi = (cutL l lo hi).map f := by
  unfold cutL
  simp only [List.length_map, List.map_take, List.map_drop]
theorem sliceT {ns : List Int} {lo hi : Option Int} : sliceG lo hi (tupI ns) = some (tupI (cutL ns lo hi), false) := by
  unfold tupI
  rw [← cutL_map]
  rfl
theorem cut_to {α : Type} (l : List α) (k : Nat) : cutL l none (some (k : Int)) = l.take k := by
  unfold cutL
  rw [HT.sIx_nat, HT.sIx_none]
  simp only [List.drop_zero, Nat.sub_zero]
  by_cases h : k ≤ l.length
  · rw [Nat.min_eq_left h]
  · rw [Nat.min_eq_right (by omega), List.take_of_length_le (Nat.le_refl _), List.take_of_length_le (by omega)]
theorem addTI {a : List Int} {x : Int} (h : a.length + 1 ≤ 1000000) : addG (tupI a) (.tup [.int x]) = some (tupI (a ++ [x]), false) := by
  unfold tupI
  rw [addT (by simpa using h), List.map_append]; rfl
def Seen (n W J : Nat) (l : List D) : Prop := l.length ≤ n ∧ ∀ x ∈ l, Ask W J x
theorem Seen.add {n W J : Nat} {l : List D} {lo hi : Option Int} {a b : D} (h : Seen n W J l) (ha : Ask W J a) (hb : Ask W J b) : Seen (n + 2) W J (cutL l lo hi ++ [a, b]) := by
  refine ⟨?_, fun x hx => ?_⟩
  · have := cutL_len (l := l) (lo := lo) (hi := hi)
    have := h.1
    simp
    omega
  · simp only [List.mem_append, List.mem_cons, List.not_mem_nil, or_false] at hx
    rcases hx with hx | rfl | rfl
    · exact h.2 x (cutL_mem hx)
    · exact ha
    · exact hb
end Ev

set_option Elab.async false
set_option linter.all false
set_option maxRecDepth 100000
set_option maxHeartbeats 4000000
namespace Ev
open PySem
/-- what is asked in any law -/
abbrev AskA (d : D) : Prop := Ask 600000 1000000000 d
/-- what may be told rightly -/
abbrev ToldG (d : D) : Prop := Gd 10 100000 100000000 d
theorem ToldG.ask {d : D} (h : ToldG d) : AskA d := .inl (Gd.up h (by omega) (by omega) fun i h => by omega)
/-- a half of a law: when its arguments fit, what is told then, which class is raised if not, which answers are accepted, where it is known -/
structure Hf where
  fit : List D → Prop
  told : List D → D
  ex : List D → Str
  acc : List D → D → Prop
  dom : List D → Prop
structure Hf.Ok (h : Hf) : Prop where
  ex : ∀ as, h.dom as → ¬ h.fit as → h.ex as = "UnfitGrid" ∨ h.ex as = "TooWide"
  told : ∀ as, h.dom as → h.fit as → ToldG (h.told as) ∧ ∃ l, h.told as = .tup l ∧ l ≠ []
  self : ∀ as, h.dom as → h.fit as → h.acc as (h.told as)
/-- told by repr: a word, a tuple, tuples and whole numbers -/
def ReprD (w : List Nat) (c : Nat) (d : D) : Prop := ∃ l r, d = .tup (.str w :: .tup l :: r) ∧ itL (.tup l :: r) = true ∧ r.length + 2 = c
def ToldOk (f : FSem) : Prop := ∀ W J v, Ask W J v → ∀ w : List Nat, (∀ c ∈ w, c < 1114112) → ∀ c : Nat, 1 ≤ c → wpF f [.fro v, .fro (.str w), .fro (.int c)] (fun d o fs => d = .bl (toldB w c v) ∧ o = false ∧ fs = [.fro v, .fro (.str w), .fro (.int c)]) (fun _ _ => False)
def isT : D → Bool
  | .tup _ => true
  | _ => false
theorem sub_tup {d : D} : subT (tyN d) "tuple" = isT d := by cases d <;> simp [subT, isT]
theorem ask_non {W J : Nat} (h : 8 ≤ W) : Ask W J .non := .inl (Gd.non h)
theorem bl_gd (b : Bool) : Gd 10 1000000 0 (.bl b) := Gd.bl (by omega)
theorem rng_mem {m : Nat} : ∀ y ∈ (List.range m).map fun (k : Nat) => D.int (k : Int), ∃ k : Nat, y = .int k ∧ k < m := fun y hy => by
  obtain ⟨k, hk, rfl⟩ := List.mem_map.mp hy
  exact ⟨k, rfl, List.mem_range.mp hk⟩
def NearQ (as : List Ar) (d : D) (o : Bool) (fs : List Ar) : Prop := ∃ st', WS st' ∧ fs = .ref st' :: as ∧ o = false ∧ AskA d
theorem nil_ask : AskA (.tup []) := .inl (Gd.mkT (by simp [wtL]) (by simp))
/-- the classes that told_near and unfit catch -/
structure Tk (t1 t2 : Str → Option Bool) : Prop where
  a : t1 "UnfitGrid" = some true
  b : t1 "TooWide" = some false
  c : t2 "TooWide" = some true
theorem hel_own {σ : Fr} {i : Nat} {d : D} (h : σ[i]? = some (.own d)) : hel σ i = some d := by unfold hel; rw [h]
theorem setSl_own {σ : Fr} {i : Nat} {d e : D} (h : σ[i]? = some (.own d)) : setSl σ i e = σ.set i (.own e) := by unfold setSl; rw [h]
/-- what the last loop leaves -/
def LoopI (σ : Fr) (iS iK iQ m : Nat) (rest : List D) (σ' : Fr) : Prop :=
  ∃ (st : D) (sk sq : Sl), WS st ∧ NF sk ∧ NF sq ∧ (∀ y ∈ rest, ∃ k : Nat, y = .int k ∧ k < m) ∧ σ'.length = σ.length ∧ (∀ j, j ≠ iS → j ≠ iK → j ≠ iQ → σ'[j]? = σ[j]?) ∧ σ'[iS]? = some (.own st) ∧ σ'[iK]? = some sk ∧ σ'[iQ]? = some sq
theorem LoopI.eq {σ σ' : Fr} {iS iK iQ m : Nat} {rest : List D} (h1 : iS ≠ iK) (h2 : iS ≠ iQ) (h3 : iK ≠ iQ) (h : LoopI σ iS iK iQ m rest σ') : ∃ (st : D) (sk sq : Sl), WS st ∧ NF sk ∧ NF sq ∧ σ' = ((σ.set iS (.own st)).set iK sk).set iQ sq := by
  obtain ⟨st, sk, sq, q1, q2, q3, _, q5, q6, q7, q8, q9⟩ := h
  refine ⟨st, sk, sq, q1, q2, q3, List.ext_getElem? fun j => ?_⟩
  have b1 : iS < σ.length := by have := (List.getElem?_eq_some_iff.mp q7).1; omega
  have b2 : iK < σ.length := by have := (List.getElem?_eq_some_iff.mp q8).1; omega
  have b3 : iQ < σ.length := by have := (List.getElem?_eq_some_iff.mp q9).1; omega
  by_cases e3 : j = iQ
  · subst e3; rw [q9, List.getElem?_set_self (by simpa using b3)]
  · rw [List.getElem?_set_ne (fun e => e3 e.symm)]
    by_cases e2 : j = iK
    · subst e2; rw [q8, List.getElem?_set_self (by simpa using b2)]
    · rw [List.getElem?_set_ne (fun e => e2 e.symm)]
      by_cases e1 : j = iS
      · subst e1; rw [q7, List.getElem?_set_self (by simpa using b1)]
      · rw [List.getElem?_set_ne (fun e => e1 e.symm), q6 j e1 e2 e3]
/-! ### 1 argument(s) -/
def HF1 (h : Hf) (f : FSem) : Prop := ∀ aa : D, h.dom [aa] → wpF f [.fro aa] (fun d o fs => h.fit [aa] ∧ d = h.told [aa] ∧ o = false ∧ fs = [.fro aa]) (fun c fs => ¬ h.fit [aa] ∧ c = h.ex [aa] ∧ fs = [.fro aa])
open Classical in
def HJ1 (h : Hf) (f : FSem) : Prop := ∀ aa v : D, h.dom [aa] → AskA v → wpF f [.fro aa, .fro v] (fun d o fs => h.fit [aa] ∧ d = .bl (decide (h.acc [aa] v)) ∧ o = false ∧ fs = [.fro aa, .fro v]) (fun c fs => ¬ h.fit [aa] ∧ c = h.ex [aa] ∧ fs = [.fro aa, .fro v])
open Classical in
def HA1 (h : Hf) (f : FSem) : Prop := ∀ aa v : D, h.dom [aa] → h.fit [aa] → AskA v → wpF f [.fro aa, .fro v] (fun d o fs => d = .bl (decide (h.acc [aa] v)) ∧ o = false ∧ fs = [.fro aa, .fro v]) (fun _ _ => False)
def NearB1 (nx nb F : FSem) (t1 t2 : Str → Option Bool) : S := sSeq (sSet 2 (eLst [eVar 1]))
    (sSeq (sSet 3 (eCall nx [true, false] [eVar 0, ec (.int 1)]))
    (sSeq (sStore (eCall nb [true, false] [eVar 0, e2 ixG (eVar 2) (eVar 3)]) (eVar 2) (eVar 3))
    (sSeq (sTry (sSeq (sRet (eCall F [false] [e2 ixG (eVar 2) (ec (.int 0))]))
    (sNx)) [⟨t1, 4, .ret0⟩, ⟨t2, 4, .ret0⟩])
    (sNx))))
def UnfitB1 (F J : FSem) (t1 : Str → Option Bool) : S := sSeq (sFor (srcL (eLst [ec (.bl false), ec (.bl true)])) (gN 1) (sSeq (sTry (sSeq (sIf (tr (eVar 1) truG) (sSeq (sDrop (eCall J [false, false] [eVar 0, ec .non]))
    (sNx)) (sSeq (sDrop (eCall F [false] [eVar 0]))
    (sNx)))
    (sSeq (sRet (ec (.bl false)))
    (sNx))) [⟨t1, 2, .skip⟩])
    (sNx)))
    (sSeq (sRet (ec (.bl true)))
    (sNx))
def JudgeB1 (F it : FSem) (w : List Nat) (c : Int) : S := sSeq (sSet 2 (eCall F [false] [eVar 0]))
    (sSeq (sRet (eAnd truG (eCall it [false, false, false] [eVar 1, ec (.str w), ec (.int c)]) (eAnd truG (e1 (isiG ["tuple"]) (e2 ixG (eVar 1) (ec (.int 1)))) (eB (cmp2 eqG (eN (un1 reprG) [eVar 1]) (eN (un1 reprG) [eVar 2]))))))
    (sNx))
theorem near1_ok {h : Hf} (H : h.Ok) {nx nb F : FSem} {t1 t2 : Str → Option Bool} (tk : Tk t1 t2) (hn : NextOk nx) (hF : HF1 h F) (aa : D)
    (haa : ∀ st, WS st → wpF nb [.ref st, .fro aa] (fun d o fs => ∃ st', WS st' ∧ fs = [.ref st', .fro aa] ∧ o = false ∧ h.dom [d]) (fun _ _ => False))
    (st : D) (hs : WS st) : wpF (mkF 5 (NearB1 nx nb F t1 t2)) (.ref st :: [.fro aa]) (NearQ [.fro aa]) (fun _ _ => False) := by
  rw [wf_mk]
  rw [show frame 5 (.ref st :: [.fro aa]) = [.par st, .fro aa, .no, .no, .no] from rfl]
  unfold NearB1
  simp
  refine hn.run (lim := 1) hs (by omega) (by omega) fun p st1 h1 h2 hs1 => ?_
  simp
  have fin : ∀ (st' q0 : D) (p : Int), WS st' → h.dom [q0] → wpS (sTry (sSeq (sRet (eCall F [false] [e2 ixG (eVar 2) (ec (.int 0))]))
    (sNx)) [⟨t1, 4, .ret0⟩, ⟨t2, 4, .ret0⟩]) [.par st', .fro aa, .own (.lst [q0]), .fro (.int p), .no] (fun fl σ => nxt sNx (fun fl σ => endQ (.ref st :: [.fro aa]) (NearQ [.fro aa]) (fun _ _ => False) fl σ) fl σ) := by
    intro st' q0 p hs' hd
    simp
    refine wpF_mono (hF q0 hd) (fun d o fs ⟨hf, e1, e2, e3⟩ => ?_) fun c fs ⟨h1, h2, h3⟩ => ?_
    · subst e1 e2 e3
      simp
      exact ⟨st', hs', rfl, rfl, ToldG.ask (H.told _ hd hf).1⟩
    · subst h3
      rcases H.ex _ hd h1 with e | e
      · rw [e] at h2; subst h2
        simp [tk.a]
        exact ⟨st', hs', rfl, rfl, nil_ask⟩
      · rw [e] at h2; subst h2
        simp [tk.b, tk.c]
        exact ⟨st', hs', rfl, rfl, nil_ask⟩
  simp at fin
  have hp : p = 0 := by omega
  rcases hp with rfl
  · simp
    refine wpF_mono (haa st1 hs1) (fun d o fs ⟨st2, hs2, e1, e2, e3⟩ => ?_) fun _ _ h => h.elim
    subst e1 e2
    simp
    exact fin st2 d 0 hs2 e3
theorem unfit1_ok {h : Hf} {F J : FSem} {t1 t2 : Str → Option Bool} (tk : Tk t1 t2) (hF : HF1 h F) (hJ : HJ1 h J) (aa : D) (hd : h.dom [aa]) (hf : ¬ h.fit [aa]) (he : h.ex [aa] = "UnfitGrid") :
    wpF (mkF 3 (UnfitB1 F J t1)) [.fro aa] (fun d o fs => d = .bl true ∧ o = false ∧ fs = [.fro aa]) (fun _ _ => False) := by
  rw [wf_mk]
  rw [show frame 3 [.fro aa] = [.fro aa, .no, .no] from rfl]
  unfold UnfitB1
  simp
  refine ws_forG ?_
  simp [forGo_cons, forGo_nil]
  refine wpF_mono (hF aa hd) (fun d o fs ⟨h1, _⟩ => (hf h1).elim) fun c fs ⟨h1, h2, h3⟩ => ?_
  rw [he] at h2
  subst h2 h3
  simp [tk.a, forGo_cons, forGo_nil]
  refine wpF_mono (hJ aa .non hd (ask_non (by omega))) (fun d o fs ⟨h1, _⟩ => (hf h1).elim) fun c fs ⟨h1, h2, h3⟩ => ?_
  rw [he] at h2
  subst h2 h3
  simp [tk.a, forGo_cons, forGo_nil]
theorem judge1_ok {h : Hf} (H : h.Ok) {F it : FSem} (hF : HF1 h F) (hi : ToldOk it) {w : List Nat} {c : Nat} (hw : ∀ x ∈ w, x < 1114112) (hr : ∀ aa, h.dom [aa] → h.fit [aa] → ReprD w c (h.told [aa])) (hc : 2 ≤ c) (ha : ∀ aa v, h.dom [aa] → h.fit [aa] → (h.acc [aa] v ↔ v = h.told [aa])) : HJ1 h (mkF 3 (JudgeB1 F it w c)) := by
  intro aa v hd hv
  rw [wf_mk]
  rw [show frame 3 [.fro aa, .fro v] = [.fro aa, .fro v, .no] from rfl]
  unfold JudgeB1
  simp
  refine wpF_mono (hF aa hd) (fun d o fs ⟨hf, e1, e2, e3⟩ => ?_) fun cc fs ⟨h1, h2, h3⟩ => ?_
  · subst e1 e2 e3
    simp
    refine wpF_mono (hi _ _ v hv w hw c (by omega)) (fun d o fs ⟨e1, e2, e3⟩ => ?_) fun _ _ h => h.elim
    subst e1 e2 e3
    simp
    obtain ⟨l, r, et, hit, hc2⟩ := hr aa hd hf
    have hg := (H.told _ hd hf).1
    rw [show (h.acc [aa] v) = (v = h.told [aa]) from propext (ha aa v hd hf)]
    rw [et] at hg ⊢
    split
    · rename_i hb
      obtain ⟨vl, rfl, r1, r2, r3⟩ := judge_repr hv (by omega) (by omega) hit (Gd.up hg (n' := 20) (by omega) (Nat.le_refl _) fun i h => h) (by omega) (by omega) (by simpa [hc2] using hb)
      generalize shownL (.tup (.str w :: .tup l :: r)) = t2 at r2 r3
      generalize shownL (.tup vl) = t1 at r1 r3
      match vl, hb with
      | x :: y :: vl, hb =>
        have x1 : ixG (.tup (x :: y :: vl)) (.int 1) = some (y, false) := ix_natT _ 1 _ rfl
        simp [x1, sub_tup]
        split
        · simp [r1, r2, r3]
          exact hf
        · rename_i hy
          refine ⟨hf, ?_⟩
          have hy2 : y ≠ .tup l := fun e => hy (by rw [e]; rfl)
          simp only [Bool.not_eq_true] at hy
          simp [hy, hy2]
      | [], hb => simp [toldB] at hb
      | [x], hb => simp [toldB] at hb; omega
    · rename_i hb
      refine ⟨hf, ?_⟩
      have hv2 : v ≠ .tup (.str w :: .tup l :: r) := fun e => hb (by rw [e]; simp [toldB, strB, hc2])
      simp only [Bool.not_eq_true] at hb
      simp [hb, hv2]
  · subst h2 h3
    simp
    exact h1
theorem loop1_ok {h : Hf} (H : h.Ok) {Jf Af sm od : FSem} (hJ : HJ1 h Jf) (hA : HA1 h Af) (hS : SameOk sm) (hO : OddOk 10 od) {iS iE iK iQ iT i0 : Nat} {M : Nat} {σ : Fr} {se : List D} {aa : D} {items : List D} {Q : Fl → Fr → Prop} (hd : h.dom [aa]) (hf : h.fit [aa])
    (m1 : iS ≠ iK) (m2 : iS ≠ iQ) (m3 : iK ≠ iQ) (m4 : iE ≠ iS ∧ iE ≠ iK ∧ iE ≠ iQ) (m5 : iT ≠ iS ∧ iT ≠ iK ∧ iT ≠ iQ) (n0 : i0 ≠ iS ∧ i0 ≠ iK ∧ i0 ≠ iQ) (gE : σ[iE]? = some (.own (.lst se))) (gT : σ[iT]? = some (.fro (h.told [aa]))) (g0 : σ[i0]? = some (.fro aa)) (hse : ∀ x ∈ se, AskA x)
    (h0 : LoopI σ iS iK iQ (M + se.length) items σ) (hQ : ∀ (st : D) (sk sq : Sl), WS st → NF sk → NF sq → Q .nx (((σ.set iS (.own st)).set iK sk).set iQ sq)) :
    wpS (forGo [] (gN iK) (sSeq (sSet iQ (eIf (cmp2 ltG (eVar iK) (ec (.int M))) (eCall od [true, false] [eVar iS, eVar iT]) (e2 ixG (eVar iE) (e2 subG (eVar iK) (ec (.int M))))))
    (sSeq (sIf (notB (tr (eCall sm [false, false] [eCall Jf [false, false] [eVar i0, eVar iQ], eCall Af [false, false] [eVar i0, eVar iQ]]) truG)) (sSeq (sRet (ec (.bl false)))
    (sNx)) (sNx))
    (sNx))) items) σ Q := by
  refine ws_forGo (LoopI σ iS iK iQ (M + se.length)) h0 (fun x xs σ' ⟨st, sk, sq, q1, q2, q3, q4, q5, q6, q7, q8, q9⟩ => ?_) fun σ' hl => ?_
  · obtain ⟨k, rfl, hk⟩ := q4 x List.mem_cons_self
    refine wp_gN_nf q2 q8 ?_
    have tail : ∀ (st' v : D) (σ1 : Fr), WS st' → AskA v → σ1.length = σ.length → (∀ j, j ≠ iS → j ≠ iK → j ≠ iQ → σ1[j]? = σ[j]?) → σ1[iS]? = some (.own st') → σ1[iK]? = some (.fro (.int k)) → σ1[iQ]? = some (.fro v) → wpS (sSeq (sIf (notB (tr (eCall sm [false, false] [eCall Jf [false, false] [eVar i0, eVar iQ], eCall Af [false, false] [eVar i0, eVar iQ]]) truG)) (sSeq (sRet (ec (.bl false)))
    (sNx)) (sNx))
    (sNx)) σ1 (fun fl σ2 => match fl with
      | .nx => LoopI σ iS iK iQ (M + se.length) xs σ2
      | .ct => LoopI σ iS iK iQ (M + se.length) xs σ2
      | .bk => Q .nx σ2
      | fl => Q fl σ2) := by
      intro st' v σ1 hs' hv w1 w2 w3 w4 w5
      have z0 : σ1[i0]? = some (.fro aa) := (w2 _ n0.1 n0.2.1 n0.2.2).trans g0
      simp [z0, w5]
      refine wpF_mono (hJ aa v hd hv) (fun d o fs ⟨_, e1, e2, e3⟩ => ?_) fun c fs ⟨h1, _⟩ => (h1 hf).elim
      subst e1 e2 e3
      simp [z0, w5]
      refine wpF_mono (hA aa v hd hf hv) (fun d o fs ⟨e1, e2, e3⟩ => ?_) fun _ _ h => h.elim
      subst e1 e2 e3
      simp
      refine wpF_mono (hS _ _ 0 (bl_gd _) (.inl (by simp [shp]))) (fun d o fs ⟨e1, e2, e3⟩ => ?_) fun _ _ h => h.elim
      subst e1 e2 e3
      simp
      exact ⟨st', _, _, hs', NF.fro _, NF.fro _, fun y hy => q4 y (List.mem_cons_of_mem _ hy), w1, w2, w3, w4, w5⟩
    have b1 : iS < σ'.length := (List.getElem?_eq_some_iff.mp q7).1
    have b2 : iK < σ'.length := (List.getElem?_eq_some_iff.mp q8).1
    have b3 : iQ < σ'.length := (List.getElem?_eq_some_iff.mp q9).1
    have k1 : (σ'.set iK (.fro (.int k)))[iK]? = some (.fro (.int k)) := List.getElem?_set_self b2
    have k2 : (σ'.set iK (.fro (.int k)))[iS]? = some (.own st) := by rw [List.getElem?_set_ne m1.symm]; exact q7
    have k3 : (σ'.set iK (.fro (.int k)))[iQ]? = some sq := by rw [List.getElem?_set_ne m3]; exact q9
    have k4 : (σ'.set iK (.fro (.int k)))[iE]? = some (.own (.lst se)) := by rw [List.getElem?_set_ne m4.2.1.symm, q6 _ m4.1 m4.2.1 m4.2.2]; exact gE
    have k5 : (σ'.set iK (.fro (.int k)))[iT]? = some (.fro (h.told [aa])) := by rw [List.getElem?_set_ne m5.2.1.symm, q6 _ m5.1 m5.2.1 m5.2.2]; exact gT
    obtain ⟨hg, tl, et, tl0⟩ := H.told _ hd hf
    by_cases hkM : k < M
    · have hkM' : (k : Int) < (M : Int) := by omega
      have ho := hO 10 100000 100000000 tl st (by omega) (by omega) (by omega) tl0 (et ▸ hg) q1
      rw [← et] at ho
      simp [k1, k2, k5, hkM', hel_own k2]
      refine wpF_mono ho (fun d o fs ⟨e1, e2⟩ => ?_) fun _ _ h => h.elim
      obtain ⟨st', hs', e3, e4⟩ := e1.ask (by omega)
      subst e2 e3
      simp [setSl_own k2]
      have k6 : ((σ'.set iK (.fro (.int k))).set iS (.own st'))[iQ]? = some sq := by rw [List.getElem?_set_ne m2]; exact k3
      rw [k6, putV_nf q3]
      have := tail st' d (((σ'.set iK (.fro (.int k))).set iS (.own st')).set iQ (.fro d)) hs' (e4.up (by omega) (by omega)) (by simpa using q5) (fun j j1 j2 j3 => by
        rw [List.getElem?_set_ne (fun e => j3 e.symm), List.getElem?_set_ne (fun e => j1 e.symm), List.getElem?_set_ne (fun e => j2 e.symm)]; exact q6 j j1 j2 j3)
        (by rw [List.getElem?_set_ne m2.symm]; exact List.getElem?_set_self (by simpa using b1)) (by rw [List.getElem?_set_ne m3.symm, List.getElem?_set_ne m1]; exact k1) (List.getElem?_set_self (by simpa using b3))
      simp only [wpO_some, nxt_nx, Bool.false_eq_true, if_false]
      exact this
    · have hkM' : ¬ (k : Int) < (M : Int) := by omega
      simp [k1, k4, hkM', hel_own k4]
      have hg4 : R.get (σ'.set iK (.fro (.int k))) (.s iE) = some (.lst se) := by simp only [R.get, k4]
      simp [hg4, k1]
      refine wpO_ixL (by omega) (by omega) fun d hd2 => ?_
      simp
      rw [k3, putV_nf q3]
      have := tail st d ((σ'.set iK (.fro (.int k))).set iQ (.fro d)) q1 (hse d hd2) (by simpa using q5) (fun j j1 j2 j3 => by
        rw [List.getElem?_set_ne (fun e => j3 e.symm), List.getElem?_set_ne (fun e => j2 e.symm)]; exact q6 j j1 j2 j3)
        (by rw [List.getElem?_set_ne m2.symm]; exact k2) (by rw [List.getElem?_set_ne m3.symm]; exact k1) (List.getElem?_set_self (by simpa using b3))
      simp only [wpO_some, nxt_nx, Bool.false_eq_true, if_false]
      exact this
  · obtain ⟨st, sk, sq, e1, e2, e3, e4⟩ := hl.eq m1 m2 m3
    subst e4
    exact hQ st sk sq e1 e2 e3
/-! ### 2 argument(s) -/
def HF2 (h : Hf) (f : FSem) : Prop := ∀ aa bb : D, h.dom [aa, bb] → wpF f [.fro aa, .fro bb] (fun d o fs => h.fit [aa, bb] ∧ d = h.told [aa, bb] ∧ o = false ∧ fs = [.fro aa, .fro bb]) (fun c fs => ¬ h.fit [aa, bb] ∧ c = h.ex [aa, bb] ∧ fs = [.fro aa, .fro bb])
open Classical in
def HJ2 (h : Hf) (f : FSem) : Prop := ∀ aa bb v : D, h.dom [aa, bb] → AskA v → wpF f [.fro aa, .fro bb, .fro v] (fun d o fs => h.fit [aa, bb] ∧ d = .bl (decide (h.acc [aa, bb] v)) ∧ o = false ∧ fs = [.fro aa, .fro bb, .fro v]) (fun c fs => ¬ h.fit [aa, bb] ∧ c = h.ex [aa, bb] ∧ fs = [.fro aa, .fro bb, .fro v])
open Classical in
def HA2 (h : Hf) (f : FSem) : Prop := ∀ aa bb v : D, h.dom [aa, bb] → h.fit [aa, bb] → AskA v → wpF f [.fro aa, .fro bb, .fro v] (fun d o fs => d = .bl (decide (h.acc [aa, bb] v)) ∧ o = false ∧ fs = [.fro aa, .fro bb, .fro v]) (fun _ _ => False)
def NearB2 (nx nb F : FSem) (t1 t2 : Str → Option Bool) : S := sSeq (sSet 3 (eLst [eVar 1, eVar 2]))
    (sSeq (sSet 4 (eCall nx [true, false] [eVar 0, ec (.int 2)]))
    (sSeq (sStore (eCall nb [true, false] [eVar 0, e2 ixG (eVar 3) (eVar 4)]) (eVar 3) (eVar 4))
    (sSeq (sTry (sSeq (sRet (eCall F [false, false] [e2 ixG (eVar 3) (ec (.int 0)), e2 ixG (eVar 3) (ec (.int 1))]))
    (sNx)) [⟨t1, 5, .ret0⟩, ⟨t2, 5, .ret0⟩])
    (sNx))))
def UnfitB2 (F J : FSem) (t1 : Str → Option Bool) : S := sSeq (sFor (srcL (eLst [ec (.bl false), ec (.bl true)])) (gN 2) (sSeq (sTry (sSeq (sIf (tr (eVar 2) truG) (sSeq (sDrop (eCall J [false, false, false] [eVar 0, eVar 1, ec .non]))
    (sNx)) (sSeq (sDrop (eCall F [false, false] [eVar 0, eVar 1]))
    (sNx)))
    (sSeq (sRet (ec (.bl false)))
    (sNx))) [⟨t1, 3, .skip⟩])
    (sNx)))
    (sSeq (sRet (ec (.bl true)))
    (sNx))
def JudgeB2 (F it : FSem) (w : List Nat) (c : Int) : S := sSeq (sSet 3 (eCall F [false, false] [eVar 0, eVar 1]))
    (sSeq (sRet (eAnd truG (eCall it [false, false, false] [eVar 2, ec (.str w), ec (.int c)]) (eAnd truG (e1 (isiG ["tuple"]) (e2 ixG (eVar 2) (ec (.int 1)))) (eB (cmp2 eqG (eN (un1 reprG) [eVar 2]) (eN (un1 reprG) [eVar 3]))))))
    (sNx))
theorem near2_ok {h : Hf} (H : h.Ok) {nx nb F : FSem} {t1 t2 : Str → Option Bool} (tk : Tk t1 t2) (hn : NextOk nx) (hF : HF2 h F) (aa bb : D)
    (haa : ∀ st, WS st → wpF nb [.ref st, .fro aa] (fun d o fs => ∃ st', WS st' ∧ fs = [.ref st', .fro aa] ∧ o = false ∧ h.dom [d, bb]) (fun _ _ => False))
    (hbb : ∀ st, WS st → wpF nb [.ref st, .fro bb] (fun d o fs => ∃ st', WS st' ∧ fs = [.ref st', .fro bb] ∧ o = false ∧ h.dom [aa, d]) (fun _ _ => False))
    (st : D) (hs : WS st) : wpF (mkF 6 (NearB2 nx nb F t1 t2)) (.ref st :: [.fro aa, .fro bb]) (NearQ [.fro aa, .fro bb]) (fun _ _ => False) := by
  rw [wf_mk]
  rw [show frame 6 (.ref st :: [.fro aa, .fro bb]) = [.par st, .fro aa, .fro bb, .no, .no, .no] from rfl]
  unfold NearB2
  simp
  refine hn.run (lim := 2) hs (by omega) (by omega) fun p st1 h1 h2 hs1 => ?_
  simp
  have fin : ∀ (st' q0 q1 : D) (p : Int), WS st' → h.dom [q0, q1] → wpS (sTry (sSeq (sRet (eCall F [false, false] [e2 ixG (eVar 3) (ec (.int 0)), e2 ixG (eVar 3) (ec (.int 1))]))
    (sNx)) [⟨t1, 5, .ret0⟩, ⟨t2, 5, .ret0⟩]) [.par st', .fro aa, .fro bb, .own (.lst [q0, q1]), .fro (.int p), .no] (fun fl σ => nxt sNx (fun fl σ => endQ (.ref st :: [.fro aa, .fro bb]) (NearQ [.fro aa, .fro bb]) (fun _ _ => False) fl σ) fl σ) := by
    intro st' q0 q1 p hs' hd
    simp
    refine wpF_mono (hF q0 q1 hd) (fun d o fs ⟨hf, e1, e2, e3⟩ => ?_) fun c fs ⟨h1, h2, h3⟩ => ?_
    · subst e1 e2 e3
      simp
      exact ⟨st', hs', rfl, rfl, ToldG.ask (H.told _ hd hf).1⟩
    · subst h3
      rcases H.ex _ hd h1 with e | e
      · rw [e] at h2; subst h2
        simp [tk.a]
        exact ⟨st', hs', rfl, rfl, nil_ask⟩
      · rw [e] at h2; subst h2
        simp [tk.b, tk.c]
        exact ⟨st', hs', rfl, rfl, nil_ask⟩
  simp at fin
  have hp : p = 0 ∨ p = 1 := by omega
  rcases hp with rfl | rfl
  · simp
    refine wpF_mono (haa st1 hs1) (fun d o fs ⟨st2, hs2, e1, e2, e3⟩ => ?_) fun _ _ h => h.elim
    subst e1 e2
    simp
    exact fin st2 d bb 0 hs2 e3
  · simp
    refine wpF_mono (hbb st1 hs1) (fun d o fs ⟨st2, hs2, e1, e2, e3⟩ => ?_) fun _ _ h => h.elim
    subst e1 e2
    simp
    exact fin st2 aa d 1 hs2 e3
theorem unfit2_ok {h : Hf} {F J : FSem} {t1 t2 : Str → Option Bool} (tk : Tk t1 t2) (hF : HF2 h F) (hJ : HJ2 h J) (aa bb : D) (hd : h.dom [aa, bb]) (hf : ¬ h.fit [aa, bb]) (he : h.ex [aa, bb] = "UnfitGrid") :
    wpF (mkF 4 (UnfitB2 F J t1)) [.fro aa, .fro bb] (fun d o fs => d = .bl true ∧ o = false ∧ fs = [.fro aa, .fro bb]) (fun _ _ => False) := by
  rw [wf_mk]
  rw [show frame 4 [.fro aa, .fro bb] = [.fro aa, .fro bb, .no, .no] from rfl]
  unfold UnfitB2
  simp
  refine ws_forG ?_
  simp [forGo_cons, forGo_nil]
  refine wpF_mono (hF aa bb hd) (fun d o fs ⟨h1, _⟩ => (hf h1).elim) fun c fs ⟨h1, h2, h3⟩ => ?_
  rw [he] at h2
  subst h2 h3
  simp [tk.a, forGo_cons, forGo_nil]
  refine wpF_mono (hJ aa bb .non hd (ask_non (by omega))) (fun d o fs ⟨h1, _⟩ => (hf h1).elim) fun c fs ⟨h1, h2, h3⟩ => ?_
  rw [he] at h2
  subst h2 h3
  simp [tk.a, forGo_cons, forGo_nil]
theorem judge2_ok {h : Hf} (H : h.Ok) {F it : FSem} (hF : HF2 h F) (hi : ToldOk it) {w : List Nat} {c : Nat} (hw : ∀ x ∈ w, x < 1114112) (hr : ∀ aa bb, h.dom [aa, bb] → h.fit [aa, bb] → ReprD w c (h.told [aa, bb])) (hc : 2 ≤ c) (ha : ∀ aa bb v, h.dom [aa, bb] → h.fit [aa, bb] → (h.acc [aa, bb] v ↔ v = h.told [aa, bb])) : HJ2 h (mkF 4 (JudgeB2 F it w c)) := by
  intro aa bb v hd hv
  rw [wf_mk]
  rw [show frame 4 [.fro aa, .fro bb, .fro v] = [.fro aa, .fro bb, .fro v, .no] from rfl]
  unfold JudgeB2
  simp
  refine wpF_mono (hF aa bb hd) (fun d o fs ⟨hf, e1, e2, e3⟩ => ?_) fun cc fs ⟨h1, h2, h3⟩ => ?_
  · subst e1 e2 e3
    simp
    refine wpF_mono (hi _ _ v hv w hw c (by omega)) (fun d o fs ⟨e1, e2, e3⟩ => ?_) fun _ _ h => h.elim
    subst e1 e2 e3
    simp
    obtain ⟨l, r, et, hit, hc2⟩ := hr aa bb hd hf
    have hg := (H.told _ hd hf).1
    rw [show (h.acc [aa, bb] v) = (v = h.told [aa, bb]) from propext (ha aa bb v hd hf)]
    rw [et] at hg ⊢
    split
    · rename_i hb
      obtain ⟨vl, rfl, r1, r2, r3⟩ := judge_repr hv (by omega) (by omega) hit (Gd.up hg (n' := 20) (by omega) (Nat.le_refl _) fun i h => h) (by omega) (by omega) (by simpa [hc2] using hb)
      generalize shownL (.tup (.str w :: .tup l :: r)) = t2 at r2 r3
      generalize shownL (.tup vl) = t1 at r1 r3
      match vl, hb with
      | x :: y :: vl, hb =>
        have x1 : ixG (.tup (x :: y :: vl)) (.int 1) = some (y, false) := ix_natT _ 1 _ rfl
        simp [x1, sub_tup]
        split
        · simp [r1, r2, r3]
          exact hf
        · rename_i hy
          refine ⟨hf, ?_⟩
          have hy2 : y ≠ .tup l := fun e => hy (by rw [e]; rfl)
          simp only [Bool.not_eq_true] at hy
          simp [hy, hy2]
      | [], hb => simp [toldB] at hb
      | [x], hb => simp [toldB] at hb; omega
    · rename_i hb
      refine ⟨hf, ?_⟩
      have hv2 : v ≠ .tup (.str w :: .tup l :: r) := fun e => hb (by rw [e]; simp [toldB, strB, hc2])
      simp only [Bool.not_eq_true] at hb
      simp [hb, hv2]
  · subst h2 h3
    simp
    exact h1
theorem loop2_ok {h : Hf} (H : h.Ok) {Jf Af sm od : FSem} (hJ : HJ2 h Jf) (hA : HA2 h Af) (hS : SameOk sm) (hO : OddOk 10 od) {iS iE iK iQ iT i0 i1 : Nat} {M : Nat} {σ : Fr} {se : List D} {aa bb : D} {items : List D} {Q : Fl → Fr → Prop} (hd : h.dom [aa, bb]) (hf : h.fit [aa, bb])
    (m1 : iS ≠ iK) (m2 : iS ≠ iQ) (m3 : iK ≠ iQ) (m4 : iE ≠ iS ∧ iE ≠ iK ∧ iE ≠ iQ) (m5 : iT ≠ iS ∧ iT ≠ iK ∧ iT ≠ iQ) (n0 : i0 ≠ iS ∧ i0 ≠ iK ∧ i0 ≠ iQ) (n1 : i1 ≠ iS ∧ i1 ≠ iK ∧ i1 ≠ iQ) (gE : σ[iE]? = some (.own (.lst se))) (gT : σ[iT]? = some (.fro (h.told [aa, bb]))) (g0 : σ[i0]? = some (.fro aa)) (g1 : σ[i1]? = some (.fro bb)) (hse : ∀ x ∈ se, AskA x)
    (h0 : LoopI σ iS iK iQ (M + se.length) items σ) (hQ : ∀ (st : D) (sk sq : Sl), WS st → NF sk → NF sq → Q .nx (((σ.set iS (.own st)).set iK sk).set iQ sq)) :
    wpS (forGo [] (gN iK) (sSeq (sSet iQ (eIf (cmp2 ltG (eVar iK) (ec (.int M))) (eCall od [true, false] [eVar iS, eVar iT]) (e2 ixG (eVar iE) (e2 subG (eVar iK) (ec (.int M))))))
    (sSeq (sIf (notB (tr (eCall sm [false, false] [eCall Jf [false, false, false] [eVar i0, eVar i1, eVar iQ], eCall Af [false, false, false] [eVar i0, eVar i1, eVar iQ]]) truG)) (sSeq (sRet (ec (.bl false)))
    (sNx)) (sNx))
    (sNx))) items) σ Q := by
  refine ws_forGo (LoopI σ iS iK iQ (M + se.length)) h0 (fun x xs σ' ⟨st, sk, sq, q1, q2, q3, q4, q5, q6, q7, q8, q9⟩ => ?_) fun σ' hl => ?_
  · obtain ⟨k, rfl, hk⟩ := q4 x List.mem_cons_self
    refine wp_gN_nf q2 q8 ?_
    have tail : ∀ (st' v : D) (σ1 : Fr), WS st' → AskA v → σ1.length = σ.length → (∀ j, j ≠ iS → j ≠ iK → j ≠ iQ → σ1[j]? = σ[j]?) → σ1[iS]? = some (.own st') → σ1[iK]? = some (.fro (.int k)) → σ1[iQ]? = some (.fro v) → wpS (sSeq (sIf (notB (tr (eCall sm [false, false] [eCall Jf [false, false, false] [eVar i0, eVar i1, eVar iQ], eCall Af [false, false, false] [eVar i0, eVar i1, eVar iQ]]) truG)) (sSeq (sRet (ec (.bl false)))
    (sNx)) (sNx))
    (sNx)) σ1 (fun fl σ2 => match fl with
      | .nx => LoopI σ iS iK iQ (M + se.length) xs σ2
      | .ct => LoopI σ iS iK iQ (M + se.length) xs σ2
      | .bk => Q .nx σ2
      | fl => Q fl σ2) := by
      intro st' v σ1 hs' hv w1 w2 w3 w4 w5
      have z0 : σ1[i0]? = some (.fro aa) := (w2 _ n0.1 n0.2.1 n0.2.2).trans g0
      have z1 : σ1[i1]? = some (.fro bb) := (w2 _ n1.1 n1.2.1 n1.2.2).trans g1
      simp [z0, z1, w5]
      refine wpF_mono (hJ aa bb v hd hv) (fun d o fs ⟨_, e1, e2, e3⟩ => ?_) fun c fs ⟨h1, _⟩ => (h1 hf).elim
      subst e1 e2 e3
      simp [z0, z1, w5]
      refine wpF_mono (hA aa bb v hd hf hv) (fun d o fs ⟨e1, e2, e3⟩ => ?_) fun _ _ h => h.elim
      subst e1 e2 e3
      simp
      refine wpF_mono (hS _ _ 0 (bl_gd _) (.inl (by simp [shp]))) (fun d o fs ⟨e1, e2, e3⟩ => ?_) fun _ _ h => h.elim
      subst e1 e2 e3
      simp
      exact ⟨st', _, _, hs', NF.fro _, NF.fro _, fun y hy => q4 y (List.mem_cons_of_mem _ hy), w1, w2, w3, w4, w5⟩
    have b1 : iS < σ'.length := (List.getElem?_eq_some_iff.mp q7).1
    have b2 : iK < σ'.length := (List.getElem?_eq_some_iff.mp q8).1
    have b3 : iQ < σ'.length := (List.getElem?_eq_some_iff.mp q9).1
    have k1 : (σ'.set iK (.fro (.int k)))[iK]? = some (.fro (.int k)) := List.getElem?_set_self b2
    have k2 : (σ'.set iK (.fro (.int k)))[iS]? = some (.own st) := by rw [List.getElem?_set_ne m1.symm]; exact q7
    have k3 : (σ'.set iK (.fro (.int k)))[iQ]? = some sq := by rw [List.getElem?_set_ne m3]; exact q9
    have k4 : (σ'.set iK (.fro (.int k)))[iE]? = some (.own (.lst se)) := by rw [List.getElem?_set_ne m4.2.1.symm, q6 _ m4.1 m4.2.1 m4.2.2]; exact gE
    have k5 : (σ'.set iK (.fro (.int k)))[iT]? = some (.fro (h.told [aa, bb])) := by rw [List.getElem?_set_ne m5.2.1.symm, q6 _ m5.1 m5.2.1 m5.2.2]; exact gT
    obtain ⟨hg, tl, et, tl0⟩ := H.told _ hd hf
    by_cases hkM : k < M
    · have hkM' : (k : Int) < (M : Int) := by omega
      have ho := hO 10 100000 100000000 tl st (by omega) (by omega) (by omega) tl0 (et ▸ hg) q1
      rw [← et] at ho
      simp [k1, k2, k5, hkM', hel_own k2]
      refine wpF_mono ho (fun d o fs ⟨e1, e2⟩ => ?_) fun _ _ h => h.elim
      obtain ⟨st', hs', e3, e4⟩ := e1.ask (by omega)
      subst e2 e3
      simp [setSl_own k2]
      have k6 : ((σ'.set iK (.fro (.int k))).set iS (.own st'))[iQ]? = some sq := by rw [List.getElem?_set_ne m2]; exact k3
      rw [k6, putV_nf q3]
      have := tail st' d (((σ'.set iK (.fro (.int k))).set iS (.own st')).set iQ (.fro d)) hs' (e4.up (by omega) (by omega)) (by simpa using q5) (fun j j1 j2 j3 => by
        rw [List.getElem?_set_ne (fun e => j3 e.symm), List.getElem?_set_ne (fun e => j1 e.symm), List.getElem?_set_ne (fun e => j2 e.symm)]; exact q6 j j1 j2 j3)
        (by rw [List.getElem?_set_ne m2.symm]; exact List.getElem?_set_self (by simpa using b1)) (by rw [List.getElem?_set_ne m3.symm, List.getElem?_set_ne m1]; exact k1) (List.getElem?_set_self (by simpa using b3))
      simp only [wpO_some, nxt_nx, Bool.false_eq_true, if_false]
      exact this
    · have hkM' : ¬ (k : Int) < (M : Int) := by omega
      simp [k1, k4, hkM', hel_own k4]
      have hg4 : R.get (σ'.set iK (.fro (.int k))) (.s iE) = some (.lst se) := by simp only [R.get, k4]
      simp [hg4, k1]
      refine wpO_ixL (by omega) (by omega) fun d hd2 => ?_
      simp
      rw [k3, putV_nf q3]
      have := tail st d ((σ'.set iK (.fro (.int k))).set iQ (.fro d)) q1 (hse d hd2) (by simpa using q5) (fun j j1 j2 j3 => by
        rw [List.getElem?_set_ne (fun e => j3 e.symm), List.getElem?_set_ne (fun e => j2 e.symm)]; exact q6 j j1 j2 j3)
        (by rw [List.getElem?_set_ne m2.symm]; exact k2) (by rw [List.getElem?_set_ne m3.symm]; exact k1) (List.getElem?_set_self (by simpa using b3))
      simp only [wpO_some, nxt_nx, Bool.false_eq_true, if_false]
      exact this
  · obtain ⟨st, sk, sq, e1, e2, e3, e4⟩ := hl.eq m1 m2 m3
    subst e4
    exact hQ st sk sq e1 e2 e3
/-! ### 3 argument(s) -/
def HF3 (h : Hf) (f : FSem) : Prop := ∀ aa bb cc : D, h.dom [aa, bb, cc] → wpF f [.fro aa, .fro bb, .fro cc] (fun d o fs => h.fit [aa, bb, cc] ∧ d = h.told [aa, bb, cc] ∧ o = false ∧ fs = [.fro aa, .fro bb, .fro cc]) (fun c fs => ¬ h.fit [aa, bb, cc] ∧ c = h.ex [aa, bb, cc] ∧ fs = [.fro aa, .fro bb, .fro cc])
open Classical in
def HJ3 (h : Hf) (f : FSem) : Prop := ∀ aa bb cc v : D, h.dom [aa, bb, cc] → AskA v → wpF f [.fro aa, .fro bb, .fro cc, .fro v] (fun d o fs => h.fit [aa, bb, cc] ∧ d = .bl (decide (h.acc [aa, bb, cc] v)) ∧ o = false ∧ fs = [.fro aa, .fro bb, .fro cc, .fro v]) (fun c fs => ¬ h.fit [aa, bb, cc] ∧ c = h.ex [aa, bb, cc] ∧ fs = [.fro aa, .fro bb, .fro cc, .fro v])
open Classical in
def HA3 (h : Hf) (f : FSem) : Prop := ∀ aa bb cc v : D, h.dom [aa, bb, cc] → h.fit [aa, bb, cc] → AskA v → wpF f [.fro aa, .fro bb, .fro cc, .fro v] (fun d o fs => d = .bl (decide (h.acc [aa, bb, cc] v)) ∧ o = false ∧ fs = [.fro aa, .fro bb, .fro cc, .fro v]) (fun _ _ => False)
def NearB3 (nx nb F : FSem) (t1 t2 : Str → Option Bool) : S := sSeq (sSet 4 (eLst [eVar 1, eVar 2, eVar 3]))
    (sSeq (sSet 5 (eCall nx [true, false] [eVar 0, ec (.int 3)]))
    (sSeq (sStore (eCall nb [true, false] [eVar 0, e2 ixG (eVar 4) (eVar 5)]) (eVar 4) (eVar 5))
    (sSeq (sTry (sSeq (sRet (eCall F [false, false, false] [e2 ixG (eVar 4) (ec (.int 0)), e2 ixG (eVar 4) (ec (.int 1)), e2 ixG (eVar 4) (ec (.int 2))]))
    (sNx)) [⟨t1, 6, .ret0⟩, ⟨t2, 6, .ret0⟩])
    (sNx))))
def UnfitB3 (F J : FSem) (t1 : Str → Option Bool) : S := sSeq (sFor (srcL (eLst [ec (.bl false), ec (.bl true)])) (gN 3) (sSeq (sTry (sSeq (sIf (tr (eVar 3) truG) (sSeq (sDrop (eCall J [false, false, false, false] [eVar 0, eVar 1, eVar 2, ec .non]))
    (sNx)) (sSeq (sDrop (eCall F [false, false, false] [eVar 0, eVar 1, eVar 2]))
    (sNx)))
    (sSeq (sRet (ec (.bl false)))
    (sNx))) [⟨t1, 4, .skip⟩])
    (sNx)))
    (sSeq (sRet (ec (.bl true)))
    (sNx))
def JudgeB3 (F it : FSem) (w : List Nat) (c : Int) : S := sSeq (sSet 4 (eCall F [false, false, false] [eVar 0, eVar 1, eVar 2]))
    (sSeq (sRet (eAnd truG (eCall it [false, false, false] [eVar 3, ec (.str w), ec (.int c)]) (eAnd truG (e1 (isiG ["tuple"]) (e2 ixG (eVar 3) (ec (.int 1)))) (eB (cmp2 eqG (eN (un1 reprG) [eVar 3]) (eN (un1 reprG) [eVar 4]))))))
    (sNx))
theorem near3_ok {h : Hf} (H : h.Ok) {nx nb F : FSem} {t1 t2 : Str → Option Bool} (tk : Tk t1 t2) (hn : NextOk nx) (hF : HF3 h F) (aa bb cc : D)
    (haa : ∀ st, WS st → wpF nb [.ref st, .fro aa] (fun d o fs => ∃ st', WS st' ∧ fs = [.ref st', .fro aa] ∧ o = false ∧ h.dom [d, bb, cc]) (fun _ _ => False))
    (hbb : ∀ st, WS st → wpF nb [.ref st, .fro bb] (fun d o fs => ∃ st', WS st' ∧ fs = [.ref st', .fro bb] ∧ o = false ∧ h.dom [aa, d, cc]) (fun _ _ => False))
    (hcc : ∀ st, WS st → wpF nb [.ref st, .fro cc] (fun d o fs => ∃ st', WS st' ∧ fs = [.ref st', .fro cc] ∧ o = false ∧ h.dom [aa, bb, d]) (fun _ _ => False))
    (st : D) (hs : WS st) : wpF (mkF 7 (NearB3 nx nb F t1 t2)) (.ref st :: [.fro aa, .fro bb, .fro cc]) (NearQ [.fro aa, .fro bb, .fro cc]) (fun _ _ => False) := by
  rw [wf_mk]
  rw [show frame 7 (.ref st :: [.fro aa, .fro bb, .fro cc]) = [.par st, .fro aa, .fro bb, .fro cc, .no, .no, .no] from rfl]
  unfold NearB3
  simp
  refine hn.run (lim := 3) hs (by omega) (by omega) fun p st1 h1 h2 hs1 => ?_
  simp
  have fin : ∀ (st' q0 q1 q2 : D) (p : Int), WS st' → h.dom [q0, q1, q2] → wpS (sTry (sSeq (sRet (eCall F [false, false, false] [e2 ixG (eVar 4) (ec (.int 0)), e2 ixG (eVar 4) (ec (.int 1)), e2 ixG (eVar 4) (ec (.int 2))]))
    (sNx)) [⟨t1, 6, .ret0⟩, ⟨t2, 6, .ret0⟩]) [.par st', .fro aa, .fro bb, .fro cc, .own (.lst [q0, q1, q2]), .fro (.int p), .no] (fun fl σ => nxt sNx (fun fl σ => endQ (.ref st :: [.fro aa, .fro bb, .fro cc]) (NearQ [.fro aa, .fro bb, .fro cc]) (fun _ _ => False) fl σ) fl σ) := by
    intro st' q0 q1 q2 p hs' hd
    simp
    refine wpF_mono (hF q0 q1 q2 hd) (fun d o fs ⟨hf, e1, e2, e3⟩ => ?_) fun c fs ⟨h1, h2, h3⟩ => ?_
    · subst e1 e2 e3
      simp
      exact ⟨st', hs', rfl, rfl, ToldG.ask (H.told _ hd hf).1⟩
    · subst h3
      rcases H.ex _ hd h1 with e | e
      · rw [e] at h2; subst h2
        simp [tk.a]
        exact ⟨st', hs', rfl, rfl, nil_ask⟩
      · rw [e] at h2; subst h2
        simp [tk.b, tk.c]
        exact ⟨st', hs', rfl, rfl, nil_ask⟩
  simp at fin
  have hp : p = 0 ∨ p = 1 ∨ p = 2 := by omega
  rcases hp with rfl | rfl | rfl
  · simp
    refine wpF_mono (haa st1 hs1) (fun d o fs ⟨st2, hs2, e1, e2, e3⟩ => ?_) fun _ _ h => h.elim
    subst e1 e2
    simp
    exact fin st2 d bb cc 0 hs2 e3
  · simp
    refine wpF_mono (hbb st1 hs1) (fun d o fs ⟨st2, hs2, e1, e2, e3⟩ => ?_) fun _ _ h => h.elim
    subst e1 e2
    simp
    exact fin st2 aa d cc 1 hs2 e3
  · simp
    refine wpF_mono (hcc st1 hs1) (fun d o fs ⟨st2, hs2, e1, e2, e3⟩ => ?_) fun _ _ h => h.elim
    subst e1 e2
    simp
    exact fin st2 aa bb d 2 hs2 e3
theorem unfit3_ok {h : Hf} {F J : FSem} {t1 t2 : Str → Option Bool} (tk : Tk t1 t2) (hF : HF3 h F) (hJ : HJ3 h J) (aa bb cc : D) (hd : h.dom [aa, bb, cc]) (hf : ¬ h.fit [aa, bb, cc]) (he : h.ex [aa, bb, cc] = "UnfitGrid") :
    wpF (mkF 5 (UnfitB3 F J t1)) [.fro aa, .fro bb, .fro cc] (fun d o fs => d = .bl true ∧ o = false ∧ fs = [.fro aa, .fro bb, .fro cc]) (fun _ _ => False) := by
  rw [wf_mk]
  rw [show frame 5 [.fro aa, .fro bb, .fro cc] = [.fro aa, .fro bb, .fro cc, .no, .no] from rfl]
  unfold UnfitB3
  simp
  refine ws_forG ?_
  simp [forGo_cons, forGo_nil]
  refine wpF_mono (hF aa bb cc hd) (fun d o fs ⟨h1, _⟩ => (hf h1).elim) fun c fs ⟨h1, h2, h3⟩ => ?_
  rw [he] at h2
  subst h2 h3
  simp [tk.a, forGo_cons, forGo_nil]
  refine wpF_mono (hJ aa bb cc .non hd (ask_non (by omega))) (fun d o fs ⟨h1, _⟩ => (hf h1).elim) fun c fs ⟨h1, h2, h3⟩ => ?_
  rw [he] at h2
  subst h2 h3
  simp [tk.a, forGo_cons, forGo_nil]
theorem judge3_ok {h : Hf} (H : h.Ok) {F it : FSem} (hF : HF3 h F) (hi : ToldOk it) {w : List Nat} {c : Nat} (hw : ∀ x ∈ w, x < 1114112) (hr : ∀ aa bb cc, h.dom [aa, bb, cc] → h.fit [aa, bb, cc] → ReprD w c (h.told [aa, bb, cc])) (hc : 2 ≤ c) (ha : ∀ aa bb cc v, h.dom [aa, bb, cc] → h.fit [aa, bb, cc] → (h.acc [aa, bb, cc] v ↔ v = h.told [aa, bb, cc])) : HJ3 h (mkF 5 (JudgeB3 F it w c)) := by
  intro aa bb cc v hd hv
  rw [wf_mk]
  rw [show frame 5 [.fro aa, .fro bb, .fro cc, .fro v] = [.fro aa, .fro bb, .fro cc, .fro v, .no] from rfl]
  unfold JudgeB3
  simp
  refine wpF_mono (hF aa bb cc hd) (fun d o fs ⟨hf, e1, e2, e3⟩ => ?_) fun cc fs ⟨h1, h2, h3⟩ => ?_
  · subst e1 e2 e3
    simp
    refine wpF_mono (hi _ _ v hv w hw c (by omega)) (fun d o fs ⟨e1, e2, e3⟩ => ?_) fun _ _ h => h.elim
    subst e1 e2 e3
    simp
    obtain ⟨l, r, et, hit, hc2⟩ := hr aa bb cc hd hf
    have hg := (H.told _ hd hf).1
    rw [show (h.acc [aa, bb, cc] v) = (v = h.told [aa, bb, cc]) from propext (ha aa bb cc v hd hf)]
    rw [et] at hg ⊢
    split
    · rename_i hb
      obtain ⟨vl, rfl, r1, r2, r3⟩ := judge_repr hv (by omega) (by omega) hit (Gd.up hg (n' := 20) (by omega) (Nat.le_refl _) fun i h => h) (by omega) (by omega) (by simpa [hc2] using hb)
      generalize shownL (.tup (.str w :: .tup l :: r)) = t2 at r2 r3
      generalize shownL (.tup vl) = t1 at r1 r3
      match vl, hb with
      | x :: y :: vl, hb =>
        have x1 : ixG (.tup (x :: y :: vl)) (.int 1) = some (y, false) := ix_natT _ 1 _ rfl
        simp [x1, sub_tup]
        split
        · simp [r1, r2, r3]
          exact hf
        · rename_i hy
          refine ⟨hf, ?_⟩
          have hy2 : y ≠ .tup l := fun e => hy (by rw [e]; rfl)
          simp only [Bool.not_eq_true] at hy
          simp [hy, hy2]
      | [], hb => simp [toldB] at hb
      | [x], hb => simp [toldB] at hb; omega
    · rename_i hb
      refine ⟨hf, ?_⟩
      have hv2 : v ≠ .tup (.str w :: .tup l :: r) := fun e => hb (by rw [e]; simp [toldB, strB, hc2])
      simp only [Bool.not_eq_true] at hb
      simp [hb, hv2]
  · subst h2 h3
    simp
    exact h1
theorem loop3_ok {h : Hf} (H : h.Ok) {Jf Af sm od : FSem} (hJ : HJ3 h Jf) (hA : HA3 h Af) (hS : SameOk sm) (hO : OddOk 10 od) {iS iE iK iQ iT i0 i1 i2 : Nat} {M : Nat} {σ : Fr} {se : List D} {aa bb cc : D} {items : List D} {Q : Fl → Fr → Prop} (hd : h.dom [aa, bb, cc]) (hf : h.fit [aa, bb, cc])
    (m1 : iS ≠ iK) (m2 : iS ≠ iQ) (m3 : iK ≠ iQ) (m4 : iE ≠ iS ∧ iE ≠ iK ∧ iE ≠ iQ) (m5 : iT ≠ iS ∧ iT ≠ iK ∧ iT ≠ iQ) (n0 : i0 ≠ iS ∧ i0 ≠ iK ∧ i0 ≠ iQ) (n1 : i1 ≠ iS ∧ i1 ≠ iK ∧ i1 ≠ iQ) (n2 : i2 ≠ iS ∧ i2 ≠ iK ∧ i2 ≠ iQ) (gE : σ[iE]? = some (.own (.lst se))) (gT : σ[iT]? = some (.fro (h.told [aa, bb, cc]))) (g0 : σ[i0]? = some (.fro aa)) (g1 : σ[i1]? = some (.fro bb)) (g2 : σ[i2]? = some (.fro cc)) (hse : ∀ x ∈ se, AskA x)
    (h0 : LoopI σ iS iK iQ (M + se.length) items σ) (hQ : ∀ (st : D) (sk sq : Sl), WS st → NF sk → NF sq → Q .nx (((σ.set iS (.own st)).set iK sk).set iQ sq)) :
    wpS (forGo [] (gN iK) (sSeq (sSet iQ (eIf (cmp2 ltG (eVar iK) (ec (.int M))) (eCall od [true, false] [eVar iS, eVar iT]) (e2 ixG (eVar iE) (e2 subG (eVar iK) (ec (.int M))))))
    (sSeq (sIf (notB (tr (eCall sm [false, false] [eCall Jf [false, false, false, false] [eVar i0, eVar i1, eVar i2, eVar iQ], eCall Af [false, false, false, false] [eVar i0, eVar i1, eVar i2, eVar iQ]]) truG)) (sSeq (sRet (ec (.bl false)))
    (sNx)) (sNx))
    (sNx))) items) σ Q := by
  refine ws_forGo (LoopI σ iS iK iQ (M + se.length)) h0 (fun x xs σ' ⟨st, sk, sq, q1, q2, q3, q4, q5, q6, q7, q8, q9⟩ => ?_) fun σ' hl => ?_
  · obtain ⟨k, rfl, hk⟩ := q4 x List.mem_cons_self
    refine wp_gN_nf q2 q8 ?_
    have tail : ∀ (st' v : D) (σ1 : Fr), WS st' → AskA v → σ1.length = σ.length → (∀ j, j ≠ iS → j ≠ iK → j ≠ iQ → σ1[j]? = σ[j]?) → σ1[iS]? = some (.own st') → σ1[iK]? = some (.fro (.int k)) → σ1[iQ]? = some (.fro v) → wpS (sSeq (sIf (notB (tr (eCall sm [false, false] [eCall Jf [false, false, false, false] [eVar i0, eVar i1, eVar i2, eVar iQ], eCall Af [false, false, false, false] [eVar i0, eVar i1, eVar i2, eVar iQ]]) truG)) (sSeq (sRet (ec (.bl false)))
    (sNx)) (sNx))
    (sNx)) σ1 (fun fl σ2 => match fl with
      | .nx => LoopI σ iS iK iQ (M + se.length) xs σ2
      | .ct => LoopI σ iS iK iQ (M + se.length) xs σ2
      | .bk => Q .nx σ2
      | fl => Q fl σ2) := by
      intro st' v σ1 hs' hv w1 w2 w3 w4 w5
      have z0 : σ1[i0]? = some (.fro aa) := (w2 _ n0.1 n0.2.1 n0.2.2).trans g0
      have z1 : σ1[i1]? = some (.fro bb) := (w2 _ n1.1 n1.2.1 n1.2.2).trans g1
      have z2 : σ1[i2]? = some (.fro cc) := (w2 _ n2.1 n2.2.1 n2.2.2).trans g2
      simp [z0, z1, z2, w5]
      refine wpF_mono (hJ aa bb cc v hd hv) (fun d o fs ⟨_, e1, e2, e3⟩ => ?_) fun c fs ⟨h1, _⟩ => (h1 hf).elim
      subst e1 e2 e3
      simp [z0, z1, z2, w5]
      refine wpF_mono (hA aa bb cc v hd hf hv) (fun d o fs ⟨e1, e2, e3⟩ => ?_) fun _ _ h => h.elim
      subst e1 e2 e3
      simp
      refine wpF_mono (hS _ _ 0 (bl_gd _) (.inl (by simp [shp]))) (fun d o fs ⟨e1, e2, e3⟩ => ?_) fun _ _ h => h.elim
      subst e1 e2 e3
      simp
      exact ⟨st', _, _, hs', NF.fro _, NF.fro _, fun y hy => q4 y (List.mem_cons_of_mem _ hy), w1, w2, w3, w4, w5⟩
    have b1 : iS < σ'.length := (List.getElem?_eq_some_iff.mp q7).1
    have b2 : iK < σ'.length := (List.getElem?_eq_some_iff.mp q8).1
    have b3 : iQ < σ'.length := (List.getElem?_eq_some_iff.mp q9).1
    have k1 : (σ'.set iK (.fro (.int k)))[iK]? = some (.fro (.int k)) := List.getElem?_set_self b2
    have k2 : (σ'.set iK (.fro (.int k)))[iS]? = some (.own st) := by rw [List.getElem?_set_ne m1.symm]; exact q7
    have k3 : (σ'.set iK (.fro (.int k)))[iQ]? = some sq := by rw [List.getElem?_set_ne m3]; exact q9
    have k4 : (σ'.set iK (.fro (.int k)))[iE]? = some (.own (.lst se)) := by rw [List.getElem?_set_ne m4.2.1.symm, q6 _ m4.1 m4.2.1 m4.2.2]; exact gE
    have k5 : (σ'.set iK (.fro (.int k)))[iT]? = some (.fro (h.told [aa, bb, cc])) := by rw [List.getElem?_set_ne m5.2.1.symm, q6 _ m5.1 m5.2.1 m5.2.2]; exact gT
    obtain ⟨hg, tl, et, tl0⟩ := H.told _ hd hf
    by_cases hkM : k < M
    · have hkM' : (k : Int) < (M : Int) := by omega
      have ho := hO 10 100000 100000000 tl st (by omega) (by omega) (by omega) tl0 (et ▸ hg) q1
      rw [← et] at ho
      simp [k1, k2, k5, hkM', hel_own k2]
      refine wpF_mono ho (fun d o fs ⟨e1, e2⟩ => ?_) fun _ _ h => h.elim
      obtain ⟨st', hs', e3, e4⟩ := e1.ask (by omega)
      subst e2 e3
      simp [setSl_own k2]
      have k6 : ((σ'.set iK (.fro (.int k))).set iS (.own st'))[iQ]? = some sq := by rw [List.getElem?_set_ne m2]; exact k3
      rw [k6, putV_nf q3]
      have := tail st' d (((σ'.set iK (.fro (.int k))).set iS (.own st')).set iQ (.fro d)) hs' (e4.up (by omega) (by omega)) (by simpa using q5) (fun j j1 j2 j3 => by
        rw [List.getElem?_set_ne (fun e => j3 e.symm), List.getElem?_set_ne (fun e => j1 e.symm), List.getElem?_set_ne (fun e => j2 e.symm)]; exact q6 j j1 j2 j3)
        (by rw [List.getElem?_set_ne m2.symm]; exact List.getElem?_set_self (by simpa using b1)) (by rw [List.getElem?_set_ne m3.symm, List.getElem?_set_ne m1]; exact k1) (List.getElem?_set_self (by simpa using b3))
      simp only [wpO_some, nxt_nx, Bool.false_eq_true, if_false]
      exact this
    · have hkM' : ¬ (k : Int) < (M : Int) := by omega
      simp [k1, k4, hkM', hel_own k4]
      have hg4 : R.get (σ'.set iK (.fro (.int k))) (.s iE) = some (.lst se) := by simp only [R.get, k4]
      simp [hg4, k1]
      refine wpO_ixL (by omega) (by omega) fun d hd2 => ?_
      simp
      rw [k3, putV_nf q3]
      have := tail st d ((σ'.set iK (.fro (.int k))).set iQ (.fro d)) q1 (hse d hd2) (by simpa using q5) (fun j j1 j2 j3 => by
        rw [List.getElem?_set_ne (fun e => j3 e.symm), List.getElem?_set_ne (fun e => j2 e.symm)]; exact q6 j j1 j2 j3)
        (by rw [List.getElem?_set_ne m2.symm]; exact k2) (by rw [List.getElem?_set_ne m3.symm]; exact k1) (List.getElem?_set_self (by simpa using b3))
      simp only [wpO_some, nxt_nx, Bool.false_eq_true, if_false]
      exact this
  · obtain ⟨st, sk, sq, e1, e2, e3, e4⟩ := hl.eq m1 m2 m3
    subst e4
    exact hQ st sk sq e1 e2 e3
end Ev

set_option Elab.async false
set_option linter.all false
set_option maxRecDepth 100000
set_option maxHeartbeats 4000000
namespace Ev
open PySem
section
variable {σ : Fr} {X : Str → Fr → Prop} {Q : Fl → Fr → Prop}
@[simp] theorem wp_dicT {Q : R → Fr → Prop} : wpM eDicT σ Q X ↔ Q (.v (.dic [(.non, .non)]) true) σ := ⟨fun h => h, fun h => h⟩
def dstK (rs : List R) : S := match rs with
  | [r, .s k, ri] => sM (get ri) fun di => sM (froz1 r) fun d => dputAt k di d
  | _ => sNo
@[simp] theorem ws_dstore {f fo fi : SE} : wpS (sDStore f fo fi) σ Q ↔ wpM (eAll [f, fo, fi]) σ (fun rs σ1 => wpS (dstK rs) σ1 Q) (fun c σ1 => Q (.ex c) σ1) := by
  have e : sDStore f fo fi = sM (eAll [f, fo, fi]) dstK := by
    unfold sDStore
    congr 1
  rw [e]; exact ws_m
@[simp] theorem ws_dstK {r ri : R} {k : Nat} : wpS (dstK [r, .s k, ri]) σ Q ↔ wpM (get ri) σ (fun di σ1 => wpM (froz1 r) σ1 (fun d σ2 => wpS (dputAt k di d) σ2 Q) (fun c σ1 => Q (.ex c) σ1)) (fun c σ1 => Q (.ex c) σ1) := ws_m.trans (wpM_q fun _ _ => ws_m)
def dicOf : D → Option (List (D × D))
  | .dic l => some l
  | _ => none
@[simp] theorem dicOf_dic {l : List (D × D)} : dicOf (.dic l) = some l := rfl
@[simp] theorem ws_dputAt {k : Nat} {key v : D} : wpS (dputAt k key v) σ Q ↔ wpO (hel σ k) fun t => wpO (dicOf t) fun ps => (dKey ps key = true ∧ ps.length < LIM) ∧ Q .nx (setSl σ k (.dic (dputL ps key v))) := by
  unfold wpS dputAt
  cases h : hel σ k with
  | none => simp [h]
  | some t =>
    cases t with
    | dic ps =>
      simp only [wpO_some, dicOf]
      by_cases hh : dKey ps key = true ∧ ps.length < LIM <;> simp [hh]
    | _ => simp [dicOf]
/-! ### comprehensions and loops over the images of a list -/
theorem wpLc_A {α : Type} (φ : α → D) (f : α → Option D) {ws : List (Nat × D)} {vs : List Nat} {turn : D → M (Option D)} {l : List α} {acc : List D} {Q : List D → Fr → Prop} (ok : okW σ ws) (hl : acc.length + l.length ≤ 1000000)
    (hs : ∀ x ∈ l, wpM (turn (φ x)) σ (fun o σ1 => o = f x ∧ wipeD σ1 vs = σ) (fun _ _ => False)) (he : Q (acc ++ l.filterMap f) σ) : wpLc ws vs turn (l.map φ) acc σ Q := by
  refine wpLc_inv (fun rest a σ' => ∃ r : List α, rest = r.map φ ∧ (∀ x ∈ r, x ∈ l) ∧ σ' = σ ∧ a.length + r.length ≤ 1000000 ∧ a ++ r.filterMap f = acc ++ l.filterMap f) ⟨l, rfl, fun _ h => h, rfl, hl, rfl⟩ (fun x xs a σ' ⟨r, h1, h2, h3, h4, h5⟩ => ?_) fun a σ' ⟨r, h1, h2, h3, h4, h5⟩ => ?_
  · subst h3
    cases r with
    | nil => cases h1
    | cons y r =>
      rw [List.map_cons] at h1
      injection h1 with h1 h1'
      subst h1 h1'
      rw [List.length_cons] at h4
      refine ⟨ok, by have : LIM = 1000000 := rfl; omega, wpM_mono (hs y (h2 y List.mem_cons_self)) (fun o σ1 ⟨e1, e2⟩ => ⟨r, rfl, fun z hz => h2 z (List.mem_cons_of_mem _ hz), e2, ?_, ?_⟩) fun _ _ h => h⟩
      · rw [List.length_append]
        have : o.toList.length ≤ 1 := by cases o <;> simp
        omega
      · subst e1
        rw [← h5, List.filterMap_cons]
        cases f y <;> simp
  · subst h3
    cases r with
    | nil =>
      rw [List.filterMap_nil, List.append_nil] at h5
      subst h5
      exact ⟨ok, he⟩
    | cons y r => cases h1
theorem wpLc2_A {α : Type} (φ : α → D) (F : α → List D) {ws : List (Nat × D)} {vs vs1 : List Nat} {head : D → M (Option Src)} {turn : D → M (Option D)} {l : List α} {acc : List D} {Q : List D → Fr → Prop} (ok : okW σ ws) (hl : acc.length + (l.flatMap F).length ≤ 900000)
    (hs : ∀ x ∈ l, ∀ a, a.length + (F x).length ≤ 900000 → wpM (head (φ x)) σ (fun o σ1 => lc2Q ws vs vs1 turn a (fun a' σ2 => a' = a ++ F x ∧ σ2 = σ) o σ1) (fun _ _ => False)) (he : Q (acc ++ l.flatMap F) σ) : wpLc2 ws vs vs1 head turn (l.map φ) acc σ Q := by
  refine wpLc2_inv (fun rest a σ' => ∃ r : List α, rest = r.map φ ∧ (∀ x ∈ r, x ∈ l) ∧ σ' = σ ∧ a ++ r.flatMap F = acc ++ l.flatMap F) ⟨l, rfl, fun _ h => h, rfl, rfl⟩ (fun x xs a σ' ⟨r, h1, h2, h3, h5⟩ => ?_) fun a σ' ⟨r, h1, h2, h3, h5⟩ => ?_
  · subst h3
    cases r with
    | nil => cases h1
    | cons y r =>
      rw [List.map_cons] at h1
      injection h1 with h1 h1'
      subst h1 h1'
      have hlen := congrArg List.length h5
      simp only [List.flatMap_cons, List.length_append] at hlen
      refine ⟨ok, wpM_mono (hs y (h2 y List.mem_cons_self) a (by omega)) (fun o σ1 h => ?_) fun _ _ h => h⟩
      have key : ∀ (a' : List D) (σ2 : Fr), (a' = a ++ F y ∧ σ2 = σ') → ∃ r' : List α, r.map φ = r'.map φ ∧ (∀ x ∈ r', x ∈ l) ∧ σ2 = σ' ∧ a' ++ r'.flatMap F = acc ++ l.flatMap F := fun a' σ2 ⟨e1, e2⟩ =>
        ⟨r, rfl, fun z hz => h2 z (List.mem_cons_of_mem _ hz), e2, by rw [e1, ← h5, List.flatMap_cons, List.append_assoc]⟩
      cases o with
      | none => exact key _ _ h
      | some s =>
        obtain ⟨q1, q2⟩ := h
        refine ⟨q1, ?_⟩
        unfold wpLc at q2 ⊢
        split at q2
        · rename_i e; first | exact key _ _ q2 | (rw [e]; exact key _ _ q2)
        · exact q2.elim
  · subst h3
    cases r with
    | nil =>
      rw [List.flatMap_nil, List.append_nil] at h5
      subst h5
      exact ⟨ok, he⟩
    | cons y r => cases h1
theorem ws_forA {α : Type} (φ : α → D) {ws : List (Nat × D)} {g : D → M Unit} {b : S} (I : List α → Fr → Prop) {l : List α} (h0 : I [] σ) (hs : ∀ dn x rest σ, l = dn ++ x :: rest → I dn σ → okW σ ws ∧ wpM (g (φ x)) σ (fun _ σ1 => wpS b σ1 fun fl σ2 => match fl with
      | .nx => I (dn ++ [x]) σ2
      | .ct => I (dn ++ [x]) σ2
      | .bk => Q .nx σ2
      | fl => Q fl σ2) (fun _ _ => False)) (he : ∀ σ, I l σ → okW σ ws ∧ Q .nx σ) : wpS (forGo ws g b (l.map φ)) σ Q := by
  refine ws_forGoW (fun rest σ => ∃ dn r : List α, rest = r.map φ ∧ l = dn ++ r ∧ I dn σ) ⟨[], l, rfl, rfl, h0⟩ (fun x xs σ ⟨dn, r, h1, h2, h3⟩ => ?_) fun σ ⟨dn, r, h1, h2, h3⟩ => ?_
  · cases r with
    | nil => cases h1
    | cons y r =>
      rw [List.map_cons] at h1
      injection h1 with h1 h1'
      subst h1 h1'
      obtain ⟨q1, q2⟩ := hs dn y r σ h2 h3
      refine ⟨q1, wpM_mono q2 (fun _ σ1 q => wpS_mono q fun fl σ2 q => ?_) fun _ _ h => h⟩
      have key : I (dn ++ [y]) σ2 → ∃ dn' r' : List α, r.map φ = r'.map φ ∧ l = dn' ++ r' ∧ I dn' σ2 := fun q => ⟨dn ++ [y], r, rfl, by rw [h2]; simp, q⟩
      cases fl <;> first | exact key q | exact q
  · cases r with
    | nil =>
      rw [List.append_nil] at h2
      subst h2
      exact he σ h3
    | cons y r => cases h1
end
/-! ### tables and cells -/
@[simp] theorem itemsTab {rows : List (List Int)} : itemsOf (tabI rows) = some (rows.map tupI) := rfl
@[simp] theorem lenTab {rows : List (List Int)} : lenG (tabI rows) = some (.int rows.length, false) := by unfold tabI; simp
@[simp] theorem tupG_ints {l : List Int} : tupG (.lst (l.map .int)) = some (tupI l, false) := rfl
@[simp] theorem tupG_rows {l : List (List Int)} : tupG (.lst (l.map tupI)) = some (tabI l, false) := rfl
theorem ix_tab {rows : List (List Int)} {k : Nat} (h : k < rows.length) : ixG (tabI rows) (.int (k : Int)) = some (tupI rows[k], false) := ix_natT _ k _ (by simp [h])
theorem ix_row {r : List Int} {k : Nat} (h : k < r.length) : ixG (tupI r) (.int (k : Int)) = some (.int r[k], false) := ix_natT _ k _ (by simp [h])
def cD (p : Nat × Nat) : D := .tup [.int p.1, .int p.2]
@[simp] theorem cD0 {p : Nat × Nat} : ixG (cD p) (.int 0) = some (.int p.1, false) := ix_natT _ 0 _ rfl
@[simp] theorem cD1 {p : Nat × Nat} : ixG (cD p) (.int 1) = some (.int p.2, false) := ix_natT _ 1 _ rfl
def cellsN (h w : Nat) : List (Nat × Nat) := (List.range h).flatMap fun r => (List.range w).map fun c => (r, c)
theorem cellsN_mem {h w : Nat} {p : Nat × Nat} : p ∈ cellsN h w ↔ p.1 < h ∧ p.2 < w := by
  obtain ⟨r, c⟩ := p
  simp [cellsN]
theorem cellsN_len (h w : Nat) : (cellsN h w).length = h * w := by
  unfold cellsN
  rw [List.length_flatMap]
  simp [List.map_const']
/-- a table: rows as long as one another, not empty -/
def Rect (rows : List (List Int)) (h w : Nat) : Prop := rows.length = h ∧ (∀ r ∈ rows, r.length = w) ∧ 0 < h ∧ 0 < w
def rowAt (rows : List (List Int)) (k : Nat) : List Int := rows.getD k []
def itA (r : List Int) (k : Nat) : Int := r.getD k 0
def cellA (rows : List (List Int)) (p : Nat × Nat) : Int := itA (rowAt rows p.1) p.2
theorem Rect.row {rows : List (List Int)} {h w : Nat} (hr : Rect rows h w) {k : Nat} (hk : k < h) : ixG (tabI rows) (.int (k : Int)) = some (tupI (rowAt rows k), false) ∧ (rowAt rows k).length = w ∧ rowAt rows k ∈ rows := by
  have hk' : k < rows.length := by rw [hr.1]; exact hk
  have e : rowAt rows k = rows[k] := by simp [rowAt, hk']
  rw [e]
  exact ⟨ix_tab hk', hr.2.1 _ (List.getElem_mem hk'), List.getElem_mem hk'⟩
theorem ix_rowD {r : List Int} {k : Nat} (h : k < r.length) : ixG (tupI r) (.int (k : Int)) = some (.int (itA r k), false) := by
  have e : itA r k = r[k] := by simp [itA, h]
  rw [e]; exact ix_row h
theorem Rect.row0 {rows : List (List Int)} {h w : Nat} (hr : Rect rows h w) : ixG (tabI rows) (.int 0) = some (tupI (rowAt rows 0), false) ∧ (rowAt rows 0).length = w := by
  have := hr.row (k := 0) hr.2.2.1
  exact ⟨this.1, this.2.1⟩
theorem cells_of_ok {rows : List (List Int)} {h w : Nat} (hr : Rect rows h w) (hb : h * w ≤ 10000) (hh : h ≤ 10000) (hw : w ≤ 10000) : wpF (mkF 3 B_cells_of) [.fro (tabI rows)] (fun d o fs => d = .lst ((cellsN h w).map cD) ∧ fs = [.fro (tabI rows)]) (fun _ _ => False) := by
  rw [wf_mk]; rw [show frame 3 [.fro (tabI rows)] = [.fro (tabI rows), .no, .no] from rfl]
  unfold B_cells_of
  simp [hr.1, rng_len h (by omega)]
  refine wpLc2_A (fun (k : Nat) => D.int (k : Int)) (fun r => (List.range w).map fun c => cD (r, c)) (okW_nil _) ?_ (fun r hrm a ha => ?_) ?_
  · have := cellsN_len h w
    simp [List.length_flatMap, List.map_const']; omega
  · obtain ⟨e1, e2⟩ := hr.row0
    simp [wipeD, e1, e2, rng_len w (by omega)]
    have ha' : a.length + w ≤ 900000 := by simpa using ha
    refine wpLc_A (fun (k : Nat) => D.int (k : Int)) (fun c => some (cD (r, c))) (l := List.range w) (okW_nil _) (by simp; omega) (fun c hc => ?_) ?_
    · simp [wipeD, cD]
    · simp [wipeD]
  · simp [restore, wipeD, cellsN, List.map_flatMap, Function.comp_def]
def LCI (rows : List (List Int)) (w : Nat) (dn : List Nat) (σ : Fr) : Prop := ∃ s2, NF s2 ∧ σ = [.fro (tabI rows), .own (.lst ((dn.flatMap fun r => (List.range w).map fun c => (r, c)).map cD)), s2, .no]
theorem law_cells_ok {rows : List (List Int)} {h w : Nat} (hr : Rect rows h w) (hb : h * w ≤ 10000) (hh : h ≤ 10000) (hw : w ≤ 10000) : wpF (mkF 4 B_law_cells) [.fro (tabI rows)] (fun d o fs => d = .lst ((cellsN h w).map cD) ∧ fs = [.fro (tabI rows)]) (fun _ _ => False) := by
  rw [wf_mk]; rw [show frame 4 [.fro (tabI rows)] = [.fro (tabI rows), .no, .no, .no] from rfl]
  unfold B_law_cells
  simp
  refine ws_forG ?_
  simp [hr.1, rng_len h (by omega)]
  refine ws_forA (fun (k : Nat) => D.int (k : Int)) (LCI rows w) ⟨.no, NF.no, rfl⟩ (fun dn r rest σ hl ⟨s2, q1, q2⟩ => ⟨okW_nil _, ?_⟩) fun σ ⟨s2, q1, q2⟩ => ⟨okW_nil _, ?_⟩
  · subst q2
    refine wp_gN_nf q1 rfl ?_
    obtain ⟨e1, e2⟩ := hr.row0
    simp [wipeD, e1, e2, rng_len w (by omega)]
    refine wpLc_A (fun (k : Nat) => D.int (k : Int)) (fun c => some (cD (r, c))) (l := List.range w) (okW_nil _) (by simp; omega) (fun c hc => ?_) ?_
    · simp [wipeD, cD]
    · have hlen : (dn.flatMap fun r => (List.range w).map fun c => (r, c)).length + w ≤ 10000 := by
        have e := cellsN_len h w
        unfold cellsN at e
        rw [hl] at e
        simp only [List.flatMap_append, List.length_append, List.flatMap_cons, List.length_map, List.length_range] at e
        omega
      have hadd := addL (a := (dn.flatMap fun r => (List.range w).map fun c => (r, c)).map cD) (b := (List.range w).map fun c => cD (r, c)) (by rw [List.length_map, List.length_map, List.length_range]; omega)
      simp only [List.nil_append, List.filterMap_eq_map']
      have e3 : (((dn ++ [r]).flatMap fun r => (List.range w).map fun c => (r, c)).map cD) = ((dn.flatMap fun r => (List.range w).map fun c => (r, c)).map cD) ++ (List.range w).map fun c => cD (r, c) := by simp [List.flatMap_append, List.map_append, Function.comp_def]
      have key : LCI rows w (dn ++ [r]) [.fro (tabI rows), .own (.lst (((dn.flatMap fun r => (List.range w).map fun c => (r, c)).map cD) ++ (List.range w).map fun c => cD (r, c))), .fro (.int r), .no] := ⟨.fro (.int r), NF.fro _, by rw [e3]⟩
      generalize (dn.flatMap fun r => (List.range w).map fun c => (r, c)).map cD = z1 at hadd key ⊢
      simp [restore, hadd]
      exact key
  · subst q2
    simp [cellsN, retOf]
end Ev

set_option Elab.async false
set_option linter.all false
set_option maxRecDepth 100000
set_option maxHeartbeats 4000000
namespace Ev
open PySem
/-! ### _law_neighbour, on nests of tuples that are not empty -/
def Tn (L J : Nat) : Nat → D → Prop
  | 0, d => ∃ i : Int, d = .int i ∧ i.natAbs ≤ J
  | k + 1, d => ∃ l, d = .tup l ∧ (l.length ≤ L ∧ 1 ≤ l.length) ∧ ∀ x ∈ l, Tn L J k x
theorem Tn.up {L J J' : Nat} (h : J ≤ J') : ∀ {k : Nat} {d : D}, Tn L J k d → Tn L J' k d
  | 0, d, ⟨i, e, hi⟩ => ⟨i, e, by omega⟩
  | k + 1, d, ⟨l, e, h1, h2⟩ => ⟨l, e, h1, fun x hx => (h2 x hx).up h⟩
def NnP (L J k : Nat) (v : D) (d : D) (o : Bool) (fs : List Ar) : Prop := ∃ st', WS st' ∧ fs = [.ref st', .fro v] ∧ o = false ∧ Tn L (J + 1) k d
theorem Tn.notStr {L J k : Nat} {d : D} (h : Tn L J k d) : isS d = false := by
  cases k with
  | zero => obtain ⟨i, rfl, _⟩ := h; rfl
  | succ k => obtain ⟨l, rfl, _⟩ := h; rfl
theorem Tn.shp {L J : Nat} : ∀ {k n : Nat} {d : D}, Tn L J k d → k ≤ n → shp n d = true
  | 0, n, d, ⟨i, e, hi⟩, _ => by subst e; simp [Ev.shp]
  | k + 1, 0, d, _, h => by omega
  | k + 1, n + 1, d, ⟨l, e, h1, h2⟩, h => by
    subst e
    simp only [Ev.shp]
    exact shpL_mem.mpr fun x hx => (h2 x hx).shp (by omega)
theorem nn_ok (nx self : FSem) (hn : NextOk nx) (L J : Nat) (hL : L ≤ 1000) (k : Nat) (hk : k ≤ 60) (v : D) (hv : Tn L J k v) (st : D) (hs : WS st)
    (ih : ∀ m l, k = m + 1 → v = .tup l → ∀ x ∈ l, ∀ st, WS st → wpF self [.ref st, .fro x] (NnP L J m x) (fun _ _ => False)) : wpF (mkF 4 (B_law_neighbour nx self)) [.ref st, .fro v] (NnP L J k v) (fun _ _ => False) := by
  rw [wf_mk]; rw [show frame 4 [.ref st, .fro v] = [.par st, .fro v, .no, .no] from rfl]
  unfold B_law_neighbour
  simp
  refine hn.run (lim := 2) hs (by omega) (by omega) fun p st1 h1 h2 hs1 => ?_
  simp
  refine wpO_ixL h1 (by simpa using h2) fun d hd => ?_
  obtain ⟨z, rfl, hz⟩ : ∃ z : Int, d = .int z ∧ z.natAbs ≤ 1 := by
    simp at hd
    rcases hd with rfl | rfl
    · exact ⟨1, rfl, by omega⟩
    · exact ⟨-1, rfl, by omega⟩
  simp
  cases k with
  | zero =>
    obtain ⟨i, rfl, hi⟩ := hv
    simp [subT, retOf, NnP]
    exact ⟨_, hs1, rfl, _, rfl, by omega⟩
  | succ k =>
    obtain ⟨l, rfl, hl, hx⟩ := hv
    have hsh : shp 64 (.tup l) = true := Tn.shp (k := k + 1) (n := 64) (L := L) (J := J) ⟨l, rfl, hl, hx⟩ (by omega)
    simp [subT, eq_tnil hsh]
    split
    · rename_i h0
      exact absurd hl.2 (by simp [h0])
    · rename_i h0
      have hl1 : 1 ≤ l.length := List.length_pos_iff.mpr h0
      have x0 := ix_natT l 0 l[0] (List.getElem?_eq_getElem hl1)
      simp at x0
      have hf := (hx l[0] (List.getElem_mem hl1)).notStr
      have hf2 : subT (tyN l[0]) "str" = false := by rw [sub_str]; exact hf
      haveI : Sh l 1000 := ⟨by omega⟩
      simp [x0, hf2]
      refine hn.run (lim := (l.length : Int)) hs1 (by omega) (by omega) fun q st2 h3 h4 hs2 => ?_
      simp
      refine hn.run (lim := 3) hs2 (by omega) (by omega) fun r st3 h5 h6 hs3 => ?_
      simp
      have tail : wpS (sSeq (sRet (e2 addG (e2 addG (eSl (eVar 1) (oNone) (oSome (eVar 3))) (eTup [eCall self [true, false] [eVar 0, e2 ixG (eVar 1) (eVar 3)]])) (eSl (eVar 1) (oSome (e2 addG (eVar 3) (ec (.int 1)))) (oNone)))) sNx) [.par st3, .fro (.tup l), .fro (.int z), .fro (.int q)] (fun fl σ => endQ [.ref st, .fro (.tup l)] (NnP L J (k + 1) (.tup l)) (fun _ _ => False) fl σ) := by
        simp
        obtain ⟨n, rfl⟩ := Int.eq_ofNat_of_zero_le h3
        have hn2 : n < l.length := by omega
        have xn := ix_natT l n l[n] (List.getElem?_eq_getElem hn2)
        simp [xn]
        refine wpF_mono (ih k l rfl rfl l[n] (List.getElem_mem hn2) st3 hs3) (fun d o fs ⟨st4, hs4, e1, e2, e3⟩ => ?_) fun _ _ h => h.elim
        subst e1 e2
        have c1 := cut_hi (l := l) (k := n) (by omega)
        have c2 := cut_lo (l := l) (k := n + 1) (by omega)
        have ec : ((n : Int) + 1) = ((n + 1 : Nat) : Int) := by omega
        simp [add_tt]
        refine ⟨st4, hs4, rfl, rfl, _, rfl, ?_, fun y hy => ?_⟩
        · rw [ec, c1, c2]
          simp only [List.length_append, List.length_take, List.length_drop, List.length_cons]
          omega
        · simp only [List.mem_append, List.mem_cons] at hy
          rcases hy with h | h | h
          · exact (hx y (cutL_mem h)).up (by omega)
          · subst h; exact e3
          · exact (hx y (cutL_mem h)).up (by omega)
      simp at tail
      split
      · split
        · simp [add_tt]
          refine ⟨st3, hs3, rfl, rfl, _, rfl, ?_, fun y hy => ?_⟩
          · obtain ⟨n, rfl⟩ := Int.eq_ofNat_of_zero_le h3
            have hn2 : n < l.length := by omega
            have c1 := cut_hi (l := l) (k := n) (by omega)
            have c2 := cut_lo (l := l) (k := n + 1) (by omega)
            have ec : ((n : Int) + 1) = ((n + 1 : Nat) : Int) := by omega
            rw [ec, c1, c2]
            simp only [List.length_append, List.length_take, List.length_drop]
            omega
          · rcases List.mem_append.mp hy with h | h
            · exact (hx y (cutL_mem h)).up (by omega)
            · exact (hx y (cutL_mem h)).up (by omega)
        · exact tail
      · exact tail
def NnOk (N : Nat) (f : FSem) : Prop := ∀ k L J v st, k ≤ N → L ≤ 1000 → Tn L J k v → WS st → wpF f [.ref st, .fro v] (NnP L J k v) (fun _ _ => False)
theorem nn_fam {f nx : Nat → FSem} (h : ∀ k, f (k + 1) = mkF 4 (B_law_neighbour (nx k) (f k))) (hn : ∀ k, NextOk (nx (k + 1))) : ∀ (n m : Nat) , n ≤ m → n ≤ 60 → NnOk n (f (m + 2)) := by
  have go : ∀ (n m : Nat) (L J : Nat) (v st : D), n ≤ m → n ≤ 60 → L ≤ 1000 → Tn L J n v → WS st → wpF (f (m + 2)) [.ref st, .fro v] (NnP L J n v) (fun _ _ => False) := by
    intro n
    induction n with
    | zero => intro m L J v st _ _ hL hv hs; rw [h]; exact nn_ok _ _ (hn m) L J hL 0 (by omega) v hv st hs fun m l e => by omega
    | succ n ih =>
      intro m L J v st hm hn' hL hv hs
      rw [h]
      refine nn_ok _ _ (hn m) L J hL (n + 1) hn' v hv st hs fun m' l e1 e2 x hx st' hs' => ?_
      obtain rfl : n = m' := by omega
      subst e2
      obtain ⟨m, rfl⟩ : ∃ j, m = j + 1 := ⟨m - 1, by omega⟩
      obtain ⟨l', e, _, h2⟩ := hv
      cases e
      exact ih m L J x st' (by omega) (by omega) hL (h2 x hx) hs'
  intro n m hm hn' k L J v st hk hL hv hs
  exact go k m L J v st (by omega) (by omega) hL hv hs
theorem Tn1 {L J : Nat} {d : D} (h : Tn L J 1 d) : ∃ ms : List Int, d = tupI ms ∧ ms.length ≤ L ∧ ms ≠ [] ∧ ∀ x ∈ ms, x.natAbs ≤ J := by
  obtain ⟨l, rfl, hl, hx⟩ := h
  have : ∀ l : List D, (∀ x ∈ l, Tn L J 0 x) → ∃ ms : List Int, l = ms.map .int ∧ ∀ x ∈ ms, x.natAbs ≤ J := fun l => by
    induction l with
    | nil => exact fun _ => ⟨[], rfl, by simp⟩
    | cons x l ih =>
      intro h
      obtain ⟨i, rfl, hi⟩ := h x List.mem_cons_self
      obtain ⟨ms, rfl, hm⟩ := ih fun y hy => h y (List.mem_cons_of_mem _ hy)
      exact ⟨i :: ms, rfl, fun y hy => by rcases List.mem_cons.mp hy with rfl | hy; exact hi; exact hm y hy⟩
  obtain ⟨ms, rfl, hm⟩ := this l hx
  exact ⟨ms, rfl, by simpa using hl.1, fun e => by subst e; simp at hl, hm⟩
theorem tupI_Tn {L J : Nat} {ns : List Int} (hl : ns.length ≤ L) (h0 : ns ≠ []) (h : ∀ x ∈ ns, x.natAbs ≤ J) : Tn L J 1 (tupI ns) :=
  ⟨_, rfl, ⟨by simpa using hl, by simp; exact List.length_pos_iff.mpr h0⟩, fun x hx => by
    obtain ⟨i, hi, rfl⟩ := List.mem_map.mp hx
    exact ⟨i, rfl, h i hi⟩⟩
theorem int_Tn (L : Nat) (i : Int) : Tn L i.natAbs 0 (.int i) := ⟨i, rfl, Nat.le_refl _⟩
/-- a nest of rows: not empty, no row empty -/
structure Nst (L J : Nat) (rows : List (List Int)) : Prop where
  len : rows.length ≤ L
  ne : rows ≠ []
  row : ∀ r ∈ rows, r.length ≤ L ∧ r ≠ [] ∧ ∀ x ∈ r, x.natAbs ≤ J
theorem Tn2 {L J : Nat} {d : D} (h : Tn L J 2 d) : ∃ rows, d = tabI rows ∧ Nst L J rows := by
  obtain ⟨l, rfl, hl, hx⟩ := h
  have : ∀ l : List D, (∀ x ∈ l, Tn L J 1 x) → ∃ ms : List (List Int), l = ms.map tupI ∧ ∀ r ∈ ms, r.length ≤ L ∧ r ≠ [] ∧ ∀ x ∈ r, x.natAbs ≤ J := fun l => by
    induction l with
    | nil => exact fun _ => ⟨[], rfl, by simp⟩
    | cons x l ih =>
      intro h
      obtain ⟨i, rfl, hi⟩ := Tn1 (h x List.mem_cons_self)
      obtain ⟨ms, rfl, hm⟩ := ih fun y hy => h y (List.mem_cons_of_mem _ hy)
      exact ⟨i :: ms, rfl, fun y hy => by rcases List.mem_cons.mp hy with rfl | hy; exact hi; exact hm y hy⟩
  obtain ⟨ms, rfl, hm⟩ := this l hx
  exact ⟨ms, rfl, by simpa using hl.1, fun e => by subst e; simp at hl, hm⟩
theorem tabI_Tn {L J : Nat} {rows : List (List Int)} (h : Nst L J rows) : Tn L J 2 (tabI rows) :=
  ⟨_, rfl, ⟨by simpa using h.len, by simp; exact List.length_pos_iff.mpr h.ne⟩, fun x hx => by
    obtain ⟨r, hr, rfl⟩ := List.mem_map.mp hx
    obtain ⟨h1, h2, h3⟩ := h.row r hr
    exact tupI_Tn h1 h2 h3⟩
/-! ### check_table -/
def wid (rows : List (List Int)) : Nat := (rowAt rows 0).length
def recT (rows : List (List Int)) : Prop := 0 < wid rows ∧ ∀ r ∈ rows, r.length = wid rows
def rngT (rows : List (List Int)) (low high : Int) : Prop := ∀ r ∈ rows, ∀ x ∈ r, low ≤ x ∧ x ≤ high
def fitT (rows : List (List Int)) (low high : Int) : Prop := recT rows ∧ rngT rows low high ∧ rows.length * wid rows ≤ 64
open Classical in
noncomputable def exT (rows : List (List Int)) (low high : Int) : Str := if recT rows ∧ rngT rows low high then "TooWide" else "UnfitGrid"
theorem fitT.rect {rows : List (List Int)} {low high : Int} (h : fitT rows low high) (h0 : rows ≠ []) : Rect rows rows.length (wid rows) := ⟨rfl, h.1.2, List.length_pos_iff.mpr h0, h.1.1⟩
theorem tab0 {rows : List (List Int)} (h : rows ≠ []) : ixG (tabI rows) (.int 0) = some (tupI (rowAt rows 0), false) := by
  have hk : 0 < rows.length := List.length_pos_iff.mpr h
  have e : rowAt rows 0 = rows[0] := by simp [rowAt, hk]
  rw [e]
  exact ix_tab hk
theorem check_table_ok (rows : List (List Int)) (low high : Int) (h0 : rows ≠ []) (hl : rows.length ≤ 100) (hr : ∀ r ∈ rows, r.length ≤ 100) : wpF (mkF 6 B_check_table) [.fro (tabI rows), .fro (.int low), .fro (.int high)]
    (fun d o fs => fitT rows low high ∧ d = .tup [.int rows.length, .int (wid rows)] ∧ o = false ∧ fs = [.fro (tabI rows), .fro (.int low), .fro (.int high)])
    (fun c fs => ¬ fitT rows low high ∧ c = exT rows low high ∧ fs = [.fro (tabI rows), .fro (.int low), .fro (.int high)]) := by
  rw [wf_mk]
  rw [show frame 6 [.fro (tabI rows), .fro (.int low), .fro (.int high)] = [.fro (tabI rows), .fro (.int low), .fro (.int high), .no, .no, .no] from rfl]
  unfold B_check_table
  simp [tab0 h0]
  have hw : (rowAt rows 0).length = wid rows := rfl
  rw [hw]
  have wpos : rows.length * wid rows ≤ 100 * 100 := Nat.mul_le_mul hl (hr _ (by
    have hk : 0 < rows.length := List.length_pos_iff.mpr h0
    have e : rowAt rows 0 = rows[0] := by simp [rowAt, hk]
    rw [e]; exact List.getElem_mem hk))
  split
  · rename_i h1
    have nf : ¬ recT rows := fun h => by have := h.1; unfold wid at this; rw [h1] at this; simp at this
    refine ⟨fun h => nf h.1, ?_⟩
    unfold exT; rw [if_neg fun h => nf h.1]
  · rename_i h1
    have h1 : ¬ wid rows = 0 := fun h => h1 (List.length_eq_zero_iff.mp h)
    refine wpLc_A tupI (fun r => some (.bl (!decide (r.length = wid rows)))) (okW_nil _) (by simp; omega) (fun r hrm => ?_) ?_
    · simp [wipeD]
      omega
    · have e : rows.filterMap (fun r => some (D.bl (!decide (r.length = wid rows)))) = (rows.map fun r => !decide (r.length = wid rows)).map .bl := by rw [List.filterMap_eq_map', List.map_map]; rfl
      rw [e]
      have hin := in_bls (L := rows.map fun r => !decide (r.length = wid rows)) (b := true)
      simp only [List.nil_append]
      generalize (rows.map fun r => !decide (r.length = wid rows)).map D.bl = zs at hin
      by_cases h2 : recT rows
      · have hin2 : inG (.bl true) (.lst zs) = some false := by
          rw [hin]; congr 1
          simp
          exact fun r hr' => h2.2 r hr'
        simp [restore, wipeD, hin2]
        refine wpLc2_A tupI (fun r => r.map fun x => .bl (!(decide (low ≤ x) && decide (x ≤ high)))) (okW_nil _) ?_ (fun r hrm a ha => ?_) ?_
        · have := wtL_le (w := 1) (l := ([] : List D)) (by simp)
          have hsum : ∀ l : List (List Int), (∀ r ∈ l, r.length ≤ 100) → (l.flatMap fun r => r.map fun x => D.bl (!(decide (low ≤ x) && decide (x ≤ high)))).length ≤ 100 * l.length := fun l => by
            induction l with
            | nil => simp
            | cons r l ih =>
              intro h
              have i1 := ih fun q hq => h q (List.mem_cons_of_mem _ hq)
              have i2 := h r List.mem_cons_self
              simp only [List.flatMap_cons, List.length_append, List.length_map, List.length_cons]
              omega
          have := hsum rows hr
          simp only [List.length_nil]
          omega
        · simp [wipeD]
          refine wpLc_A D.int (fun x => some (.bl (!(decide (low ≤ x) && decide (x ≤ high))))) (l := r) (okW_nil _) (by simp at ha; omega) (fun x hx => ?_) ?_
          · simp [wipeD]
            by_cases q : low ≤ x <;> simp [q, wipeD] <;> omega
          · simp [wipeD]
        · have e2 : (rows.flatMap fun r => r.map fun x => D.bl (!(decide (low ≤ x) && decide (x ≤ high)))) = (rows.flatMap fun r => r.map fun x => !(decide (low ≤ x) && decide (x ≤ high))).map .bl := by rw [List.map_flatMap]; simp [Function.comp_def]
          rw [e2]
          have hin3 := in_bls (L := rows.flatMap fun r => r.map fun x => !(decide (low ≤ x) && decide (x ≤ high))) (b := true)
          have hR : (true ∈ rows.flatMap fun r => r.map fun x => !(decide (low ≤ x) && decide (x ≤ high))) ↔ ¬ rngT rows low high := by
            simp only [List.mem_flatMap, List.mem_map, rngT]
            constructor
            · rintro ⟨r, hr1, x, hx, e⟩ h
              obtain ⟨g1, g2⟩ := h r hr1 x hx
              simp [g1, g2] at e
            · intro h
              refine Classical.byContradiction fun hn => h fun r hr1 x hx => Classical.byContradiction fun hq => hn ⟨r, hr1, x, hx, ?_⟩
              rw [← Bool.decide_and]
              simp only [Bool.not_eq_true', decide_eq_false_iff_not]
              exact hq
          simp only [List.nil_append]
          generalize (rows.flatMap fun r => r.map fun x => !(decide (low ≤ x) && decide (x ≤ high))).map D.bl = zs at hin3
          by_cases h3 : rngT rows low high
          · have hin4 : inG (.bl true) (.lst zs) = some false := by
              rw [hin3]; congr 1
              rw [decide_eq_false_iff_not, hR]; exact fun q => q h3
            simp [restore, wipeD, hin4, mul_ic]
            have em : ((rows.length * wid rows : Nat) : Int) = (rows.length : Int) * (wid rows : Int) := Int.natCast_mul _ _
            have hml : mulG (.int rows.length) (.int (wid rows)) = some (.int ((rows.length * wid rows : Nat) : Int), false) := by
              rw [mul_ic (by omega) (by have := hr _ (by
                have hk : 0 < rows.length := List.length_pos_iff.mpr h0
                have e : rowAt rows 0 = rows[0] := by simp [rowAt, hk]
                rw [e]; exact List.getElem_mem hk : rowAt rows 0 ∈ rows); rw [hw] at this; omega)]
              congr 3
            rw [hml]
            by_cases h4 : rows.length * wid rows ≤ 64
            · have h4' : ¬ (64 < (rows.length : Int) * (wid rows : Int)) := by rw [← em]; omega
              simp only [wpO_some, gt_ii]
              simp [h4', hw]
              exact ⟨h2, h3, h4⟩
            · have h4' : (64 < (rows.length : Int) * (wid rows : Int)) := by rw [← em]; omega
              simp only [wpO_some, gt_ii]
              simp [h4']
              refine ⟨fun h => h4 h.2.2, ?_⟩
              unfold exT; rw [if_pos ⟨h2, h3⟩]
          · have hin4 : inG (.bl true) (.lst zs) = some true := by
              rw [hin3]; congr 1
              rw [decide_eq_true_iff, hR]; exact h3
            simp [restore, wipeD, hin4]
            refine ⟨fun h => h3 h.2.1, ?_⟩
            unfold exT; rw [if_neg fun h => h3 h.2]
      · have hin2 : inG (.bl true) (.lst zs) = some true := by
          rw [hin]; congr 1
          rw [decide_eq_true_iff]
          refine Classical.byContradiction fun hn => h2 ⟨by omega, fun r hr' => ?_⟩
          simp at hn
          exact hn r hr'
        simp [restore, wipeD, hin2]
        refine ⟨fun h => h2 h.1, ?_⟩
        unfold exT; rw [if_neg fun h => h2 h.1]
end Ev

set_option Elab.async false
set_option linter.all false
set_option maxRecDepth 100000
set_option maxHeartbeats 4000000
namespace Ev
open PySem
theorem Rect.at {rows : List (List Int)} {h w : Nat} (hr : Rect rows h w) {p : Nat × Nat} (h1 : p.1 < h) (h2 : p.2 < w) : ixG (tabI rows) (.int (p.1 : Int)) = some (tupI (rowAt rows p.1), false) ∧ ixG (tupI (rowAt rows p.1)) (.int (p.2 : Int)) = some (.int (cellA rows p), false) := by
  obtain ⟨e1, e2, _⟩ := hr.row h1
  exact ⟨e1, ix_rowD (by rw [e2]; exact h2)⟩
theorem law_at_ok {rows : List (List Int)} {h w : Nat} (hr : Rect rows h w) {p : Nat × Nat} (h1 : p.1 < h) (h2 : p.2 < w) : wpF (mkF 2 B_law_at) [.fro (tabI rows), .fro (cD p)] (fun d o fs => d = .int (cellA rows p) ∧ o = false ∧ fs = [.fro (tabI rows), .fro (cD p)]) (fun _ _ => False) := by
  rw [wf_mk]; rw [show frame 2 [.fro (tabI rows), .fro (cD p)] = [.fro (tabI rows), .fro (cD p)] from rfl]
  unfold B_law_at
  obtain ⟨e1, e2⟩ := hr.at h1 h2
  simp [e1, e2]
/-- a dict of cells: what stands at each of the cells asked for -/
structure DicAt (ps : List (D × D)) (cs : List (Nat × Nat)) (f : Nat × Nat → D) : Prop where
  td : isTD ps = true
  at_ : ∀ p ∈ cs, dlook ps (cD p) = some (f p)
theorem dKey_cD {ps : List (D × D)} (h : isTD ps = true) (p : Nat × Nat) : dKey ps (cD p) = true := by
  unfold dKey cD
  rw [if_pos h]
  simp [keyT, keyK]
theorem dlook_put (ps : List (D × D)) (k k' v : D) : dlook (dputL ps k v) k' = if k' = k then some v else dlook ps k' := by
  have mapL : ∀ ps : List (D × D), dlook (ps.map fun p => if p.1 = k then (p.1, v) else p) k' = (dlook ps k').map fun x => if k' = k then v else x := fun ps => by
    induction ps with
    | nil => rfl
    | cons p ps ih =>
      by_cases h : p.1 = k'
      · rw [dlook_pos h]
        by_cases h2 : p.1 = k
        · have e : k' = k := h ▸ h2
          rw [List.map_cons, if_pos h2, dlook_pos (by exact h)]
          simp [e]
        · have e : ¬ k' = k := fun e => h2 (h.trans e)
          rw [List.map_cons, if_neg h2, dlook_pos h]
          simp [e]
      · rw [dlook_neg h, ← ih, List.map_cons]
        split
        · exact dlook_neg h
        · exact dlook_neg h
  have appL : ∀ ps : List (D × D), dlook ps k = none → dlook (ps ++ [(k, v)]) k' = if k' = k then some v else dlook ps k' := fun ps => by
    induction ps with
    | nil =>
      intro _
      by_cases h : k' = k
      · rw [if_pos h, List.nil_append, dlook_pos h.symm]
      · rw [if_neg h, List.nil_append, dlook_neg fun e => h e.symm]
    | cons p ps ih =>
      intro h0
      by_cases h2 : p.1 = k
      · rw [dlook_pos h2] at h0; cases h0
      · rw [dlook_neg h2] at h0
        by_cases h : p.1 = k'
        · rw [List.cons_append, dlook_pos h, dlook_pos h, if_neg fun e => h2 (h.trans e)]
        · rw [List.cons_append, dlook_neg h, dlook_neg h, ih h0]
  unfold dputL
  rw [dlook_any]
  cases hl : dlook ps k with
  | none => simp only [Option.isSome_none, Bool.false_eq_true, if_false]; exact appL ps hl
  | some x =>
    simp only [Option.isSome_some, if_true]
    rw [mapL]
    by_cases h : k' = k
    · subst h; rw [hl]; simp
    · simp only [if_neg h]; cases dlook ps k' <;> rfl
theorem cD_inj {p q : Nat × Nat} (h : cD p = cD q) : p = q := by
  unfold cD at h
  simp at h
  exact Prod.ext (by omega) (by omega)
theorem isTD_put {ps : List (D × D)} (h : isTD ps = true) (p : Nat × Nat) (v : D) : isTD (dputL ps (cD p) v) = true := by
  match ps, h with
  | (.non, d) :: r, _ =>
    unfold dputL
    split
    · rw [List.map_cons, if_neg (by unfold cD; simp)]; rfl
    · rfl
theorem dputL_len (ps : List (D × D)) (k v : D) : (dputL ps k v).length ≤ ps.length + 1 := by
  unfold dputL
  split <;> simp
theorem DicAt.nil (f : Nat × Nat → D) : DicAt [(.non, .non)] [] f := ⟨rfl, fun p h => by cases h⟩
theorem DicAt.put {ps : List (D × D)} {cs : List (Nat × Nat)} {f : Nat × Nat → D} (h : DicAt ps cs f) (p : Nat × Nat) : DicAt (dputL ps (cD p) (f p)) (cs ++ [p]) f :=
  ⟨isTD_put h.td p _, fun q hq => by
    rw [dlook_put]
    by_cases e : cD q = cD p
    · rw [if_pos e, cD_inj e]
    · rw [if_neg e]
      refine h.at_ q ?_
      rcases List.mem_append.mp hq with hq | hq
      · exact hq
      · simp at hq; subst hq; exact absurd rfl e⟩
def tabF (h w : Nat) (f : Nat × Nat → Int) : List (List Int) := (List.range h).map fun r => (List.range w).map fun c => f (r, c)
theorem as_table_ok {b : S} (hb : b = B_as_table ∨ b = B_law_as_table) {rows : List (List Int)} {h w : Nat} (hr : Rect rows h w) (hh : h ≤ 1000) (hw : w ≤ 1000) {ps : List (D × D)} {f : Nat × Nat → Int} (hd : DicAt ps (cellsN h w) fun p => .int (f p)) : wpF (mkF 4 b) [.fro (tabI rows), .fro (.dic ps)] (fun d o fs => d = tabI (tabF h w f) ∧ o = false ∧ fs = [.fro (tabI rows), .fro (.dic ps)]) (fun _ _ => False) := by
  have eb : b = B_as_table := hb.elim id fun e => e
  subst eb
  rw [wf_mk]; rw [show frame 4 [.fro (tabI rows), .fro (.dic ps)] = [.fro (tabI rows), .fro (.dic ps), .no, .no] from rfl]
  unfold B_as_table
  simp [hr.1, rng_len h (by omega), wipeD]
  refine wpLc_A (fun (k : Nat) => D.int (k : Int)) (fun r => some (tupI ((List.range w).map fun c => f (r, c)))) (l := List.range h) (okW_nil _) (by simp; omega) (fun r hrm => ?_) ?_
  · obtain ⟨e1, e2⟩ := hr.row0
    have hrm := List.mem_range.mp hrm
    simp [wipeD, e1, e2, rng_len w (by omega)]
    refine wpLc_A (fun (k : Nat) => D.int (k : Int)) (fun c => some (.int (f (r, c)))) (l := List.range w) (okW_nil _) (by simp; omega) (fun c hc => ?_) ?_
    · have hc := List.mem_range.mp hc
      have hg : dgetG (.dic ps) (.tup [.int r, .int c]) = some (.int (f (r, c)), false) := by
        have h1 := dKey_cD hd.td (r, c)
        have h2 := hd.at_ (r, c) (cellsN_mem.mpr ⟨hrm, hc⟩)
        have h1 : dKey ps (.tup [.int r, .int c]) = true := h1
        have h2 : dlook ps (.tup [.int r, .int c]) = some (.int (f (r, c))) := h2
        simp [dgetG, h1, h2]
      simp [wipeD, hg]
    · simp [wipeD, restore, tupI, Function.comp_def]
  · simp [restore, tabI, tabF, Function.comp_def]
def colI (rows : List (List Int)) (c : Nat) : List Int := rows.map fun r => itA r c
theorem columns_ok {rows : List (List Int)} {h w : Nat} (hr : Rect rows h w) (hh : h ≤ 1000) (hw : w ≤ 1000) : wpF (mkF 3 B_law_columns) [.fro (tabI rows)] (fun d o fs => d = .lst ((List.range w).map fun c => tupI (colI rows c)) ∧ o = true ∧ fs = [.fro (tabI rows)]) (fun _ _ => False) := by
  rw [wf_mk]; rw [show frame 3 [.fro (tabI rows)] = [.fro (tabI rows), .no, .no] from rfl]
  unfold B_law_columns
  obtain ⟨e1, e2⟩ := hr.row0
  simp [e1, e2, rng_len w (by omega), wipeD]
  refine wpLc_A (fun (k : Nat) => D.int (k : Int)) (fun c => some (tupI (colI rows c))) (l := List.range w) (okW_nil _) (by simp; omega) (fun c hc => ?_) ?_
  · have hc := List.mem_range.mp hc
    simp [wipeD]
    refine wpLc_A tupI (fun r => some (.int (itA r c))) (l := rows) (okW_nil _) (by have := hr.1; simp; omega) (fun r hrm => ?_) ?_
    · have : ixG (tupI r) (.int (c : Int)) = some (.int (itA r c), false) := ix_rowD (by rw [hr.2.1 r hrm]; exact hc)
      simp [wipeD, this]
    · simp [wipeD, restore, tupI, colI, Function.comp_def]
  · simp [restore]
/-! ### _law_drawn_table -/
def inR (lo hi : Int) (r : List Int) : Prop := ∀ x ∈ r, lo ≤ x ∧ x ≤ hi
def DrI (fr : D → Fr) (m : Nat) (lo hi : Int) (rest acc : List D) (σ : Fr) : Prop := ∃ (st : D) (ms : List Int), WS st ∧ acc = ms.map .int ∧ inR lo hi ms ∧ ms.length + rest.length = m ∧ σ = fr st
def DrJ (fr : D → Fr) (m w : Nat) (lo hi : Int) (rest acc : List D) (σ : Fr) : Prop := ∃ (st : D) (rows : List (List Int)), WS st ∧ acc = rows.map tupI ∧ (∀ r ∈ rows, r.length = w ∧ inR lo hi r) ∧ rows.length + rest.length = m ∧ σ = fr st
def Drawn (lo hi : Nat) (least most : Int) (as : List Ar) (d : D) (o : Bool) (fs : List Ar) : Prop := ∃ st' rows h w, WS st' ∧ fs = .ref st' :: as ∧ o = false ∧ d = tabI rows ∧ Rect rows h w ∧ lo ≤ h ∧ h ≤ hi ∧ lo ≤ w ∧ w ≤ hi ∧ ∀ r ∈ rows, inR least most r
theorem drawn_ok (nx : FSem) (hn : NextOk nx) (lo hi : Nat) (least most : Int) (h1 : 1 ≤ lo) (h2 : lo ≤ hi) (h3 : hi ≤ 50) (h4 : least ≤ most) (h5 : most - least ≤ 900000) (st : D) (hs : WS st) :
    wpF (mkF 8 (B_law_drawn_table nx)) [.ref st, .fro (.int lo), .fro (.int hi), .fro (.int least), .fro (.int most)] (Drawn lo hi least most [.fro (.int lo), .fro (.int hi), .fro (.int least), .fro (.int most)]) (fun _ _ => False) := by
  rw [wf_mk]
  rw [show frame 8 [.ref st, .fro (.int lo), .fro (.int hi), .fro (.int least), .fro (.int most)] = [.par st, .fro (.int lo), .fro (.int hi), .fro (.int least), .fro (.int most), .no, .no, .no] from rfl]
  unfold B_law_drawn_table
  simp
  refine hn.run (lim := (hi : Int) - (lo : Int) + 1) hs (by omega) (by omega) fun v1 st1 g1 g2 hs1 => ?_
  obtain ⟨w, ew⟩ : ∃ w : Nat, (lo : Int) + v1 = (w : Int) := ⟨lo + v1.toNat, by omega⟩
  simp [ew]
  refine hn.run (lim := (hi : Int) - (lo : Int) + 1) hs1 (by omega) (by omega) fun v2 st2 g3 g4 hs2 => ?_
  obtain ⟨h, eh⟩ : ∃ h : Nat, (lo : Int) + v2 = (h : Int) := ⟨lo + v2.toNat, by omega⟩
  simp [eh, rng_len h (by omega), wipeD]
  refine wpLc_inv (DrJ (fun st => [.par st, .fro (.int lo), .fro (.int hi), .fro (.int least), .fro (.int most), .fro (.int w), .no, .no]) h w least most) ⟨st2, [], hs2, rfl, (fun x hx => by cases hx), by simp, rfl⟩ (fun x xs acc σ ⟨st3, rows, p1, p2, p3, p4, p5⟩ => ?_) fun acc σ ⟨st3, rows, p1, p2, p3, p4, p5⟩ => ?_
  · subst p5 p2
    simp only [List.length_cons] at p4
    refine ⟨okW_nil _, by have : LIM = 1000000 := rfl; simp; omega, ?_⟩
    simp [rng_len w (by omega), wipeD]
    refine wpLc_inv (DrI (fun st => [.par st, .fro (.int lo), .fro (.int hi), .fro (.int least), .fro (.int most), .fro (.int w), .no, .fro x]) w least most) ⟨st3, [], p1, rfl, (fun x hx => by cases hx), by simp, rfl⟩ (fun x xs acc σ ⟨st4, ms, r1, r2, r3, r4, r5⟩ => ?_) fun acc σ ⟨st4, ms, r1, r2, r3, r4, r5⟩ => ?_
    · subst r5 r2
      simp only [List.length_cons] at r4
      refine ⟨okW_nil _, by have : LIM = 1000000 := rfl; simp; omega, ?_⟩
      simp
      refine hn.run (lim := most - least + 1) r1 (by omega) (by omega) fun v st5 g5 g6 hs5 => ?_
      simp [wipeD]
      refine ⟨st5, ms ++ [least + v], hs5, by simp, fun y hy => ?_, by simp; omega, rfl⟩
      rcases List.mem_append.mp hy with hy | hy
      · exact r3 y hy
      · simp at hy; subst hy; omega
    · subst r5 r2
      refine ⟨okW_nil _, ?_⟩
      simp only [List.length_nil] at r4
      simp [restore, wipeD]
      refine ⟨st4, rows ++ [ms], r1, by simp [tupI], fun r hr => ?_, by simp; omega, rfl⟩
      rcases List.mem_append.mp hr with hr | hr
      · exact p3 r hr
      · simp at hr; subst hr; exact ⟨by omega, r3⟩
  · subst p5 p2
    refine ⟨okW_nil _, ?_⟩
    simp only [List.length_nil] at p4
    simp [restore]
    exact ⟨st3, rows, h, w, p1, rfl, rfl, rfl, ⟨by omega, fun r hr => (p3 r hr).1, by omega, by omega⟩, by omega, by omega, by omega, by omega, fun r hr => (p3 r hr).2⟩
end Ev

set_option Elab.async false
set_option linter.all false
set_option maxRecDepth 100000
set_option maxHeartbeats 4000000
namespace Ev
open PySem
/-! ### the cells around a cell -/
def pD (q : Int × Int) : D := .tup [.int q.1, .int q.2]
@[irreducible] def three : List Int := [-1, 0, 1]
def offA : List (Int × Int) := [(-1, -1), (-1, 0), (-1, 1), (0, -1), (0, 1), (1, -1), (1, 0), (1, 1)]
def inr (h w : Nat) (q : Int × Int) : Bool := decide (0 ≤ q.1) && decide (q.1 < h) && (decide (0 ≤ q.2) && decide (q.2 < w))
def toC (q : Int × Int) : Nat × Nat := (q.1.toNat, q.2.toNat)
def aroundL (p : Nat × Nat) (h w : Nat) : List (Nat × Nat) := ((offA.map fun o => ((p.1 : Int) + o.1, (p.2 : Int) + o.2)).filter (inr h w)).map toC
theorem inr_iff {h w : Nat} {q : Int × Int} : inr h w q = true ↔ 0 ≤ q.1 ∧ q.1 < h ∧ 0 ≤ q.2 ∧ q.2 < w := by
  unfold inr
  simp only [Bool.and_eq_true, decide_eq_true_eq]
  omega
theorem cD_toC {h w : Nat} {q : Int × Int} (hq : inr h w q = true) : cD (toC q) = pD q := by
  obtain ⟨h1, _, h2, _⟩ := inr_iff.mp hq
  unfold cD toC pD
  simp only
  rw [Int.toNat_of_nonneg h1, Int.toNat_of_nonneg h2]
/-- beside or at a corner -/
def nearC (p q : Nat × Nat) : Prop := q ≠ p ∧ q.1 ≤ p.1 + 1 ∧ p.1 ≤ q.1 + 1 ∧ q.2 ≤ p.2 + 1 ∧ p.2 ≤ q.2 + 1
instance (p q : Nat × Nat) : Decidable (nearC p q) := inferInstanceAs (Decidable (q ≠ p ∧ q.1 ≤ p.1 + 1 ∧ p.1 ≤ q.1 + 1 ∧ q.2 ≤ p.2 + 1 ∧ p.2 ≤ q.2 + 1))
theorem aroundL_mem {p q : Nat × Nat} {h w : Nat} : q ∈ aroundL p h w ↔ (q.1 < h ∧ q.2 < w) ∧ nearC p q := by
  obtain ⟨a, b⟩ := p
  obtain ⟨c, d⟩ := q
  unfold aroundL
  rw [List.mem_map]
  constructor
  · rintro ⟨z, hz, e⟩
    obtain ⟨z1, z2⟩ := List.mem_filter.mp hz
    obtain ⟨g1, g2, g3, g4⟩ := inr_iff.mp z2
    obtain ⟨o, ho, rfl⟩ := List.mem_map.mp z1
    unfold toC at e
    simp only [Prod.mk.injEq] at e
    simp only at g1 g2 g3 g4
    have hb : -1 ≤ o.1 ∧ o.1 ≤ 1 ∧ -1 ≤ o.2 ∧ o.2 ≤ 1 ∧ ¬ (o.1 = 0 ∧ o.2 = 0) := by
      simp only [offA, List.mem_cons, List.not_mem_nil, or_false] at ho
      rcases ho with rfl | rfl | rfl | rfl | rfl | rfl | rfl | rfl <;> simp
    refine ⟨⟨by simp only; omega, by simp only; omega⟩, ?_⟩
    unfold nearC
    simp only [ne_eq, Prod.mk.injEq]
    omega
  · rintro ⟨⟨h1, h2⟩, hn⟩
    unfold nearC at hn
    simp only [ne_eq, Prod.mk.injEq] at hn h1 h2
    refine ⟨((c : Int), (d : Int)), List.mem_filter.mpr ⟨List.mem_map.mpr ⟨((c : Int) - a, (d : Int) - b), ?_, ?_⟩, ?_⟩, by simp [toC]⟩
    · have e1 : (c : Int) - a = -1 ∨ (c : Int) - a = 0 ∨ (c : Int) - a = 1 := by omega
      have e2 : (d : Int) - b = -1 ∨ (d : Int) - b = 0 ∨ (d : Int) - b = 1 := by omega
      have e3 : ¬ ((c : Int) - a = 0 ∧ (d : Int) - b = 0) := by omega
      rcases e1 with e1 | e1 | e1 <;> rcases e2 with e2 | e2 | e2 <;> rw [e1, e2] <;> simp [offA] <;> exact e3 ⟨e1, e2⟩
    · simp only [Prod.mk.injEq]; omega
    · rw [inr_iff]; simp only; omega
theorem ne_pair {a b : Int} : neG (.tup [.int a, .int b]) (.tup [.int 0, .int 0]) = some (!(decide (a = 0) && decide (b = 0))) := by
  have h1 : ∀ x y : Int, shp 64 (.tup [.int x, .int y]) = true := fun x y => by simp [shp, shpL]
  unfold neG
  rw [if_pos ⟨h1 _ _, h1 _ _⟩]
  simp [eqv, eqvL]
def plF (p : Nat × Nat) (d : Int) : List D := three.filterMap fun r => if d = 0 ∧ r = 0 then none else some (pD ((p.1 : Int) + d, (p.2 : Int) + r))
theorem pl_all (p : Nat × Nat) : three.flatMap (plF p) = (offA.map fun o => ((p.1 : Int) + o.1, (p.2 : Int) + o.2)).map pD := by
  simp [three, plF, offA]
@[irreducible] def AroundOk (f : FSem) : Prop := ∀ (p : Nat × Nat) (h w : Nat), wpF f [.fro (cD p), .fro (.int h), .fro (.int w)] (fun d o fs => d = .lst ((aroundL p h w).map cD) ∧ o = true ∧ fs = [.fro (cD p), .fro (.int h), .fro (.int w)]) (fun _ _ => False)
theorem AroundOk.run {f : FSem} (h : AroundOk f) : ∀ (p : Nat × Nat) (h w : Nat), wpF f [.fro (cD p), .fro (.int h), .fro (.int w)] (fun d o fs => d = .lst ((aroundL p h w).map cD) ∧ o = true ∧ fs = [.fro (cD p), .fro (.int h), .fro (.int w)]) (fun _ _ => False) := by
  unfold AroundOk at h; exact h
theorem around_Ok {F : FSem} (hF : F = mkF 10 B_around) : AroundOk F := by
  unfold AroundOk
  intro p h w
  rw [hF]
  rw [wf_mk]
  rw [show frame 10 [.fro (cD p), .fro (.int h), .fro (.int w)] = [.fro (cD p), .fro (.int h), .fro (.int w), .no, .no, .no, .no, .no, .no, .no] from rfl]
  have ec : cD p = .tup [.int p.1, .int p.2] := rfl
  rw [ec]
  unfold B_around
  simp [wipeD]
  have e3 : ([.int (-1), .int 0, .int 1] : List D) = three.map D.int := by simp [three]
  rw [e3]
  refine wpLc2_A D.int (plF p) (okW_nil _) (by rw [pl_all]; simp [offA]) (fun d hd a ha => ?_) ?_
  · simp [wipeD]
    rw [e3]
    refine wpLc_A D.int (fun r => if d = 0 ∧ r = 0 then none else some (pD ((p.1 : Int) + d, (p.2 : Int) + r))) (l := three) (okW_nil _) ?_ (fun r hr => ?_) ?_
    · have : three.length = 3 := by simp [three]
      omega
    · simp [wipeD, ne_pair]
      by_cases q1 : d = 0 <;> by_cases q2 : r = 0 <;> simp [q1, q2, wipeD, pD]
    · simp [wipeD]
      rfl
  · rw [pl_all]
    simp [restore, wipeD]
    have efin : (offA.map fun o => ((p.1 : Int) + o.1, (p.2 : Int) + o.2)).filterMap (fun q => if inr h w q = true then some (pD q) else none) = (aroundL p h w).map cD := by
      unfold aroundL
      generalize (offA.map fun o => ((p.1 : Int) + o.1, (p.2 : Int) + o.2)) = L
      induction L with
      | nil => rfl
      | cons q L ih =>
        by_cases hq : inr h w q = true
        · simp only [List.filterMap_cons, hq, if_true, List.filter_cons, List.map_cons, ih, cD_toC hq]
        · simp only [List.filterMap_cons, hq, if_false, List.filter_cons, ih]
          rfl
    have elen : (offA.map fun o => ((p.1 : Int) + o.1, (p.2 : Int) + o.2)).length = 8 := by simp [offA]
    have emap : (offA.map (pD ∘ fun o => ((p.1 : Int) + o.1, (p.2 : Int) + o.2))) = (offA.map fun o => ((p.1 : Int) + o.1, (p.2 : Int) + o.2)).map pD := by rw [List.map_map]
    rw [emap]
    generalize (offA.map fun o => ((p.1 : Int) + o.1, (p.2 : Int) + o.2)) = L at efin elen
    refine wp_lcRun.mpr ⟨fun z hz => by simp at hz; subst hz; exact ⟨by simp, .inl rfl⟩, ?_⟩
    simp only [pinD, wipeD]
    refine wpLc_A pD (fun q => if inr h w q = true then some (pD q) else none) (l := L) (fun z hz => by simp at hz; subst hz; rfl) (by rw [elen]; simp) (fun q hq => ?_) ?_
    · by_cases g1 : 0 ≤ q.1
      · by_cases g2 : q.1 < h
        · by_cases g3 : 0 ≤ q.2
          · by_cases g4 : q.2 < w <;> simp [pD, inr, wipeD, g1, g2, g3, g4]
          · simp [pD, inr, wipeD, g1, g2, g3]
        · simp [pD, inr, wipeD, g1, g2]
      · simp [pD, inr, wipeD, g1]
    · rw [efin]
      simp [restore]
/-! ### _law_around: by the greatest of four differences -/
theorem mx4 (a b c d : Int) (h1 : b = -a) (h2 : d = -c) : ∃ m : Int, maxL [a, b, c, d] = some m ∧ (m = 1 ↔ (a ≤ 1 ∧ -1 ≤ a ∧ c ≤ 1 ∧ -1 ≤ c ∧ ¬ (a = 0 ∧ c = 0))) := by
  refine ⟨_, rfl, ?_⟩
  simp only [List.foldl_cons, List.foldl_nil]
  subst h1 h2
  repeat' split
  all_goals omega
def lawAr (p : Nat × Nat) (h w : Nat) : List (Nat × Nat) := (cellsN h w).filter fun q => decide (nearC p q)
theorem lawAr_mem {p q : Nat × Nat} {h w : Nat} : q ∈ lawAr p h w ↔ (q.1 < h ∧ q.2 < w) ∧ nearC p q := by
  unfold lawAr
  rw [List.mem_filter, cellsN_mem, decide_eq_true_iff]
theorem ne_cD {p q : Nat × Nat} : neG (cD p) (cD q) = some (!decide (p = q)) := by
  have h1 : ∀ x : Nat × Nat, shp 64 (cD x) = true := fun x => by unfold cD; simp [shp, shpL]
  unfold neG
  rw [if_pos ⟨h1 _, h1 _⟩]
  congr 2
  unfold cD
  simp [eqv, eqvL]
  rw [Bool.eq_iff_iff]
  simp only [Bool.and_eq_true, decide_eq_true_eq, Prod.ext_iff]
  omega
def CellsOk (f : FSem) : Prop := ∀ (rows : List (List Int)) (h w : Nat), Rect rows h w → h * w ≤ 10000 → h ≤ 10000 → w ≤ 10000 → wpF f [.fro (tabI rows)] (fun d o fs => d = .lst ((cellsN h w).map cD) ∧ fs = [.fro (tabI rows)]) (fun _ _ => False)
theorem law_around_ok (lc : FSem) (hc : CellsOk lc) {rows : List (List Int)} {h w : Nat} (hr : Rect rows h w) (hb : h * w ≤ 10000) (hh : h ≤ 10000) (hw : w ≤ 10000) (p : Nat × Nat) : wpF (mkF 3 (B_law_around lc)) [.fro (tabI rows), .fro (cD p)] (fun d o fs => d = .lst ((lawAr p h w).map cD) ∧ o = true ∧ fs = [.fro (tabI rows), .fro (cD p)]) (fun _ _ => False) := by
  rw [wf_mk]; rw [show frame 3 [.fro (tabI rows), .fro (cD p)] = [.fro (tabI rows), .fro (cD p), .no] from rfl]
  unfold B_law_around
  simp
  refine wpF_mono (hc rows h w hr hb hh hw) (fun d o fs ⟨e1, e2⟩ => ?_) fun _ _ h => h.elim
  subst e1 e2
  simp
  refine wpLc_A cD (fun q => if nearC p q then some (cD q) else none) (okW_nil _) (by have := cellsN_len h w; simp; omega) (fun q hq => ?_) ?_
  · simp [wipeD, ne_cD]
    by_cases e : q = p
    · have : ¬ nearC p q := fun h => h.1 e
      simp [e, wipeD]
      subst e
      simp [this]
    · obtain ⟨m, e1, e2⟩ := mx4 ((q.1 : Int) - p.1) ((p.1 : Int) - q.1) ((q.2 : Int) - p.2) ((p.2 : Int) - q.2) (by omega) (by omega)
      have hm : max4G [.int ((q.1 : Int) - p.1), .int ((p.1 : Int) - q.1), .int ((q.2 : Int) - p.2), .int ((p.2 : Int) - q.2)] = some (.int m, false) := by
        show (if 4 = 4 then ((isInts [.int ((q.1 : Int) - p.1), .int ((p.1 : Int) - q.1), .int ((q.2 : Int) - p.2), .int ((p.2 : Int) - q.2)]).bind maxL).map fun i => (D.int i, false) else none) = _
        rw [if_pos rfl]
        show (maxL [(q.1 : Int) - p.1, (p.1 : Int) - q.1, (q.2 : Int) - p.2, (p.2 : Int) - q.2]).map _ = _
        rw [e1]; rfl
      have hn : m = 1 ↔ nearC p q := by
        rw [e2]
        unfold nearC
        have e' : ¬ (q.1 = p.1 ∧ q.2 = p.2) := fun z => e (Prod.ext z.1 z.2)
        constructor
        · rintro ⟨a, b, c, d, _⟩; exact ⟨e, by omega, by omega, by omega, by omega⟩
        · rintro ⟨_, a, b, c, d⟩; exact ⟨by omega, by omega, by omega, by omega, by omega⟩
      by_cases hq1 : nearC p q
      · have : m = 1 := hn.mpr hq1
        simp [e, hm, this, hq1, wipeD]
      · have : ¬ m = 1 := fun z => hq1 (hn.mp z)
        simp [e, hm, this, hq1, wipeD]
  · have e : (cellsN h w).filterMap (fun q => if nearC p q then some (cD q) else none) = (lawAr p h w).map cD := by
      unfold lawAr
      generalize cellsN h w = L
      induction L with
      | nil => rfl
      | cons q L ih =>
        by_cases hq : nearC p q
        · simp only [List.filterMap_cons, hq, if_true, List.filter_cons, decide_true, List.map_cons, ih]
        · simp [List.filterMap_cons, hq, List.filter_cons, ih]
    rw [e]
    simp [restore, wipeD]
end Ev

set_option Elab.async false
set_option linter.all false
set_option maxRecDepth 100000
set_option maxHeartbeats 4000000
namespace Ev
open PySem
/-- the rows of a table's tree -/
def intsOf : D → List Int
  | .tup l => (isInts l).getD []
  | _ => []
def rowsOf : D → List (List Int)
  | .tup l => l.map intsOf
  | _ => []
theorem isInts_ints : ∀ r : List Int, isInts (r.map .int) = some r
  | [] => rfl
  | x :: r => by rw [List.map_cons, isInts, isInts_ints r]; rfl
@[simp] theorem intsOf_tupI (r : List Int) : intsOf (tupI r) = r := by unfold tupI intsOf; simp [isInts_ints]
@[simp] theorem rowsOf_tabI (rows : List (List Int)) : rowsOf (tabI rows) = rows := by
  unfold tabI rowsOf
  simp only [List.map_map]
  have : intsOf ∘ tupI = id := by funext r; simp
  rw [this]; simp
/-- a table as an argument: not empty, no row empty, none too long -/
def TabOk (rows : List (List Int)) : Prop := Nst 60 1000 rows
theorem TabOk.ne {rows : List (List Int)} (h : TabOk rows) : rows ≠ [] := Nst.ne h
theorem TabOk.len {rows : List (List Int)} (h : TabOk rows) : rows.length ≤ 100 := Nat.le_trans (Nst.len h) (by omega)
theorem TabOk.row {rows : List (List Int)} (h : TabOk rows) : ∀ r ∈ rows, r.length ≤ 100 := fun r hr => Nat.le_trans (Nst.row h r hr).1 (by omega)
def CheckOk (f : FSem) : Prop := ∀ (rows : List (List Int)) (low high : Int), rows ≠ [] → rows.length ≤ 100 → (∀ r ∈ rows, r.length ≤ 100) → wpF f [.fro (tabI rows), .fro (.int low), .fro (.int high)]
    (fun d o fs => fitT rows low high ∧ d = .tup [.int rows.length, .int (wid rows)] ∧ o = false ∧ fs = [.fro (tabI rows), .fro (.int low), .fro (.int high)])
    (fun c fs => ¬ fitT rows low high ∧ c = exT rows low high ∧ fs = [.fro (tabI rows), .fro (.int low), .fro (.int high)])
theorem exT_or {rows : List (List Int)} {low high : Int} : exT rows low high = "UnfitGrid" ∨ exT rows low high = "TooWide" := by
  unfold exT; split
  · exact .inr rfl
  · exact .inl rfl
theorem fitT.small {rows : List (List Int)} {low high : Int} (h : fitT rows low high) (h0 : rows ≠ []) : rows.length ≤ 64 ∧ wid rows ≤ 64 := by
  have h1 := h.2.2
  have h2 := h.1.1
  have h3 := List.length_pos_iff.mpr h0
  constructor
  · exact Nat.le_trans (Nat.le_mul_of_pos_right _ h2) h1
  · exact Nat.le_trans (Nat.le_mul_of_pos_left _ h3) h1
/-! ### what stands in a part of a row -/
theorem any_take {l : List Int} {k : Nat} {P : Int → Bool} : (l.take k).any P = true ↔ ∃ i, i < k ∧ i < l.length ∧ P (itA l i) = true := by
  rw [List.any_eq_true]
  constructor
  · rintro ⟨x, hx, hp⟩
    obtain ⟨i, hi, rfl⟩ := List.mem_iff_getElem.mp hx
    rw [List.length_take] at hi
    refine ⟨i, by omega, by omega, ?_⟩
    have : itA l i = (l.take k)[i]'(by rw [List.length_take]; exact hi) := by
      unfold itA
      have : i < l.length := by omega
      simp [this]
    rw [this]; exact hp
  · rintro ⟨i, h1, h2, hp⟩
    refine ⟨itA l i, ?_, hp⟩
    have hi : i < (l.take k).length := by rw [List.length_take]; omega
    have : itA l i = (l.take k)[i] := by unfold itA; simp [h2]
    rw [this]; exact List.getElem_mem hi
theorem any_drop {l : List Int} {k : Nat} {P : Int → Bool} : (l.drop k).any P = true ↔ ∃ i, k ≤ i ∧ i < l.length ∧ P (itA l i) = true := by
  rw [List.any_eq_true]
  constructor
  · rintro ⟨x, hx, hp⟩
    obtain ⟨i, hi, rfl⟩ := List.mem_iff_getElem.mp hx
    rw [List.length_drop] at hi
    refine ⟨k + i, by omega, by omega, ?_⟩
    have : itA l (k + i) = (l.drop k)[i]'(by rw [List.length_drop]; exact hi) := by
      unfold itA
      have : k + i < l.length := by omega
      simp [this]
    rw [this]; exact hp
  · rintro ⟨i, h1, h2, hp⟩
    refine ⟨itA l i, ?_, hp⟩
    have hi : i - k < (l.drop k).length := by rw [List.length_drop]; omega
    have : itA l i = (l.drop k)[i - k] := by
      unfold itA
      have e : k + (i - k) = i := by omega
      simp [h2, e]
    rw [this]; exact List.getElem_mem hi
theorem itA_col {rows : List (List Int)} {c i : Nat} (h : i < rows.length) : itA (colI rows c) i = cellA rows (i, c) := by
  unfold colI cellA rowAt
  simp [itA, h]
theorem colI_len (rows : List (List Int)) (c : Nat) : (colI rows c).length = rows.length := by simp [colI]
theorem cut_fr {α : Type} {l : List α} {k : Nat} (h : k < l.length) : cutL l (some ((k : Int) + 1)) none = l.drop (k + 1) := by
  have e : (k : Int) + 1 = ((k + 1 : Nat) : Int) := by omega
  rw [e]; exact cut_lo h
theorem sl_ints {ns : List Int} {lo hi : Option Int} : sliceG lo hi (.lst (ns.map .int)) = some (.lst ((cutL ns lo hi).map .int), true) := by
  rw [← cutL_map]; rfl
/-- True (not) in a list of truths -/
theorem in_true {α : Type} {l : List α} {P : α → Bool} : inG (.bl true) (.lst (l.map fun x => .bl (P x))) = some (l.any P) := by
  have e : (l.map fun x => D.bl (P x)) = (l.map P).map .bl := by rw [List.map_map]; rfl
  rw [e, in_bls]
  congr 1
  rw [Bool.eq_iff_iff]
  simp
end Ev

set_option Elab.async false
set_option linter.all false
set_option maxRecDepth 100000
set_option maxHeartbeats 4000000
namespace Ev
open PySem
/-! ### while -/
section
variable {c : M Bool} {b : S} {σ : Fr} {Q : Fl → Fr → Prop}
theorem ws_while0 {n : Nat} : wpS (sWhile c b (n + 1)) σ Q ↔ wpM c σ (fun t σ1 => if t = true then wpS b σ1 (fun fl σ2 => match fl with
      | .nx => wpS (sWhile c b n) σ2 Q
      | .ct => wpS (sWhile c b n) σ2 Q
      | .bk => Q .nx σ2
      | fl => Q fl σ2) else Q .nx σ1) (fun c σ1 => Q (.ex c) σ1) := by
  show wpS (sM c _) σ Q ↔ _
  refine ws_m.trans (wpM_q fun t σ1 => ?_)
  cases t with
  | false => simp only [Bool.false_eq_true, if_false]; exact ⟨fun h => h, fun h => h⟩
  | true =>
    simp only [if_true]
    unfold wpS
    cases e : b σ1 with
    | none => simp only [e]
    | some q =>
      obtain ⟨fl, σ2⟩ := q
      cases fl <;> simp only [e]
theorem ws_while {n m : Nat} (I : Nat → Fr → Prop) (h0 : I m σ) (hm : m < n) (hs : ∀ k σ, I k σ → wpM c σ (fun t σ1 => if t = true then wpS b σ1 (fun fl σ2 => match fl with
      | .nx => ∃ j, j < k ∧ I j σ2
      | .ct => ∃ j, j < k ∧ I j σ2
      | .bk => Q .nx σ2
      | fl => Q fl σ2) else Q .nx σ1) (fun c σ1 => Q (.ex c) σ1)) : wpS (sWhile c b n) σ Q := by
  induction n generalizing σ m with
  | zero => omega
  | succ n ih =>
    refine ws_while0.mpr (wpM_mono (hs m σ h0) (fun t σ1 h => ?_) fun _ _ h => h)
    cases t with
    | false => simpa using h
    | true =>
      simp only [if_true] at h ⊢
      refine wpS_mono h fun fl σ2 h => ?_
      cases fl with
      | nx => obtain ⟨j, hj, hi⟩ := h; exact ih hi (by omega)
      | ct => obtain ⟨j, hj, hi⟩ := h; exact ih hi (by omega)
      | bk => exact h
      | rt r => exact h
      | ex c => exact h
end
/-! ### zip -/
section
variable {σ : Fr} {X : Str → Fr → Prop}
def zK (rs : List R) : M Src := match rs with
  | [a, b] => M.bind (take1 a) fun x => M.bind (take1 b) fun y => M.bind (M.lift (zipG x.1 y.1)) fun l => M.pure ⟨l, x.2 ++ y.2⟩
  | _ => M.no
@[simp] theorem wp_srcZ {f g : SE} {Q : Src → Fr → Prop} : wpM (srcZ f g) σ Q X ↔ wpM (eAll [f, g]) σ (fun rs σ1 => wpM (zK rs) σ1 Q X) X := wp_bind
@[simp] theorem wp_zK {a b : R} {Q : Src → Fr → Prop} : wpM (zK [a, b]) σ Q X ↔ wpM (take1 a) σ (fun x σ1 => wpM (take1 b) σ1 (fun y σ2 => wpO (zipG x.1 y.1) fun l => Q ⟨l, x.2 ++ y.2⟩ σ2) X) X :=
  wp_bind.trans (wpM_q fun _ _ => wp_bind.trans (wpM_q fun _ _ => wp_bind.trans (wp_lift.trans (wpO_q fun _ => wp_pure))))
end
def zpD (q : Int × Int) : D := .tup [.int q.1, .int q.2]
theorem zipW_ints : ∀ a b : List Int, List.zipWith (fun x y => D.tup [x, y]) (a.map D.int) (b.map D.int) = (a.zip b).map zpD
  | [], _ => by simp
  | _ :: _, [] => by simp
  | x :: a, y :: b => by simp [zipW_ints a b, zpD]
theorem zip_tupI {a b : List Int} : zipG (tupI a) (tupI b) = some ((a.zip b).map zpD) := by
  show some (List.zipWith (fun x y => D.tup [x, y]) (a.map D.int) (b.map D.int)) = _
  rw [zipW_ints]
/-! ### equal tables -/
theorem eq_tupI' {a b : List Int} : eqG (tupI a) (tupI b) = some (decide (a = b)) := eq_intsT
theorem eqv_tupI (a b : List Int) : eqv (tupI a) (tupI b) = decide (a = b) := by
  have h := eq_intsT (a := a) (b := b)
  unfold eqG at h
  rw [if_pos ⟨shp_intsT, shp_intsT⟩] at h
  exact Option.some.inj h
theorem eqvL_tabs : ∀ a b : List (List Int), eqvL (a.map tupI) (b.map tupI) = decide (a = b)
  | [], [] => by simp [eqvL]
  | [], _ :: _ => by simp [eqvL]
  | _ :: _, [] => by simp [eqvL]
  | x :: a, y :: b => by simp only [List.map_cons, eqvL, eqv_tupI, eqvL_tabs a b, List.cons.injEq, Bool.decide_and]
theorem shp_tabI {rows : List (List Int)} {n : Nat} : shp (n + 2) (tabI rows) = true := by
  unfold tabI
  simp only [shp]
  refine shpL_mem.mpr fun d hd => ?_
  obtain ⟨r, _, rfl⟩ := List.mem_map.mp hd
  exact tupI_shp r n
theorem eq_tabI {a b : List (List Int)} : eqG (tabI a) (tabI b) = some (decide (a = b)) := by
  unfold eqG
  rw [if_pos ⟨shp_tabI, shp_tabI⟩]
  simp only [tabI, eqv, eqvL_tabs]
theorem ne_tabI {a b : List (List Int)} : neG (tabI a) (tabI b) = some (!decide (a = b)) := by
  unfold neG
  rw [if_pos ⟨shp_tabI, shp_tabI⟩]
  simp only [tabI, eqv, eqvL_tabs]
theorem shp_intsL {L : List Int} {n : Nat} : shp (n + 1) (.lst (L.map .int)) = true := by
  simp only [shp]
  refine shpL_mem.mpr fun d hd => ?_
  obtain ⟨i, _, rfl⟩ := List.mem_map.mp hd
  simp [shp]
theorem ne_lstI {a b : List Int} : neG (.lst (a.map .int)) (.lst (b.map .int)) = some (!decide (a = b)) := by
  unfold neG
  rw [if_pos ⟨shp_intsL, shp_intsL⟩]
  simp only [eqv, eqvL_ints]
/-! ### sorted -/
theorem sort_tupI {r : List Int} : sortG (tupI r) = some (.lst ((isort r).map .int), true) := by
  show (isInts (r.map .int)).map _ = _
  rw [isInts_ints]; rfl
theorem sort_lstI {r : List Int} : sortG (.lst (r.map .int)) = some (.lst ((isort r).map .int), true) := by
  show (isInts (r.map .int)).map _ = _
  rw [isInts_ints]; rfl
/-! ### _law_inside -/
@[irreducible] def InsideOk (f : FSem) : Prop := ∀ (rows : List (List Int)) (h w : Nat) (q : Int × Int), Rect rows h w → wpF f [.fro (tabI rows), .fro (pD q)] (fun d o fs => d = .bl (inr h w q) ∧ o = false ∧ fs = [.fro (tabI rows), .fro (pD q)]) (fun _ _ => False)
theorem InsideOk.run {f : FSem} (h : InsideOk f) : ∀ (rows : List (List Int)) (h w : Nat) (q : Int × Int), Rect rows h w → wpF f [.fro (tabI rows), .fro (pD q)] (fun d o fs => d = .bl (inr h w q) ∧ o = false ∧ fs = [.fro (tabI rows), .fro (pD q)]) (fun _ _ => False) := by
  unfold InsideOk at h; exact h
@[simp] theorem pD0 {q : Int × Int} : ixG (pD q) (.int 0) = some (.int q.1, false) := ix_natT _ 0 _ rfl
@[simp] theorem pD1 {q : Int × Int} : ixG (pD q) (.int 1) = some (.int q.2, false) := ix_natT _ 1 _ rfl
theorem inside_ok : InsideOk (mkF 2 B_law_inside) := by
  unfold InsideOk
  intro rows h w q hr
  rw [wf_mk]
  rw [show frame 2 [.fro (tabI rows), .fro (pD q)] = [.fro (tabI rows), .fro (pD q)] from rfl]
  unfold B_law_inside
  obtain ⟨e1, e2⟩ := hr.row0
  have e3 := hr.1
  simp
  by_cases h1 : 0 ≤ q.1
  · by_cases h2 : q.1 < h
    · have h2' : q.1 < (rows.length : Int) := by rw [e3]; exact h2
      by_cases h3 : 0 ≤ q.2
      · simp [h1, h2', h3, e1, e2, inr, h2]
      · simp [h1, h2', h3, inr, h2]
    · have h2' : ¬ q.1 < (rows.length : Int) := by rw [e3]; exact h2
      simp [h1, h2', inr, h2]
  · simp [h1, inr]
/-! ### columns of a list of rows -/
def tabL (rows : List (List Int)) : D := .lst (rows.map tupI)
theorem columnsL_ok {rows : List (List Int)} {h w : Nat} (hr : Rect rows h w) (hh : h ≤ 1000) (hw : w ≤ 1000) : wpF (mkF 3 B_law_columns) [.fro (tabL rows)] (fun d o fs => d = .lst ((List.range w).map fun c => tupI (colI rows c)) ∧ o = true ∧ fs = [.fro (tabL rows)]) (fun _ _ => False) := by
  rw [wf_mk]; rw [show frame 3 [.fro (tabL rows)] = [.fro (tabL rows), .no, .no] from rfl]
  unfold B_law_columns
  have hp : 0 < rows.length := by rw [hr.1]; exact hr.2.2.1
  have e1 : ixG (tabL rows) (.int 0) = some (tupI (rowAt rows 0), false) := ix_nat _ 0 _ (by simp [rowAt, hp, List.getD_eq_getElem?_getD])
  have e2 := hr.row0.2
  have e3 : itemsOf (tabL rows) = some (rows.map tupI) := rfl
  simp [e1, e2, rng_len w (by omega), wipeD]
  refine wpLc_A (fun (k : Nat) => D.int (k : Int)) (fun c => some (tupI (colI rows c))) (l := List.range w) (okW_nil _) (by simp; omega) (fun c hc => ?_) ?_
  · have hc := List.mem_range.mp hc
    simp [wipeD, e3]
    refine wpLc_A tupI (fun r => some (.int (itA r c))) (l := rows) (okW_nil _) (by have := hr.1; simp; omega) (fun r hrm => ?_) ?_
    · have : ixG (tupI r) (.int (c : Int)) = some (.int (itA r c), false) := ix_rowD (by rw [hr.2.1 r hrm]; exact hc)
      simp [wipeD, this]
    · simp [wipeD, restore, tupI, colI, Function.comp_def]
  · simp [restore]
end Ev

set_option Elab.async false
set_option linter.all false
set_option maxRecDepth 100000
set_option maxHeartbeats 4000000
namespace Ev
open PySem
/-! a judge that asks for a word, a tuple and a whole number, and then compares as shown -/
def JudgeW1 (F it wh : FSem) (w : List Nat) : S := sSeq (sSet 2 (eCall F [false] [eVar 0]))
    (sSeq (sIf (orB (notB (tr (eCall it [false, false, false] [eVar 1, ec (.str w), ec (.int 3)]) truG)) (orB (notB (tr (e1 (isiG ["tuple"]) (e2 ixG (eVar 1) (ec (.int 1)))) truG)) (notB (tr (eCall wh [false] [e2 ixG (eVar 1) (ec (.int 2))]) truG)))) (sSeq (sRet (ec (.bl false)))
    (sNx)) (sNx))
    (sSeq (sRet (eB (cmp2 eqG (eN (un1 reprG) [eVar 1]) (eN (un1 reprG) [eVar 2]))))
    (sNx)))
theorem judgeW1_ok {h : Hf} (H : h.Ok) {F it wh : FSem} (hF : HF1 h F) (hi : ToldOk it) (hwh : WholeOk wh) {w : List Nat} (hw : ∀ x ∈ w, x < 1114112) (hr : ∀ aa, h.dom [aa] → h.fit [aa] → ∃ l i, h.told [aa] = .tup [.str w, .tup l, .int i] ∧ itB (.tup l) = true) (ha : ∀ aa v, h.dom [aa] → h.fit [aa] → (h.acc [aa] v ↔ v = h.told [aa])) : HJ1 h (mkF 3 (JudgeW1 F it wh w)) := by
  intro aa v hd hv
  rw [wf_mk]
  rw [show frame 3 [.fro aa, .fro v] = [.fro aa, .fro v, .no] from rfl]
  unfold JudgeW1
  simp
  refine wpF_mono (hF aa hd) (fun d o fs ⟨hf, e1, e2, e3⟩ => ?_) fun cc fs ⟨h1, h2, h3⟩ => ?_
  · subst e1 e2 e3
    simp
    refine wpF_mono (hi _ _ v hv w hw 3 (by omega)) (fun d o fs ⟨e1, e2, e3⟩ => ?_) fun _ _ h => h.elim
    subst e1 e2 e3
    obtain ⟨l, i, et, hit⟩ := hr aa hd hf
    have hg := (H.told _ hd hf).1
    rw [show (h.acc [aa] v) = (v = h.told [aa]) from propext (ha aa v hd hf)]
    rw [et] at hg ⊢
    cases hb : toldB w 3 v with
    | true =>
      have hitL : itL [.tup l, .int i] = true := by
        simp only [itB] at hit
        simp [itL, hit, itB]
      obtain ⟨vl, rfl, r1, r2, r3⟩ := judge_repr hv (by omega) (by omega) hitL (Gd.up hg (n' := 20) (by omega) (Nat.le_refl _) fun i h => h) (by omega) (by omega) (by simpa using hb)
      generalize shownL (.tup (.str w :: .tup l :: [.int i])) = t2 at r2 r3
      generalize shownL (.tup vl) = t1 at r1 r3
      match vl, hb with
      | [x, y, z], hb =>
        have x1 : ixG (.tup [x, y, z]) (.int 1) = some (y, false) := ix_natT _ 1 _ rfl
        have x2 : ixG (.tup [x, y, z]) (.int 2) = some (z, false) := ix_natT _ 2 _ rfl
        cases hy : isT y with
        | true =>
          simp [x1, sub_tup, x2, hy]
          refine wpF_mono (hwh z) (fun d o fs ⟨e1, e2, e3⟩ => ?_) fun _ _ h => h.elim
          subst e1 e2 e3
          cases hz : isI z with
          | true =>
            simp [r1, r2, r3]
            exact hf
          | false =>
            have hz2 : z ≠ .int i := fun e => by rw [e] at hz; cases hz
            simp [hz2]
            exact hf
        | false =>
          have hy2 : y ≠ .tup l := fun e => by rw [e] at hy; cases hy
          simp [x1, sub_tup, hy, hy2]
          exact hf
      | [], hb => simp [toldB] at hb
      | [x], hb => simp [toldB] at hb
      | [x, y], hb => simp [toldB] at hb
      | x :: y :: z :: t :: q, hb => simp [toldB] at hb
    | false =>
      have hv2 : v ≠ .tup [.str w, .tup l, .int i] := fun e => by rw [e] at hb; simp [toldB, strB] at hb
      simp [hv2]
      exact hf
  · subst h2 h3
    simp
    exact h1
theorem fm_if {α : Type} (P : α → Bool) (f : α → D) : ∀ l : List α, l.filterMap (fun q => if P q = true then some (f q) else none) = (l.filter P).map f
  | [] => rfl
  | q :: l => by
    have ih := fm_if P f l
    by_cases h : P q = true
    · simp [List.filterMap_cons, h, List.filter_cons, ih]
    · simp only [Bool.not_eq_true] at h
      simp [List.filterMap_cons, h, List.filter_cons, ih]
theorem fm_all {α : Type} (f : α → D) (l : List α) : l.filterMap (fun x => some (f x)) = l.map f := by rw [List.filterMap_eq_map']
theorem tupCells {l : List (Nat × Nat)} : tupG (.lst (l.map cD)) = some (.tup (l.map cD), false) := rfl
theorem cellsT_gd {l : List (Nat × Nat)} {m : Nat} (hl : l.length ≤ m) (hm : m ≤ 2000) (hb : ∀ q ∈ l, q.1 < 64 ∧ q.2 < 64) (n : Nat) : Gd (n + 2) (4 + 42 * m) 1000 (.tup (l.map cD)) := by
  refine Gd.mkT ?_ fun x hx => ?_
  · have := wtL_le (w := 40) (l := l.map cD) fun x hx => by
      obtain ⟨q, _, rfl⟩ := List.mem_map.mp hx
      simp [cD, wt, wtL]
    rw [List.length_map] at this
    omega
  · obtain ⟨q, hq, rfl⟩ := List.mem_map.mp hx
    obtain ⟨h1, h2⟩ := hb q hq
    exact ⟨by simp [cD, shp, shpL], by simp [cD, gi, giL]; omega⟩
theorem itB_cellsT (l : List (Nat × Nat)) : itB (.tup (l.map cD)) = true := by
  simp only [itB]
  refine itL_mem.mpr fun d hd => ?_
  obtain ⟨q, _, rfl⟩ := List.mem_map.mp hd
  simp [cD, itB, itL]
end Ev

set_option Elab.async false
set_option linter.all false
set_option maxRecDepth 100000
set_option maxHeartbeats 4000000
namespace Ev
open PySem
/-! what a law draws, and one row too long -/
theorem Nst.tab {rows : List (List Int)} (h : Nst 20 100 rows) : TabOk rows := ⟨Nat.le_trans h.len (by omega), h.ne, fun r hr => by obtain ⟨x, y, z⟩ := h.row r hr; exact ⟨by omega, y, fun v hv => by have := z v hv; omega⟩⟩
theorem nb_tab (N : Nat) (nb : FSem) (h2 : 2 ≤ N) (hb : NnOk N nb) {rows : List (List Int)} (h : Nst 20 100 rows) : ∀ st, WS st → wpF nb [.ref st, .fro (tabI rows)] (fun d o fs => ∃ st', WS st' ∧ fs = [.ref st', .fro (tabI rows)] ∧ o = false ∧ ∃ r, d = tabI r ∧ TabOk r) (fun _ _ => False) := fun st hs => by
  refine wpF_mono (hb 2 20 100 (tabI rows) st h2 (by omega) (tabI_Tn h) hs) (fun d o fs ⟨st', hs', e1, e2, e3⟩ => ?_) fun _ _ h => h.elim
  obtain ⟨r, er, hr⟩ := Tn2 e3
  exact ⟨st', hs', e1, e2, r, er, ⟨Nat.le_trans hr.len (by omega), hr.ne, fun q hq => by obtain ⟨a, b, c⟩ := hr.row q hq; exact ⟨by omega, b, fun x hx => by have := c x hx; omega⟩⟩⟩
theorem nb_int (N : Nat) (nb : FSem) (hb : NnOk N nb) {n : Int} : ∀ st, WS st → wpF nb [.ref st, .fro (.int n)] (fun d o fs => ∃ st', WS st' ∧ fs = [.ref st', .fro (.int n)] ∧ o = false ∧ ∃ m : Int, d = .int m ∧ m.natAbs ≤ n.natAbs + 1) (fun _ _ => False) := fun st hs => by
  refine wpF_mono (hb 0 20 n.natAbs (.int n) st (by omega) (by omega) (int_Tn 20 n) hs) (fun d o fs ⟨st', hs', e1, e2, e3⟩ => ?_) fun _ _ h => h.elim
  obtain ⟨m, em, hm⟩ := e3
  exact ⟨st', hs', e1, e2, m, em, hm⟩
def longer (rows : List (List Int)) : List (List Int) := rows ++ [List.replicate (wid rows + 1) 0]
section
variable {rows : List (List Int)} {lo hi : Int} (hn : Nst 20 100 rows) (hf : fitT rows lo hi)
include hn hf
theorem wid_le : wid rows ≤ 20 := by
  have hpos := List.length_pos_iff.mpr hn.ne
  have := (Rect.row (hf.rect hn.ne) (k := 0) hpos).2.2
  exact (hn.row _ this).1
theorem longer_ok : TabOk (longer rows) ∧ ¬ fitT (longer rows) lo hi ∧ exT (longer rows) lo hi = "UnfitGrid" := by
  have hpos := List.length_pos_iff.mpr hn.ne
  have hw := wid_le hn hf
  have hwe : wid (longer rows) = wid rows := by
    unfold wid longer rowAt
    rw [List.getD_eq_getElem?_getD, List.getElem?_append_left hpos, ← List.getD_eq_getElem?_getD]
  have nr : ¬ recT (longer rows) := fun q => by
    have := q.2 (List.replicate (wid rows + 1) 0) (by unfold longer; simp)
    rw [hwe] at this
    simp at this
  refine ⟨⟨?_, by unfold longer; simp, fun r hr => ?_⟩, fun q => nr q.1, ?_⟩
  · unfold longer; have := hn.len; simp; omega
  · unfold longer at hr
    rcases List.mem_append.mp hr with hr | hr
    · obtain ⟨a, b, c⟩ := hn.row r hr
      exact ⟨by omega, b, fun x hx => by have := c x hx; omega⟩
    · simp at hr; subst hr
      exact ⟨by simp; omega, by simp, fun x hx => by have := (List.mem_replicate.mp hx).2; omega⟩
  · unfold exT; rw [if_neg fun q => nr q.1]
theorem longer_D : mulG (.tup [.int 0]) (.int ((wid rows : Int) + 1)) = some (tupI (List.replicate (wid rows + 1) 0), false) ∧ addG (tabI rows) (.tup [tupI (List.replicate (wid rows + 1) 0)]) = some (tabI (longer rows), false) := by
  have hw := wid_le hn hf
  have h1 := hf.1.1
  constructor
  · have c1 : ([D.int 0] : List D) ≠ [] ∧ (2 : Int) ≤ (wid rows : Int) + 1 ∧ (wid rows : Int) + 1 ≤ 1000 ∧ ([D.int 0] : List D).length ≤ 1000 := ⟨by simp, by omega, by omega, by simp⟩
    show (if ([D.int 0] : List D) ≠ [] ∧ (2 : Int) ≤ (wid rows : Int) + 1 ∧ (wid rows : Int) + 1 ≤ 1000 ∧ ([D.int 0] : List D).length ≤ 1000 then some (D.tup (List.replicate ((wid rows : Int) + 1).toNat [D.int 0]).flatten, false) else none) = _
    rw [if_pos c1]
    have e : ((wid rows : Int) + 1).toNat = wid rows + 1 := by omega
    rw [e]
    unfold tupI
    congr 3
    generalize wid rows + 1 = n
    induction n with
    | zero => rfl
    | succ n ih => rw [List.replicate_succ, List.flatten_cons, ih, List.replicate_succ]; rfl
  · unfold tabI
    rw [addT (by have := hn.len; simp; omega)]
    unfold longer
    rw [List.map_append]; rfl
theorem longer_0 : ixG (tabI rows) (.int 0) = some (tupI (rowAt rows 0), false) ∧ (rowAt rows 0).length = wid rows := ⟨tab0 hn.ne, rfl⟩
end
theorem drawn_small {rows : List (List Int)} {h w : Nat} {lo hi lo' hi' : Int} (hr : Rect rows h w) (h1 : h ≤ 4) (h2 : w ≤ 4) (hb : ∀ r ∈ rows, inR lo hi r) (c1 : -50 ≤ lo) (c2 : hi ≤ 50) (c3 : lo' ≤ lo) (c4 : hi ≤ hi') : Nst 20 100 rows ∧ fitT rows lo' hi' := by
  have hwid : wid rows = w := hr.row0.2
  have hlen := hr.1
  have hp1 := hr.2.2.1
  have hp2 := hr.2.2.2
  refine ⟨⟨by omega, fun e => by subst e; simp at hlen; omega, fun r hrm => ⟨by have := hr.2.1 r hrm; omega, fun e => by have := hr.2.1 r hrm; subst e; simp at this; omega, fun x hx => by have := hb r hrm x hx; omega⟩⟩, ⟨by omega, fun r hrm => by rw [hwid]; exact hr.2.1 r hrm⟩, fun r hrm x hx => by have := hb r hrm x hx; omega, ?_⟩
  have : rows.length * wid rows ≤ 4 * 4 := Nat.mul_le_mul (by omega) (by omega)
  omega
end Ev

set_option Elab.async false
set_option linter.all false
set_option maxRecDepth 100000
set_option maxHeartbeats 4000000
namespace Ev
open PySem
/-! lists of whole numbers as trees -/
def colL (l : List Int) : D := .lst (l.map .int)
theorem ix_colL {l : List Int} {k : Nat} (h : k < l.length) : ixG (colL l) (.int (k : Int)) = some (.int (itA l k), false) := ix_nat _ k _ (by simp [itA, h, List.getD_eq_getElem?_getD])
theorem lst_tupI {r : List Int} : lstG (tupI r) = some (colL r, true) := rfl
theorem tup_colL {r : List Int} : tupG (colL r) = some (tupI r, false) := rfl
theorem len_colL {r : List Int} : lenG (colL r) = some (.int r.length, false) := by unfold colL; simp
theorem items_colL {r : List Int} : itemsOf (colL r) = some (r.map .int) := rfl
theorem cut_ge {α : Type} {l : List α} {k : Nat} (h : k ≤ l.length) : cutL l (some (k : Int)) none = l.drop k := by
  unfold cutL
  rw [HT.sIx_nat, HT.sIx_none, Nat.min_eq_left h]
  exact List.take_of_length_le (by simp)
theorem sl_colL_to {r : List Int} {k : Nat} : sliceG none (some (k : Int)) (colL r) = some (colL (r.take k), true) := by
  unfold colL
  rw [sl_ints, cut_to]
theorem sl_colL_fr {r : List Int} {k : Nat} (h : k ≤ r.length) : sliceG (some (k : Int)) none (colL r) = some (colL (r.drop k), true) := by
  unfold colL
  rw [sl_ints, cut_ge h]
theorem rev_colL {r : List Int} : revG (colL r) = some (colL r.reverse, true) := by
  unfold colL
  rw [List.map_reverse]; rfl
theorem rev_tupI {r : List Int} : revG (tupI r) = some (tupI r.reverse, false) := by
  unfold tupI
  rw [List.map_reverse]; rfl
theorem rev_tabI {r : List (List Int)} : revG (tabI r) = some (tabI r.reverse, false) := by
  unfold tabI
  rw [List.map_reverse]; rfl
theorem zip_colL {a b : List Int} : zipG (colL a) (colL b) = some ((a.zip b).map zpD) := by
  show some (List.zipWith (fun x y => D.tup [x, y]) (a.map D.int) (b.map D.int)) = _
  rw [zipW_ints]
/-- a list of lists -/
def rowsL (rows : List (List Int)) : D := .lst (rows.map colL)
theorem ix_rowsL {rows : List (List Int)} {k : Nat} (h : k < rows.length) : ixG (rowsL rows) (.int (k : Int)) = some (colL (rowAt rows k), false) := ix_nat _ k _ (by simp [rowAt, h, List.getD_eq_getElem?_getD])
theorem ix_rowsL0 {rows : List (List Int)} (h : 0 < rows.length) : ixG (rowsL rows) (.int 0) = some (colL (rowAt rows 0), false) := ix_rowsL (k := 0) h
theorem len_rowsL {r : List (List Int)} : lenG (rowsL r) = some (.int r.length, false) := by unfold rowsL; simp
theorem items_rowsL {r : List (List Int)} : itemsOf (rowsL r) = some (r.map colL) := rfl
theorem sl_rowsL_to {r : List (List Int)} {k : Nat} : sliceG none (some (k : Int)) (rowsL r) = some (rowsL (r.take k), true) := by
  unfold rowsL
  show some (D.lst (cutL (r.map colL) none (some (k : Int))), true) = _
  rw [cut_to, List.map_take]
theorem sl_rowsL_fr {r : List (List Int)} {k : Nat} (h : k ≤ r.length) : sliceG (some (k : Int)) none (rowsL r) = some (rowsL (r.drop k), true) := by
  unfold rowsL
  show some (D.lst (cutL (r.map colL) (some (k : Int)) none), true) = _
  rw [cut_ge (by simpa using h), List.map_drop]
theorem rev_rowsL {r : List (List Int)} : revG (rowsL r) = some (rowsL r.reverse, true) := by
  unfold rowsL
  rw [List.map_reverse]; rfl
def zrD (q : List Int × List Int) : D := .tup [colL q.1, colL q.2]
theorem lzip_rows {a b : List (List Int)} : lzipG [rowsL a, rowsL b] = some (.lst ((a.zip b).map zrD), true) := by
  show some (D.lst (List.zipWith (fun x y => D.tup [x, y]) (a.map colL) (b.map colL)), true) = _
  congr 3
  induction a generalizing b with
  | nil => simp
  | cons x a ih =>
    cases b with
    | nil => simp
    | cons y b => simp [ih, zrD]
/-- one by one -/
def addZ (a b : List Int) : List Int := (a.zip b).map fun q => q.1 + q.2
theorem addZ_len (a b : List Int) : (addZ a b).length = min a.length b.length := by simp [addZ]
end Ev

set_option Elab.async false
set_option linter.all false
set_option maxRecDepth 100000
set_option maxHeartbeats 4000000
namespace Ev
open PySem
/-! a row of whole numbers, perhaps empty, and what is near to it -/
theorem Tb1 {L J : Nat} {d : D} (h : Tb L J 1 d) : ∃ ms : List Int, d = tupI ms ∧ ms.length ≤ L ∧ ∀ x ∈ ms, x.natAbs ≤ J := by
  obtain ⟨l, rfl, hl, hx⟩ := h
  have : ∀ l : List D, (∀ x ∈ l, Tb L J 0 x) → ∃ ms : List Int, l = ms.map .int ∧ ∀ x ∈ ms, x.natAbs ≤ J := fun l => by
    induction l with
    | nil => exact fun _ => ⟨[], rfl, by simp⟩
    | cons x l ih =>
      intro h
      obtain ⟨i, rfl, hi⟩ := h x List.mem_cons_self
      obtain ⟨ms, rfl, hm⟩ := ih fun y hy => h y (List.mem_cons_of_mem _ hy)
      exact ⟨i :: ms, rfl, fun y hy => by rcases List.mem_cons.mp hy with rfl | hy; exact hi; exact hm y hy⟩
  obtain ⟨ms, rfl, hm⟩ := this l hx
  exact ⟨ms, rfl, by simpa using hl, hm⟩
theorem tupI_Tb {L J : Nat} {ns : List Int} (hl : ns.length ≤ L) (h : ∀ x ∈ ns, x.natAbs ≤ J) : Tb L J 1 (tupI ns) :=
  ⟨_, rfl, by simpa using hl, fun x hx => by
    obtain ⟨i, hi, rfl⟩ := List.mem_map.mp hx
    exact ⟨i, rfl, h i hi⟩⟩
theorem nb_row (N : Nat) (nb : FSem) (h1 : 1 ≤ N) (hb : NbOk N nb) {ks : List Int} {L J : Nat} (hL : L ≤ 1000) (hl : ks.length ≤ L) (hj : ∀ x ∈ ks, x.natAbs ≤ J) : ∀ st, WS st → wpF nb [.ref st, .fro (tupI ks)] (fun d o fs => ∃ st', WS st' ∧ fs = [.ref st', .fro (tupI ks)] ∧ o = false ∧ ∃ ms : List Int, d = tupI ms ∧ ms.length ≤ L ∧ ∀ x ∈ ms, x.natAbs ≤ J + 1) (fun _ _ => False) := fun st hs => by
  refine wpF_mono (hb 1 L J (tupI ks) st h1 hL (tupI_Tb hl hj) hs) (fun d o fs ⟨st', hs', e1, e2, e3⟩ => ?_) fun _ _ h => h.elim
  obtain ⟨ms, em, hm1, hm2⟩ := Tb1 e3
  exact ⟨st', hs', e1, e2, ms, em, hm1, hm2⟩
end Ev

set_option Elab.async false
set_option linter.all false
set_option maxRecDepth 100000
set_option maxHeartbeats 0
namespace K67
open PySem PySem.Spec PyProof.Rows L2 Ev
def top (i : Nat) : Stmt := PySem.Challenge.pw_gridwhole_k67_tables_turned_and_folded.main.body.getD i (.Pass ⟨0, 0, 0, 0⟩)
def tk_TooWide : Str → Option Bool := fun c => if c = "UnfitGrid" then some false else if c = "TooWide" then some true else none
def tk_UnfitGrid : Str → Option Bool := fun c => if c = "UnfitGrid" then some true else if c = "TooWide" then some false else none
/-! ### is_told -/
def b0 (g : Nat → FSem) : S := B_is_told
/-! ### check_table -/
def b1 (g : Nat → FSem) : S := B_check_table
/-! ### turned_table -/
def b2 (g : Nat → FSem) : S := sSeq (sDrop (eCall (g 1) [false, false, false] [eVar 0, e1 negG (ec (.int 1000)), ec (.int 1000)]))
    (sSeq (sIf (notB (chain leG ltG (ec (.int 0)) (eVar 1) (ec (.int 8)))) (sSeq (sRaise "UnfitGrid")
    (sNx)) (sNx))
    (sSeq (sSet 3 (eN (un1 tupG) [eLc (srcL (eVar 0)) [2] (gN 2) (M.pure true) (eN (un1 tupG) [eVar 2])]))
    (sSeq (sIf (cmp2 gtG (eVar 1) (ec (.int 3))) (sSeq (sSet 3 (eN (un1 tupG) [eLc (srcL (eVar 3)) [2] (gN 2) (M.pure true) (e1 revG (eVar 2))]))
    (sNx)) (sNx))
    (sSeq (sFor (srcR1 (e2 modG (eVar 1) (ec (.int 4)))) (gN 4) (sSeq (sSet 3 (eN (un1 tupG) [eLc (srcR1 (eN (un1 lenG) [e2 ixG (eVar 3) (ec (.int 0))])) [5] (gN 5) (M.pure true) (eN (un1 tupG) [eLc (srcL (e1 revG (eVar 3))) [2] (gN 2) (M.pure true) (e2 ixG (eVar 2) (eVar 5))])]))
    (sNx)))
    (sSeq (sRet (eTup [ec (.str [114, 111, 119, 115]), eVar 3]))
    (sNx))))))
/-! ### judge_turned_table -/
def b3 (g : Nat → FSem) : S := sSeq (sSet 3 (eCall (g 2) [false, false] [eVar 0, eVar 1]))
    (sSeq (sRet (eAnd truG (eCall (g 0) [false, false, false] [eVar 2, ec (.str [114, 111, 119, 115]), ec (.int 2)]) (eAnd truG (e1 (isiG ["tuple"]) (e2 ixG (eVar 2) (ec (.int 1)))) (eB (cmp2 eqG (eN (un1 reprG) [eVar 2]) (eN (un1 reprG) [eVar 3]))))))
    (sNx))
/-! ### folded -/
def b4 (g : Nat → FSem) : S := sSeq (sDrop (eCall (g 1) [false, false, false] [eVar 0, e1 negG (ec (.int 1000)), ec (.int 1000)]))
    (sSeq (sIf (cmp2 inG (ec (.bl true)) (eLc (srcL (eVar 1)) [2] (gN 2) (M.pure true) (eB (cmp2 (notG inG) (eVar 2) (eTup [ec (.int 0), ec (.int 1)]))))) (sSeq (sRaise "UnfitGrid")
    (sNx)) (sNx))
    (sSeq (sSet 4 (eLc (srcL (eVar 0)) [3] (gN 3) (M.pure true) (eN (un1 lstG) [eVar 3])))
    (sSeq (sFor (srcL (eVar 1)) (gN 2) (sSeq (sIf (cmp2 eqG (eVar 2) (ec (.int 0))) (sSeq (sIf (cmp2 eqG (e2 modG (eN (un1 lenG) [e2 ixG (eVar 4) (ec (.int 0))]) (ec (.int 2))) (ec (.int 1))) (sSeq (sRaise "UnfitGrid")
    (sNx)) (sNx))
    (sSeq (sSet 5 (e2 divG (eN (un1 lenG) [e2 ixG (eVar 4) (ec (.int 0))]) (ec (.int 2))))
    (sSeq (sSet 4 (eLc (srcL (eVar 4)) [3] (gN 3) (M.pure true) (eLc (srcZ (eSl (eVar 3) (oNone) (oSome (eVar 5))) (e1 revG (eSl (eVar 3) (oSome (eVar 5)) (oNone)))) [6, 7] (gT 2 (gsCons (gN 6) (gsCons (gN 7) (gsNil)))) (M.pure true) (e2 addG (eVar 6) (eVar 7)))))
    (sNx)))) (sSeq (sIf (cmp2 eqG (e2 modG (eN (un1 lenG) [eVar 4]) (ec (.int 2))) (ec (.int 1))) (sSeq (sRaise "UnfitGrid")
    (sNx)) (sNx))
    (sSeq (sSet 5 (e2 divG (eN (un1 lenG) [eVar 4]) (ec (.int 2))))
    (sSeq (sSet 8 (eN lzipG [eSl (eVar 4) (oNone) (oSome (eVar 5)), e1 revG (eSl (eVar 4) (oSome (eVar 5)) (oNone))]))
    (sSeq (sSet 4 (eLc (srcL (eVar 8)) [3, 9] (gT 2 (gsCons (gN 3) (gsCons (gN 9) (gsNil)))) (M.pure true) (eLc (srcZ (eVar 3) (eVar 9)) [6, 7] (gT 2 (gsCons (gN 6) (gsCons (gN 7) (gsNil)))) (M.pure true) (e2 addG (eVar 6) (eVar 7)))))
    (sNx))))))
    (sNx)))
    (sSeq (sRet (eTup [ec (.str [114, 111, 119, 115]), eN (un1 tupG) [eLc (srcL (eVar 4)) [3] (gN 3) (M.pure true) (eN (un1 tupG) [eVar 3])]]))
    (sNx)))))
/-! ### judge_folded -/
def b5 (g : Nat → FSem) : S := sSeq (sSet 3 (eCall (g 4) [false, false] [eVar 0, eVar 1]))
    (sSeq (sRet (eAnd truG (eCall (g 0) [false, false, false] [eVar 2, ec (.str [114, 111, 119, 115]), ec (.int 2)]) (eAnd truG (e1 (isiG ["tuple"]) (e2 ixG (eVar 2) (ec (.int 1)))) (eB (cmp2 eqG (eN (un1 reprG) [eVar 2]) (eN (un1 reprG) [eVar 3]))))))
    (sNx))
/-! ### _law_next -/
def b6 (g : Nat → FSem) : S := B_law_next
/-! ### _law_same -/
def b7 (g : Nat → FSem) : S := B_law_same (g 7)
/-! ### _law_changed -/
def b8 (g : Nat → FSem) : S := B_law_changed (g 6) (g 8)
/-! ### _law_ints -/
def b9 (g : Nat → FSem) : S := B_law_ints (g 9)
/-! ### _law_exchanged -/
def b10 (g : Nat → FSem) : S := B_law_exchanged (g 10)
/-! ### _law_cut -/
def b11 (g : Nat → FSem) : S := B_law_cut (g 6) (g 11)
/-! ### _law_turned_about -/
def b12 (g : Nat → FSem) : S := B_law_turned_about (g 9) (g 6) (g 10) (g 11)
/-! ### _law_odd -/
def b13 (g : Nat → FSem) : S := B_law_odd (g 6) (g 12) (g 8)
/-! ### _law_drawn_table -/
def b14 (g : Nat → FSem) : S := B_law_drawn_table (g 6)
/-! ### _law_columns -/
def b15 (g : Nat → FSem) : S := B_law_columns
/-! ### _law_neighbour -/
def b16 (g : Nat → FSem) : S := B_law_neighbour (g 6) (g 16)
/-! ### _law_accepts -/
def b17 (g : Nat → FSem) : S := sSeq (sSet 3 (eVar 0))
    (sSeq (sIf (cmp2 gtG (eVar 1) (ec (.int 3))) (sSeq (sSet 3 (eN (un1 tupG) [eLc (srcL (eVar 3)) [4] (gN 4) (M.pure true) (e1 revG (eVar 4))]))
    (sNx)) (sNx))
    (sSeq (sFor (srcR1 (e2 modG (eVar 1) (ec (.int 4)))) (gN 5) (sSeq (sSet 3 (eN (un1 tupG) [eLc (srcL (eCall (g 15) [false] [eVar 3])) [6] (gN 6) (M.pure true) (e1 revG (eVar 6))]))
    (sNx)))
    (sSeq (sRet (eCall (g 7) [false, false] [eVar 2, eTup [ec (.str [114, 111, 119, 115]), eVar 3]]))
    (sNx))))
/-! ### _law_told_near -/
def b18 (g : Nat → FSem) : S := sSeq (sSet 3 (eLst [eVar 1, eVar 2]))
    (sSeq (sSet 4 (eCall (g 6) [true, false] [eVar 0, ec (.int 2)]))
    (sSeq (sStore (eCall (g 16) [true, false] [eVar 0, e2 ixG (eVar 3) (eVar 4)]) (eVar 3) (eVar 4))
    (sSeq (sTry (sSeq (sRet (eCall (g 2) [false, false] [e2 ixG (eVar 3) (ec (.int 0)), e2 ixG (eVar 3) (ec (.int 1))]))
    (sNx)) [⟨tk_UnfitGrid, 5, .ret0⟩, ⟨tk_TooWide, 5, .ret0⟩])
    (sNx))))
/-! ### _law_unfit -/
def b19 (g : Nat → FSem) : S := sSeq (sFor (srcL (eLst [ec (.bl false), ec (.bl true)])) (gN 2) (sSeq (sTry (sSeq (sIf (tr (eVar 2) truG) (sSeq (sDrop (eCall (g 3) [false, false, false] [eVar 0, eVar 1, ec .non]))
    (sNx)) (sSeq (sDrop (eCall (g 2) [false, false] [eVar 0, eVar 1]))
    (sNx)))
    (sSeq (sRet (ec (.bl false)))
    (sNx))) [⟨tk_UnfitGrid, 3, .skip⟩])
    (sNx)))
    (sSeq (sRet (ec (.bl true)))
    (sNx))
/-! ### _law_accepts_too -/
def b20 (g : Nat → FSem) : S := sSeq (sSet 4 (eLc (srcL (eVar 0)) [3] (gN 3) (M.pure true) (eN (un1 lstG) [eVar 3])))
    (sSeq (sFor (srcL (eVar 1)) (gN 5) (sSeq (sIf (cmp2 eqG (eVar 5) (ec (.int 0))) (sSeq (sSet 4 (eLc (srcL (eVar 4)) [3] (gN 3) (M.pure true) (eLc (srcR1 (e2 divG (eN (un1 lenG) [eVar 3]) (ec (.int 2)))) [6] (gN 6) (M.pure true) (e2 addG (e2 ixG (eVar 3) (eVar 6)) (e2 ixG (eVar 3) (e2 subG (e2 subG (eN (un1 lenG) [eVar 3]) (ec (.int 1))) (eVar 6)))))))
    (sNx)) (sSeq (sSet 4 (eLc (srcR1 (e2 divG (eN (un1 lenG) [eVar 4]) (ec (.int 2)))) [7] (gN 7) (M.pure true) (eLc (srcR1 (eN (un1 lenG) [e2 ixG (eVar 4) (ec (.int 0))])) [6] (gN 6) (M.pure true) (e2 addG (e2 ixG (e2 ixG (eVar 4) (eVar 7)) (eVar 6)) (e2 ixG (e2 ixG (eVar 4) (e2 subG (e2 subG (eN (un1 lenG) [eVar 4]) (ec (.int 1))) (eVar 7))) (eVar 6))))))
    (sNx)))
    (sNx)))
    (sSeq (sRet (eCall (g 7) [false, false] [eVar 2, eTup [ec (.str [114, 111, 119, 115]), eN (un1 tupG) [eLc (srcL (eVar 4)) [3] (gN 3) (M.pure true) (eN (un1 tupG) [eVar 3])]]]))
    (sNx)))
/-! ### _law_told_near_too -/
def b21 (g : Nat → FSem) : S := sSeq (sSet 3 (eLst [eVar 1, eVar 2]))
    (sSeq (sSet 4 (eCall (g 6) [true, false] [eVar 0, ec (.int 2)]))
    (sSeq (sStore (eCall (g 16) [true, false] [eVar 0, e2 ixG (eVar 3) (eVar 4)]) (eVar 3) (eVar 4))
    (sSeq (sTry (sSeq (sRet (eCall (g 4) [false, false] [e2 ixG (eVar 3) (ec (.int 0)), e2 ixG (eVar 3) (ec (.int 1))]))
    (sNx)) [⟨tk_UnfitGrid, 5, .ret0⟩, ⟨tk_TooWide, 5, .ret0⟩])
    (sNx))))
/-! ### _law_unfit_too -/
def b22 (g : Nat → FSem) : S := sSeq (sFor (srcL (eLst [ec (.bl false), ec (.bl true)])) (gN 2) (sSeq (sTry (sSeq (sIf (tr (eVar 2) truG) (sSeq (sDrop (eCall (g 5) [false, false, false] [eVar 0, eVar 1, ec .non]))
    (sNx)) (sSeq (sDrop (eCall (g 4) [false, false] [eVar 0, eVar 1]))
    (sNx)))
    (sSeq (sRet (ec (.bl false)))
    (sNx))) [⟨tk_UnfitGrid, 3, .skip⟩])
    (sNx)))
    (sSeq (sRet (ec (.bl true)))
    (sNx))
/-! ### law -/
def b23 (g : Nat → FSem) : S := sSeq (sSet 1 (eLst [eN (un1 lstG) [eVar 0], ec (.int 0), ec (.int 0), ec (.int 1)]))
    (sSeq (sSet 2 (eLst []))
    (sSeq (sSet 3 (eLst []))
    (sSeq (sFor (srcR1 (ec (.int 3))) (gN 4) (sSeq (sSet 5 (eCall (g 14) [true, false, false, false, false] [eVar 1, ec (.int 1), ec (.int 4), e1 negG (ec (.int 3)), ec (.int 9)]))
    (sSeq (sSet 6 (eCall (g 6) [true, false] [eVar 1, ec (.int 8)]))
    (sSeq (sSet 7 (eCall (g 2) [false, false] [eVar 5, eVar 6]))
    (sSeq (sSet 8 (eCall (g 18) [true, false, false] [eVar 1, eVar 5, eVar 6]))
    (sSeq (sIf (orB (notB (tr (eCall (g 17) [false, false, false] [eVar 5, eVar 6, eVar 7]) truG)) (cmp2 (notG isG) (eCall (g 3) [false, false, false] [eVar 5, eVar 6, eVar 7]) (ec (.bl true)))) (sSeq (sRet (ec (.bl false)))
    (sNx)) (sNx))
    (sSeq (sIf (orB (notB (tr (eCall (g 19) [false, false] [eVar 5, ec (.int 8)]) truG)) (notB (tr (eCall (g 19) [false, false] [e2 addG (eVar 5) (eTup [e2 mulG (eTup [ec (.int 0)]) (e2 addG (eN (un1 lenG) [e2 ixG (eVar 5) (ec (.int 0))]) (ec (.int 1)))]), eVar 6]) truG))) (sSeq (sRet (ec (.bl false)))
    (sNx)) (sNx))
    (sSeq (sSet 2 (e2 addG (eSl (eVar 2) (oSome (e1 negG (ec (.int 3)))) (oNone)) (eLst [eVar 7, eVar 8])))
    (sSeq (sFor (srcR1 (e2 addG (ec (.int 8)) (eN (un1 lenG) [eVar 2]))) (gN 9) (sSeq (sSet 10 (eIf (cmp2 ltG (eVar 9) (ec (.int 8))) (eCall (g 13) [true, false] [eVar 1, eVar 7]) (e2 ixG (eVar 2) (e2 subG (eVar 9) (ec (.int 8))))))
    (sSeq (sIf (notB (tr (eCall (g 7) [false, false] [eCall (g 3) [false, false, false] [eVar 5, eVar 6, eVar 10], eCall (g 17) [false, false, false] [eVar 5, eVar 6, eVar 10]]) truG)) (sSeq (sRet (ec (.bl false)))
    (sNx)) (sNx))
    (sNx))))
    (sSeq (sSet 11 (eTup []))
    (sSeq (sPar 12 13 [eN (un1 lenG) [eVar 5], eN (un1 lenG) [e2 ixG (eVar 5) (ec (.int 0))]])
    (sSeq (sFor (srcR1 (ec (.int 4))) (gN 4) (sSeq (sIf (andB (cmp2 eqG (eCall (g 6) [true, false] [eVar 1, ec (.int 2)]) (ec (.int 0))) (cmp2 eqG (e2 modG (eVar 13) (ec (.int 2))) (ec (.int 0)))) (sSeq (sPar 11 13 [e2 addG (eVar 11) (eTup [ec (.int 0)]), e2 divG (eVar 13) (ec (.int 2))])
    (sNx)) (sSeq (sIf (cmp2 eqG (e2 modG (eVar 12) (ec (.int 2))) (ec (.int 0))) (sSeq (sPar 11 12 [e2 addG (eVar 11) (eTup [ec (.int 1)]), e2 divG (eVar 12) (ec (.int 2))])
    (sNx)) (sNx))
    (sNx)))
    (sNx)))
    (sSeq (sSet 7 (eCall (g 4) [false, false] [eVar 5, eVar 11]))
    (sSeq (sSet 8 (eCall (g 21) [true, false, false] [eVar 1, eVar 5, eVar 11]))
    (sSeq (sIf (orB (notB (tr (eCall (g 20) [false, false, false] [eVar 5, eVar 11, eVar 7]) truG)) (cmp2 (notG isG) (eCall (g 5) [false, false, false] [eVar 5, eVar 11, eVar 7]) (ec (.bl true)))) (sSeq (sRet (ec (.bl false)))
    (sNx)) (sNx))
    (sSeq (sIf (orB (notB (tr (eCall (g 22) [false, false] [eVar 5, e2 addG (eVar 11) (eTup [ec (.int 2)])]) truG)) (orB (notB (tr (eCall (g 22) [false, false] [eTup [eTup [ec (.int 1), ec (.int 2), ec (.int 3)]], eTup [ec (.int 0)]]) truG)) (notB (tr (eCall (g 22) [false, false] [eTup [eTup [ec (.int 1)]], eTup [ec (.int 1)]]) truG)))) (sSeq (sRet (ec (.bl false)))
    (sNx)) (sNx))
    (sSeq (sSet 3 (e2 addG (eSl (eVar 3) (oSome (e1 negG (ec (.int 3)))) (oNone)) (eLst [eVar 7, eVar 8])))
    (sSeq (sFor (srcR1 (e2 addG (ec (.int 8)) (eN (un1 lenG) [eVar 3]))) (gN 9) (sSeq (sSet 10 (eIf (cmp2 ltG (eVar 9) (ec (.int 8))) (eCall (g 13) [true, false] [eVar 1, eVar 7]) (e2 ixG (eVar 3) (e2 subG (eVar 9) (ec (.int 8))))))
    (sSeq (sIf (notB (tr (eCall (g 7) [false, false] [eCall (g 5) [false, false, false] [eVar 5, eVar 11, eVar 10], eCall (g 20) [false, false, false] [eVar 5, eVar 11, eVar 10]]) truG)) (sSeq (sRet (ec (.bl false)))
    (sNx)) (sNx))
    (sNx))))
    (sNx)))))))))))))))))))
    (sSeq (sRet (ec (.bl true)))
    (sNx)))))
/-! ### all of them, by fuel -/
def G : Nat → Nat → FSem
  | 0, _ => noF
  | n + 1, i => match i with
    | 0 => mkF 3 (b0 (G n))
    | 1 => mkF 6 (b1 (G n))
    | 2 => mkF 6 (b2 (G n))
    | 3 => mkF 4 (b3 (G n))
    | 4 => mkF 10 (b4 (G n))
    | 5 => mkF 4 (b5 (G n))
    | 6 => mkF 4 (b6 (G n))
    | 7 => mkF 3 (b7 (G n))
    | 8 => mkF 7 (b8 (G n))
    | 9 => mkF 4 (b9 (G n))
    | 10 => mkF 4 (b10 (G n))
    | 11 => mkF 6 (b11 (G n))
    | 12 => mkF 9 (b12 (G n))
    | 13 => mkF 4 (b13 (G n))
    | 14 => mkF 8 (b14 (G n))
    | 15 => mkF 3 (b15 (G n))
    | 16 => mkF 4 (b16 (G n))
    | 17 => mkF 7 (b17 (G n))
    | 18 => mkF 6 (b18 (G n))
    | 19 => mkF 4 (b19 (G n))
    | 20 => mkF 8 (b20 (G n))
    | 21 => mkF 6 (b21 (G n))
    | 22 => mkF 4 (b22 (G n))
    | 23 => mkF 14 (b23 (G n))
    | _ => noF
structure Facts (K : PySem.W.Frag) (mg : Str → Option Value) : Prop where
  bi : BI mg
  g_UnfitGrid : mg "UnfitGrid" = some (.ref (He.ga K "UnfitGrid"))
  x_UnfitGrid : (He.Fa.exc "UnfitGrid").ok K = true
  e_UnfitGrid : ExF K "UnfitGrid"
  g_TooWide : mg "TooWide" = some (.ref (He.ga K "TooWide"))
  x_TooWide : (He.Fa.exc "TooWide").ok K = true
  e_TooWide : ExF K "TooWide"
  m_UnfitGrid_TooWide : PySem.W.exmOne K (exc K "UnfitGrid") (exc K "TooWide") = some false
  m_TooWide_TooWide : PySem.W.exmOne K (exc K "TooWide") (exc K "TooWide") = some true
  m_UnfitGrid_UnfitGrid : PySem.W.exmOne K (exc K "UnfitGrid") (exc K "UnfitGrid") = some true
  m_TooWide_UnfitGrid : PySem.W.exmOne K (exc K "TooWide") (exc K "UnfitGrid") = some false
structure Tab (P : Program) (w : World) (K : PySem.W.Frag) (mg : Str → Option Value) (base : Heap) (n : Nat) (g : Nat → FSem) : Prop where
  f0 : Fun P w K mg base n "is_told" 3 (g 0)
  f1 : Fun P w K mg base n "check_table" 3 (g 1)
  f2 : Fun P w K mg base n "turned_table" 2 (g 2)
  f3 : Fun P w K mg base n "judge_turned_table" 3 (g 3)
  f4 : Fun P w K mg base n "folded" 2 (g 4)
  f5 : Fun P w K mg base n "judge_folded" 3 (g 5)
  f6 : Fun P w K mg base n "_law_next" 2 (g 6)
  f7 : Fun P w K mg base n "_law_same" 2 (g 7)
  f8 : Fun P w K mg base n "_law_changed" 2 (g 8)
  f9 : Fun P w K mg base n "_law_ints" 1 (g 9)
  f10 : Fun P w K mg base n "_law_exchanged" 3 (g 10)
  f11 : Fun P w K mg base n "_law_cut" 2 (g 11)
  f12 : Fun P w K mg base n "_law_turned_about" 2 (g 12)
  f13 : Fun P w K mg base n "_law_odd" 2 (g 13)
  f14 : Fun P w K mg base n "_law_drawn_table" 5 (g 14)
  f15 : Fun P w K mg base n "_law_columns" 1 (g 15)
  f16 : Fun P w K mg base n "_law_neighbour" 2 (g 16)
  f17 : Fun P w K mg base n "_law_accepts" 3 (g 17)
  f18 : Fun P w K mg base n "_law_told_near" 3 (g 18)
  f19 : Fun P w K mg base n "_law_unfit" 2 (g 19)
  f20 : Fun P w K mg base n "_law_accepts_too" 3 (g 20)
  f21 : Fun P w K mg base n "_law_told_near_too" 3 (g 21)
  f22 : Fun P w K mg base n "_law_unfit_too" 2 (g 22)
  f23 : Fun P w K mg base n "law" 1 (g 23)
section
variable {P : Program} {w : World} {K : PySem.W.Frag} {mg : Str → Option Value} {base : Heap} {n : Nat} {g : Nat → FSem}
theorem cl_TooWide (F : Facts K mg) {N : List Str} {sc : Scope} {fn : Str → Bool} {i : Nat} {su : Su} : ClOk ⟨P, w, K, mg, base, n, N, sc, fn, true⟩ ⟨tk_TooWide, i, su⟩ (.ref (He.ga K "TooWide")) := by
  intro c b h
  have h : tk_TooWide c = some b := h
  unfold tk_TooWide at h
  by_cases hUnfitGrid : c = "UnfitGrid"
  · subst hUnfitGrid
    rw [if_pos rfl] at h
    cases h
    exact ⟨F.m_UnfitGrid_TooWide, fun _ => F.e_UnfitGrid⟩
  rw [if_neg hUnfitGrid] at h
  by_cases hTooWide : c = "TooWide"
  · subst hTooWide
    rw [if_pos rfl] at h
    cases h
    exact ⟨F.m_TooWide_TooWide, fun _ => F.e_TooWide⟩
  rw [if_neg hTooWide] at h
  cases h
theorem cl_UnfitGrid (F : Facts K mg) {N : List Str} {sc : Scope} {fn : Str → Bool} {i : Nat} {su : Su} : ClOk ⟨P, w, K, mg, base, n, N, sc, fn, true⟩ ⟨tk_UnfitGrid, i, su⟩ (.ref (He.ga K "UnfitGrid")) := by
  intro c b h
  have h : tk_UnfitGrid c = some b := h
  unfold tk_UnfitGrid at h
  by_cases hUnfitGrid : c = "UnfitGrid"
  · subst hUnfitGrid
    rw [if_pos rfl] at h
    cases h
    exact ⟨F.m_UnfitGrid_UnfitGrid, fun _ => F.e_UnfitGrid⟩
  rw [if_neg hUnfitGrid] at h
  by_cases hTooWide : c = "TooWide"
  · subst hTooWide
    rw [if_pos rfl] at h
    cases h
    exact ⟨F.m_TooWide_UnfitGrid, fun _ => F.e_TooWide⟩
  rw [if_neg hTooWide] at h
  cases h
abbrev N0 : List Str := ["told", "word", "count"]
abbrev sc0 : Scope := defScope (top 5)
theorem d0 (F : Facts K mg) (T : Tab P w K mg base n g) : DSs ⟨P, w, K, mg, base, n, N0, sc0, fun _ => true, true⟩ (defBody (top 5)) (b0 g) :=
  dss_cons (ds_if (dt_w (dw_or (dt_not (dt_tru (de_isi F.bi (de_var 0) F.bi.tuple))) (dw_or1 (dt_cmp ho_ne (de_len F.bi (da_cons (de_var 0) (da_nil))) (de_var 2) (nomark _))))) (dss_cons (ds_ret (de_bl))
    (dss_nil)) (dss_nil))
    (dss_cons (ds_ret (de_and (de_isi F.bi (de_ix (de_var 0) (de_int)) F.bi.str) (de_one (de_cmp ho_eq (de_ix (de_var 0) (de_int)) (de_var 1) (nomark _)))))
    (dss_nil))
abbrev N1 : List Str := ["rows", "low", "high", "width", "row", "number"]
abbrev sc1 : Scope := defScope (top 7)
theorem d1 (F : Facts K mg) (T : Tab P w K mg base n g) : DSs ⟨P, w, K, mg, base, n, N1, sc1, fun _ => true, true⟩ (defBody (top 7)) (b1 g) :=
  dss_cons (ds_set 3 (de_len F.bi (da_cons (de_ix (de_var 0) (de_int)) (da_nil))))
    (dss_cons (ds_if (dt_w (dw_or (dt_cmp ho_eq (de_var 3) (de_int) (nomark _)) (dw_or1 (dt_cmp ho_in (de_bl) (de_lc [("row", 4)] (di_seq (de_var 0)) (dg_name 4) (dts_nil) (de_cmp ho_ne (de_len F.bi (da_cons (de_var 4) (da_nil))) (de_var 3) (nomark _))) rfl)))) (dss_cons (ds_raise F.g_UnfitGrid F.x_UnfitGrid)
    (dss_nil)) (dss_nil))
    (dss_cons (ds_if (dt_cmp ho_in (de_bl) (de_lc2 [("row", 4), ("number", 5)] (di_seq (de_var 0)) (dg_name 4) (dts_nil) (di_seq (de_var 4)) (dg_name 5) (dts_nil) (de_not (de_chain ho_le ho_le (de_var 1) (de_var 5) (de_var 2)))) rfl) (dss_cons (ds_raise F.g_UnfitGrid F.x_UnfitGrid)
    (dss_nil)) (dss_nil))
    (dss_cons (ds_if (dt_cmp ho_gt (de_mul (de_len F.bi (da_cons (de_var 0) (da_nil))) (de_var 3)) (de_int) (nomark _)) (dss_cons (ds_raise F.g_TooWide F.x_TooWide)
    (dss_nil)) (dss_nil))
    (dss_cons (ds_ret (de_tup (da_cons (de_len F.bi (da_cons (de_var 0) (da_nil))) (da_cons (de_var 3) (da_nil)))))
    (dss_nil)))))
abbrev N2 : List Str := ["rows", "kind", "row", "now", "_", "at"]
abbrev sc2 : Scope := defScope (top 9)
theorem d2 (F : Facts K mg) (T : Tab P w K mg base n g) : DSs ⟨P, w, K, mg, base, n, N2, sc2, fun _ => true, true⟩ (defBody (top 9)) (b2 g) :=
  dss_cons (ds_expr (de_call (ms := [false, false, false]) T.f1 (da_cons (de_var 0) (da_cons (de_neg (de_int)) (da_cons (de_int) (da_nil))))))
    (dss_cons (ds_if (dt_not (dt_chain ho_le ho_lt (de_int) (de_var 1) (de_int))) (dss_cons (ds_raise F.g_UnfitGrid F.x_UnfitGrid)
    (dss_nil)) (dss_nil))
    (dss_cons (ds_set 3 (de_tuple F.bi (da_cons (de_lc [("row", 2)] (di_seq (de_var 0)) (dg_name 2) (dts_nil) (de_tuple F.bi (da_cons (de_var 2) (da_nil)))) (da_nil))))
    (dss_cons (ds_if (dt_cmp ho_gt (de_var 1) (de_int) (nomark _)) (dss_cons (ds_set 3 (de_tuple F.bi (da_cons (de_lc [("row", 2)] (di_seq (de_var 3)) (dg_name 2) (dts_nil) (de_rev (de_var 2))) (da_nil))))
    (dss_nil)) (dss_nil))
    (dss_cons (ds_for (di_range1 F.bi (de_mod (de_var 1) (de_int))) (dg_name 4) (dss_cons (ds_set 3 (de_tuple F.bi (da_cons (de_lc [("at", 5)] (di_range1 F.bi (de_len F.bi (da_cons (de_ix (de_var 3) (de_int)) (da_nil)))) (dg_name 5) (dts_nil) (de_tuple F.bi (da_cons (de_lc [("row", 2)] (di_seq (de_rev (de_var 3))) (dg_name 2) (dts_nil) (de_ix (de_var 2) (de_var 5))) (da_nil)))) (da_nil))))
    (dss_nil)))
    (dss_cons (ds_ret (de_tup (da_cons (de_str) (da_cons (de_var 3) (da_nil)))))
    (dss_nil))))))
abbrev N3 : List Str := ["rows", "kind", "told", "due"]
abbrev sc3 : Scope := defScope (top 10)
theorem d3 (F : Facts K mg) (T : Tab P w K mg base n g) : DSs ⟨P, w, K, mg, base, n, N3, sc3, fun _ => true, true⟩ (defBody (top 10)) (b3 g) :=
  dss_cons (ds_set 3 (de_call (ms := [false, false]) T.f2 (da_cons (de_var 0) (da_cons (de_var 1) (da_nil)))))
    (dss_cons (ds_ret (de_and (de_call (ms := [false, false, false]) T.f0 (da_cons (de_var 2) (da_cons (de_str) (da_cons (de_int) (da_nil))))) (de_and (de_isi F.bi (de_ix (de_var 2) (de_int)) F.bi.tuple) (de_one (de_cmp ho_eq (de_repr F.bi (da_cons (de_var 2) (da_nil))) (de_repr F.bi (da_cons (de_var 3) (da_nil))) (nomark _))))))
    (dss_nil))
abbrev N4 : List Str := ["rows", "kinds", "kind", "row", "now", "half", "one", "other", "pairs", "line"]
abbrev sc4 : Scope := defScope (top 11)
theorem d4 (F : Facts K mg) (T : Tab P w K mg base n g) : DSs ⟨P, w, K, mg, base, n, N4, sc4, fun _ => true, true⟩ (defBody (top 11)) (b4 g) :=
  dss_cons (ds_expr (de_call (ms := [false, false, false]) T.f1 (da_cons (de_var 0) (da_cons (de_neg (de_int)) (da_cons (de_int) (da_nil))))))
    (dss_cons (ds_if (dt_cmp ho_in (de_bl) (de_lc [("kind", 2)] (di_seq (de_var 1)) (dg_name 2) (dts_nil) (de_cmp ho_notin (de_var 2) (de_tup (da_cons (de_int) (da_cons (de_int) (da_nil)))) rfl)) rfl) (dss_cons (ds_raise F.g_UnfitGrid F.x_UnfitGrid)
    (dss_nil)) (dss_nil))
    (dss_cons (ds_setLc 4 [("row", 3)] (di_seq (de_var 0)) (dg_name 3) (dts_nil) (de_list F.bi (da_cons (de_var 3) (da_nil))))
    (dss_cons (ds_for (di_seq (de_var 1)) (dg_name 2) (dss_cons (ds_if (dt_cmp ho_eq (de_var 2) (de_int) (nomark _)) (dss_cons (ds_if (dt_cmp ho_eq (de_mod (de_len F.bi (da_cons (de_ix (de_var 4) (de_int)) (da_nil))) (de_int)) (de_int) (nomark _)) (dss_cons (ds_raise F.g_UnfitGrid F.x_UnfitGrid)
    (dss_nil)) (dss_nil))
    (dss_cons (ds_set 5 (de_div (de_len F.bi (da_cons (de_ix (de_var 4) (de_int)) (da_nil))) (de_int)))
    (dss_cons (ds_setLc 4 [("row", 3)] (di_seq (de_var 4)) (dg_name 3) (dts_nil) (de_lc [("one", 6), ("other", 7)] (di_zip F.bi (de_sl (de_var 3) (do_none) (do_some (de_var 5))) (de_rev (de_sl (de_var 3) (do_some (de_var 5)) (do_none)))) (dg_tup (dgs_cons (dg_name 6) (dgs_cons (dg_name 7) (dgs_nil)))) (dts_nil) (de_add (de_var 6) (de_var 7))))
    (dss_nil)))) (dss_cons (ds_if (dt_cmp ho_eq (de_mod (de_len F.bi (da_cons (de_var 4) (da_nil))) (de_int)) (de_int) (nomark _)) (dss_cons (ds_raise F.g_UnfitGrid F.x_UnfitGrid)
    (dss_nil)) (dss_nil))
    (dss_cons (ds_set 5 (de_div (de_len F.bi (da_cons (de_var 4) (da_nil))) (de_int)))
    (dss_cons (ds_set 8 (de_lzip F.bi (da_cons (de_sl (de_var 4) (do_none) (do_some (de_var 5))) (da_cons (de_rev (de_sl (de_var 4) (do_some (de_var 5)) (do_none))) (da_nil)))))
    (dss_cons (ds_setLc 4 [("row", 3), ("line", 9)] (di_seq (de_var 8)) (dg_tup (dgs_cons (dg_name 3) (dgs_cons (dg_name 9) (dgs_nil)))) (dts_nil) (de_lc [("one", 6), ("other", 7)] (di_zip F.bi (de_var 3) (de_var 9)) (dg_tup (dgs_cons (dg_name 6) (dgs_cons (dg_name 7) (dgs_nil)))) (dts_nil) (de_add (de_var 6) (de_var 7))))
    (dss_nil))))))
    (dss_nil)))
    (dss_cons (ds_ret (de_tup (da_cons (de_str) (da_cons (de_tuple F.bi (da_cons (de_lc [("row", 3)] (di_seq (de_var 4)) (dg_name 3) (dts_nil) (de_tuple F.bi (da_cons (de_var 3) (da_nil)))) (da_nil))) (da_nil)))))
    (dss_nil)))))
abbrev N5 : List Str := ["rows", "kinds", "told", "due"]
abbrev sc5 : Scope := defScope (top 12)
theorem d5 (F : Facts K mg) (T : Tab P w K mg base n g) : DSs ⟨P, w, K, mg, base, n, N5, sc5, fun _ => true, true⟩ (defBody (top 12)) (b5 g) :=
  dss_cons (ds_set 3 (de_call (ms := [false, false]) T.f4 (da_cons (de_var 0) (da_cons (de_var 1) (da_nil)))))
    (dss_cons (ds_ret (de_and (de_call (ms := [false, false, false]) T.f0 (da_cons (de_var 2) (da_cons (de_str) (da_cons (de_int) (da_nil))))) (de_and (de_isi F.bi (de_ix (de_var 2) (de_int)) F.bi.tuple) (de_one (de_cmp ho_eq (de_repr F.bi (da_cons (de_var 2) (da_nil))) (de_repr F.bi (da_cons (de_var 3) (da_nil))) (nomark _))))))
    (dss_nil))
abbrev N6 : List Str := ["state", "limit", "cell", "value"]
abbrev sc6 : Scope := defScope (top 14)
theorem d6 (F : Facts K mg) (T : Tab P w K mg base n g) : DSs ⟨P, w, K, mg, base, n, N6, sc6, fun _ => true, true⟩ (defBody (top 14)) (b6 g) :=
  dss_cons (ds_if (dt_w (dw_and (dt_cmp ho_eq (de_ix (de_var 0) (de_int)) (de_int) (nomark _)) (dw_and1 (dt_cmp ho_lt (de_ix (de_var 0) (de_int)) (de_len F.bi (da_cons (de_ix (de_var 0) (de_int)) (da_nil))) (nomark _))))) (dss_cons (ds_set 2 (de_ix (de_ix (de_var 0) (de_int)) (de_ix (de_var 0) (de_int))))
    (dss_cons (ds_augS (de_var 0) (de_int) (de_int) (fun _ => ip_add))
    (dss_cons (ds_if (dt_cmp ho_ge (de_var 2) (de_pow (de_int) (de_int)) (nomark _)) (dss_cons (ds_store (de_var 2) (de_var 0) (de_int))
    (dss_nil)) (dss_cons (ds_store (de_mod (de_intc F.bi (da_cons (de_add (de_add (de_mul (de_ix (de_var 0) (de_int)) (de_int)) (de_mod (de_intc F.bi (da_cons (de_var 2) (da_nil))) (de_int))) (de_int)) (da_nil))) (de_int)) (de_var 0) (de_int))
    (dss_nil)))
    (dss_nil)))) (dss_nil))
    (dss_cons (ds_if (dt_cmp ho_gt (de_ix (de_var 0) (de_int)) (de_int) (nomark _)) (dss_cons (ds_set 3 (de_mod (de_intc F.bi (da_cons (de_ix (de_var 0) (de_int)) (da_nil))) (de_var 1)))
    (dss_cons (ds_store (de_div (de_ix (de_var 0) (de_int)) (de_var 1)) (de_var 0) (de_int))
    (dss_cons (ds_ret (de_var 3))
    (dss_nil)))) (dss_nil))
    (dss_cons (ds_store (de_mod (de_intc F.bi (da_cons (de_add (de_mul (de_ix (de_var 0) (de_int)) (de_int)) (de_int)) (da_nil))) (de_int)) (de_var 0) (de_int))
    (dss_cons (ds_ret (de_mod (de_intc F.bi (da_cons (de_div (de_ix (de_var 0) (de_int)) (de_int)) (da_nil))) (de_var 1)))
    (dss_nil))))
abbrev N7 : List Str := ["actual", "expected", "k"]
abbrev sc7 : Scope := defScope (top 15)
theorem d7 (F : Facts K mg) (T : Tab P w K mg base n g) : DSs ⟨P, w, K, mg, base, n, N7, sc7, fun _ => true, true⟩ (defBody (top 15)) (b7 g) :=
  dss_cons (ds_if (dt_cmp ho_is (de_var 1) (de_non) (nomark _)) (dss_cons (ds_ret (de_cmp ho_is (de_var 0) (de_non) (nomark _)))
    (dss_nil)) (dss_nil))
    (dss_cons (ds_if (dt_tru (de_isi F.bi (de_var 1) F.bi.bool)) (dss_cons (ds_ret (de_and (de_isi F.bi (de_var 0) F.bi.bool) (de_one (de_cmp ho_eq (de_var 0) (de_var 1) (nomark _)))))
    (dss_nil)) (dss_nil))
    (dss_cons (ds_if (dt_tru (de_isi F.bi (de_var 1) F.bi.int)) (dss_cons (ds_ret (de_and (de_isi F.bi (de_var 0) F.bi.int) (de_and (de_not (de_isi F.bi (de_var 0) F.bi.bool)) (de_one (de_cmp ho_eq (de_var 0) (de_var 1) (nomark _))))))
    (dss_nil)) (dss_nil))
    (dss_cons (ds_if (dt_tru (de_isi F.bi (de_var 1) F.bi.str)) (dss_cons (ds_ret (de_and (de_isi F.bi (de_var 0) F.bi.str) (de_one (de_cmp ho_eq (de_var 0) (de_var 1) (nomark _)))))
    (dss_nil)) (dss_nil))
    (dss_cons (ds_if (dt_w (dw_and (dt_tru (de_isi F.bi (de_var 1) F.bi.tuple)) (dw_and1 (dt_not (dt_tru (de_isi F.bi (de_var 0) F.bi.tuple)))))) (dss_cons (ds_ret (de_bl))
    (dss_nil)) (dss_nil))
    (dss_cons (ds_if (dt_w (dw_and (dt_tru (de_isi F.bi (de_var 1) F.bi.list)) (dw_and1 (dt_not (dt_tru (de_isi F.bi (de_var 0) F.bi.list)))))) (dss_cons (ds_ret (de_bl))
    (dss_nil)) (dss_nil))
    (dss_cons (ds_if (dt_cmp ho_ne (de_len F.bi (da_cons (de_var 0) (da_nil))) (de_len F.bi (da_cons (de_var 1) (da_nil))) (nomark _)) (dss_cons (ds_ret (de_bl))
    (dss_nil)) (dss_nil))
    (dss_cons (ds_for (di_range1 F.bi (de_len F.bi (da_cons (de_var 1) (da_nil)))) (dg_name 2) (dss_cons (ds_if (dt_not (dt_tru (de_call (ms := [false, false]) T.f7 (da_cons (de_ix (de_var 0) (de_var 2)) (da_cons (de_ix (de_var 1) (de_var 2)) (da_nil)))))) (dss_cons (ds_ret (de_bl))
    (dss_nil)) (dss_nil))
    (dss_nil)))
    (dss_cons (ds_ret (de_bl))
    (dss_nil)))))))))
abbrev N8 : List Str := ["state", "value", "others", "k", "j", "more", "turn"]
abbrev sc8 : Scope := defScope (top 16)
theorem d8 (F : Facts K mg) (T : Tab P w K mg base n g) : DSs ⟨P, w, K, mg, base, n, N8, sc8, fun _ => true, true⟩ (defBody (top 16)) (b8 g) :=
  dss_cons (ds_if (dt_tru (de_isi F.bi (de_var 1) F.bi.bool)) (dss_cons (ds_ret (de_ix (de_lst (da_cons (de_not (de_var 1)) (da_cons (de_intc F.bi (da_cons (de_var 1) (da_nil))) (da_nil)))) (de_call (ms := [true, false]) T.f6 (da_cons (de_var 0) (da_cons (de_int) (da_nil))))))
    (dss_nil)) (dss_nil))
    (dss_cons (ds_if (dt_w (dw_or (dt_cmp ho_is (de_var 1) (de_non) (nomark _)) (dw_or1 (dt_tru (de_isi F.bi (de_var 1) F.bi.int))))) (dss_cons (ds_ret (de_ix (de_lst (da_cons (de_add (de_or (de_var 1) (de_one (de_int))) (de_int)) (da_cons (de_sub (de_or (de_var 1) (de_one (de_int))) (de_int)) (da_cons (de_int) (da_cons (de_non) (da_cons (de_cmp ho_eq (de_var 1) (de_int) (nomark _)) (da_cons (de_strc F.bi (da_cons (de_var 1) (da_nil))) (da_cons (de_mul (de_int) (de_or (de_var 1) (de_one (de_int)))) (da_nil))))))))) (de_call (ms := [true, false]) T.f6 (da_cons (de_var 0) (da_cons (de_int) (da_nil))))))
    (dss_nil)) (dss_nil))
    (dss_cons (ds_if (dt_tru (de_isi F.bi (de_var 1) F.bi.str)) (dss_cons (ds_set 2 (de_lst (da_cons (de_sl (de_var 1) (do_some (de_int)) (do_none)) (da_cons (de_add (de_var 1) (de_str)) (da_cons (de_rev (de_var 1)) (da_cons (de_add (de_str) (de_var 1)) (da_cons (de_str) (da_cons (de_sl (de_var 1) (do_none) (do_some (de_neg (de_int)))) (da_cons (de_str) (da_cons (de_int) (da_cons (de_str) (da_nil))))))))))))
    (dss_cons (ds_ret (de_ix (de_var 2) (de_call (ms := [true, false]) T.f6 (da_cons (de_var 0) (da_cons (de_len F.bi (da_cons (de_var 2) (da_nil))) (da_nil))))))
    (dss_nil))) (dss_nil))
    (dss_cons (ds_if (dt_w (dw_and (dt_tru (de_isi F.bi (de_var 1) F.bi.tuple)) (dw_and (dt_cmp ho_ne (de_var 1) (de_tup (da_nil)) (nomark _)) (dw_and1 (dt_cmp ho_gt (de_call (ms := [true, false]) T.f6 (da_cons (de_var 0) (da_cons (de_int) (da_nil)))) (de_int) (nomark _)))))) (dss_cons (ds_set 3 (de_call (ms := [true, false]) T.f6 (da_cons (de_var 0) (da_cons (de_len F.bi (da_cons (de_var 1) (da_nil))) (da_nil)))))
    (dss_cons (ds_ret (de_add (de_add (de_sl (de_var 1) (do_none) (do_some (de_var 3))) (de_tup (da_cons (de_call (ms := [true, false]) T.f8 (da_cons (de_var 0) (da_cons (de_ix (de_var 1) (de_var 3)) (da_nil)))) (da_nil)))) (de_sl (de_var 1) (do_some (de_add (de_var 3) (de_int))) (do_none))))
    (dss_nil))) (dss_nil))
    (dss_cons (ds_if (dt_not (dt_tru (de_isi F.bi (de_var 1) F.bi.tuple))) (dss_cons (ds_ret (de_tup (da_nil)))
    (dss_nil)) (dss_nil))
    (dss_cons (ds_set 3 (de_call (ms := [true, false]) T.f6 (da_cons (de_var 0) (da_cons (de_add (de_len F.bi (da_cons (de_var 1) (da_nil))) (de_int)) (da_nil)))))
    (dss_cons (ds_set 4 (de_call (ms := [true, false]) T.f6 (da_cons (de_var 0) (da_cons (de_add (de_len F.bi (da_cons (de_var 1) (da_nil))) (de_int)) (da_nil)))))
    (dss_cons (ds_set 5 (de_lst (da_cons (de_add (de_sl (de_var 1) (do_none) (do_some (de_var 3))) (de_sl (de_var 1) (do_some (de_add (de_var 3) (de_int))) (do_none))) (da_cons (de_add (de_var 1) (de_sl (de_var 1) (do_none) (do_some (de_int)))) (da_cons (de_rev (de_var 1)) (da_cons (de_add (de_sl (de_var 1) (do_some (de_var 3)) (do_none)) (de_sl (de_var 1) (do_none) (do_some (de_var 3)))) (da_cons (de_list F.bi (da_cons (de_var 1) (da_nil))) (da_cons (de_sl (de_var 1) (do_none) (do_some (de_var 3))) (da_cons (de_tup (da_nil)) (da_cons (de_add (de_var 1) (de_tup (da_cons (de_int) (da_nil)))) (da_nil)))))))))))
    (dss_cons (ds_if (dt_chain ho_lt ho_lt (de_var 3) (de_var 4) (de_len F.bi (da_cons (de_var 1) (da_nil)))) (dss_cons (ds_set 5 (de_add (de_var 5) (de_lc [("turn", 6)] (di_range1 F.bi (de_int)) (dg_name 6) (dts_nil) (de_add (de_add (de_add (de_add (de_sl (de_var 1) (do_none) (do_some (de_var 3))) (de_sl (de_var 1) (do_some (de_var 4)) (do_some (de_add (de_var 4) (de_int))))) (de_sl (de_var 1) (do_some (de_add (de_var 3) (de_int))) (do_some (de_var 4)))) (de_sl (de_var 1) (do_some (de_var 3)) (do_some (de_add (de_var 3) (de_int))))) (de_sl (de_var 1) (do_some (de_add (de_var 4) (de_int))) (do_none))))))
    (dss_nil)) (dss_nil))
    (dss_cons (ds_ret (de_ix (de_var 5) (de_call (ms := [true, false]) T.f6 (da_cons (de_var 0) (da_cons (de_len F.bi (da_cons (de_var 5) (da_nil))) (da_nil))))))
    (dss_nil))))))))))
abbrev N9 : List Str := ["value", "found", "part", "number"]
abbrev sc9 : Scope := defScope (top 17)
theorem d9 (F : Facts K mg) (T : Tab P w K mg base n g) : DSs ⟨P, w, K, mg, base, n, N9, sc9, fun _ => true, true⟩ (defBody (top 17)) (b9 g) :=
  dss_cons (ds_if (dt_w (dw_or (dt_tru (de_isi F.bi (de_var 0) F.bi.bool)) (dw_or1 (dt_not (dt_tru (de_isiT F.bi (de_var 0) (ty_cons (ty_cons (ty_nil) F.bi.tuple) F.bi.int))))))) (dss_cons (ds_ret (de_lst (da_nil)))
    (dss_nil)) (dss_nil))
    (dss_cons (ds_if (dt_tru (de_isi F.bi (de_var 0) F.bi.int)) (dss_cons (ds_ret (de_lst (da_cons (de_var 0) (da_nil))))
    (dss_nil)) (dss_nil))
    (dss_cons (ds_set 1 (de_lst (da_nil)))
    (dss_cons (ds_for (di_seq (de_var 0)) (dg_name 2) (dss_cons (ds_set 1 (de_add (de_var 1) (de_lc [("number", 3)] (di_seq (de_call (ms := [false]) T.f9 (da_cons (de_var 2) (da_nil)))) (dg_name 3) (dts_one (dt_cmp ho_notin (de_var 3) (de_var 1) rfl)) (de_var 3))))
    (dss_nil)))
    (dss_cons (ds_ret (de_var 1))
    (dss_nil)))))
abbrev N10 : List Str := ["value", "one", "other", "part"]
abbrev sc10 : Scope := defScope (top 18)
theorem d10 (F : Facts K mg) (T : Tab P w K mg base n g) : DSs ⟨P, w, K, mg, base, n, N10, sc10, fun _ => true, true⟩ (defBody (top 18)) (b10 g) :=
  dss_cons (ds_if (dt_w (dw_or (dt_tru (de_isi F.bi (de_var 0) F.bi.bool)) (dw_or1 (dt_not (dt_tru (de_isiT F.bi (de_var 0) (ty_cons (ty_cons (ty_nil) F.bi.tuple) F.bi.int))))))) (dss_cons (ds_ret (de_var 0))
    (dss_nil)) (dss_nil))
    (dss_cons (ds_if (dt_tru (de_isi F.bi (de_var 0) F.bi.int)) (dss_cons (ds_ret (de_if (dt_cmp ho_eq (de_var 0) (de_var 1) (nomark _)) (de_var 2) (de_if (dt_cmp ho_eq (de_var 0) (de_var 2) (nomark _)) (de_var 1) (de_var 0))))
    (dss_nil)) (dss_nil))
    (dss_cons (ds_ret (de_tuple F.bi (da_cons (de_lc [("part", 3)] (di_seq (de_var 0)) (dg_name 3) (dts_nil) (de_call (ms := [false, false, false]) T.f10 (da_cons (de_var 3) (da_cons (de_var 1) (da_cons (de_var 2) (da_nil)))))) (da_nil))))
    (dss_nil)))
abbrev N11 : List Str := ["state", "value", "part", "k", "at", "ways"]
abbrev sc11 : Scope := defScope (top 19)
theorem d11 (F : Facts K mg) (T : Tab P w K mg base n g) : DSs ⟨P, w, K, mg, base, n, N11, sc11, fun _ => true, true⟩ (defBody (top 19)) (b11 g) :=
  dss_cons (ds_if (dt_w (dw_or (dt_not (dt_tru (de_isi F.bi (de_var 1) F.bi.tuple))) (dw_or1 (dt_cmp ho_eq (de_var 1) (de_tup (da_nil)) (nomark _))))) (dss_cons (ds_ret (de_var 1))
    (dss_nil)) (dss_nil))
    (dss_cons (ds_if (dt_cmp ho_ne (de_lc [("part", 2)] (di_seq (de_var 1)) (dg_name 2) (dts_one (dt_not (dt_tru (de_isi F.bi (de_var 2) F.bi.str)))) (de_var 2)) (de_lst (da_nil)) (nomark _)) (dss_cons (ds_set 3 (de_call (ms := [true, false]) T.f6 (da_cons (de_var 0) (da_cons (de_len F.bi (da_cons (de_var 1) (da_nil))) (da_nil)))))
    (dss_cons (ds_ret (de_add (de_add (de_sl (de_var 1) (do_none) (do_some (de_var 3))) (de_tup (da_cons (de_call (ms := [true, false]) T.f11 (da_cons (de_var 0) (da_cons (de_ix (de_var 1) (de_var 3)) (da_nil)))) (da_nil)))) (de_sl (de_var 1) (do_some (de_add (de_var 3) (de_int))) (do_none))))
    (dss_nil))) (dss_nil))
    (dss_cons (ds_set 3 (de_call (ms := [true, false]) T.f6 (da_cons (de_var 0) (da_cons (de_len F.bi (da_cons (de_var 1) (da_nil))) (da_nil)))))
    (dss_cons (ds_set 4 (de_call (ms := [true, false]) T.f6 (da_cons (de_var 0) (da_cons (de_add (de_len F.bi (da_cons (de_ix (de_var 1) (de_var 3)) (da_nil))) (de_int)) (da_nil)))))
    (dss_cons (ds_set 5 (de_lst (da_cons (de_add (de_add (de_sl (de_var 1) (do_none) (do_some (de_var 3))) (de_tup (da_cons (de_sl (de_ix (de_var 1) (de_var 3)) (do_none) (do_some (de_var 4))) (da_cons (de_sl (de_ix (de_var 1) (de_var 3)) (do_some (de_var 4)) (do_none)) (da_nil))))) (de_sl (de_var 1) (do_some (de_add (de_var 3) (de_int))) (do_none))) (da_cons (de_add (de_add (de_sl (de_var 1) (do_none) (do_some (de_var 3))) (de_tup (da_cons (de_join (de_str) (de_sl (de_var 1) (do_some (de_var 3)) (do_some (de_add (de_var 3) (de_int))))) (da_nil)))) (de_sl (de_var 1) (do_some (de_add (de_var 3) (de_int))) (do_none))) (da_nil)))))
    (dss_cons (ds_set 5 (de_add (de_var 5) (de_lst (da_cons (de_tup (da_cons (de_join (de_str) (de_var 1)) (da_nil))) (da_cons (de_tuple F.bi (da_cons (de_join (de_str) (de_var 1)) (da_nil))) (da_cons (de_add (de_add (de_sl (de_var 1) (do_none) (do_some (de_var 3))) (de_tup (da_cons (de_str) (da_nil)))) (de_sl (de_var 1) (do_some (de_var 3)) (do_none))) (da_cons (de_add (de_add (de_sl (de_var 1) (do_none) (do_some (de_var 3))) (de_rev (de_sl (de_var 1) (do_some (de_var 3)) (do_some (de_add (de_var 3) (de_int)))))) (de_sl (de_var 1) (do_some (de_add (de_var 3) (de_int))) (do_none))) (da_nil))))))))
    (dss_cons (ds_ret (de_ix (de_var 5) (de_call (ms := [true, false]) T.f6 (da_cons (de_var 0) (da_cons (de_len F.bi (da_cons (de_var 5) (da_nil))) (da_nil))))))
    (dss_nil)))))))
abbrev N12 : List Str := ["state", "told", "numbers", "pick", "one", "other", "part", "k", "j"]
abbrev sc12 : Scope := defScope (top 20)
theorem d12 (F : Facts K mg) (T : Tab P w K mg base n g) : DSs ⟨P, w, K, mg, base, n, N12, sc12, fun _ => true, true⟩ (defBody (top 20)) (b12 g) :=
  dss_cons (ds_set 2 (de_call (ms := [false]) T.f9 (da_cons (de_var 1) (da_nil))))
    (dss_cons (ds_set 3 (de_call (ms := [true, false]) T.f6 (da_cons (de_var 0) (da_cons (de_int) (da_nil)))))
    (dss_cons (ds_if (dt_w (dw_and (dt_cmp ho_lt (de_var 3) (de_int) (nomark _)) (dw_and1 (dt_cmp ho_ne (de_var 2) (de_lst (da_nil)) (nomark _))))) (dss_cons (ds_set 4 (de_ix (de_var 2) (de_call (ms := [true, false]) T.f6 (da_cons (de_var 0) (da_cons (de_len F.bi (da_cons (de_var 2) (da_nil))) (da_nil))))))
    (dss_cons (ds_set 5 (de_if (dt_cmp ho_eq (de_var 3) (de_int) (nomark _)) (de_add (de_var 4) (de_int)) (de_ix (de_var 2) (de_call (ms := [true, false]) T.f6 (da_cons (de_var 0) (da_cons (de_len F.bi (da_cons (de_var 2) (da_nil))) (da_nil)))))))
    (dss_cons (ds_ret (de_call (ms := [false, false, false]) T.f10 (da_cons (de_var 1) (da_cons (de_var 4) (da_cons (de_var 5) (da_nil))))))
    (dss_nil)))) (dss_nil))
    (dss_cons (ds_if (dt_cmp ho_eq (de_var 3) (de_int) (nomark _)) (dss_cons (ds_ret (de_add (de_sl (de_var 1) (do_none) (do_some (de_int))) (de_if (dt_cmp ho_gt (de_len F.bi (da_cons (de_var 1) (da_nil))) (de_int) (nomark _)) (de_call (ms := [true, false]) T.f11 (da_cons (de_var 0) (da_cons (de_sl (de_var 1) (do_some (de_int)) (do_none)) (da_nil)))) (de_tuple F.bi (da_cons (de_lc [("part", 6)] (di_seq (de_sl (de_var 1) (do_some (de_int)) (do_none))) (dg_name 6) (dts_nil) (de_call (ms := [true, false]) T.f11 (da_cons (de_var 0) (da_cons (de_var 6) (da_nil))))) (da_nil))))))
    (dss_nil)) (dss_nil))
    (dss_cons (ds_par 7 8 (da_cons (de_call (ms := [true, false]) T.f6 (da_cons (de_var 0) (da_cons (de_len F.bi (da_cons (de_var 1) (da_nil))) (da_nil)))) (da_cons (de_call (ms := [true, false]) T.f6 (da_cons (de_var 0) (da_cons (de_len F.bi (da_cons (de_var 1) (da_nil))) (da_nil)))) (da_nil))))
    (dss_cons (ds_if (dt_w (dw_and (dt_cmp ho_eq (de_len F.bi (da_cons (de_var 1) (da_nil))) (de_int) (nomark _)) (dw_and (dt_tru (de_isi F.bi (de_ix (de_var 1) (de_int)) F.bi.tuple)) (dw_and1 (dt_cmp ho_ne (de_ix (de_var 1) (de_int)) (de_tup (da_nil)) (nomark _)))))) (dss_cons (ds_par 7 8 (da_cons (de_call (ms := [true, false]) T.f6 (da_cons (de_var 0) (da_cons (de_len F.bi (da_cons (de_ix (de_var 1) (de_int)) (da_nil))) (da_nil)))) (da_cons (de_call (ms := [true, false]) T.f6 (da_cons (de_var 0) (da_cons (de_len F.bi (da_cons (de_ix (de_var 1) (de_int)) (da_nil))) (da_nil)))) (da_nil))))
    (dss_cons (ds_ret (de_tup (da_cons (de_ix (de_var 1) (de_int)) (da_cons (de_add (de_add (de_sl (de_ix (de_var 1) (de_int)) (do_none) (do_some (de_var 7))) (de_sl (de_ix (de_var 1) (de_int)) (do_some (de_var 8)) (do_some (de_add (de_var 8) (de_int))))) (de_sl (de_ix (de_var 1) (de_int)) (do_some (de_add (de_var 7) (de_int))) (do_none))) (da_nil)))))
    (dss_nil))) (dss_nil))
    (dss_cons (ds_ret (de_if (dt_w (dw_and (dt_cmp ho_gt (de_var 7) (de_int) (nomark _)) (dw_and1 (dt_cmp ho_gt (de_var 8) (de_int) (nomark _))))) (de_add (de_add (de_sl (de_var 1) (do_none) (do_some (de_var 7))) (de_sl (de_var 1) (do_some (de_var 8)) (do_some (de_add (de_var 8) (de_int))))) (de_sl (de_var 1) (do_some (de_add (de_var 7) (de_int))) (do_none))) (de_var 1)))
    (dss_nil)))))))
abbrev N13 : List Str := ["state", "told", "odd", "pick"]
abbrev sc13 : Scope := defScope (top 21)
theorem d13 (F : Facts K mg) (T : Tab P w K mg base n g) : DSs ⟨P, w, K, mg, base, n, N13, sc13, fun _ => true, true⟩ (defBody (top 21)) (b13 g) :=
  dss_cons (ds_set 2 (de_lst (da_cons (de_non) (da_cons (de_str) (da_cons (de_str) (da_cons (de_dicK) (da_cons (de_tup (da_nil)) (da_cons (de_sl (de_var 1) (do_none) (do_some (de_int))) (da_cons (de_list F.bi (da_cons (de_var 1) (da_nil))) (da_cons (de_add (de_var 1) (de_tup (da_cons (de_int) (da_nil)))) (da_cons (de_add (de_tup (da_cons (de_lst (da_cons (de_ix (de_var 1) (de_int)) (da_nil))) (da_nil))) (de_sl (de_var 1) (do_some (de_int)) (do_none))) (da_cons (de_add (de_tup (da_cons (de_str) (da_nil))) (de_sl (de_var 1) (do_some (de_int)) (do_none))) (da_cons (de_int) (da_nil))))))))))))))
    (dss_cons (ds_set 3 (de_call (ms := [true, false]) T.f6 (da_cons (de_var 0) (da_cons (de_int) (da_nil)))))
    (dss_cons (ds_if (dt_cmp ho_gt (de_var 3) (de_int) (nomark _)) (dss_cons (ds_ret (de_call (ms := [true, false]) T.f12 (da_cons (de_var 0) (da_cons (de_var 1) (da_nil)))))
    (dss_nil)) (dss_nil))
    (dss_cons (ds_ret (de_if (dt_cmp ho_eq (de_var 3) (de_int) (nomark _)) (de_ix (de_var 2) (de_call (ms := [true, false]) T.f6 (da_cons (de_var 0) (da_cons (de_len F.bi (da_cons (de_var 2) (da_nil))) (da_nil))))) (de_call (ms := [true, false]) T.f8 (da_cons (de_var 0) (da_cons (de_var 1) (da_nil))))))
    (dss_nil))))
abbrev N14 : List Str := ["state", "low", "high", "least", "most", "wide", "k", "j"]
abbrev sc14 : Scope := defScope (top 22)
theorem d14 (F : Facts K mg) (T : Tab P w K mg base n g) : DSs ⟨P, w, K, mg, base, n, N14, sc14, fun _ => true, true⟩ (defBody (top 22)) (b14 g) :=
  dss_cons (ds_set 5 (de_add (de_var 1) (de_call (ms := [true, false]) T.f6 (da_cons (de_var 0) (da_cons (de_add (de_sub (de_var 2) (de_var 1)) (de_int)) (da_nil))))))
    (dss_cons (ds_ret (de_tuple F.bi (da_cons (de_lc [("j", 7)] (di_range1 F.bi (de_add (de_var 1) (de_call (ms := [true, false]) T.f6 (da_cons (de_var 0) (da_cons (de_add (de_sub (de_var 2) (de_var 1)) (de_int)) (da_nil)))))) (dg_name 7) (dts_nil) (de_tuple F.bi (da_cons (de_lc [("k", 6)] (di_range1 F.bi (de_var 5)) (dg_name 6) (dts_nil) (de_add (de_var 3) (de_call (ms := [true, false]) T.f6 (da_cons (de_var 0) (da_cons (de_add (de_sub (de_var 4) (de_var 3)) (de_int)) (da_nil)))))) (da_nil)))) (da_nil))))
    (dss_nil))
abbrev N15 : List Str := ["rows", "row", "k"]
abbrev sc15 : Scope := defScope (top 23)
theorem d15 (F : Facts K mg) (T : Tab P w K mg base n g) : DSs ⟨P, w, K, mg, base, n, N15, sc15, fun _ => true, true⟩ (defBody (top 23)) (b15 g) :=
  dss_cons (ds_ret (de_lc [("k", 2)] (di_range1 F.bi (de_len F.bi (da_cons (de_ix (de_var 0) (de_int)) (da_nil)))) (dg_name 2) (dts_nil) (de_tuple F.bi (da_cons (de_lc [("row", 1)] (di_seq (de_var 0)) (dg_name 1) (dts_nil) (de_ix (de_var 1) (de_var 2))) (da_nil)))))
    (dss_nil)
abbrev N16 : List Str := ["state", "value", "step", "k"]
abbrev sc16 : Scope := defScope (top 24)
theorem d16 (F : Facts K mg) (T : Tab P w K mg base n g) : DSs ⟨P, w, K, mg, base, n, N16, sc16, fun _ => true, true⟩ (defBody (top 24)) (b16 g) :=
  dss_cons (ds_set 2 (de_ix (de_lst (da_cons (de_int) (da_cons (de_neg (de_int)) (da_nil)))) (de_call (ms := [true, false]) T.f6 (da_cons (de_var 0) (da_cons (de_int) (da_nil))))))
    (dss_cons (ds_if (dt_tru (de_isi F.bi (de_var 1) F.bi.str)) (dss_cons (ds_ret (de_var 1))
    (dss_nil)) (dss_nil))
    (dss_cons (ds_if (dt_tru (de_isi F.bi (de_var 1) F.bi.int)) (dss_cons (ds_ret (de_add (de_var 1) (de_var 2)))
    (dss_nil)) (dss_nil))
    (dss_cons (ds_if (dt_cmp ho_eq (de_var 1) (de_tup (da_nil)) (nomark _)) (dss_cons (ds_ret (de_var 1))
    (dss_nil)) (dss_nil))
    (dss_cons (ds_if (dt_tru (de_isi F.bi (de_ix (de_var 1) (de_int)) F.bi.str)) (dss_cons (ds_ret (de_tup (da_cons (de_ix (de_var 1) (de_int)) (da_cons (de_add (de_ix (de_var 1) (de_int)) (de_var 2)) (da_nil)))))
    (dss_nil)) (dss_nil))
    (dss_cons (ds_set 3 (de_call (ms := [true, false]) T.f6 (da_cons (de_var 0) (da_cons (de_len F.bi (da_cons (de_var 1) (da_nil))) (da_nil)))))
    (dss_cons (ds_if (dt_w (dw_and (dt_cmp ho_eq (de_call (ms := [true, false]) T.f6 (da_cons (de_var 0) (da_cons (de_int) (da_nil)))) (de_int) (nomark _)) (dw_and1 (dt_cmp ho_gt (de_len F.bi (da_cons (de_var 1) (da_nil))) (de_int) (nomark _))))) (dss_cons (ds_ret (de_add (de_sl (de_var 1) (do_none) (do_some (de_var 3))) (de_sl (de_var 1) (do_some (de_add (de_var 3) (de_int))) (do_none))))
    (dss_nil)) (dss_nil))
    (dss_cons (ds_ret (de_add (de_add (de_sl (de_var 1) (do_none) (do_some (de_var 3))) (de_tup (da_cons (de_call (ms := [true, false]) T.f16 (da_cons (de_var 0) (da_cons (de_ix (de_var 1) (de_var 3)) (da_nil)))) (da_nil)))) (de_sl (de_var 1) (do_some (de_add (de_var 3) (de_int))) (do_none))))
    (dss_nil))))))))
abbrev N17 : List Str := ["rows", "kind", "told", "now", "row", "turn", "line"]
abbrev sc17 : Scope := defScope (top 25)
theorem d17 (F : Facts K mg) (T : Tab P w K mg base n g) : DSs ⟨P, w, K, mg, base, n, N17, sc17, fun _ => true, true⟩ (defBody (top 25)) (b17 g) :=
  dss_cons (ds_set 3 (de_var 0))
    (dss_cons (ds_if (dt_cmp ho_gt (de_var 1) (de_int) (nomark _)) (dss_cons (ds_set 3 (de_tuple F.bi (da_cons (de_lc [("row", 4)] (di_seq (de_var 3)) (dg_name 4) (dts_nil) (de_rev (de_var 4))) (da_nil))))
    (dss_nil)) (dss_nil))
    (dss_cons (ds_for (di_range1 F.bi (de_mod (de_var 1) (de_int))) (dg_name 5) (dss_cons (ds_set 3 (de_tuple F.bi (da_cons (de_lc [("line", 6)] (di_seq (de_call (ms := [false]) T.f15 (da_cons (de_var 3) (da_nil)))) (dg_name 6) (dts_nil) (de_rev (de_var 6))) (da_nil))))
    (dss_nil)))
    (dss_cons (ds_ret (de_call (ms := [false, false]) T.f7 (da_cons (de_var 2) (da_cons (de_tup (da_cons (de_str) (da_cons (de_var 3) (da_nil)))) (da_nil)))))
    (dss_nil))))
abbrev N18 : List Str := ["state", "rows", "kind", "things", "pick", "error"]
abbrev sc18 : Scope := defScope (top 26)
theorem d18 (F : Facts K mg) (T : Tab P w K mg base n g) : DSs ⟨P, w, K, mg, base, n, N18, sc18, fun _ => true, true⟩ (defBody (top 26)) (b18 g) :=
  dss_cons (ds_set 3 (de_lst (da_cons (de_var 1) (da_cons (de_var 2) (da_nil)))))
    (dss_cons (ds_set 4 (de_call (ms := [true, false]) T.f6 (da_cons (de_var 0) (da_cons (de_int) (da_nil)))))
    (dss_cons (ds_store (de_call (ms := [true, false]) T.f16 (da_cons (de_var 0) (da_cons (de_ix (de_var 3) (de_var 4)) (da_nil)))) (de_var 3) (de_var 4))
    (dss_cons (ds_try (dss_cons (ds_ret (de_call (ms := [false, false]) T.f2 (da_cons (de_ix (de_var 3) (de_int)) (da_cons (de_ix (de_var 3) (de_int)) (da_nil)))))
    (dss_nil)) (.cons rfl rfl F.g_UnfitGrid rfl (by decide) (cl_UnfitGrid F) (su_ret0 F.bi 5) (.cons rfl rfl F.g_TooWide rfl (by decide) (cl_TooWide F) (su_ret0 F.bi 5) (.nil))))
    (dss_nil))))
abbrev N19 : List Str := ["rows", "kind", "judged", "error"]
abbrev sc19 : Scope := defScope (top 27)
theorem d19 (F : Facts K mg) (T : Tab P w K mg base n g) : DSs ⟨P, w, K, mg, base, n, N19, sc19, fun _ => true, true⟩ (defBody (top 27)) (b19 g) :=
  dss_cons (ds_for (di_seq (de_lst (da_cons (de_bl) (da_cons (de_bl) (da_nil))))) (dg_name 2) (dss_cons (ds_try (dss_cons (ds_if (dt_tru (de_var 2)) (dss_cons (ds_expr (de_call (ms := [false, false, false]) T.f3 (da_cons (de_var 0) (da_cons (de_var 1) (da_cons (de_non) (da_nil))))))
    (dss_nil)) (dss_cons (ds_expr (de_call (ms := [false, false]) T.f2 (da_cons (de_var 0) (da_cons (de_var 1) (da_nil)))))
    (dss_nil)))
    (dss_cons (ds_ret (de_bl))
    (dss_nil))) (.cons rfl rfl F.g_UnfitGrid rfl (by decide) (cl_UnfitGrid F) (su_skip F.bi 3) (.nil)))
    (dss_nil)))
    (dss_cons (ds_ret (de_bl))
    (dss_nil))
abbrev N20 : List Str := ["rows", "kinds", "told", "row", "now", "kind", "k", "j"]
abbrev sc20 : Scope := defScope (top 28)
theorem d20 (F : Facts K mg) (T : Tab P w K mg base n g) : DSs ⟨P, w, K, mg, base, n, N20, sc20, fun _ => true, true⟩ (defBody (top 28)) (b20 g) :=
  dss_cons (ds_set 4 (de_lc [("row", 3)] (di_seq (de_var 0)) (dg_name 3) (dts_nil) (de_list F.bi (da_cons (de_var 3) (da_nil)))))
    (dss_cons (ds_for (di_seq (de_var 1)) (dg_name 5) (dss_cons (ds_if (dt_cmp ho_eq (de_var 5) (de_int) (nomark _)) (dss_cons (ds_set 4 (de_lc [("row", 3)] (di_seq (de_var 4)) (dg_name 3) (dts_nil) (de_lc [("k", 6)] (di_range1 F.bi (de_div (de_len F.bi (da_cons (de_var 3) (da_nil))) (de_int))) (dg_name 6) (dts_nil) (de_add (de_ix (de_var 3) (de_var 6)) (de_ix (de_var 3) (de_sub (de_sub (de_len F.bi (da_cons (de_var 3) (da_nil))) (de_int)) (de_var 6)))))))
    (dss_nil)) (dss_cons (ds_set 4 (de_lc [("j", 7)] (di_range1 F.bi (de_div (de_len F.bi (da_cons (de_var 4) (da_nil))) (de_int))) (dg_name 7) (dts_nil) (de_lc [("k", 6)] (di_range1 F.bi (de_len F.bi (da_cons (de_ix (de_var 4) (de_int)) (da_nil)))) (dg_name 6) (dts_nil) (de_add (de_ix (de_ix (de_var 4) (de_var 7)) (de_var 6)) (de_ix (de_ix (de_var 4) (de_sub (de_sub (de_len F.bi (da_cons (de_var 4) (da_nil))) (de_int)) (de_var 7))) (de_var 6))))))
    (dss_nil)))
    (dss_nil)))
    (dss_cons (ds_ret (de_call (ms := [false, false]) T.f7 (da_cons (de_var 2) (da_cons (de_tup (da_cons (de_str) (da_cons (de_tuple F.bi (da_cons (de_lc [("row", 3)] (di_seq (de_var 4)) (dg_name 3) (dts_nil) (de_tuple F.bi (da_cons (de_var 3) (da_nil)))) (da_nil))) (da_nil)))) (da_nil)))))
    (dss_nil)))
abbrev N21 : List Str := ["state", "rows", "kinds", "things", "pick", "error"]
abbrev sc21 : Scope := defScope (top 29)
theorem d21 (F : Facts K mg) (T : Tab P w K mg base n g) : DSs ⟨P, w, K, mg, base, n, N21, sc21, fun _ => true, true⟩ (defBody (top 29)) (b21 g) :=
  dss_cons (ds_set 3 (de_lst (da_cons (de_var 1) (da_cons (de_var 2) (da_nil)))))
    (dss_cons (ds_set 4 (de_call (ms := [true, false]) T.f6 (da_cons (de_var 0) (da_cons (de_int) (da_nil)))))
    (dss_cons (ds_store (de_call (ms := [true, false]) T.f16 (da_cons (de_var 0) (da_cons (de_ix (de_var 3) (de_var 4)) (da_nil)))) (de_var 3) (de_var 4))
    (dss_cons (ds_try (dss_cons (ds_ret (de_call (ms := [false, false]) T.f4 (da_cons (de_ix (de_var 3) (de_int)) (da_cons (de_ix (de_var 3) (de_int)) (da_nil)))))
    (dss_nil)) (.cons rfl rfl F.g_UnfitGrid rfl (by decide) (cl_UnfitGrid F) (su_ret0 F.bi 5) (.cons rfl rfl F.g_TooWide rfl (by decide) (cl_TooWide F) (su_ret0 F.bi 5) (.nil))))
    (dss_nil))))
abbrev N22 : List Str := ["rows", "kinds", "judged", "error"]
abbrev sc22 : Scope := defScope (top 30)
theorem d22 (F : Facts K mg) (T : Tab P w K mg base n g) : DSs ⟨P, w, K, mg, base, n, N22, sc22, fun _ => true, true⟩ (defBody (top 30)) (b22 g) :=
  dss_cons (ds_for (di_seq (de_lst (da_cons (de_bl) (da_cons (de_bl) (da_nil))))) (dg_name 2) (dss_cons (ds_try (dss_cons (ds_if (dt_tru (de_var 2)) (dss_cons (ds_expr (de_call (ms := [false, false, false]) T.f5 (da_cons (de_var 0) (da_cons (de_var 1) (da_cons (de_non) (da_nil))))))
    (dss_nil)) (dss_cons (ds_expr (de_call (ms := [false, false]) T.f4 (da_cons (de_var 0) (da_cons (de_var 1) (da_nil)))))
    (dss_nil)))
    (dss_cons (ds_ret (de_bl))
    (dss_nil))) (.cons rfl rfl F.g_UnfitGrid rfl (by decide) (cl_UnfitGrid F) (su_skip F.bi 3) (.nil)))
    (dss_nil)))
    (dss_cons (ds_ret (de_bl))
    (dss_nil))
abbrev N23 : List Str := ["script", "state", "seen", "seen_too", "turn", "rows", "kind", "told", "near_told", "k", "asked", "kinds", "high", "wide"]
abbrev sc23 : Scope := defScope (top 31)
theorem d23 (F : Facts K mg) (T : Tab P w K mg base n g) : DSs ⟨P, w, K, mg, base, n, N23, sc23, fun _ => true, true⟩ (defBody (top 31)) (b23 g) :=
  dss_cons (ds_set 1 (de_lst (da_cons (de_list F.bi (da_cons (de_var 0) (da_nil))) (da_cons (de_int) (da_cons (de_int) (da_cons (de_int) (da_nil)))))))
    (dss_cons (ds_set 2 (de_lst (da_nil)))
    (dss_cons (ds_set 3 (de_lst (da_nil)))
    (dss_cons (ds_for (di_range1 F.bi (de_int)) (dg_name 4) (dss_cons (ds_set 5 (de_call (ms := [true, false, false, false, false]) T.f14 (da_cons (de_var 1) (da_cons (de_int) (da_cons (de_int) (da_cons (de_neg (de_int)) (da_cons (de_int) (da_nil))))))))
    (dss_cons (ds_set 6 (de_call (ms := [true, false]) T.f6 (da_cons (de_var 1) (da_cons (de_int) (da_nil)))))
    (dss_cons (ds_set 7 (de_call (ms := [false, false]) T.f2 (da_cons (de_var 5) (da_cons (de_var 6) (da_nil)))))
    (dss_cons (ds_set 8 (de_call (ms := [true, false, false]) T.f18 (da_cons (de_var 1) (da_cons (de_var 5) (da_cons (de_var 6) (da_nil))))))
    (dss_cons (ds_if (dt_w (dw_or (dt_not (dt_tru (de_call (ms := [false, false, false]) T.f17 (da_cons (de_var 5) (da_cons (de_var 6) (da_cons (de_var 7) (da_nil))))))) (dw_or1 (dt_cmp ho_isnot (de_call (ms := [false, false, false]) T.f3 (da_cons (de_var 5) (da_cons (de_var 6) (da_cons (de_var 7) (da_nil))))) (de_bl) (nomark _))))) (dss_cons (ds_ret (de_bl))
    (dss_nil)) (dss_nil))
    (dss_cons (ds_if (dt_w (dw_or (dt_not (dt_tru (de_call (ms := [false, false]) T.f19 (da_cons (de_var 5) (da_cons (de_int) (da_nil)))))) (dw_or1 (dt_not (dt_tru (de_call (ms := [false, false]) T.f19 (da_cons (de_add (de_var 5) (de_tup (da_cons (de_mul (de_tup (da_cons (de_int) (da_nil))) (de_add (de_len F.bi (da_cons (de_ix (de_var 5) (de_int)) (da_nil))) (de_int))) (da_nil)))) (da_cons (de_var 6) (da_nil))))))))) (dss_cons (ds_ret (de_bl))
    (dss_nil)) (dss_nil))
    (dss_cons (ds_set 2 (de_add (de_sl (de_var 2) (do_some (de_neg (de_int))) (do_none)) (de_lst (da_cons (de_var 7) (da_cons (de_var 8) (da_nil))))))
    (dss_cons (ds_for (di_range1 F.bi (de_add (de_int) (de_len F.bi (da_cons (de_var 2) (da_nil))))) (dg_name 9) (dss_cons (ds_set 10 (de_if (dt_cmp ho_lt (de_var 9) (de_int) (nomark _)) (de_call (ms := [true, false]) T.f13 (da_cons (de_var 1) (da_cons (de_var 7) (da_nil)))) (de_ix (de_var 2) (de_sub (de_var 9) (de_int)))))
    (dss_cons (ds_if (dt_not (dt_tru (de_call (ms := [false, false]) T.f7 (da_cons (de_call (ms := [false, false, false]) T.f3 (da_cons (de_var 5) (da_cons (de_var 6) (da_cons (de_var 10) (da_nil))))) (da_cons (de_call (ms := [false, false, false]) T.f17 (da_cons (de_var 5) (da_cons (de_var 6) (da_cons (de_var 10) (da_nil))))) (da_nil)))))) (dss_cons (ds_ret (de_bl))
    (dss_nil)) (dss_nil))
    (dss_nil))))
    (dss_cons (ds_set 11 (de_tup (da_nil)))
    (dss_cons (ds_par 12 13 (da_cons (de_len F.bi (da_cons (de_var 5) (da_nil))) (da_cons (de_len F.bi (da_cons (de_ix (de_var 5) (de_int)) (da_nil))) (da_nil))))
    (dss_cons (ds_for (di_range1 F.bi (de_int)) (dg_name 4) (dss_cons (ds_if (dt_w (dw_and (dt_cmp ho_eq (de_call (ms := [true, false]) T.f6 (da_cons (de_var 1) (da_cons (de_int) (da_nil)))) (de_int) (nomark _)) (dw_and1 (dt_cmp ho_eq (de_mod (de_var 13) (de_int)) (de_int) (nomark _))))) (dss_cons (ds_par 11 13 (da_cons (de_add (de_var 11) (de_tup (da_cons (de_int) (da_nil)))) (da_cons (de_div (de_var 13) (de_int)) (da_nil))))
    (dss_nil)) (dss_cons (ds_if (dt_cmp ho_eq (de_mod (de_var 12) (de_int)) (de_int) (nomark _)) (dss_cons (ds_par 11 12 (da_cons (de_add (de_var 11) (de_tup (da_cons (de_int) (da_nil)))) (da_cons (de_div (de_var 12) (de_int)) (da_nil))))
    (dss_nil)) (dss_nil))
    (dss_nil)))
    (dss_nil)))
    (dss_cons (ds_set 7 (de_call (ms := [false, false]) T.f4 (da_cons (de_var 5) (da_cons (de_var 11) (da_nil)))))
    (dss_cons (ds_set 8 (de_call (ms := [true, false, false]) T.f21 (da_cons (de_var 1) (da_cons (de_var 5) (da_cons (de_var 11) (da_nil))))))
    (dss_cons (ds_if (dt_w (dw_or (dt_not (dt_tru (de_call (ms := [false, false, false]) T.f20 (da_cons (de_var 5) (da_cons (de_var 11) (da_cons (de_var 7) (da_nil))))))) (dw_or1 (dt_cmp ho_isnot (de_call (ms := [false, false, false]) T.f5 (da_cons (de_var 5) (da_cons (de_var 11) (da_cons (de_var 7) (da_nil))))) (de_bl) (nomark _))))) (dss_cons (ds_ret (de_bl))
    (dss_nil)) (dss_nil))
    (dss_cons (ds_if (dt_w (dw_or (dt_not (dt_tru (de_call (ms := [false, false]) T.f22 (da_cons (de_var 5) (da_cons (de_add (de_var 11) (de_tup (da_cons (de_int) (da_nil)))) (da_nil)))))) (dw_or (dt_not (dt_tru (de_call (ms := [false, false]) T.f22 (da_cons (de_tup (da_cons (de_tup (da_cons (de_int) (da_cons (de_int) (da_cons (de_int) (da_nil))))) (da_nil))) (da_cons (de_tup (da_cons (de_int) (da_nil))) (da_nil)))))) (dw_or1 (dt_not (dt_tru (de_call (ms := [false, false]) T.f22 (da_cons (de_tup (da_cons (de_tup (da_cons (de_int) (da_nil))) (da_nil))) (da_cons (de_tup (da_cons (de_int) (da_nil))) (da_nil)))))))))) (dss_cons (ds_ret (de_bl))
    (dss_nil)) (dss_nil))
    (dss_cons (ds_set 3 (de_add (de_sl (de_var 3) (do_some (de_neg (de_int))) (do_none)) (de_lst (da_cons (de_var 7) (da_cons (de_var 8) (da_nil))))))
    (dss_cons (ds_for (di_range1 F.bi (de_add (de_int) (de_len F.bi (da_cons (de_var 3) (da_nil))))) (dg_name 9) (dss_cons (ds_set 10 (de_if (dt_cmp ho_lt (de_var 9) (de_int) (nomark _)) (de_call (ms := [true, false]) T.f13 (da_cons (de_var 1) (da_cons (de_var 7) (da_nil)))) (de_ix (de_var 3) (de_sub (de_var 9) (de_int)))))
    (dss_cons (ds_if (dt_not (dt_tru (de_call (ms := [false, false]) T.f7 (da_cons (de_call (ms := [false, false, false]) T.f5 (da_cons (de_var 5) (da_cons (de_var 11) (da_cons (de_var 10) (da_nil))))) (da_cons (de_call (ms := [false, false, false]) T.f20 (da_cons (de_var 5) (da_cons (de_var 11) (da_cons (de_var 10) (da_nil))))) (da_nil)))))) (dss_cons (ds_ret (de_bl))
    (dss_nil)) (dss_nil))
    (dss_nil))))
    (dss_nil)))))))))))))))))))
    (dss_cons (ds_ret (de_bl))
    (dss_nil)))))
end
end K67

set_option Elab.async false
set_option linter.all false
set_option maxRecDepth 100000
set_option maxHeartbeats 4000000
namespace K67
open PySem Ev
def turnR (rows : List (List Int)) : List (List Int) := (List.range (wid rows)).map fun c => (colI rows c).reverse
def itT : Nat → List (List Int) → List (List Int)
  | 0, r => r
  | n + 1, r => turnR (itT n r)
theorem turn_rect {rows : List (List Int)} {h w : Nat} (hr : Rect rows h w) : Rect (turnR rows) w h := by
  have hw : wid rows = w := hr.row0.2
  refine ⟨by simp [turnR, hw], fun r hm => ?_, hr.2.2.2, hr.2.2.1⟩
  unfold turnR at hm
  obtain ⟨c, _, rfl⟩ := List.mem_map.mp hm
  rw [List.length_reverse, colI_len, hr.1]
theorem turn_b {rows : List (List Int)} {h w : Nat} (hr : Rect rows h w) {P : Int → Prop} (hp : ∀ r ∈ rows, ∀ x ∈ r, P x) : ∀ r ∈ turnR rows, ∀ x ∈ r, P x := fun r hm x hx => by
  have hw : wid rows = w := hr.row0.2
  unfold turnR at hm
  obtain ⟨c, hc, rfl⟩ := List.mem_map.mp hm
  have hc := List.mem_range.mp hc
  rw [List.mem_reverse] at hx
  unfold colI at hx
  obtain ⟨q, hq, rfl⟩ := List.mem_map.mp hx
  refine hp q hq _ ?_
  unfold itA
  have hl := hr.2.1 q hq
  rw [List.getD_eq_getElem?_getD, List.getElem?_eq_getElem (by omega)]
  exact List.getElem_mem _
def Sq (rows : List (List Int)) (r : List (List Int)) : Prop := ∃ h w, Rect r h w ∧ h ≤ 64 ∧ w ≤ 64 ∧ ∀ q ∈ r, ∀ x ∈ q, -1000 ≤ x ∧ x ≤ 1000
theorem Sq.turn {rows r : List (List Int)} : Sq rows r → Sq rows (turnR r) := fun ⟨h, w, a, b, c, d⟩ => ⟨w, h, turn_rect a, c, b, turn_b a d⟩
theorem Sq.it {rows r : List (List Int)} (h : Sq rows r) : ∀ n, Sq rows (itT n r)
  | 0 => h
  | n + 1 => (Sq.it h n).turn
theorem Sq.rev {rows r : List (List Int)} : Sq rows r → Sq rows (r.map List.reverse) := fun ⟨h, w, a, b, c, d⟩ => ⟨h, w, ⟨by simp [a.1], fun q hq => by
  obtain ⟨p, hp, rfl⟩ := List.mem_map.mp hq
  rw [List.length_reverse]; exact a.2.1 p hp, a.2.2⟩, b, c, fun q hq x hx => by
  obtain ⟨p, hp, rfl⟩ := List.mem_map.mp hq
  exact d p hp x (List.mem_reverse.mp hx)⟩
def base (rows : List (List Int)) (k : Int) : List (List Int) := if 3 < k then rows.map List.reverse else rows
def wRows : List Nat := [114, 111, 119, 115]
def turnD (rows : List (List Int)) (k : Int) : D := .tup [.str wRows, tabI (itT (k % 4).toNat (base rows k))]
/-- one turn, as the program does it -/
theorem turn_step {now : List (List Int)} {rows0 : List (List Int)} (hs : Sq rows0 now) {a b s4 : Sl} {Q : Fl → Fr → Prop}
    (hQ : Q .nx [a, b, .no, .fro (tabI (turnR now)), s4, .no]) :
    wpS (sSeq (sSet 3 (eN (un1 tupG) [eLc (srcR1 (eN (un1 lenG) [e2 ixG (eVar 3) (ec (.int 0))])) [5] (gN 5) (M.pure true) (eN (un1 tupG) [eLc (srcL (e1 revG (eVar 3))) [2] (gN 2) (M.pure true) (e2 ixG (eVar 2) (eVar 5))])]))
    (sNx)) [a, b, .no, .fro (tabI now), s4, .no] Q := by
  obtain ⟨h, w, hr, hh, hw, _⟩ := hs
  obtain ⟨r0, r0'⟩ := hr.row0
  have hw' : wid now = w := r0'
  simp [r0, r0', rng_len w (by omega), wipeD]
  refine wpLc_A (fun (k : Nat) => D.int (k : Int)) (fun c => some (tupI ((colI now c).reverse))) (l := List.range w) (okW_nil _) (by simp; omega) (fun c hc => ?_) ?_
  · have hc := List.mem_range.mp hc
    have hrv := rev_tabI (r := now)
    have er : (now.map tupI).reverse = now.reverse.map tupI := by rw [List.map_reverse]
    simp [hrv, wipeD]
    rw [er]
    refine wpLc_A tupI (fun r => some (.int (itA r c))) (l := now.reverse) (acc := []) (okW_nil _) (by have := hr.1; have e : now.reverse.length = now.length := List.length_reverse; simp only [List.length_nil]; omega) (fun r hrm => ?_) ?_
    · have : ixG (tupI r) (.int (c : Int)) = some (.int (itA r c), false) := ix_rowD (by rw [hr.2.1 r (List.mem_reverse.mp hrm)]; exact hc)
      simp [wipeD, this]
    · have e2 : now.reverse.filterMap (fun r => some (D.int (itA r c))) = (colI now c).reverse.map .int := by rw [fm_all, colI, ← List.map_reverse, List.map_map]; rfl
      rw [e2]
      simp [wipeD, restore, tupI]
  · have e3 : (List.range w).filterMap (fun c => some (tupI ((colI now c).reverse))) = (turnR now).map tupI := by rw [fm_all, turnR, hw', List.map_map]; rfl
    rw [e3]
    simp [restore]
    exact hQ
def TuI (a b : Sl) (bs : List (List Int)) (dn : List Nat) (σ : Fr) : Prop := ∃ s4, NF s4 ∧ σ = [a, b, .no, .fro (tabI (itT dn.length bs)), s4, .no]
def fit1 (rows : List (List Int)) (k : Int) : Prop := fitT rows (-1000) 1000 ∧ 0 ≤ k ∧ k < 8
open Classical in
noncomputable def ex1 (rows : List (List Int)) : Str := if fitT rows (-1000) 1000 then "UnfitGrid" else exT rows (-1000) 1000
theorem sq_of {rows : List (List Int)} (ht : TabOk rows) (hf : fitT rows (-1000) 1000) : Sq rows rows := by
  obtain ⟨h1, h2⟩ := hf.small ht.ne
  exact ⟨_, _, hf.rect ht.ne, h1, h2, fun q hq x hx => hf.2.1 q hq x hx⟩
theorem base_sq {rows : List (List Int)} (h : Sq rows rows) (k : Int) : Sq rows (base rows k) := by
  unfold base
  split
  · exact h.rev
  · exact h
theorem turn_loop {rows0 bs : List (List Int)} (hs : Sq rows0 bs) {k : Int} {n : Nat} (hn : k % 4 = (n : Int)) (hn4 : n ≤ 4) {a : Sl} {Q : Fl → Fr → Prop} (hQ : ∀ s4, NF s4 → Q .nx [a, .fro (.int k), .no, .fro (tabI (itT n bs)), s4, .no]) :
    wpS (sFor (srcR1 (e2 modG (eVar 1) (ec (.int 4)))) (gN 4) (sSeq (sSet 3 (eN (un1 tupG) [eLc (srcR1 (eN (un1 lenG) [e2 ixG (eVar 3) (ec (.int 0))])) [5] (gN 5) (M.pure true) (eN (un1 tupG) [eLc (srcL (e1 revG (eVar 3))) [2] (gN 2) (M.pure true) (e2 ixG (eVar 2) (eVar 5))])]))
    (sNx))) [a, .fro (.int k), .no, .fro (tabI bs), .no, .no] Q := by
  refine ws_forG ?_
  simp [mod_ii, hn, rng_len n (by omega)]
  refine ws_forA (fun (k : Nat) => D.int (k : Int)) (TuI a (.fro (.int k)) bs) ⟨.no, NF.no, rfl⟩ (fun dn x rest σ hl ⟨s4, q4, e⟩ => ⟨okW_nil _, ?_⟩) fun σ ⟨s4, q4, e⟩ => ⟨okW_nil _, ?_⟩
  · subst e
    refine wp_gN_nf q4 rfl ?_
    refine turn_step (hs.it dn.length) ?_
    exact ⟨_, NF.fro _, by rw [List.length_append, List.length_singleton]; rfl⟩
  · subst e
    have := hQ s4 q4
    simpa using this
theorem turned_ok {g : Nat → FSem} (hc : CheckOk (g 1)) (rows : List (List Int)) (k : Int) (ht : TabOk rows) : wpF (mkF 6 (b2 g)) [.fro (tabI rows), .fro (.int k)]
    (fun d o fs => fit1 rows k ∧ d = turnD rows k ∧ o = false ∧ fs = [.fro (tabI rows), .fro (.int k)]) (fun c fs => ¬ fit1 rows k ∧ c = ex1 rows ∧ fs = [.fro (tabI rows), .fro (.int k)]) := by
  rw [wf_mk]
  rw [show frame 6 [.fro (tabI rows), .fro (.int k)] = [.fro (tabI rows), .fro (.int k), .no, .no, .no, .no] from rfl]
  unfold b2
  simp
  refine wpF_mono (hc rows (-1000) 1000 ht.ne ht.len ht.row) (fun d o fs ⟨hf, e1, e2, e3⟩ => ?_) fun c fs ⟨h1, h2, h3⟩ => ?_
  · subst e1 e2 e3
    have hsq := sq_of ht hf
    obtain ⟨hs1, hs2⟩ := hf.small ht.ne
    by_cases hk0 : 0 ≤ k
    · by_cases hk8 : k < 8
      · have hk0t := eq_true hk0
        have hk8t := eq_true hk8
        simp [hk0t, hk8t, wipeD]
        refine wpLc_A tupI (fun r => some (tupI r)) (l := rows) (okW_nil _) (by simp; omega) (fun r hm => by simp [wipeD]) ?_
        rw [fm_all]
        simp [restore]
        have hn : k % 4 = ((k % 4).toNat : Int) := by omega
        have fin : ∀ s4, NF s4 → True := fun _ _ => trivial
        by_cases h3 : 3 < k
        · have h3t := eq_true h3
          simp [h3t, wipeD]
          refine wpLc_A tupI (fun r => some (tupI r.reverse)) (l := rows) (okW_nil _) (by simp; omega) (fun r hm => by simp [wipeD, rev_tupI]) ?_
          have e1 : rows.filterMap (fun r => some (tupI r.reverse)) = (rows.map List.reverse).map tupI := by rw [fm_all, List.map_map]; rfl
          rw [e1]
          simp [restore]
          have hb : base rows k = rows.map List.reverse := by unfold base; rw [if_pos h3]
          have := turn_loop (base_sq hsq k) hn (by omega) (a := .fro (tabI rows)) (Q := fun fl σ' => nxt (sSeq (sRet (eTup [ec (.str [114, 111, 119, 115]), eVar 3])) sNx) (fun fl σ => endQ [.fro (tabI rows), .fro (.int k)] (fun d o fs => fit1 rows k ∧ d = turnD rows k ∧ o = false ∧ fs = [.fro (tabI rows), .fro (.int k)]) (fun c fs => ¬ fit1 rows k ∧ c = ex1 rows ∧ fs = [.fro (tabI rows), .fro (.int k)]) fl σ) fl σ') fun s4 q4 => by
            simp
            exact ⟨⟨hf, hk0, hk8⟩, rfl⟩
          rw [hb] at this
          simpa [tabI] using this
        · have h3f := eq_false h3
          simp [h3f]
          have hb : base rows k = rows := by unfold base; rw [if_neg h3]
          have := turn_loop (base_sq hsq k) hn (by omega) (a := .fro (tabI rows)) (Q := fun fl σ' => nxt (sSeq (sRet (eTup [ec (.str [114, 111, 119, 115]), eVar 3])) sNx) (fun fl σ => endQ [.fro (tabI rows), .fro (.int k)] (fun d o fs => fit1 rows k ∧ d = turnD rows k ∧ o = false ∧ fs = [.fro (tabI rows), .fro (.int k)]) (fun c fs => ¬ fit1 rows k ∧ c = ex1 rows ∧ fs = [.fro (tabI rows), .fro (.int k)]) fl σ) fl σ') fun s4 q4 => by
            simp
            exact ⟨⟨hf, hk0, hk8⟩, rfl⟩
          rw [hb] at this
          exact this
      · have hk0t := eq_true hk0
        have hk8f := eq_false hk8
        simp [hk0t, hk8f]
        exact ⟨fun h => hk8 h.2.2, by simp [ex1, hf]⟩
    · have hk0f := eq_false hk0
      simp [hk0f]
      exact ⟨fun h => hk0 h.2.1, by simp [ex1, hf]⟩
  · subst h2 h3
    simp
    exact ⟨fun h => h1 h.1, by simp [ex1, h1]⟩

def ColsOk (f : FSem) : Prop := ∀ (rows : List (List Int)) (h w : Nat), Rect rows h w → h ≤ 1000 → w ≤ 1000 → wpF f [.fro (tabI rows)] (fun d o fs => d = .lst ((List.range w).map fun c => tupI (colI rows c)) ∧ o = true ∧ fs = [.fro (tabI rows)]) (fun _ _ => False)
theorem turn_mem {rows0 r : List (List Int)} (h : Sq rows0 r) : r.length ≤ 64 ∧ ∀ q ∈ r, q.length ≤ 64 ∧ ∀ x ∈ q, x.natAbs ≤ 1000 := by
  obtain ⟨h', w, a, b, c, d⟩ := h
  exact ⟨by rw [a.1]; exact b, fun q hq => ⟨by rw [a.2.1 q hq]; exact c, fun x hx => by have := d q hq x hx; omega⟩⟩
theorem rowsD_gd {r : List (List Int)} (h1 : r.length ≤ 64) (h2 : ∀ q ∈ r, q.length ≤ 64 ∧ ∀ x ∈ q, x.natAbs ≤ 100000000) : ToldG (.tup [.str wRows, tabI r]) := by
  have h := tabI_gd (rows := r) (n := 7) (J := 100000000) (L := 64) (m := 64) h1 h2
  have hw := h.w
  refine Gd.mkT (by simp [wtL, wt, wRows]; omega) fun x hx => ?_
  simp at hx
  rcases hx with rfl | rfl
  · exact ⟨by simp [shp, wRows], by simp [gi]⟩
  · exact ⟨h.sh, h.i⟩
theorem turnD_gd {rows : List (List Int)} (k : Int) (ht : TabOk rows) (hf : fitT rows (-1000) 1000) : ToldG (turnD rows k) := by
  obtain ⟨h1, h2⟩ := turn_mem ((base_sq (sq_of ht hf) k).it (k % 4).toNat)
  exact rowsD_gd h1 fun q hq => ⟨(h2 q hq).1, fun x hx => by have := (h2 q hq).2 x hx; omega⟩
def LtI (rows : List (List Int)) (k : Int) (v : D) (bs : List (List Int)) (dn : List Nat) (σ : Fr) : Prop := ∃ s5, NF s5 ∧ σ = [.fro (tabI rows), .fro (.int k), .fro v, .fro (tabI (itT dn.length bs)), .no, s5, .no]
theorem lturn_loop {g : Nat → FSem} (hco : ColsOk (g 15)) {rows bs : List (List Int)} (hs : Sq rows bs) {k : Int} {n : Nat} (hn : k % 4 = (n : Int)) (hn4 : n ≤ 4) {v : D} {Q : Fl → Fr → Prop} (hQ : ∀ s5, NF s5 → Q .nx [.fro (tabI rows), .fro (.int k), .fro v, .fro (tabI (itT n bs)), .no, s5, .no]) :
    wpS (sFor (srcR1 (e2 modG (eVar 1) (ec (.int 4)))) (gN 5) (sSeq (sSet 3 (eN (un1 tupG) [eLc (srcL (eCall (g 15) [false] [eVar 3])) [6] (gN 6) (M.pure true) (e1 revG (eVar 6))]))
    (sNx))) [.fro (tabI rows), .fro (.int k), .fro v, .fro (tabI bs), .no, .no, .no] Q := by
  refine ws_forG ?_
  simp [mod_ii, hn, rng_len n (by omega)]
  refine ws_forA (fun (k : Nat) => D.int (k : Int)) (LtI rows k v bs) ⟨.no, NF.no, rfl⟩ (fun dn x rest σ hl ⟨s5, q5, e⟩ => ⟨okW_nil _, ?_⟩) fun σ ⟨s5, q5, e⟩ => ⟨okW_nil _, ?_⟩
  · subst e
    refine wp_gN_nf q5 rfl ?_
    obtain ⟨h, w, hr, hh, hw, _⟩ := hs.it dn.length
    have hw' : wid (itT dn.length bs) = w := hr.row0.2
    have hl2 : itT (dn ++ [x]).length bs = turnR (itT dn.length bs) := by rw [List.length_append, List.length_singleton]; rfl
    generalize itT dn.length bs = now at hr hw' hl2
    simp
    refine wpF_mono (hco now h w hr (by omega) (by omega)) (fun d o fs ⟨e1, e2, e3⟩ => ?_) fun _ _ h => h.elim
    subst e1 e2 e3
    simp [wipeD]
    refine wpLc_A (fun c => tupI (colI now c)) (fun c => some (tupI ((colI now c).reverse))) (l := List.range w) (okW_nil _) (by simp; omega) (fun c hc => ?_) ?_
    · simp [wipeD, rev_tupI]
    · have e3 : (List.range w).filterMap (fun c => some (tupI ((colI now c).reverse))) = (turnR now).map tupI := by rw [fm_all, turnR, hw', List.map_map]; rfl
      rw [e3]
      simp [restore]
      exact ⟨_, NF.fro _, by rw [hl2]; rfl⟩
  · subst e
    have := hQ s5 q5
    simpa using this
theorem accepts_ok {g : Nat → FSem} (hs : SameOk (g 7)) (hco : ColsOk (g 15)) (rows : List (List Int)) (k : Int) (ht : TabOk rows) (hf : fit1 rows k) (v : D) (hv : AskA v) : wpF (mkF 7 (b17 g)) [.fro (tabI rows), .fro (.int k), .fro v]
    (fun d o fs => d = .bl (decide (v = turnD rows k)) ∧ o = false ∧ fs = [.fro (tabI rows), .fro (.int k), .fro v]) (fun _ _ => False) := by
  rw [wf_mk]
  rw [show frame 7 [.fro (tabI rows), .fro (.int k), .fro v] = [.fro (tabI rows), .fro (.int k), .fro v, .no, .no, .no, .no] from rfl]
  unfold b17
  have hsq := sq_of ht hf.1
  obtain ⟨hs1, hs2⟩ := hf.1.small ht.ne
  have hn : k % 4 = ((k % 4).toNat : Int) := by omega
  have tail : wpS (sSeq (sFor (srcR1 (e2 modG (eVar 1) (ec (.int 4)))) (gN 5) (sSeq (sSet 3 (eN (un1 tupG) [eLc (srcL (eCall (g 15) [false] [eVar 3])) [6] (gN 6) (M.pure true) (e1 revG (eVar 6))]))
    (sNx)))
    (sSeq (sRet (eCall (g 7) [false, false] [eVar 2, eTup [ec (.str [114, 111, 119, 115]), eVar 3]]))
    (sNx))) [.fro (tabI rows), .fro (.int k), .fro v, .fro (tabI (base rows k)), .no, .no, .no] (fun fl σ => endQ [.fro (tabI rows), .fro (.int k), .fro v] (fun d o fs => d = .bl (decide (v = turnD rows k)) ∧ o = false ∧ fs = [.fro (tabI rows), .fro (.int k), .fro v]) (fun _ _ => False) fl σ) := by
    refine ws_seq.mpr ?_
    refine lturn_loop hco (base_sq hsq k) hn (by omega) fun s5 q5 => ?_
    simp
    have hg := turnD_gd k ht hf.1
    refine wpF_mono (hs v (turnD rows k) 100000000 (hg.up (Nat.le_refl _) (by omega) fun i h => h) hv.same) (fun d o fs ⟨e1, e2, e3⟩ => ?_) fun _ _ h => h.elim
    subst e1 e2 e3
    simp
  refine ws_seq.mpr (wpS_mono (Q := fun fl σ2 => fl = .nx ∧ σ2 = [.fro (tabI rows), .fro (.int k), .fro v, .fro (tabI rows), .no, .no, .no]) (by simp) ?_)
  rintro fl σ2 ⟨rfl, rfl⟩
  refine nxt_nx.mpr (ws_seq.mpr (wpS_mono (Q := fun fl σ2 => fl = .nx ∧ σ2 = [.fro (tabI rows), .fro (.int k), .fro v, .fro (tabI (base rows k)), .no, .no, .no]) ?_ ?_))
  · by_cases h3 : 3 < k
    · have h3t := eq_true h3
      simp [h3t, wipeD]
      refine wpLc_A tupI (fun r => some (tupI r.reverse)) (l := rows) (okW_nil _) (by simp; omega) (fun r hm => by simp [wipeD, rev_tupI]) ?_
      have e1 : rows.filterMap (fun r => some (tupI r.reverse)) = (rows.map List.reverse).map tupI := by rw [fm_all, List.map_map]; rfl
      rw [e1]
      simp [restore, base, h3]
      unfold tabI
      rw [List.map_map]
    · have h3f := eq_false h3
      simp [h3f, base]
  · rintro fl σ2 ⟨rfl, rfl⟩
    exact nxt_nx.mpr tail
end K67

set_option Elab.async false
set_option linter.all false
set_option maxRecDepth 100000
set_option maxHeartbeats 4000000
namespace K67
open PySem Ev
def foldC (rows : List (List Int)) : List (List Int) := rows.map fun r => addZ (r.take (wid rows / 2)) ((r.drop (wid rows / 2)).reverse)
def foldR (rows : List (List Int)) : List (List Int) := ((rows.take (rows.length / 2)).zip ((rows.drop (rows.length / 2)).reverse)).map fun q => addZ q.1 q.2
def foldK (k : Int) (rows : List (List Int)) : Option (List (List Int)) := if k = 0 then (if wid rows % 2 = 1 then none else some (foldC rows)) else (if rows.length % 2 = 1 then none else some (foldR rows))
def folds : List Int → List (List Int) → Option (List (List Int))
  | [], r => some r
  | k :: ks, r => (foldK k r).bind (folds ks)
theorem folds_app : ∀ (a b : List Int) (r : List (List Int)), folds (a ++ b) r = (folds a r).bind (folds b)
  | [], b, r => rfl
  | k :: a, b, r => by
    show (foldK k r).bind (folds (a ++ b)) = ((foldK k r).bind (folds a)).bind (folds b)
    cases foldK k r with
    | none => rfl
    | some q => exact folds_app a b q
/-- shape and size -/
def Fq (r : List (List Int)) : Prop := ∃ h w, Rect r h w ∧ h ≤ 64 ∧ w ≤ 64 ∧ ∀ q ∈ r, ∀ x ∈ q, x.natAbs * (h * w) ≤ 64000
theorem half_b {a b t B : Nat} (h1 : a * (2 * t) ≤ B) (h2 : b * (2 * t) ≤ B) : (a + b) * t ≤ B := by
  have e1 : a * (2 * t) = 2 * (a * t) := by rw [Nat.mul_left_comm]
  have e2 : b * (2 * t) = 2 * (b * t) := by rw [Nat.mul_left_comm]
  rw [Nat.add_mul]
  omega
theorem add_b {x y : Int} {t B : Nat} (h1 : x.natAbs * (2 * t) ≤ B) (h2 : y.natAbs * (2 * t) ≤ B) : (x + y).natAbs * t ≤ B :=
  Nat.le_trans (Nat.mul_le_mul_right t (Int.natAbs_add_le x y)) (half_b h1 h2)
theorem addZ_mem {a b : List Int} {x : Int} (h : x ∈ addZ a b) : ∃ u ∈ a, ∃ v ∈ b, x = u + v := by
  unfold addZ at h
  obtain ⟨q, hq, rfl⟩ := List.mem_map.mp h
  obtain ⟨h1, h2⟩ := List.of_mem_zip (a := q.1) (b := q.2) (by simpa using hq)
  exact ⟨_, h1, _, h2, rfl⟩
theorem foldC_q {r : List (List Int)} {h w : Nat} (hr : Rect r h w) (hh : h ≤ 64) (hw : w ≤ 64) (he : w % 2 = 0) (hb : ∀ q ∈ r, ∀ x ∈ q, x.natAbs * (h * w) ≤ 64000) : Rect (foldC r) h (w / 2) ∧ ∀ q ∈ foldC r, ∀ x ∈ q, x.natAbs * (h * (w / 2)) ≤ 64000 := by
  have hw' : wid r = w := hr.row0.2
  have h1 := hr.2.2.1
  have h2 := hr.2.2.2
  refine ⟨⟨by simp [foldC, hr.1], fun q hq => ?_, h1, by omega⟩, fun q hq x hx => ?_⟩
  · unfold foldC at hq
    obtain ⟨p, hp, rfl⟩ := List.mem_map.mp hq
    have := hr.2.1 p hp
    rw [addZ_len, List.length_reverse, List.length_take, List.length_drop, hw', this]
    omega
  · unfold foldC at hq
    obtain ⟨p, hp, rfl⟩ := List.mem_map.mp hq
    obtain ⟨u, hu, v, hv, rfl⟩ := addZ_mem hx
    have e : h * w = 2 * (h * (w / 2)) := by
      have : w = 2 * (w / 2) := by omega
      conv => lhs; rw [this]
      rw [Nat.mul_left_comm]
    have k1 := hb p hp u (List.mem_of_mem_take hu)
    have k2 := hb p hp v (List.mem_of_mem_drop (List.mem_reverse.mp hv))
    rw [e] at k1 k2
    exact add_b k1 k2
theorem foldR_q {r : List (List Int)} {h w : Nat} (hr : Rect r h w) (hh : h ≤ 64) (hw : w ≤ 64) (he : h % 2 = 0) (hb : ∀ q ∈ r, ∀ x ∈ q, x.natAbs * (h * w) ≤ 64000) : Rect (foldR r) (h / 2) w ∧ ∀ q ∈ foldR r, ∀ x ∈ q, x.natAbs * (h / 2 * w) ≤ 64000 := by
  have h0 := hr.1
  have h1 := hr.2.2.1
  have h2 := hr.2.2.2
  have mem : ∀ q ∈ foldR r, ∃ a ∈ r, ∃ b ∈ r, q = addZ a b := fun q hq => by
    unfold foldR at hq
    obtain ⟨p, hp, rfl⟩ := List.mem_map.mp hq
    obtain ⟨k1, k2⟩ := List.of_mem_zip (a := p.1) (b := p.2) (by simpa using hp)
    exact ⟨_, List.mem_of_mem_take k1, _, List.mem_of_mem_drop (List.mem_reverse.mp k2), rfl⟩
  refine ⟨⟨?_, fun q hq => ?_, by omega, h2⟩, fun q hq x hx => ?_⟩
  · unfold foldR
    rw [List.length_map, List.length_zip, List.length_reverse, List.length_take, List.length_drop, h0]
    omega
  · obtain ⟨a, ha, b, hb', rfl⟩ := mem q hq
    rw [addZ_len, hr.2.1 a ha, hr.2.1 b hb']; omega
  · obtain ⟨a, ha, b, hb', rfl⟩ := mem q hq
    obtain ⟨u, hu, v, hv, rfl⟩ := addZ_mem hx
    have e : h * w = 2 * (h / 2 * w) := by
      have : h = 2 * (h / 2) := by omega
      conv => lhs; rw [this]
      rw [Nat.mul_assoc]
    have k1 := hb a ha u hu
    have k2 := hb b hb' v hv
    rw [e] at k1 k2
    exact add_b k1 k2
theorem foldK_q {k : Int} {r q : List (List Int)} (h : Fq r) (e : foldK k r = some q) : Fq q := by
  obtain ⟨a, b, hr, h1, h2, hb⟩ := h
  have hw' : wid r = b := hr.row0.2
  unfold foldK at e
  split at e
  · split at e
    · cases e
    · cases e
      rename_i he
      obtain ⟨k1, k2⟩ := foldC_q hr h1 h2 (by rw [hw'] at he; omega) hb
      exact ⟨_, _, k1, h1, by omega, k2⟩
  · split at e
    · cases e
    · cases e
      rename_i he
      obtain ⟨k1, k2⟩ := foldR_q hr h1 h2 (by rw [hr.1] at he; omega) hb
      exact ⟨_, _, k1, by omega, h2, k2⟩
theorem folds_q : ∀ {ks : List Int} {r q : List (List Int)}, Fq r → folds ks r = some q → Fq q
  | [], r, q, h, e => by cases e; exact h
  | k :: ks, r, q, h, e => by
    have e : (foldK k r).bind (folds ks) = some q := e
    cases e1 : foldK k r with
    | none => rw [e1] at e; cases e
    | some m => rw [e1] at e; exact folds_q (foldK_q h e1) e
/-- the law's folds -/
def lawC (rows : List (List Int)) : List (List Int) := rows.map fun r => (List.range (r.length / 2)).map fun k => itA r k + itA r (r.length - 1 - k)
def lawR (rows : List (List Int)) : List (List Int) := (List.range (rows.length / 2)).map fun j => (List.range (wid rows)).map fun k => cellA rows (j, k) + cellA rows (rows.length - 1 - j, k)
theorem itA_get {l : List Int} {k : Nat} (h : k < l.length) : itA l k = l[k] := by unfold itA; rw [List.getD_eq_getElem?_getD, List.getElem?_eq_getElem h]; rfl
theorem rowAt_get {l : List (List Int)} {k : Nat} (h : k < l.length) : rowAt l k = l[k] := by unfold rowAt; rw [List.getD_eq_getElem?_getD, List.getElem?_eq_getElem h]; rfl
theorem fold_row {r : List Int} {w : Nat} (hl : r.length = w) (he : w % 2 = 0) : (List.range (r.length / 2)).map (fun k => itA r k + itA r (r.length - 1 - k)) = addZ (r.take (w / 2)) ((r.drop (w / 2)).reverse) := by
  refine List.ext_getElem ?_ fun k h1 h2 => ?_
  · rw [List.length_map, List.length_range, addZ_len, List.length_reverse, List.length_take, List.length_drop, hl]; omega
  · rw [List.length_map, List.length_range, hl] at h1
    simp only [addZ, List.getElem_map, List.getElem_range, List.getElem_zip, List.getElem_take, List.getElem_reverse, List.getElem_drop, List.length_drop]
    rw [itA_get (by omega), itA_get (by omega)]
    congr 2
    omega
theorem lawC_eq {rows : List (List Int)} {h w : Nat} (hr : Rect rows h w) (he : w % 2 = 0) : lawC rows = foldC rows := by
  have hw' : wid rows = w := hr.row0.2
  unfold lawC foldC
  refine List.map_congr_left fun r hm => ?_
  rw [hw']
  exact fold_row (hr.2.1 r hm) he
theorem addZ_eq {a b : List Int} {w : Nat} (ha : a.length = w) (hb : b.length = w) : addZ a b = (List.range w).map fun k => itA a k + itA b k := by
  refine List.ext_getElem (by rw [addZ_len]; simp; omega) fun k h1 h2 => ?_
  rw [List.length_map, List.length_range] at h2
  simp only [addZ, List.getElem_map, List.getElem_range, List.getElem_zip]
  rw [itA_get (by omega), itA_get (by omega)]
theorem lawR_eq {rows : List (List Int)} {h w : Nat} (hr : Rect rows h w) (he : h % 2 = 0) : lawR rows = foldR rows := by
  have hw' : wid rows = w := hr.row0.2
  have h0 := hr.1
  unfold lawR foldR
  refine List.ext_getElem ?_ fun j h1 h2 => ?_
  · rw [List.length_map, List.length_range, List.length_map, List.length_zip, List.length_reverse, List.length_take, List.length_drop, h0]; omega
  · rw [List.length_map, List.length_range, h0] at h1
    simp only [List.getElem_map, List.getElem_range, List.getElem_zip, List.getElem_take, List.getElem_reverse, List.getElem_drop, List.length_drop]
    have g1 : j < rows.length := by omega
    have g2 : rows.length / 2 + (rows.length - rows.length / 2 - 1 - j) < rows.length := by omega
    rw [addZ_eq (hr.2.1 _ (List.getElem_mem g1)) (hr.2.1 _ (List.getElem_mem g2)), hw']
    refine List.map_congr_left fun k hk => ?_
    have e1 : cellA rows (j, k) = itA rows[j] k := by show itA (rowAt rows j) k = _; rw [rowAt_get g1]
    have e2 : cellA rows (rows.length - 1 - j, k) = itA rows[rows.length / 2 + (rows.length - rows.length / 2 - 1 - j)] k := by
      show itA (rowAt rows (rows.length - 1 - j)) k = _
      have e : rows.length - 1 - j = rows.length / 2 + (rows.length - rows.length / 2 - 1 - j) := by omega
      rw [e, rowAt_get g2]
    rw [e1, e2]
end K67

set_option Elab.async false
set_option linter.all false
set_option maxRecDepth 100000
set_option maxHeartbeats 4000000
namespace K67
open PySem Ev
/-! ### folded -/
def addD : SE := e2 addG (eVar 6) (eVar 7)
theorem fm_all' {α : Type} (f : α → D) (l : List α) : l.filterMap (fun x => some (f x)) = l.map f := by rw [List.filterMap_eq_map']
def fr (rows : List (List Int)) (ks : List Int) (s2 : Sl) (now : List (List Int)) (s5 s8 : Sl) : Fr := [.fro (tabI rows), .fro (tupI ks), s2, .no, .own (rowsL now), s5, .no, .no, s8, .no]
def bodyC : S := sSeq (sIf (cmp2 eqG (e2 modG (eN (un1 lenG) [e2 ixG (eVar 4) (ec (.int 0))]) (ec (.int 2))) (ec (.int 1))) (sSeq (sRaise "UnfitGrid")
    (sNx)) (sNx))
    (sSeq (sSet 5 (e2 divG (eN (un1 lenG) [e2 ixG (eVar 4) (ec (.int 0))]) (ec (.int 2))))
    (sSeq (sSet 4 (eLc (srcL (eVar 4)) [3] (gN 3) (M.pure true) (eLc (srcZ (eSl (eVar 3) (oNone) (oSome (eVar 5))) (e1 revG (eSl (eVar 3) (oSome (eVar 5)) (oNone)))) [6, 7] (gT 2 (gsCons (gN 6) (gsCons (gN 7) (gsNil)))) (M.pure true) (e2 addG (eVar 6) (eVar 7)))))
    (sNx)))
theorem add_step {a b : List Int} {s0 s1 s2 s3 s4 s5 s8 s9 : Sl} {Q : List D → Fr → Prop} (hl : a.length ≤ 1000) (h : Q ((addZ a b).map .int) [s0, s1, s2, s3, s4, s5, .no, .no, s8, s9]) :
    wpLc [] [6, 7] (lcTurn (gT 2 (gsCons (gN 6) (gsCons (gN 7) gsNil))) (M.pure true) (e2 addG (eVar 6) (eVar 7))) ((a.zip b).map zpD) [] [s0, s1, s2, s3, s4, s5, .no, .no, s8, s9] Q := by
  refine wpLc_A zpD (fun q => some (.int (q.1 + q.2))) (l := a.zip b) (okW_nil _) (by simp [List.length_zip]; omega) (fun q hq => ?_) ?_
  · simp [zpD, wipeD]
  · rw [fm_all']
    simp only [List.nil_append]
    have e : (a.zip b).map (fun q => D.int (q.1 + q.2)) = (addZ a b).map .int := by unfold addZ; rw [List.map_map]; rfl
    rw [e]; exact h
theorem bodyC_ok {rows now : List (List Int)} {ks : List Int} {s2 s5 s8 : Sl} {h w : Nat} (hr : Rect now h w) (hh : h ≤ 64) (hw : w ≤ 64) (q5 : NF s5) {Q : Fl → Fr → Prop}
    (h1 : w % 2 = 1 → Q (.ex "UnfitGrid") (fr rows ks s2 now s5 s8)) (h2 : w % 2 = 0 → ∀ t5, NF t5 → Q .nx (fr rows ks s2 (foldC now) t5 s8)) : wpS bodyC (fr rows ks s2 now s5 s8) Q := by
  unfold bodyC fr
  have hp : 0 < now.length := by rw [hr.1]; exact hr.2.2.1
  have hw' : wid now = w := hr.row0.2
  have r0 := ix_rowsL0 hp
  have r0' : (rowAt now 0).length = w := hw'
  simp [r0, len_colL, r0', mod_ii]
  by_cases hm : w % 2 = 1
  · have e : ((w : Int) % 2 = 1) := by omega
    simp [e]
    exact h1 hm
  · have e : ¬ ((w : Int) % 2 = 1) := by omega
    simp [e]
    obtain ⟨m, hm2⟩ : ∃ m, w / 2 = m := ⟨_, rfl⟩
    have hdiv : divG (.int (w : Int)) (.int 2) = some (.int (m : Int), false) := by rw [div_ii (by omega) (by omega)]; congr 3; omega
    simp [hdiv, putV_nf q5, items_rowsL]
    refine wp_lcRun.mpr ⟨fun z hz => by simp at hz; subst hz; exact ⟨by simp, .inl rfl⟩, ?_⟩
    simp only [pinD, wipeD, List.set]
    refine wpLc_A colL (fun r => some (colL (addZ (r.take (m)) ((r.drop m).reverse)))) (l := now) (fun z hz => by simp at hz; subst hz; rfl) (by simp; have := hr.1; omega) (fun r hm => ?_) ?_
    · have hl := hr.2.1 r hm
      have e1 := sl_colL_to (r := r) (k := m)
      have e2 := sl_colL_fr (r := r) (k := m) (by omega)
      simp [e1, e2, rev_colL, zip_colL, wipeD]
      refine add_step (by rw [List.length_take]; omega) ?_
      simp [restore]
      rfl
    · rw [fm_all']
      simp [restore]
      have := h2 (by omega) _ (NF.fro (.int (m : Int)))
      have e : foldC now = now.map fun r => addZ (r.take m) ((r.drop m).reverse) := by unfold foldC; rw [hw', hm2]
      rw [e] at this
      unfold fr rowsL at this
      rw [List.map_map] at this
      exact this
def bodyR : S := sSeq (sIf (cmp2 eqG (e2 modG (eN (un1 lenG) [eVar 4]) (ec (.int 2))) (ec (.int 1))) (sSeq (sRaise "UnfitGrid")
    (sNx)) (sNx))
    (sSeq (sSet 5 (e2 divG (eN (un1 lenG) [eVar 4]) (ec (.int 2))))
    (sSeq (sSet 8 (eN lzipG [eSl (eVar 4) (oNone) (oSome (eVar 5)), e1 revG (eSl (eVar 4) (oSome (eVar 5)) (oNone))]))
    (sSeq (sSet 4 (eLc (srcL (eVar 8)) [3, 9] (gT 2 (gsCons (gN 3) (gsCons (gN 9) (gsNil)))) (M.pure true) (eLc (srcZ (eVar 3) (eVar 9)) [6, 7] (gT 2 (gsCons (gN 6) (gsCons (gN 7) (gsNil)))) (M.pure true) (e2 addG (eVar 6) (eVar 7)))))
    (sNx))))
theorem bodyR_ok {rows now : List (List Int)} {ks : List Int} {s2 s5 s8 : Sl} {h w : Nat} (hr : Rect now h w) (hh : h ≤ 64) (hw : w ≤ 64) (q5 : NF s5) (q8 : NP s8) {Q : Fl → Fr → Prop}
    (h1 : h % 2 = 1 → Q (.ex "UnfitGrid") (fr rows ks s2 now s5 s8)) (h2 : h % 2 = 0 → ∀ t5 t8, NF t5 → NP t8 → Q .nx (fr rows ks s2 (foldR now) t5 t8)) : wpS bodyR (fr rows ks s2 now s5 s8) Q := by
  unfold bodyR fr
  have hl := hr.1
  have ln := len_rowsL (r := now)
  rw [hl] at ln
  simp [ln, mod_ii]
  by_cases hm : h % 2 = 1
  · have e : ((h : Int) % 2 = 1) := by omega
    simp [e]
    exact h1 hm
  · have e : ¬ ((h : Int) % 2 = 1) := by omega
    simp [e]
    obtain ⟨m, hm2⟩ : ∃ m, h / 2 = m := ⟨_, rfl⟩
    have hdiv : divG (.int (h : Int)) (.int 2) = some (.int (m : Int), false) := by rw [div_ii (by omega) (by omega)]; congr 3; omega
    have e1 := sl_rowsL_to (r := now) (k := m)
    have e2 := sl_rowsL_fr (r := now) (k := m) (by omega)
    have e3 := rev_rowsL (r := now.drop m)
    have e4 := lzip_rows (a := now.take m) (b := (now.drop m).reverse)
    simp [hdiv, putV_nf q5, e1, e2, e3, e4, putV_np q8]
    refine wp_lcRun.mpr ⟨fun z hz => by simp at hz; subst hz; exact ⟨by simp, .inl rfl⟩, ?_⟩
    simp only [pinD, wipeD, List.set]
    refine wpLc_A zrD (fun q => some (colL (addZ q.1 q.2))) (l := (now.take m).zip (now.drop m).reverse) (fun z hz => by simp at hz; subst hz; rfl) (by simp [List.length_zip]; omega) (fun q hq => ?_) ?_
    · have hlq : q.1.length ≤ 1000 := by
        have := (List.of_mem_zip (a := q.1) (b := q.2) (by simpa using hq)).1
        have := hr.2.1 _ (List.mem_of_mem_take this)
        omega
      simp [zrD, zip_colL, wipeD]
      refine add_step hlq ?_
      simp [restore]
      rfl
    · rw [fm_all']
      simp [restore]
      have := h2 (by omega) _ _ (NF.fro (.int (m : Int))) (NP.own (.lst (List.map zrD ((now.take m).zip (now.drop m).reverse))))
      have e : foldR now = ((now.take m).zip (now.drop m).reverse).map fun q => addZ q.1 q.2 := by unfold foldR; rw [hl, hm2]
      rw [e] at this
      unfold fr rowsL at this
      rw [List.map_map] at this
      exact this
end K67

set_option Elab.async false
set_option linter.all false
set_option maxRecDepth 100000
set_option maxHeartbeats 4000000
namespace K67
open PySem Ev
def fit2 (rows : List (List Int)) (ks : List Int) : Prop := fitT rows (-1000) 1000 ∧ (∀ k ∈ ks, k = 0 ∨ k = 1) ∧ (folds ks rows).isSome
def foldD (rows : List (List Int)) (ks : List Int) : D := .tup [.str wRows, tabI ((folds ks rows).getD [])]
def FoI (rows : List (List Int)) (ks : List Int) (dn : List Int) (σ : Fr) : Prop := ∃ now s2 s5 s8, NF s2 ∧ NF s5 ∧ NP s8 ∧ folds dn rows = some now ∧ σ = fr rows ks s2 now s5 s8
theorem fq_of {rows : List (List Int)} (ht : TabOk rows) (hf : fitT rows (-1000) 1000) : Fq rows := by
  obtain ⟨h1, h2⟩ := hf.small ht.ne
  have hm : rows.length * wid rows ≤ 64 := hf.2.2
  refine ⟨_, _, hf.rect ht.ne, h1, h2, fun q hq x hx => ?_⟩
  have := hf.2.1 q hq x hx
  exact Nat.le_trans (Nat.mul_le_mul (show x.natAbs ≤ 1000 by omega) hm) (by omega)
theorem foldK_none {k : Int} {now : List (List Int)} {rows : List (List Int)} {dn rest : List Int} (e : folds dn rows = some now) (h : foldK k now = none) : ¬ (folds (dn ++ k :: rest) rows).isSome := by
  rw [folds_app, e]
  show ¬ ((folds (k :: rest) now)).isSome
  show ¬ ((foldK k now).bind (folds rest)).isSome
  rw [h]
  simp
theorem folds_loop {rows : List (List Int)} {ks : List Int} (hl : ks.length ≤ 60) (hk : ∀ k ∈ ks, k = 0 ∨ k = 1) (ht : TabOk rows) (hf : fitT rows (-1000) 1000) {s2 s5 s8 : Sl} (q2 : NF s2) (q5 : NF s5) (q8 : NP s8) {Q : Fl → Fr → Prop}
    (h1 : ∀ s2 now s5 s8, ¬ (folds ks rows).isSome → Q (.ex "UnfitGrid") (fr rows ks s2 now s5 s8)) (h2 : ∀ s2 now s5 s8, folds ks rows = some now → Q .nx (fr rows ks s2 now s5 s8)) :
    wpS (sFor (srcL (eVar 1)) (gN 2) (sSeq (sIf (cmp2 eqG (eVar 2) (ec (.int 0))) bodyC bodyR) sNx)) (fr rows ks s2 rows s5 s8) Q := by
  refine ws_forG ?_
  unfold fr
  simp
  refine ws_forA (fun k : Int => D.int k) (FoI rows ks) (l := ks) ⟨rows, _, _, _, q2, q5, q8, rfl, rfl⟩ (fun dn x rest σ hl ⟨now, t2, t5, t8, w2, w5, w8, w, e⟩ => ⟨okW_nil _, ?_⟩) fun σ ⟨now, t2, t5, t8, w2, w5, w8, w, e⟩ => ⟨okW_nil _, ?_⟩
  · subst e
    unfold fr
    refine wp_gN_nf w2 rfl ?_
    obtain ⟨h, w', hr, hh, hw, hb⟩ := folds_q (fq_of ht hf) w
    have hw' : wid now = w' := hr.row0.2
    have hx : x = 0 ∨ x = 1 := hk x (by rw [hl]; simp)
    rcases hx with rfl | rfl
    · simp
      refine bodyC_ok (rows := rows) (ks := ks) (s2 := .fro (.int 0)) (s8 := t8) hr hh hw w5 (fun ho => ?_) fun he u5 n5 => ?_
      · simp
        refine h1 _ _ _ _ ?_
        rw [hl]
        refine foldK_none w ?_
        unfold foldK; rw [hw']; simp [ho]
      · simp
        refine ⟨foldC now, _, u5, t8, NF.fro _, n5, w8, ?_, rfl⟩
        rw [folds_app, w]
        show (foldK 0 now).bind (folds []) = _
        unfold foldK; rw [hw']; simp [he]; rfl
    · simp
      refine bodyR_ok (rows := rows) (ks := ks) (s2 := .fro (.int 1)) (s8 := t8) hr hh hw w5 w8 (fun ho => ?_) fun he u5 u8 n5 n8 => ?_
      · simp
        refine h1 _ _ _ _ ?_
        rw [hl]
        refine foldK_none w ?_
        unfold foldK; rw [hr.1]; simp [ho]
      · simp
        refine ⟨foldR now, _, u5, u8, NF.fro _, n5, n8, ?_, rfl⟩
        rw [folds_app, w]
        show (foldK 1 now).bind (folds []) = _
        unfold foldK; rw [hr.1]; simp [he]; rfl
  · subst e
    exact h2 _ _ _ _ w
theorem not01 {k : Int} : inG (.int k) (.tup [.int 0, .int 1]) = some (decide (k = 0 ∨ k = 1)) := by
  show (if shp 64 (.int k) = true ∧ shp 64 (.tup [.int 0, .int 1]) = true then some ([D.int 0, D.int 1].any fun z => eqv z (.int k)) else none) = _
  rw [if_pos ⟨by simp [shp], by simp [shp, shpL]⟩]
  simp [eqv]
  rw [Bool.eq_iff_iff]; simp; omega
theorem folded_ok {g : Nat → FSem} (hc : CheckOk (g 1)) (rows : List (List Int)) (ks : List Int) (ht : TabOk rows) (hl : ks.length ≤ 60) : wpF (mkF 10 (b4 g)) [.fro (tabI rows), .fro (tupI ks)]
    (fun d o fs => fit2 rows ks ∧ d = foldD rows ks ∧ o = false ∧ fs = [.fro (tabI rows), .fro (tupI ks)]) (fun c fs => ¬ fit2 rows ks ∧ c = ex1 rows ∧ fs = [.fro (tabI rows), .fro (tupI ks)]) := by
  rw [wf_mk]
  rw [show frame 10 [.fro (tabI rows), .fro (tupI ks)] = [.fro (tabI rows), .fro (tupI ks), .no, .no, .no, .no, .no, .no, .no, .no] from rfl]
  unfold b4
  simp
  refine wpF_mono (hc rows (-1000) 1000 ht.ne ht.len ht.row) (fun d o fs ⟨hf, e1, e2, e3⟩ => ?_) fun c fs ⟨h1, h2, h3⟩ => ?_
  · subst e1 e2 e3
    obtain ⟨hs1, hs2⟩ := hf.small ht.ne
    simp [wipeD]
    refine wpLc_A (fun k : Int => D.int k) (fun k => some (.bl (!decide (k = 0 ∨ k = 1)))) (l := ks) (okW_nil _) (by simp; omega) (fun k hk => by simp [wipeD, not01, notG]) ?_
    rw [fm_all]
    have hin := in_true (l := ks) (P := fun k => !decide (k = 0 ∨ k = 1))
    generalize hz : ks.map (fun k => D.bl (!decide (k = 0 ∨ k = 1))) = z at hin
    simp only [List.nil_append]
    simp [restore, hin]
    by_cases hk : ∀ k ∈ ks, k = 0 ∨ k = 1
    · rw [if_neg (by rintro ⟨x, hx, h1, h2⟩; have := hk x hx; omega)]
      simp only [wipeD, List.set]
      refine wpLc_A tupI (fun r => some (colL r)) (l := rows) (okW_nil _) (by simp; omega) (fun r hm => by simp [wipeD, lst_tupI]) ?_
      rw [fm_all]
      have e0 : rows.map (fun r => colL r) = rows.map colL := rfl
      rw [e0]
      have hfl := folds_loop (s2 := .no) (s5 := .no) (s8 := .no) hl hk ht hf NF.no NF.no (.inl rfl) (Q := fun fl σ' => nxt (sSeq (sRet (eTup [ec (.str [114, 111, 119, 115]), eN (un1 tupG) [eLc (srcL (eVar 4)) [3] (gN 3) (M.pure true) (eN (un1 tupG) [eVar 3])]]))
    (sNx)) (fun fl σ => endQ [Ar.fro (tabI rows), Ar.fro (tupI ks)]
              (fun d o fs => fit2 rows ks ∧ d = foldD rows ks ∧ o = false ∧ fs = [Ar.fro (tabI rows), Ar.fro (tupI ks)])
              (fun c fs => ¬fit2 rows ks ∧ c = ex1 rows ∧ fs = [Ar.fro (tabI rows), Ar.fro (tupI ks)]) fl σ) fl σ') (fun s2 now s5 s8 hn => ?_) fun s2 now s5 s8 hs => ?_
      · simp only [List.nil_append]
        generalize hz : rows.map colL = z
        simp
        unfold fr rowsL at hfl
        rw [hz] at hfl
        exact hfl
      · unfold fr
        simp
        exact ⟨fun h => hn h.2.2, by simp [ex1, hf]⟩
      · unfold fr
        obtain ⟨h, w', hr, hh, hw, hb⟩ := folds_q (fq_of ht hf) hs
        simp [items_rowsL]
        refine wp_lcRun.mpr ⟨fun z hz => by simp at hz; subst hz; exact ⟨by simp, .inl rfl⟩, ?_⟩
        simp only [pinD, wipeD, List.set]
        refine wpLc_A colL (fun r => some (tupI r)) (l := now) (fun z hz => by simp at hz; subst hz; rfl) (by simp; have := hr.1; omega) (fun r hm => ?_) ?_
        · simp [wipeD, tup_colL]
        · rw [fm_all]
          simp [restore]
          exact ⟨⟨hf, hk, by rw [hs]; rfl⟩, by simp [foldD, hs, wRows, tabI]⟩
    · rw [if_pos (by
        apply Classical.byContradiction; intro hno; exact hk fun k hm => Classical.byContradiction fun h => hno ⟨k, hm, fun e => h (.inl e), fun e => h (.inr e)⟩)]
      exact ⟨fun h => hk h.2.1, by simp [ex1, hf]⟩
  · subst h2 h3
    simp
    exact ⟨fun h => h1 h.1, by simp [ex1, h1]⟩
end K67

set_option Elab.async false
set_option linter.all false
set_option maxRecDepth 100000
set_option maxHeartbeats 4000000
namespace K67
open PySem Ev
/-! ### the law's folds -/
def fl8 (rows : List (List Int)) (ks : List Int) (v : D) (now : List (List Int)) (s5 : Sl) : Fr := [.fro (tabI rows), .fro (tupI ks), .fro v, .no, .own (rowsL now), s5, .no, .no]
def lbC : S := sSeq (sSet 4 (eLc (srcL (eVar 4)) [3] (gN 3) (M.pure true) (eLc (srcR1 (e2 divG (eN (un1 lenG) [eVar 3]) (ec (.int 2)))) [6] (gN 6) (M.pure true) (e2 addG (e2 ixG (eVar 3) (eVar 6)) (e2 ixG (eVar 3) (e2 subG (e2 subG (eN (un1 lenG) [eVar 3]) (ec (.int 1))) (eVar 6)))))))
    (sNx)
def lbR : S := sSeq (sSet 4 (eLc (srcR1 (e2 divG (eN (un1 lenG) [eVar 4]) (ec (.int 2)))) [7] (gN 7) (M.pure true) (eLc (srcR1 (eN (un1 lenG) [e2 ixG (eVar 4) (ec (.int 0))])) [6] (gN 6) (M.pure true) (e2 addG (e2 ixG (e2 ixG (eVar 4) (eVar 7)) (eVar 6)) (e2 ixG (e2 ixG (eVar 4) (e2 subG (e2 subG (eN (un1 lenG) [eVar 4]) (ec (.int 1))) (eVar 7))) (eVar 6))))))
    (sNx)
theorem half_d {w : Nat} (hw : w ≤ 1000) : ∃ m, w / 2 = m ∧ divG (.int (w : Int)) (.int 2) = some (.int (m : Int), false) := ⟨_, rfl, by rw [div_ii (by omega) (by omega)]; congr 3⟩
theorem lbC_ok {rows now : List (List Int)} {ks : List Int} {v : D} {s5 : Sl} {h w : Nat} (hr : Rect now h w) (hh : h ≤ 64) (hw : w ≤ 64) (he : w % 2 = 0) {Q : Fl → Fr → Prop}
    (h2 : Q .nx (fl8 rows ks v (foldC now) s5)) : wpS lbC (fl8 rows ks v now s5) Q := by
  unfold lbC fl8
  rw [← lawC_eq hr he] at h2
  obtain ⟨m, hm2, hdiv⟩ := half_d (w := w) (by omega)
  simp [items_rowsL]
  refine wp_lcRun.mpr ⟨fun z hz => by simp at hz; subst hz; exact ⟨by simp, .inl rfl⟩, ?_⟩
  simp only [pinD, wipeD, List.set]
  refine wpLc_A colL (fun r => some (colL ((List.range m).map fun k => itA r k + itA r (w - 1 - k)))) (l := now) (fun z hz => by simp at hz; subst hz; rfl) (by simp; have := hr.1; omega) (fun r hm => ?_) ?_
  · have hl := hr.2.1 r hm
    have ll := len_colL (r := r)
    rw [hl] at ll
    simp [ll, hdiv, rng_len m (by omega), wipeD]
    refine wpLc_A (fun (k : Nat) => D.int (k : Int)) (fun k => some (.int (itA r k + itA r (w - 1 - k)))) (l := List.range m) (okW_nil _) (by simp; omega) (fun k hk => ?_) ?_
    · have hk := List.mem_range.mp hk
      have i1 := ix_colL (l := r) (k := k) (by omega)
      have i2 := ix_colL (l := r) (k := w - 1 - k) (by omega)
      have ei : ((w - 1 - k : Nat) : Int) = (w : Int) - 1 - (k : Int) := by omega
      rw [ei] at i2
      simp [ll, i1, i2, wipeD]
    · rw [fm_all']
      simp [restore, colL, Function.comp_def]
  · rw [fm_all']
    simp [restore]
    have e : lawC now = now.map fun r => (List.range m).map fun k => itA r k + itA r (w - 1 - k) := by
      unfold lawC
      refine List.map_congr_left fun r hm => ?_
      rw [hr.2.1 r hm, hm2]
    rw [e] at h2
    unfold fl8 rowsL at h2
    rw [List.map_map] at h2
    exact h2
theorem lbR_ok {rows now : List (List Int)} {ks : List Int} {v : D} {s5 : Sl} {h w : Nat} (hr : Rect now h w) (hh : h ≤ 64) (hw : w ≤ 64) (he : h % 2 = 0) {Q : Fl → Fr → Prop}
    (h2 : Q .nx (fl8 rows ks v (foldR now) s5)) : wpS lbR (fl8 rows ks v now s5) Q := by
  unfold lbR fl8
  rw [← lawR_eq hr he] at h2
  obtain ⟨m, hm2, hdiv⟩ := half_d (w := h) (by omega)
  have hp : 0 < now.length := by rw [hr.1]; exact hr.2.2.1
  have hw' : wid now = w := hr.row0.2
  have r0 := ix_rowsL0 hp
  have r0' := len_colL (r := rowAt now 0)
  rw [show (rowAt now 0).length = w from hw'] at r0'
  have ll := len_rowsL (r := now)
  rw [hr.1] at ll
  have hl := hr.1
  simp [ll, hdiv, rng_len m (by omega), wipeD]
  refine wpLc_A (fun (k : Nat) => D.int (k : Int)) (fun j => some (colL ((List.range w).map fun k => cellA now (j, k) + cellA now (h - 1 - j, k)))) (l := List.range m) (okW_nil _) (by simp; omega) (fun j hj => ?_) ?_
  · have hj := List.mem_range.mp hj
    simp [r0, r0', rng_len w (by omega), wipeD]
    have i1 := ix_rowsL (rows := now) (k := j) (by omega)
    have i2 := ix_rowsL (rows := now) (k := h - 1 - j) (by omega)
    have ei : ((h - 1 - j : Nat) : Int) = (h : Int) - 1 - (j : Int) := by omega
    rw [ei] at i2
    obtain ⟨_, c1, _⟩ := hr.row (k := j) (by omega)
    obtain ⟨_, c2, _⟩ := hr.row (k := h - 1 - j) (by omega)
    refine wpLc_A (fun (k : Nat) => D.int (k : Int)) (fun k => some (.int (cellA now (j, k) + cellA now (h - 1 - j, k)))) (l := List.range w) (okW_nil _) (by simp; omega) (fun k hk => ?_) ?_
    · have hk := List.mem_range.mp hk
      have i3 := ix_colL (l := rowAt now j) (k := k) (by omega)
      have i4 := ix_colL (l := rowAt now (h - 1 - j)) (k := k) (by omega)
      simp [ll, i1, i2, i3, i4, wipeD]
      rfl
    · rw [fm_all']
      simp [restore, colL, Function.comp_def]
  · rw [fm_all']
    simp [restore]
    have e : lawR now = (List.range m).map fun j => (List.range w).map fun k => cellA now (j, k) + cellA now (h - 1 - j, k) := by
      unfold lawR
      rw [hl, hm2, hw']
    rw [e] at h2
    unfold fl8 rowsL at h2
    rw [List.map_map] at h2
    exact h2
def LfI (rows : List (List Int)) (ks : List Int) (v : D) (dn : List Int) (σ : Fr) : Prop := ∃ now s5, NF s5 ∧ folds dn rows = some now ∧ σ = fl8 rows ks v now s5
theorem foldK_some {k : Int} {now : List (List Int)} {rows : List (List Int)} {dn rest : List Int} (e : folds dn rows = some now) (h : (folds (dn ++ k :: rest) rows).isSome) : ∃ q, foldK k now = some q := by
  cases hq : foldK k now with
  | none => exact absurd h (foldK_none e hq)
  | some q => exact ⟨q, rfl⟩
theorem lfolds_loop {rows : List (List Int)} {ks : List Int} (hl : ks.length ≤ 60) (ht : TabOk rows) (hf : fit2 rows ks) {v : D} {Q : Fl → Fr → Prop}
    (h2 : ∀ s5 now, folds ks rows = some now → Q .nx (fl8 rows ks v now s5)) :
    wpS (sFor (srcL (eVar 1)) (gN 5) (sSeq (sIf (cmp2 eqG (eVar 5) (ec (.int 0))) lbC lbR) sNx)) (fl8 rows ks v rows .no) Q := by
  refine ws_forG ?_
  unfold fl8
  simp
  refine ws_forA (fun k : Int => D.int k) (LfI rows ks v) (l := ks) ⟨rows, _, NF.no, rfl, rfl⟩ (fun dn x rest σ hl ⟨now, t5, w5, w, e⟩ => ⟨okW_nil _, ?_⟩) fun σ ⟨now, t5, w5, w, e⟩ => ⟨okW_nil _, ?_⟩
  · subst e
    unfold fl8
    refine wp_gN_nf w5 rfl ?_
    obtain ⟨h, w', hr, hh, hw, hb⟩ := folds_q (fq_of ht hf.1) w
    have hw' : wid now = w' := hr.row0.2
    have hx : x = 0 ∨ x = 1 := hf.2.1 x (by rw [hl]; simp)
    obtain ⟨q, hq⟩ := foldK_some (rest := rest) w (by rw [← hl]; exact hf.2.2)
    rcases hx with rfl | rfl
    · simp
      have he : w' % 2 = 0 := by
        unfold foldK at hq
        rw [hw'] at hq
        by_cases ho : w' % 2 = 1
        · simp [ho] at hq
        · omega
      refine lbC_ok (rows := rows) (ks := ks) (v := v) (s5 := .fro (.int 0)) hr hh hw he ?_
      simp
      refine ⟨foldC now, _, NF.fro _, ?_, rfl⟩
      rw [folds_app, w]
      show (foldK 0 now).bind (folds []) = _
      unfold foldK; rw [hw']; simp [he]; rfl
    · simp
      have he : h % 2 = 0 := by
        unfold foldK at hq
        rw [hr.1] at hq
        by_cases ho : h % 2 = 1
        · simp [ho] at hq
        · omega
      refine lbR_ok (rows := rows) (ks := ks) (v := v) (s5 := .fro (.int 1)) hr hh hw he ?_
      simp
      refine ⟨foldR now, _, NF.fro _, ?_, rfl⟩
      rw [folds_app, w]
      show (foldK 1 now).bind (folds []) = _
      unfold foldK; rw [hr.1]; simp [he]; rfl
  · subst e
    exact h2 _ _ w
theorem foldD_gd {rows : List (List Int)} {ks : List Int} (ht : TabOk rows) (hf : fit2 rows ks) : ToldG (foldD rows ks) := by
  obtain ⟨q, hq⟩ := Option.isSome_iff_exists.mp hf.2.2
  unfold foldD
  rw [hq]
  obtain ⟨h, w, hr, hh, hw, hb⟩ := folds_q (fq_of ht hf.1) hq
  refine rowsD_gd (by show q.length ≤ 64; rw [hr.1]; exact hh) fun r hm => ⟨by rw [hr.2.1 r hm]; exact hw, fun x hx => ?_⟩
  have := hb r hm x hx
  have h1 : 1 ≤ h * w := Nat.mul_pos hr.2.2.1 hr.2.2.2
  have := Nat.le_trans (Nat.mul_le_mul_left x.natAbs h1) this
  omega
theorem accepts2_ok {g : Nat → FSem} (hs : SameOk (g 7)) (rows : List (List Int)) (ks : List Int) (ht : TabOk rows) (hl : ks.length ≤ 60) (hf : fit2 rows ks) (v : D) (hv : AskA v) : wpF (mkF 8 (b20 g)) [.fro (tabI rows), .fro (tupI ks), .fro v]
    (fun d o fs => d = .bl (decide (v = foldD rows ks)) ∧ o = false ∧ fs = [.fro (tabI rows), .fro (tupI ks), .fro v]) (fun _ _ => False) := by
  rw [wf_mk]
  rw [show frame 8 [.fro (tabI rows), .fro (tupI ks), .fro v] = [.fro (tabI rows), .fro (tupI ks), .fro v, .no, .no, .no, .no, .no] from rfl]
  unfold b20
  obtain ⟨hs1, hs2⟩ := hf.1.small ht.ne
  simp [wipeD]
  refine wpLc_A tupI (fun r => some (colL r)) (l := rows) (okW_nil _) (by simp; omega) (fun r hm => by simp [wipeD, lst_tupI]) ?_
  rw [fm_all]
  have e0 : rows.map (fun r => colL r) = rows.map colL := rfl
  rw [e0]
  have hfl := lfolds_loop (v := v) hl ht hf (Q := fun fl σ' => nxt (sSeq (sRet (eCall (g 7) [false, false] [eVar 2, eTup [ec (.str [114, 111, 119, 115]), eN (un1 tupG) [eLc (srcL (eVar 4)) [3] (gN 3) (M.pure true) (eN (un1 tupG) [eVar 3])]]]))
    (sNx)) (fun fl σ => endQ [Ar.fro (tabI rows), Ar.fro (tupI ks), .fro v]
              (fun d o fs => d = .bl (decide (v = foldD rows ks)) ∧ o = false ∧ fs = [.fro (tabI rows), .fro (tupI ks), .fro v]) (fun _ _ => False) fl σ) fl σ') fun s5 now hq => ?_
  · simp only [List.nil_append]
    generalize hz : rows.map colL = z
    simp [restore]
    unfold fl8 rowsL at hfl
    rw [hz] at hfl
    exact hfl
  · unfold fl8
    obtain ⟨h, w', hr, hh, hw, hb⟩ := folds_q (fq_of ht hf.1) hq
    simp [items_rowsL]
    refine wp_lcRun.mpr ⟨fun z hz => by simp at hz; subst hz; exact ⟨by simp, .inl rfl⟩, ?_⟩
    simp only [pinD, wipeD, List.set]
    refine wpLc_A colL (fun r => some (tupI r)) (l := now) (fun z hz => by simp at hz; subst hz; rfl) (by simp; have := hr.1; omega) (fun r hm => ?_) ?_
    · simp [wipeD, tup_colL]
    · rw [fm_all]
      have hg := foldD_gd ht hf
      have ed : foldD rows ks = .tup [.str wRows, .tup (now.map fun r => tupI r)] := by unfold foldD; rw [hq]; rfl
      rw [ed] at hg ⊢
      generalize hz : (now.map fun r => tupI r) = z at hg
      have htz : tupG (.lst z) = some (.tup z, false) := rfl
      simp only [List.nil_append]
      simp [restore, htz]
      refine wpF_mono (hs v _ 100000000 (hg.up (Nat.le_refl _) (by omega) fun i h => h) hv.same) (fun d o fs ⟨e1, e2, e3⟩ => ?_) fun _ _ h => h.elim
      subst e1 e2 e3
      simp
      rfl
end K67

set_option Elab.async false
set_option linter.all false
set_option maxRecDepth 100000
set_option maxHeartbeats 4000000
namespace K67
open PySem Ev
def rw1 (as : List D) : List (List Int) := rowsOf (as.headD .non)
@[simp] theorem rw1_t (rows : List (List Int)) (l : List D) : rw1 (tabI rows :: l) = rows := rowsOf_tabI rows
def nOf : List D → Int
  | [_, .int n] => n
  | _ => 0
def kOf : List D → List Int
  | [_, d] => intsOf d
  | _ => []
@[simp] theorem kOf_t (a : D) (ks : List Int) : kOf [a, tupI ks] = ks := intsOf_tupI ks
noncomputable def H1 : Hf := ⟨fun as => fit1 (rw1 as) (nOf as), fun as => turnD (rw1 as) (nOf as), fun as => ex1 (rw1 as), fun as v => v = turnD (rw1 as) (nOf as), fun as => ∃ rows n, as = [tabI rows, .int n] ∧ TabOk rows⟩
noncomputable def H2 : Hf := ⟨fun as => fit2 (rw1 as) (kOf as), fun as => foldD (rw1 as) (kOf as), fun as => ex1 (rw1 as), fun as v => v = foldD (rw1 as) (kOf as), fun as => ∃ rows ks, as = [tabI rows, tupI ks] ∧ TabOk rows ∧ ks.length ≤ 60⟩
theorem ex1_or {rows : List (List Int)} : ex1 rows = "UnfitGrid" ∨ ex1 rows = "TooWide" := by
  unfold ex1
  split
  · exact .inl rfl
  · exact exT_or
theorem H1_ok : H1.Ok := ⟨fun as ⟨rows, n, e, ht⟩ _ => by subst e; exact ex1_or, fun as ⟨rows, n, e, ht⟩ hf => by
  subst e
  have hf : fit1 rows n := by simpa [H1, nOf] using hf
  have : H1.told [tabI rows, .int n] = turnD rows n := by simp [H1, nOf]
  rw [this]
  exact ⟨turnD_gd n ht hf.1, _, rfl, by simp⟩, fun as _ _ => rfl⟩
theorem H2_ok : H2.Ok := ⟨fun as ⟨rows, ks, e, ht, hl⟩ _ => by subst e; exact ex1_or, fun as ⟨rows, ks, e, ht, hl⟩ hf => by
  subst e
  have hf : fit2 rows ks := by simpa [H2] using hf
  have : H2.told [tabI rows, tupI ks] = foldD rows ks := by simp [H2]
  rw [this]
  exact ⟨foldD_gd ht hf, _, rfl, by simp⟩, fun as _ _ => rfl⟩
theorem F1 {g : Nat → FSem} (hc : CheckOk (g 1)) : HF2 H1 (mkF 6 (b2 g)) := fun aa bb ⟨rows, n, e, ht⟩ => by
  cases e
  refine wpF_mono (turned_ok hc rows n ht) (fun d o fs ⟨e1, e2, e3, e4⟩ => ?_) fun c fs ⟨e1, e2, e3⟩ => ?_
  · subst e2 e3 e4; simp [H1, nOf]; exact e1
  · subst e2 e3; simp [H1, nOf]; exact e1
theorem F2 {g : Nat → FSem} (hc : CheckOk (g 1)) : HF2 H2 (mkF 10 (b4 g)) := fun aa bb ⟨rows, ks, e, ht, hl⟩ => by
  cases e
  refine wpF_mono (folded_ok hc rows ks ht hl) (fun d o fs ⟨e1, e2, e3, e4⟩ => ?_) fun c fs ⟨e1, e2, e3⟩ => ?_
  · subst e2 e3 e4; simp [H2]; exact e1
  · subst e2 e3; simp [H2]; exact e1
theorem A1 {g : Nat → FSem} (hs : SameOk (g 7)) (hco : ColsOk (g 15)) : HA2 H1 (mkF 7 (b17 g)) := fun aa bb v ⟨rows, n, e, ht⟩ hf hv => by
  cases e
  have hf : fit1 rows n := by simpa [H1, nOf] using hf
  refine wpF_mono (accepts_ok hs hco rows n ht hf v hv) (fun d o fs ⟨e2, e3, e4⟩ => ?_) fun _ _ h => h.elim
  subst e2 e3 e4; simp [H1, nOf]
theorem A2 {g : Nat → FSem} (hs : SameOk (g 7)) : HA2 H2 (mkF 8 (b20 g)) := fun aa bb v ⟨rows, ks, e, ht, hl⟩ hf hv => by
  cases e
  have hf : fit2 rows ks := by simpa [H2] using hf
  refine wpF_mono (accepts2_ok hs rows ks ht hl hf v hv) (fun d o fs ⟨e2, e3, e4⟩ => ?_) fun _ _ h => h.elim
  subst e2 e3 e4; simp [H2]
theorem tk : Tk tk_UnfitGrid tk_TooWide := ⟨by simp [tk_UnfitGrid], by unfold tk_UnfitGrid; rw [if_neg (by decide +kernel), if_pos rfl], by unfold tk_TooWide; rw [if_neg (by decide +kernel), if_pos rfl]⟩
/-- half 1 of a turn -/
theorem half1_ok {g : Nat → FSem} (hF : HF2 H1 (g 2)) (hJ : HJ2 H1 (g 3)) (hA : HA2 H1 (g 17)) (hS : SameOk (g 7)) (hO : OddOk 10 (g 13)) {s0 s3 s4 s11 s12 s13 sT sN sK sQ : Sl} {st : D} {se : List D} {n0 : Nat} {rows : List (List Int)} {n : Int} (hs : WS st) (hse : Seen n0 600000 1000000000 se) (hn0 : n0 ≤ 900) (hd : H1.dom [tabI rows, .int n]) (hf : H1.fit [tabI rows, .int n]) (qT : NF sT) (qN : NF sN) (qK : NF sK) (qQ : NF sQ)
    (hN : ∀ st, WS st → wpF (g 18) (.ref st :: [.fro (tabI rows), .fro (.int n)]) (NearQ [.fro (tabI rows), .fro (.int n)]) (fun _ _ => False))
    (hU : ∀ (st' d : D), WS st' → wpM (orB (notB (tr (eCall (g 19) [false, false] [eVar 5, ec (.int 8)]) truG)) (notB (tr (eCall (g 19) [false, false] [e2 addG (eVar 5) (eTup [e2 mulG (eTup [ec (.int 0)]) (e2 addG (eN (un1 lenG) [e2 ixG (eVar 5) (ec (.int 0))]) (ec (.int 1)))]), eVar 6]) truG))) [s0, .own st', .own (.lst se), s3, s4, .fro (tabI rows), .fro (.int n), .fro (H1.told [tabI rows, .int n]), .fro d, sK, sQ, s11, s12, s13] (fun t σ1 => t = false ∧ σ1 = [s0, .own st', .own (.lst se), s3, s4, .fro (tabI rows), .fro (.int n), .fro (H1.told [tabI rows, .int n]), .fro d, sK, sQ, s11, s12, s13]) (fun _ _ => False)) (REST : S) {Q : Fl → Fr → Prop}
    (hQ : ∀ (st' : D) (se' : List D) (tT tN tK tQ : Sl), WS st' → Seen (n0 + 2) 600000 1000000000 se' → NF tT → NF tN → NF tK → NF tQ → wpS REST [s0, .own st', .own (.lst se'), s3, s4, .fro (tabI rows), .fro (.int n), tT, tN, tK, tQ, s11, s12, s13] Q) :
    wpS (sSeq (sSet 7 (eCall (g 2) [false, false] [eVar 5, eVar 6]))
    (sSeq (sSet 8 (eCall (g 18) [true, false, false] [eVar 1, eVar 5, eVar 6]))
    (sSeq (sIf (orB (notB (tr (eCall (g 17) [false, false, false] [eVar 5, eVar 6, eVar 7]) truG)) (cmp2 (notG isG) (eCall (g 3) [false, false, false] [eVar 5, eVar 6, eVar 7]) (ec (.bl true)))) (sSeq (sRet (ec (.bl false)))
    (sNx)) (sNx))
    (sSeq (sIf (orB (notB (tr (eCall (g 19) [false, false] [eVar 5, ec (.int 8)]) truG)) (notB (tr (eCall (g 19) [false, false] [e2 addG (eVar 5) (eTup [e2 mulG (eTup [ec (.int 0)]) (e2 addG (eN (un1 lenG) [e2 ixG (eVar 5) (ec (.int 0))]) (ec (.int 1)))]), eVar 6]) truG))) (sSeq (sRet (ec (.bl false)))
    (sNx)) (sNx))
    (sSeq (sSet 2 (e2 addG (eSl (eVar 2) (oSome (e1 negG (ec (.int 3)))) (oNone)) (eLst [eVar 7, eVar 8])))
    (sSeq (sFor (srcR1 (e2 addG (ec (.int 8)) (eN (un1 lenG) [eVar 2]))) (gN 9) (sSeq (sSet 10 (eIf (cmp2 ltG (eVar 9) (ec (.int 8))) (eCall (g 13) [true, false] [eVar 1, eVar 7]) (e2 ixG (eVar 2) (e2 subG (eVar 9) (ec (.int 8))))))
    (sSeq (sIf (notB (tr (eCall (g 7) [false, false] [eCall (g 3) [false, false, false] [eVar 5, eVar 6, eVar 10], eCall (g 17) [false, false, false] [eVar 5, eVar 6, eVar 10]]) truG)) (sSeq (sRet (ec (.bl false)))
    (sNx)) (sNx))
    (sNx))))
    REST)))))) [s0, .own st, .own (.lst se), s3, s4, .fro (tabI rows), .fro (.int n), sT, sN, sK, sQ, s11, s12, s13] Q := by
  generalize hUm : (orB (notB (tr (eCall (g 19) [false, false] [eVar 5, ec (.int 8)]) truG)) (notB (tr (eCall (g 19) [false, false] [e2 addG (eVar 5) (eTup [e2 mulG (eTup [ec (.int 0)]) (e2 addG (eN (un1 lenG) [e2 ixG (eVar 5) (ec (.int 0))]) (ec (.int 1)))]), eVar 6]) truG))) = Um at hU ⊢
  simp
  refine wpF_mono (hF (tabI rows) (.int n) hd) (fun d o fs ⟨_, e1, e2, e3⟩ => ?_) fun c fs ⟨h1, _⟩ => (h1 hf).elim
  subst e1 e2 e3
  simp [putV_nf qT]
  refine wpF_mono (hN st hs) (fun d o fs ⟨st5, hs5, e1, e2, hnear⟩ => ?_) fun _ _ h => h.elim
  subst e1 e2
  simp [putV_nf qN]
  have hask : AskA (H1.told [tabI rows, .int n]) := ToldG.ask (H1_ok.told _ hd hf).1
  have hself := H1_ok.self _ hd hf
  refine wpF_mono (hA (tabI rows) (.int n) _ hd hf hask) (fun d o fs ⟨e1, e2, e3⟩ => ?_) fun _ _ h => h.elim
  subst e1 e2 e3
  simp [hself]
  refine wpF_mono (hJ (tabI rows) (.int n) _ hd hask) (fun d o fs ⟨_, e1, e2, e3⟩ => ?_) fun c fs ⟨h1, _⟩ => (h1 hf).elim
  subst e1 e2 e3
  have ist : ∀ b : Bool, isG (.bl b) (.bl true) = some (decide (b = true)) := fun b => rfl
  simp [hself, ist, notG]
  refine wpM_mono (hU st5 d hs5) (fun t σ1 ⟨e1, e2⟩ => ?_) fun _ _ h => h.elim
  subst e1 e2
  have hse' := Seen.add (lo := some (-3)) (hi := none) hse hask hnear
  have hlen := hse'.1
  generalize htold : H1.told [tabI rows, .int n] = told at hse' hlen
  have hadd3 : addG (.lst (cutL se (some (-3)) none)) (.lst [told, d]) = some (.lst (cutL se (some (-3)) none ++ [told, d]), true) := addL (by simp at hlen ⊢; omega)
  simp [hadd3]
  generalize cutL se (some (-3)) none ++ [told, d] = se' at hse' hlen
  have hrg2 : rngG (.int 0) (.int (8 + (se'.length : Int))) = some ((List.range (8 + se'.length)).map fun (k : Nat) => D.int (k : Int)) := by
    have e1 : (8 : Int) + (se'.length : Int) = ((8 + se'.length : Nat) : Int) := by omega
    rw [e1]; exact rng_len _ (by omega)
  refine ws_forG ?_
  simp [hrg2]
  refine loop2_ok H1_ok hJ hA hS hO (iS := 1) (iE := 2) (iK := 9) (iQ := 10) (iT := 7) (i0 := 5) (i1 := 6) (M := 8) hd hf (by decide) (by decide) (by decide) (by decide) (by decide) (by decide) (by decide) rfl (by rw [htold]; rfl) rfl rfl hse'.2 ⟨st5, sK, sQ, hs5, qK, qQ, rng_mem, rfl, fun j _ _ _ => rfl, rfl, rfl, rfl⟩ fun st' sk sq w1 w2 w3 => ?_
  have := hQ st' se' (.fro told) (.fro d) sk sq w1 hse' (NF.fro _) (NF.fro _) w2 w3
  simpa using this
/-- half 2 of a turn -/
theorem half2_ok {g : Nat → FSem} (hF : HF2 H2 (g 4)) (hJ : HJ2 H2 (g 5)) (hA : HA2 H2 (g 20)) (hS : SameOk (g 7)) (hO : OddOk 10 (g 13)) {s0 s2 s4 s6 s12 s13 sT sN sK sQ : Sl} {st : D} {se : List D} {n0 : Nat} {rows : List (List Int)} {ks : List Int} (hs : WS st) (hse : Seen n0 600000 1000000000 se) (hn0 : n0 ≤ 900) (hd : H2.dom [tabI rows, tupI ks]) (hf : H2.fit [tabI rows, tupI ks]) (qT : NF sT) (qN : NF sN) (qK : NF sK) (qQ : NF sQ)
    (hN : ∀ st, WS st → wpF (g 21) (.ref st :: [.fro (tabI rows), .fro (tupI ks)]) (NearQ [.fro (tabI rows), .fro (tupI ks)]) (fun _ _ => False))
    (hU : ∀ (st' d : D), WS st' → wpM (orB (notB (tr (eCall (g 22) [false, false] [eVar 5, e2 addG (eVar 11) (eTup [ec (.int 2)])]) truG)) (orB (notB (tr (eCall (g 22) [false, false] [eTup [eTup [ec (.int 1), ec (.int 2), ec (.int 3)]], eTup [ec (.int 0)]]) truG)) (notB (tr (eCall (g 22) [false, false] [eTup [eTup [ec (.int 1)]], eTup [ec (.int 1)]]) truG)))) [s0, .own st', s2, .own (.lst se), s4, .fro (tabI rows), s6, .fro (H2.told [tabI rows, tupI ks]), .fro d, sK, sQ, .fro (tupI ks), s12, s13] (fun t σ1 => t = false ∧ σ1 = [s0, .own st', s2, .own (.lst se), s4, .fro (tabI rows), s6, .fro (H2.told [tabI rows, tupI ks]), .fro d, sK, sQ, .fro (tupI ks), s12, s13]) (fun _ _ => False)) (REST : S) {Q : Fl → Fr → Prop}
    (hQ : ∀ (st' : D) (se' : List D) (tT tN tK tQ : Sl), WS st' → Seen (n0 + 2) 600000 1000000000 se' → NF tT → NF tN → NF tK → NF tQ → wpS REST [s0, .own st', s2, .own (.lst se'), s4, .fro (tabI rows), s6, tT, tN, tK, tQ, .fro (tupI ks), s12, s13] Q) :
    wpS (sSeq (sSet 7 (eCall (g 4) [false, false] [eVar 5, eVar 11]))
    (sSeq (sSet 8 (eCall (g 21) [true, false, false] [eVar 1, eVar 5, eVar 11]))
    (sSeq (sIf (orB (notB (tr (eCall (g 20) [false, false, false] [eVar 5, eVar 11, eVar 7]) truG)) (cmp2 (notG isG) (eCall (g 5) [false, false, false] [eVar 5, eVar 11, eVar 7]) (ec (.bl true)))) (sSeq (sRet (ec (.bl false)))
    (sNx)) (sNx))
    (sSeq (sIf (orB (notB (tr (eCall (g 22) [false, false] [eVar 5, e2 addG (eVar 11) (eTup [ec (.int 2)])]) truG)) (orB (notB (tr (eCall (g 22) [false, false] [eTup [eTup [ec (.int 1), ec (.int 2), ec (.int 3)]], eTup [ec (.int 0)]]) truG)) (notB (tr (eCall (g 22) [false, false] [eTup [eTup [ec (.int 1)]], eTup [ec (.int 1)]]) truG)))) (sSeq (sRet (ec (.bl false)))
    (sNx)) (sNx))
    (sSeq (sSet 3 (e2 addG (eSl (eVar 3) (oSome (e1 negG (ec (.int 3)))) (oNone)) (eLst [eVar 7, eVar 8])))
    (sSeq (sFor (srcR1 (e2 addG (ec (.int 8)) (eN (un1 lenG) [eVar 3]))) (gN 9) (sSeq (sSet 10 (eIf (cmp2 ltG (eVar 9) (ec (.int 8))) (eCall (g 13) [true, false] [eVar 1, eVar 7]) (e2 ixG (eVar 3) (e2 subG (eVar 9) (ec (.int 8))))))
    (sSeq (sIf (notB (tr (eCall (g 7) [false, false] [eCall (g 5) [false, false, false] [eVar 5, eVar 11, eVar 10], eCall (g 20) [false, false, false] [eVar 5, eVar 11, eVar 10]]) truG)) (sSeq (sRet (ec (.bl false)))
    (sNx)) (sNx))
    (sNx))))
    REST)))))) [s0, .own st, s2, .own (.lst se), s4, .fro (tabI rows), s6, sT, sN, sK, sQ, .fro (tupI ks), s12, s13] Q := by
  generalize hUm : (orB (notB (tr (eCall (g 22) [false, false] [eVar 5, e2 addG (eVar 11) (eTup [ec (.int 2)])]) truG)) (orB (notB (tr (eCall (g 22) [false, false] [eTup [eTup [ec (.int 1), ec (.int 2), ec (.int 3)]], eTup [ec (.int 0)]]) truG)) (notB (tr (eCall (g 22) [false, false] [eTup [eTup [ec (.int 1)]], eTup [ec (.int 1)]]) truG)))) = Um at hU ⊢
  simp
  refine wpF_mono (hF (tabI rows) (tupI ks) hd) (fun d o fs ⟨_, e1, e2, e3⟩ => ?_) fun c fs ⟨h1, _⟩ => (h1 hf).elim
  subst e1 e2 e3
  simp [putV_nf qT]
  refine wpF_mono (hN st hs) (fun d o fs ⟨st5, hs5, e1, e2, hnear⟩ => ?_) fun _ _ h => h.elim
  subst e1 e2
  simp [putV_nf qN]
  have hask : AskA (H2.told [tabI rows, tupI ks]) := ToldG.ask (H2_ok.told _ hd hf).1
  have hself := H2_ok.self _ hd hf
  refine wpF_mono (hA (tabI rows) (tupI ks) _ hd hf hask) (fun d o fs ⟨e1, e2, e3⟩ => ?_) fun _ _ h => h.elim
  subst e1 e2 e3
  simp [hself]
  refine wpF_mono (hJ (tabI rows) (tupI ks) _ hd hask) (fun d o fs ⟨_, e1, e2, e3⟩ => ?_) fun c fs ⟨h1, _⟩ => (h1 hf).elim
  subst e1 e2 e3
  have ist : ∀ b : Bool, isG (.bl b) (.bl true) = some (decide (b = true)) := fun b => rfl
  simp [hself, ist, notG]
  refine wpM_mono (hU st5 d hs5) (fun t σ1 ⟨e1, e2⟩ => ?_) fun _ _ h => h.elim
  subst e1 e2
  have hse' := Seen.add (lo := some (-3)) (hi := none) hse hask hnear
  have hlen := hse'.1
  generalize htold : H2.told [tabI rows, tupI ks] = told at hse' hlen
  have hadd3 : addG (.lst (cutL se (some (-3)) none)) (.lst [told, d]) = some (.lst (cutL se (some (-3)) none ++ [told, d]), true) := addL (by simp at hlen ⊢; omega)
  simp [hadd3]
  generalize cutL se (some (-3)) none ++ [told, d] = se' at hse' hlen
  have hrg2 : rngG (.int 0) (.int (8 + (se'.length : Int))) = some ((List.range (8 + se'.length)).map fun (k : Nat) => D.int (k : Int)) := by
    have e1 : (8 : Int) + (se'.length : Int) = ((8 + se'.length : Nat) : Int) := by omega
    rw [e1]; exact rng_len _ (by omega)
  refine ws_forG ?_
  simp [hrg2]
  refine loop2_ok H2_ok hJ hA hS hO (iS := 1) (iE := 3) (iK := 9) (iQ := 10) (iT := 7) (i0 := 5) (i1 := 11) (M := 8) hd hf (by decide) (by decide) (by decide) (by decide) (by decide) (by decide) (by decide) rfl (by rw [htold]; rfl) rfl rfl hse'.2 ⟨st5, sK, sQ, hs5, qK, qQ, rng_mem, rfl, fun j _ _ _ => rfl, rfl, rfl, rfl⟩ fun st' sk sq w1 w2 w3 => ?_
  have := hQ st' se' (.fro told) (.fro d) sk sq w1 hse' (NF.fro _) (NF.fro _) w2 w3
  simpa using this
end K67

set_option Elab.async false
set_option linter.all false
set_option maxRecDepth 100000
set_option maxHeartbeats 4000000
namespace K67
open PySem Ev
/-- what law's frame is drawn from -/
def Sm (rows : List (List Int)) : Prop := Nst 20 100 rows ∧ fitT rows (-1000) 1000
structure Ok (g : Nat → FSem) : Prop where
  nx : NextOk (g 6)
  same : SameOk (g 7)
  odd : OddOk 10 (g 13)
  f1 : HF2 H1 (g 2)
  j1 : HJ2 H1 (g 3)
  a1 : HA2 H1 (g 17)
  n1 : ∀ (rows : List (List Int)) (n : Int), Nst 20 100 rows → ∀ st, WS st → wpF (g 18) (.ref st :: [.fro (tabI rows), .fro (.int n)]) (NearQ [.fro (tabI rows), .fro (.int n)]) (fun _ _ => False)
  u1 : ∀ (rows : List (List Int)) (n : Int), TabOk rows → ¬ fit1 rows n → ex1 rows = "UnfitGrid" → wpF (g 19) [.fro (tabI rows), .fro (.int n)] (fun d o fs => d = .bl true ∧ o = false ∧ fs = [.fro (tabI rows), .fro (.int n)]) (fun _ _ => False)
  f2 : HF2 H2 (g 4)
  j2 : HJ2 H2 (g 5)
  a2 : HA2 H2 (g 20)
  n2 : ∀ (rows : List (List Int)) (ks : List Int), Nst 20 100 rows → ks.length ≤ 50 → (∀ k ∈ ks, k.natAbs ≤ 100) → ∀ st, WS st → wpF (g 21) (.ref st :: [.fro (tabI rows), .fro (tupI ks)]) (NearQ [.fro (tabI rows), .fro (tupI ks)]) (fun _ _ => False)
  u2 : ∀ (rows : List (List Int)) (ks : List Int), TabOk rows → ks.length ≤ 60 → ¬ fit2 rows ks → ex1 rows = "UnfitGrid" → wpF (g 22) [.fro (tabI rows), .fro (tupI ks)] (fun d o fs => d = .bl true ∧ o = false ∧ fs = [.fro (tabI rows), .fro (tupI ks)]) (fun _ _ => False)
  dr : ∀ (lo hi : Nat) (least most : Int) (st : D), 1 ≤ lo → lo ≤ hi → hi ≤ 50 → least ≤ most → most - least ≤ 900000 → WS st → wpF (g 14) [.ref st, .fro (.int lo), .fro (.int hi), .fro (.int least), .fro (.int most)] (Drawn lo hi least most [.fro (.int lo), .fro (.int hi), .fro (.int least), .fro (.int most)]) (fun _ _ => False)
theorem dom1 {rows : List (List Int)} {n : Int} (h : TabOk rows) : H1.dom [tabI rows, .int n] := ⟨rows, n, rfl, h⟩
theorem dom2 {rows : List (List Int)} {ks : List Int} (h : TabOk rows) (hl : ks.length ≤ 60) : H2.dom [tabI rows, tupI ks] := ⟨rows, ks, rfl, h, hl⟩
theorem G_Ok (k : Nat) (hk : 30 ≤ k) : Ok (G k) := by
  have nxo : ∀ j, NextOk (G (j + 1) 6) := fun j => next_NextOk
  have told : ∀ j, ToldOk (G (j + 1) 0) := fun j W J v hv w hw c hc => told_ok v hv w hw c hc
  have ck : ∀ j, CheckOk (G (j + 1) 1) := fun j rows low high h0 hl hr => check_table_ok rows low high h0 hl hr
  have lco : ∀ j, ColsOk (G (j + 1) 15) := fun j rows h w hr hh hw => columns_ok hr hh hw
  have sm : ∀ j, SameOk (G (j + 11) 7) := fun j => same_SameOk (f := fun k => G k 7) (fun k => rfl) (k := j + 10) (by omega)
  have nn : ∀ j, NnOk 2 (G (j + 4) 16) := fun j => nn_fam (f := fun k => G k 16) (nx := fun k => G k 6) (fun k => rfl) (fun k => nxo k) 2 (j + 2) (by omega) (by omega)
  have nb : ∀ j, NbOk 1 (G (j + 4) 16) := fun j => nb_fam (f := fun k => G k 16) (nx := fun k => G k 6) (fun k => rfl) (fun k => nxo k) 1 (j + 2) (by omega) (by omega)
  have f1 : ∀ j, HF2 H1 (G (j + 2) 2) := fun j => F1 (g := G (j + 1)) (ck j)
  have f2 : ∀ j, HF2 H2 (G (j + 2) 4) := fun j => F2 (g := G (j + 1)) (ck j)
  have j1 : ∀ j, HJ2 H1 (G (j + 3) 3) := fun j => judge2_ok H1_ok (F := G (j + 2) 2) (it := G (j + 2) 0) (f1 j) (told (j + 1)) (w := wRows) (c := 2) (by simp [wRows]) (fun aa bb ⟨rows, n, e, ht⟩ hf => by
    cases e
    refine ⟨_, [], by simp [H1, nOf]; rfl, ?_, rfl⟩
    have := itB_tabI (itT (n % 4).toNat (base rows n))
    unfold tabI at this
    simp only [itL, this]; rfl) (by omega) (fun aa bb v _ _ => Iff.rfl)
  have j2 : ∀ j, HJ2 H2 (G (j + 3) 5) := fun j => judge2_ok H2_ok (F := G (j + 2) 4) (it := G (j + 2) 0) (f2 j) (told (j + 1)) (w := wRows) (c := 2) (by simp [wRows]) (fun aa bb ⟨rows, ks, e, ht, hl⟩ hf => by
    cases e
    refine ⟨_, [], by simp [H2]; rfl, ?_, rfl⟩
    have := itB_tabI ((folds ks rows).getD [])
    unfold tabI at this
    simp only [itL, this]; rfl) (by omega) (fun aa bb v _ _ => Iff.rfl)
  obtain ⟨k, rfl⟩ : ∃ j, k = j + 30 := ⟨k - 30, by omega⟩
  refine ⟨nxo _, sm _, ?_, f1 _, j1 _, ?_, ?_, ?_, f2 _, j2 _, ?_, ?_, ?_, ?_⟩
  · exact odd_fam (nx := fun k => G k 6) (ch := fun k => G k 8) (ii := fun k => G k 9) (ex := fun k => G k 10) (cu := fun k => G k 11) (tu := fun k => G k 12) (od := fun k => G k 13) (fun _ => rfl) (fun _ => rfl) (fun _ => rfl) (fun _ => rfl) (fun _ => rfl) (fun _ => rfl) (fun _ => rfl) 10 (k + 30) (by omega) (by omega)
  · exact A1 (sm (k + 18)) (lco (k + 28))
  · refine fun rows n hn st hs => near2_ok H1_ok tk (nxo (k + 28)) (f1 (k + 27)) (tabI rows) (.int n) (fun st hs => ?_) (fun st hs => ?_) st hs
    · refine wpF_mono (nb_tab 2 _ (by omega) (nn (k + 25)) hn st hs) (fun d o fs ⟨st', h1, h2, h3, r, e, h4⟩ => ⟨st', h1, h2, h3, r, n, by rw [e], h4⟩) fun _ _ h => h
    · refine wpF_mono (nb_int 2 _ (nn (k + 25)) st hs) (fun d o fs ⟨st', h1, h2, h3, m, e, h4⟩ => ⟨st', h1, h2, h3, rows, m, by rw [e], hn.tab⟩) fun _ _ h => h
  · exact fun rows n ht hf he => unfit2_ok tk (f1 (k + 27)) (j1 (k + 26)) (tabI rows) (.int n) (dom1 ht) (by simpa [H1, nOf] using hf) (by simpa [H1] using he)
  · exact A2 (sm (k + 18))
  · refine fun rows ks hn hl hb st hs => near2_ok H2_ok tk (nxo (k + 28)) (f2 (k + 27)) (tabI rows) (tupI ks) (fun st hs => ?_) (fun st hs => ?_) st hs
    · refine wpF_mono (nb_tab 2 _ (by omega) (nn (k + 25)) hn st hs) (fun d o fs ⟨st', h1, h2, h3, r, e, h4⟩ => ⟨st', h1, h2, h3, r, ks, by rw [e], h4, by omega⟩) fun _ _ h => h
    · refine wpF_mono (nb_row 1 _ (by omega) (nb (k + 25)) (L := 50) (J := 100) (by omega) hl hb st hs) (fun d o fs ⟨st', h1, h2, h3, m, e, h4, h5⟩ => ⟨st', h1, h2, h3, rows, m, by rw [e], hn.tab, by omega⟩) fun _ _ h => h
  · exact fun rows ks ht hl hf he => unfit2_ok tk (f2 (k + 27)) (j2 (k + 26)) (tabI rows) (tupI ks) (dom2 ht hl) (by simpa [H2] using hf) (by simpa [H2] using he)
  · exact fun lo hi least most st h1 h2 h3 h4 h5 hs => drawn_ok _ (nxo (k + 28)) lo hi least most h1 h2 h3 h4 h5 st hs
theorem u1_ok {g : Nat → FSem} (h : Ok g) {rows : List (List Int)} (hsm : Sm rows) (n : Int) {s0 s1 s2 s3 s4 s7 s8 s9 s10 s11 s12 s13 : Sl} : wpM (orB (notB (tr (eCall (g 19) [false, false] [eVar 5, ec (.int 8)]) truG)) (notB (tr (eCall (g 19) [false, false] [e2 addG (eVar 5) (eTup [e2 mulG (eTup [ec (.int 0)]) (e2 addG (eN (un1 lenG) [e2 ixG (eVar 5) (ec (.int 0))]) (ec (.int 1)))]), eVar 6]) truG))) [s0, s1, s2, s3, s4, .fro (tabI rows), .fro (.int n), s7, s8, s9, s10, s11, s12, s13] (fun t σ1 => t = false ∧ σ1 = [s0, s1, s2, s3, s4, .fro (tabI rows), .fro (.int n), s7, s8, s9, s10, s11, s12, s13]) (fun _ _ => False) := by
  obtain ⟨l1, l2⟩ := longer_D hsm.1 hsm.2
  obtain ⟨z1, z2⟩ := longer_0 hsm.1 hsm.2
  obtain ⟨u1, u2, u3⟩ := longer_ok hsm.1 hsm.2
  simp
  refine wpF_mono (h.u1 rows 8 hsm.1.tab (fun h => by have := h.2.2; omega) (by simp [ex1, hsm.2])) (fun d o fs ⟨e1, e2, e3⟩ => ?_) fun _ _ h => h.elim
  subst e1 e2 e3
  simp [z1, z2, l1, l2]
  refine wpF_mono (h.u1 (longer rows) n u1 (fun h => u2 h.1) (by simp [ex1, u2, u3])) (fun d o fs ⟨e1, e2, e3⟩ => ?_) fun _ _ h => h.elim
  subst e1 e2 e3
  simp
theorem bad1 : TabOk [[1, 2, 3]] ∧ ¬ fit2 [[1, 2, 3]] [0] ∧ ex1 [[1, 2, 3]] = "UnfitGrid" := by
  have hf : fitT [[1, 2, 3]] (-1000) 1000 := ⟨⟨by decide, by decide⟩, by unfold rngT; decide, by decide⟩
  refine ⟨⟨by simp, by simp, by simp⟩, fun h => by have := h.2.2; revert this; decide, by simp [ex1, hf]⟩
theorem bad2 : TabOk [[1]] ∧ ¬ fit2 [[1]] [1] ∧ ex1 [[1]] = "UnfitGrid" := by
  have hf : fitT [[1]] (-1000) 1000 := ⟨⟨by decide, by decide⟩, by unfold rngT; decide, by decide⟩
  refine ⟨⟨by simp, by simp, by simp⟩, fun h => by have := h.2.2; revert this; decide, by simp [ex1, hf]⟩
theorem add_row {ks : List Int} (hl : ks.length ≤ 60) (k : Int) : addG (tupI ks) (.tup [.int k]) = some (tupI (ks ++ [k]), false) := by
  unfold tupI
  rw [addT (by simp; omega)]
  rw [List.map_append]; rfl
theorem u2_ok {g : Nat → FSem} (h : Ok g) {rows : List (List Int)} (hsm : Sm rows) {ks : List Int} (hl : ks.length ≤ 4) {s0 s1 s2 s3 s4 s6 s7 s8 s9 s10 s12 s13 : Sl} : wpM (orB (notB (tr (eCall (g 22) [false, false] [eVar 5, e2 addG (eVar 11) (eTup [ec (.int 2)])]) truG)) (orB (notB (tr (eCall (g 22) [false, false] [eTup [eTup [ec (.int 1), ec (.int 2), ec (.int 3)]], eTup [ec (.int 0)]]) truG)) (notB (tr (eCall (g 22) [false, false] [eTup [eTup [ec (.int 1)]], eTup [ec (.int 1)]]) truG)))) [s0, s1, s2, s3, s4, .fro (tabI rows), s6, s7, s8, s9, s10, .fro (tupI ks), s12, s13] (fun t σ1 => t = false ∧ σ1 = [s0, s1, s2, s3, s4, .fro (tabI rows), s6, s7, s8, s9, s10, .fro (tupI ks), s12, s13]) (fun _ _ => False) := by
  simp [add_row (ks := ks) (by omega)]
  refine wpF_mono (h.u2 rows (ks ++ [2]) hsm.1.tab (by simp; omega) (fun h => by have := h.2.1 2 (by simp); omega) (by simp [ex1, hsm.2])) (fun d o fs ⟨e1, e2, e3⟩ => ?_) fun _ _ h => h.elim
  subst e1 e2 e3
  simp
  refine wpF_mono (h.u2 [[1, 2, 3]] [0] bad1.1 (by simp) bad1.2.1 bad1.2.2) (fun d o fs ⟨e1, e2, e3⟩ => ?_) fun _ _ h => h.elim
  subst e1 e2 e3
  simp
  refine wpF_mono (h.u2 [[1]] [1] bad2.1 (by simp) bad2.2.1 bad2.2.2) (fun d o fs ⟨e1, e2, e3⟩ => ?_) fun _ _ h => h.elim
  subst e1 e2 e3
  simp
/-! ### the folds that are drawn -/
def KsI (a e2 e3 : Sl) (rows : List (List Int)) (s6 s7 s8 s9 s10 : Sl) (dn : List Nat) (σ : Fr) : Prop := ∃ (st : D) (ks : List Int) (h w : Nat) (now : List (List Int)) (s4 : Sl), WS st ∧ NF s4 ∧ ks.length ≤ dn.length ∧ (∀ k ∈ ks, k = 0 ∨ k = 1) ∧ folds ks rows = some now ∧ Rect now h w ∧ h ≤ 64 ∧ w ≤ 64 ∧ σ = [a, .own st, e2, e3, s4, .fro (tabI rows), s6, s7, s8, s9, s10, .fro (tupI ks), .fro (.int h), .fro (.int w)]
theorem kinds_body {g : Nat → FSem} (hx : NextOk (g 6)) {a e2 e3 s4 s5 s6 s7 s8 s9 s10 : Sl} {st : D} (hs : WS st) {ks : List Int} (hl : ks.length ≤ 50) {h w : Nat} (hh : h ≤ 64) (hw : w ≤ 64) {Q : Fl → Fr → Prop}
    (q0 : ∀ st2, WS st2 → w % 2 = 0 → Q .nx [a, .own st2, e2, e3, s4, s5, s6, s7, s8, s9, s10, .fro (tupI (ks ++ [0])), .fro (.int h), .fro (.int (w / 2 : Nat))])
    (q1 : ∀ st2, WS st2 → h % 2 = 0 → Q .nx [a, .own st2, e2, e3, s4, s5, s6, s7, s8, s9, s10, .fro (tupI (ks ++ [1])), .fro (.int (h / 2 : Nat)), .fro (.int w)])
    (q2 : ∀ st2, WS st2 → Q .nx [a, .own st2, e2, e3, s4, s5, s6, s7, s8, s9, s10, .fro (tupI ks), .fro (.int h), .fro (.int w)]) :
    wpS (sSeq (sIf (andB (cmp2 eqG (eCall (g 6) [true, false] [eVar 1, ec (.int 2)]) (ec (.int 0))) (cmp2 eqG (Ev.e2 modG (eVar 13) (ec (.int 2))) (ec (.int 0)))) (sSeq (sPar 11 13 [Ev.e2 addG (eVar 11) (eTup [ec (.int 0)]), Ev.e2 divG (eVar 13) (ec (.int 2))])
    (sNx)) (sSeq (sIf (cmp2 eqG (Ev.e2 modG (eVar 12) (ec (.int 2))) (ec (.int 0))) (sSeq (sPar 11 12 [Ev.e2 addG (eVar 11) (eTup [ec (.int 1)]), Ev.e2 divG (eVar 12) (ec (.int 2))])
    (sNx)) (sNx))
    (sNx)))
    (sNx)) [a, .own st, e2, e3, s4, s5, s6, s7, s8, s9, s10, .fro (tupI ks), .fro (.int h), .fro (.int w)] Q := by
  have mi : ∀ n : Nat, modG (.int (n : Int)) (.int 2) = some (.int ((n % 2 : Nat) : Int), false) := fun n => by rw [mod_ii (by omega)]; congr 3
  obtain ⟨mh, hmh, dh⟩ := half_d (w := h) (by omega)
  obtain ⟨mw, hmw, dw⟩ := half_d (w := w) (by omega)
  rw [hmh] at q1
  rw [hmw] at q0
  have m1 := mi h
  have m2 := mi w
  generalize hph : h % 2 = ph at m1 q1
  generalize hpw : w % 2 = pw at m2 q0
  simp
  refine hx.run (lim := 2) hs (by omega) (by omega) fun v st2 h1 h2 hs2 => ?_
  simp
  by_cases hv : v = 0
  · simp [hv, m2]
    by_cases e : pw = 0
    · simp [e, add_row (ks := ks) (by omega), dw]
      exact q0 st2 hs2 e
    · simp [e, m1]
      by_cases e1 : ph = 0
      · simp [e1, add_row (ks := ks) (by omega), dh]
        exact q1 st2 hs2 e1
      · simp [e1]
        exact q2 st2 hs2
  · simp [hv, m1]
    by_cases e1 : ph = 0
    · simp [e1, add_row (ks := ks) (by omega), dh]
      exact q1 st2 hs2 e1
    · simp [e1]
      exact q2 st2 hs2
theorem kinds_loop {g : Nat → FSem} (hx : NextOk (g 6)) {rows : List (List Int)} (hsm : Sm rows) {a e2 e3 s4 s6 s7 s8 s9 s10 : Sl} (q4 : NF s4) {st : D} (hs : WS st) {Q : Fl → Fr → Prop}
    (hQ : ∀ (st : D) (ks : List Int) (h w : Int) (s4 : Sl), WS st → NF s4 → ks.length ≤ 4 → fit2 rows ks → Q .nx [a, .own st, e2, e3, s4, .fro (tabI rows), s6, s7, s8, s9, s10, .fro (tupI ks), .fro (.int h), .fro (.int w)]) :
    wpS (sFor (srcR1 (ec (.int 4))) (gN 4) (sSeq (sIf (andB (cmp2 eqG (eCall (g 6) [true, false] [eVar 1, ec (.int 2)]) (ec (.int 0))) (cmp2 eqG (Ev.e2 modG (eVar 13) (ec (.int 2))) (ec (.int 0)))) (sSeq (sPar 11 13 [Ev.e2 addG (eVar 11) (eTup [ec (.int 0)]), Ev.e2 divG (eVar 13) (ec (.int 2))])
    (sNx)) (sSeq (sIf (cmp2 eqG (Ev.e2 modG (eVar 12) (ec (.int 2))) (ec (.int 0))) (sSeq (sPar 11 12 [Ev.e2 addG (eVar 11) (eTup [ec (.int 1)]), Ev.e2 divG (eVar 12) (ec (.int 2))])
    (sNx)) (sNx))
    (sNx)))
    (sNx))) [a, .own st, e2, e3, s4, .fro (tabI rows), s6, s7, s8, s9, s10, .fro (tupI []), .fro (.int rows.length), .fro (.int (wid rows))] Q := by
  have ht := hsm.1.tab
  obtain ⟨hh1, hh2⟩ := hsm.2.small ht.ne
  refine ws_forG ?_
  have r4 : rngG (.int 0) (.int 4) = some ((List.range 4).map fun (k : Nat) => D.int (k : Int)) := rng_len 4 (by omega)
  simp
  simp only [r4, wpO_some, true_and]
  refine ws_forA (fun (k : Nat) => D.int (k : Int)) (KsI a e2 e3 rows s6 s7 s8 s9 s10) ⟨st, [], _, _, rows, s4, hs, q4, by simp, by simp, rfl, hsm.2.rect ht.ne, hh1, hh2, rfl⟩ (fun dn x rest σ hl ⟨st, ks, h, w, now, t4, hs, w4, hkl, hk, hf, hr, b1, b2, e⟩ => ⟨okW_nil _, ?_⟩) fun σ ⟨st, ks, h, w, now, t4, hs, w4, hkl, hk, hf, hr, b1, b2, e⟩ => ⟨okW_nil _, ?_⟩
  · subst e
    have hdn : dn.length < 4 := by
      have := congrArg List.length hl
      simp at this
      omega
    have hw' : wid now = w := hr.row0.2
    refine wp_gN_nf w4 rfl ?_
    obtain ⟨_, _, hr3, _, _, hb3⟩ := folds_q (fq_of ht hsm.2) hf
    refine kinds_body hx hs (by omega) b1 b2 (fun st2 hs2 he => ?_) (fun st2 hs2 he => ?_) fun st2 hs2 => ?_
    · have e1 := hr3.1.symm.trans hr.1
      have e2' := hr3.row0.2.symm.trans hw'
      subst e1 e2'
      refine ⟨st2, ks ++ [0], _, _, foldC now, _, hs2, NF.fro _, by simp; omega, fun k hm => ?_, ?_, (foldC_q hr3 b1 b2 he hb3).1, b1, by omega, rfl⟩
      · rcases List.mem_append.mp hm with hm | hm
        · exact hk k hm
        · exact .inl (List.mem_singleton.mp hm)
      · rw [folds_app, hf]
        show (foldK 0 now).bind (folds []) = _
        unfold foldK; rw [hw']; simp [he]; rfl
    · have e1 := hr3.1.symm.trans hr.1
      have e2' := hr3.row0.2.symm.trans hw'
      subst e1 e2'
      refine ⟨st2, ks ++ [1], _, _, foldR now, _, hs2, NF.fro _, by simp; omega, fun k hm => ?_, ?_, (foldR_q hr3 b1 b2 he hb3).1, by omega, b2, rfl⟩
      · rcases List.mem_append.mp hm with hm | hm
        · exact hk k hm
        · exact .inr (List.mem_singleton.mp hm)
      · rw [folds_app, hf]
        show (foldK 1 now).bind (folds []) = _
        unfold foldK; rw [hr.1]; simp [he]; rfl
    · exact ⟨st2, ks, h, w, now, _, hs2, NF.fro _, by simp; omega, hk, hf, hr, b1, b2, rfl⟩
  · subst e
    refine hQ _ _ _ _ _ hs w4 ?_ ⟨hsm.2, hk, by rw [hf]; rfl⟩
    simpa using hkl
def LW (a : Sl) (dn : List Nat) (σ : Fr) : Prop :=
  ∃ (st : D) (se se2 : List D) (s4 s5 s6 s7 s8 s9 s10 s11 s12 s13 : Sl), WS st ∧ Seen (2 * dn.length) 600000 1000000000 se ∧ Seen (2 * dn.length) 600000 1000000000 se2 ∧ NF s4 ∧ NF s5 ∧ NF s6 ∧ NF s7 ∧ NF s8 ∧ NF s9 ∧ NF s10 ∧ NF s11 ∧ NF s12 ∧ NF s13 ∧ σ = [a, .own st, .own (.lst se), .own (.lst se2), s4, s5, s6, s7, s8, s9, s10, s11, s12, s13]
theorem law_ok {g : Nat → FSem} (h : Ok g) (ns : List Int) (hns : ns.length ≤ 63) : wpF (mkF 14 (b23 g)) [.fro (.lst (ns.map .int))] (fun d o fs => d = .bl true ∧ o = false) (fun _ _ => False) := by
  rw [wf_mk]
  rw [show frame 14 [.fro (.lst (ns.map .int))] = [.fro (.lst (ns.map .int)), .no, .no, .no, .no, .no, .no, .no, .no, .no, .no, .no, .no, .no] from rfl]
  unfold b23
  simp [lstG]
  refine ws_forG ?_
  simp
  have r3 : rngG (.int 0) (.int 3) = some ((List.range 3).map fun (k : Nat) => D.int (k : Int)) := rng_len 3 (by omega)
  simp only [r3, wpO_some, true_and]
  have hw0 : WS (.lst [.lst (ns.map .int), .int 0, .int 0, .int 1]) := ⟨ns, 0, 0, 1, rfl, by omega, by omega⟩
  have hse0 : Seen (2 * ([] : List Nat).length) 600000 1000000000 [] := ⟨by simp, by simp⟩
  refine ws_forA (fun (k : Nat) => D.int (k : Int)) (LW (.fro (.lst (ns.map .int)))) ⟨_, [], [], .no, .no, .no, .no, .no, .no, .no, .no, .no, .no, hw0, hse0, hse0, NF.no, NF.no, NF.no, NF.no, NF.no, NF.no, NF.no, NF.no, NF.no, NF.no, rfl⟩ (fun dn x rest σ hl ⟨st, se, se2, s4, s5, s6, s7, s8, s9, s10, s11, s12, s13, q1, q2, q3, q4, q5, q6, q7, q8, q9, q10, q11, q12, q13, e⟩ => ⟨okW_nil _, ?_⟩) fun σ ⟨st, se, se2, s4, s5, s6, s7, s8, s9, s10, s11, s12, s13, q1, q2, q3, q4, q5, q6, q7, q8, q9, q10, q11, q12, q13, e⟩ => ⟨okW_nil _, ?_⟩
  · subst e
    have hdn : dn.length ≤ 3 := by
      have := congrArg List.length hl
      simp at this
      omega
    refine wp_gN_nf q4 rfl ?_
    refine ws_seq.mpr (wpS_mono (Q := fun fl σ2 => fl = .nx ∧ ∃ st1 rows, WS st1 ∧ Sm rows ∧ σ2 = [.fro (.lst (ns.map .int)), .own st1, .own (.lst se), .own (.lst se2), .fro (.int x), .fro (tabI rows), s6, s7, s8, s9, s10, s11, s12, s13]) ?_ ?_)
    · have dr := h.dr 1 4 (-3) 9 st (by omega) (by omega) (by omega) (by omega) (by omega) q1
      simp
      refine wpF_mono dr (fun d o fs ⟨st1, rows, hh, ww, hs1, e1, e2, e3, hr, b1, b2, b3, b4, b5⟩ => ?_) fun _ _ h => h.elim
      subst e1 e2 e3
      simp [putV_nf q5]
      exact ⟨st1, hs1, rows, drawn_small hr b2 b4 b5 (by omega) (by omega) (by omega) (by omega), rfl, rfl⟩
    · rintro fl σ2 ⟨rfl, st1, rows, hs1, hsm, rfl⟩
      have ht := hsm.1.tab
      refine nxt_nx.mpr ?_
      refine ws_seq.mpr (wpS_mono (Q := fun fl σ2 => fl = .nx ∧ ∃ (st2 : D) (n : Int), WS st2 ∧ (0 ≤ n ∧ n < 8) ∧ σ2 = [.fro (.lst (ns.map .int)), .own st2, .own (.lst se), .own (.lst se2), .fro (.int x), .fro (tabI rows), .fro (.int n), s7, s8, s9, s10, s11, s12, s13]) ?_ ?_)
      · simp
        refine h.nx.run (lim := 8) hs1 (by omega) (by omega) fun v st2 h1 h2 hs2 => ?_
        simp [putV_nf q6]
        exact ⟨hs2, h1, h2⟩
      · rintro fl σ2 ⟨rfl, st2, n, hs2, hn, rfl⟩
        refine nxt_nx.mpr ?_
        have hf1 : fit1 rows n := ⟨hsm.2, hn.1, hn.2⟩
        refine half1_ok (rows := rows) (n := n) h.f1 h.j1 h.a1 h.same h.odd hs2 q2 (by omega) (dom1 ht) (by simpa [H1, nOf] using hf1) q7 q8 q9 q10 (h.n1 rows n hsm.1) (fun st' d hs' => u1_ok h hsm n) _ fun st' se' t7 t8 t9 t10 w1 w2 w3 w4 w5 w6 => ?_
        refine ws_seq.mpr (wpS_mono (Q := fun fl σ2 => fl = .nx ∧ σ2 = [.fro (.lst (ns.map .int)), .own st', .own (.lst se'), .own (.lst se2), .fro (.int x), .fro (tabI rows), .fro (.int n), t7, t8, t9, t10, .fro (tupI []), s12, s13]) ?_ ?_)
        · simp [putV_nf q11]
          rfl
        · rintro fl σ2 ⟨rfl, rfl⟩
          refine nxt_nx.mpr ?_
          refine ws_seq.mpr (wpS_mono (Q := fun fl σ2 => fl = .nx ∧ σ2 = [.fro (.lst (ns.map .int)), .own st', .own (.lst se'), .own (.lst se2), .fro (.int x), .fro (tabI rows), .fro (.int n), t7, t8, t9, t10, .fro (tupI []), .fro (.int rows.length), .fro (.int (wid rows))]) ?_ ?_)
          · obtain ⟨z1, z2⟩ := longer_0 hsm.1 hsm.2
            simp [z1, z2, wpT_nf q12, wpT_nf q13]
          · rintro fl σ2 ⟨rfl, rfl⟩
            refine nxt_nx.mpr ?_
            refine ws_seq.mpr (kinds_loop h.nx hsm (NF.fro _) w1 fun st5 ks hh ww t4 hs5 n4 hkl hf2 => nxt_nx.mpr ?_)
            refine half2_ok (rows := rows) (ks := ks) h.f2 h.j2 h.a2 h.same h.odd hs5 q3 (by omega) (dom2 ht (by omega)) (by simpa [H2] using hf2) w3 w4 w5 w6 (h.n2 rows ks hsm.1 (by omega) fun k hk => by have := hf2.2.1 k hk; omega) (fun st' d hs' => u2_ok h hsm hkl) _ fun st3 se2' t7 t8 t9 t10 v1 v2 v3 v4 v5 v6 => ?_
            simp
            refine ⟨st3, se', se2', _, _, _, _, _, _, _, _, _, _, v1, ⟨?_, w2.2⟩, ⟨?_, v2.2⟩, n4, NF.fro _, NF.fro _, v3, v4, v5, v6, NF.fro _, NF.fro _, NF.fro _, rfl⟩
            · have := w2.1; simp; omega
            · have := v2.1; simp; omega
  · subst e
    simp
theorem pure (ns : List Int) (hns : ns.length ≤ 63) : ∃ fins, G 60 23 [.fro (.lst (ns.map Ev.D.int))] = some (.ok (.bl true, false), fins) := by
  have h := law_ok (G_Ok 59 (by omega)) ns hns
  have e : G 60 23 = mkF 14 (b23 (G 59)) := rfl
  rw [e]
  unfold wpF at h
  split at h
  · rename_i d o fs e2
    obtain ⟨h1, h2⟩ := h
    subst h1 h2
    exact ⟨fs, e2⟩
  · exact h.elim
  · exact h.elim
end K67

set_option Elab.async false
set_option linter.all false
set_option maxRecDepth 100000
set_option maxHeartbeats 0
namespace K67
open PySem PySem.Spec PyProof.Rows L2 Ev
def fa : List He.Fa := [.glo "is_told", .glo "check_table", .glo "turned_table", .glo "judge_turned_table", .glo "folded", .glo "judge_folded", .glo "_law_next", .glo "_law_same", .glo "_law_changed", .glo "_law_ints", .glo "_law_exchanged", .glo "_law_cut", .glo "_law_turned_about", .glo "_law_odd", .glo "_law_drawn_table", .glo "_law_columns", .glo "_law_neighbour", .glo "_law_accepts", .glo "_law_told_near", .glo "_law_unfit", .glo "_law_accepts_too", .glo "_law_told_near_too", .glo "_law_unfit_too", .glo "law", .glo "UnfitGrid", .exc "UnfitGrid", .glo "TooWide", .exc "TooWide", .exm "UnfitGrid" "TooWide" false, .exm "TooWide" "TooWide" true, .exm "UnfitGrid" "UnfitGrid" true, .exm "TooWide" "UnfitGrid" false, .free "len", .free "range", .free "isinstance", .free "tuple", .free "list", .free "int", .free "str", .free "bool", .free "dict", .free "set", .free "sum", .free "min", .free "max", .free "abs", .free "sorted", .free "repr", .free "zip", .free "enumerate", .free "ValueError"]
def dd0 : He.DefD := ⟨("is_told", none), "is_told", "is_told", defArgs (top 5), defBody (top 5), defScope (top 5), [], []⟩
def dd1 : He.DefD := ⟨("check_table", none), "check_table", "check_table", defArgs (top 7), defBody (top 7), defScope (top 7), [], []⟩
def dd2 : He.DefD := ⟨("turned_table", none), "turned_table", "turned_table", defArgs (top 9), defBody (top 9), defScope (top 9), [], []⟩
def dd3 : He.DefD := ⟨("judge_turned_table", none), "judge_turned_table", "judge_turned_table", defArgs (top 10), defBody (top 10), defScope (top 10), [], []⟩
def dd4 : He.DefD := ⟨("folded", none), "folded", "folded", defArgs (top 11), defBody (top 11), defScope (top 11), [], []⟩
def dd5 : He.DefD := ⟨("judge_folded", none), "judge_folded", "judge_folded", defArgs (top 12), defBody (top 12), defScope (top 12), [], []⟩
def dd6 : He.DefD := ⟨("_law_next", none), "_law_next", "_law_next", defArgs (top 14), defBody (top 14), defScope (top 14), [], []⟩
def dd7 : He.DefD := ⟨("_law_same", none), "_law_same", "_law_same", defArgs (top 15), defBody (top 15), defScope (top 15), [], []⟩
def dd8 : He.DefD := ⟨("_law_changed", none), "_law_changed", "_law_changed", defArgs (top 16), defBody (top 16), defScope (top 16), [], []⟩
def dd9 : He.DefD := ⟨("_law_ints", none), "_law_ints", "_law_ints", defArgs (top 17), defBody (top 17), defScope (top 17), [], []⟩
def dd10 : He.DefD := ⟨("_law_exchanged", none), "_law_exchanged", "_law_exchanged", defArgs (top 18), defBody (top 18), defScope (top 18), [], []⟩
def dd11 : He.DefD := ⟨("_law_cut", none), "_law_cut", "_law_cut", defArgs (top 19), defBody (top 19), defScope (top 19), [], []⟩
def dd12 : He.DefD := ⟨("_law_turned_about", none), "_law_turned_about", "_law_turned_about", defArgs (top 20), defBody (top 20), defScope (top 20), [], []⟩
def dd13 : He.DefD := ⟨("_law_odd", none), "_law_odd", "_law_odd", defArgs (top 21), defBody (top 21), defScope (top 21), [], []⟩
def dd14 : He.DefD := ⟨("_law_drawn_table", none), "_law_drawn_table", "_law_drawn_table", defArgs (top 22), defBody (top 22), defScope (top 22), [], []⟩
def dd15 : He.DefD := ⟨("_law_columns", none), "_law_columns", "_law_columns", defArgs (top 23), defBody (top 23), defScope (top 23), [], []⟩
def dd16 : He.DefD := ⟨("_law_neighbour", none), "_law_neighbour", "_law_neighbour", defArgs (top 24), defBody (top 24), defScope (top 24), [], []⟩
def dd17 : He.DefD := ⟨("_law_accepts", none), "_law_accepts", "_law_accepts", defArgs (top 25), defBody (top 25), defScope (top 25), [], []⟩
def dd18 : He.DefD := ⟨("_law_told_near", none), "_law_told_near", "_law_told_near", defArgs (top 26), defBody (top 26), defScope (top 26), [], []⟩
def dd19 : He.DefD := ⟨("_law_unfit", none), "_law_unfit", "_law_unfit", defArgs (top 27), defBody (top 27), defScope (top 27), [], []⟩
def dd20 : He.DefD := ⟨("_law_accepts_too", none), "_law_accepts_too", "_law_accepts_too", defArgs (top 28), defBody (top 28), defScope (top 28), [], []⟩
def dd21 : He.DefD := ⟨("_law_told_near_too", none), "_law_told_near_too", "_law_told_near_too", defArgs (top 29), defBody (top 29), defScope (top 29), [], []⟩
def dd22 : He.DefD := ⟨("_law_unfit_too", none), "_law_unfit_too", "_law_unfit_too", defArgs (top 30), defBody (top 30), defScope (top 30), [], []⟩
def dd23 : He.DefD := ⟨("law", none), "law", "law", defArgs (top 31), defBody (top 31), defScope (top 31), [], []⟩
def fn : List He.DefD := [dd0, dd1, dd2, dd3, dd4, dd5, dd6, dd7, dd8, dd9, dd10, dd11, dd12, dd13, dd14, dd15, dd16, dd17, dd18, dd19, dd20, dd21, dd22, dd23]
def exl : List Str := ["UnfitGrid", "TooWide"]
section
variable {K : PySem.W.Frag} {h : Heap} {mg : Str → Option Value}
theorem facts (X : K.In h) (G : h.Ns mainGlobals mg) (c : SaysX fa fn exl K) : Facts K mg where
  bi := ⟨He.free_ok X G (c.d.fact 32 rfl), He.free_ok X G (c.d.fact 33 rfl), He.free_ok X G (c.d.fact 34 rfl), He.free_ok X G (c.d.fact 35 rfl), He.free_ok X G (c.d.fact 36 rfl), He.free_ok X G (c.d.fact 37 rfl), He.free_ok X G (c.d.fact 38 rfl), He.free_ok X G (c.d.fact 39 rfl), He.free_ok X G (c.d.fact 40 rfl), He.free_ok X G (c.d.fact 41 rfl), He.free_ok X G (c.d.fact 42 rfl), He.free_ok X G (c.d.fact 43 rfl), He.free_ok X G (c.d.fact 44 rfl), He.free_ok X G (c.d.fact 45 rfl), He.free_ok X G (c.d.fact 46 rfl), He.free_ok X G (c.d.fact 47 rfl), He.free_ok X G (c.d.fact 48 rfl), He.free_ok X G (c.d.fact 49 rfl), He.free_ok X G (c.d.fact 50 rfl)⟩
  g_UnfitGrid := He.glo_ok X G (c.d.fact 24 rfl)
  x_UnfitGrid := c.d.fact 25 rfl
  e_UnfitGrid := c.ex "UnfitGrid" (by simp [exl])
  g_TooWide := He.glo_ok X G (c.d.fact 26 rfl)
  x_TooWide := c.d.fact 27 rfl
  e_TooWide := c.ex "TooWide" (by simp [exl])
  m_UnfitGrid_TooWide := He.exm_ok (c.d.fact 28 rfl)
  m_TooWide_TooWide := He.exm_ok (c.d.fact 29 rfl)
  m_UnfitGrid_UnfitGrid := He.exm_ok (c.d.fact 30 rfl)
  m_TooWide_UnfitGrid := He.exm_ok (c.d.fact 31 rfl)
structure FDs (K : PySem.W.Frag) (mg : Str → Option Value) : Prop where
  o0 : ∃ fd, FunD K "is_told" "is_told" (defArgs (top 5)) (defBody (top 5)) (defScope (top 5)) [] [] (He.ga K "is_told") fd
  h0 : mg "is_told" = some (.ref (He.ga K "is_told"))
  o1 : ∃ fd, FunD K "check_table" "check_table" (defArgs (top 7)) (defBody (top 7)) (defScope (top 7)) [] [] (He.ga K "check_table") fd
  h1 : mg "check_table" = some (.ref (He.ga K "check_table"))
  o2 : ∃ fd, FunD K "turned_table" "turned_table" (defArgs (top 9)) (defBody (top 9)) (defScope (top 9)) [] [] (He.ga K "turned_table") fd
  h2 : mg "turned_table" = some (.ref (He.ga K "turned_table"))
  o3 : ∃ fd, FunD K "judge_turned_table" "judge_turned_table" (defArgs (top 10)) (defBody (top 10)) (defScope (top 10)) [] [] (He.ga K "judge_turned_table") fd
  h3 : mg "judge_turned_table" = some (.ref (He.ga K "judge_turned_table"))
  o4 : ∃ fd, FunD K "folded" "folded" (defArgs (top 11)) (defBody (top 11)) (defScope (top 11)) [] [] (He.ga K "folded") fd
  h4 : mg "folded" = some (.ref (He.ga K "folded"))
  o5 : ∃ fd, FunD K "judge_folded" "judge_folded" (defArgs (top 12)) (defBody (top 12)) (defScope (top 12)) [] [] (He.ga K "judge_folded") fd
  h5 : mg "judge_folded" = some (.ref (He.ga K "judge_folded"))
  o6 : ∃ fd, FunD K "_law_next" "_law_next" (defArgs (top 14)) (defBody (top 14)) (defScope (top 14)) [] [] (He.ga K "_law_next") fd
  h6 : mg "_law_next" = some (.ref (He.ga K "_law_next"))
  o7 : ∃ fd, FunD K "_law_same" "_law_same" (defArgs (top 15)) (defBody (top 15)) (defScope (top 15)) [] [] (He.ga K "_law_same") fd
  h7 : mg "_law_same" = some (.ref (He.ga K "_law_same"))
  o8 : ∃ fd, FunD K "_law_changed" "_law_changed" (defArgs (top 16)) (defBody (top 16)) (defScope (top 16)) [] [] (He.ga K "_law_changed") fd
  h8 : mg "_law_changed" = some (.ref (He.ga K "_law_changed"))
  o9 : ∃ fd, FunD K "_law_ints" "_law_ints" (defArgs (top 17)) (defBody (top 17)) (defScope (top 17)) [] [] (He.ga K "_law_ints") fd
  h9 : mg "_law_ints" = some (.ref (He.ga K "_law_ints"))
  o10 : ∃ fd, FunD K "_law_exchanged" "_law_exchanged" (defArgs (top 18)) (defBody (top 18)) (defScope (top 18)) [] [] (He.ga K "_law_exchanged") fd
  h10 : mg "_law_exchanged" = some (.ref (He.ga K "_law_exchanged"))
  o11 : ∃ fd, FunD K "_law_cut" "_law_cut" (defArgs (top 19)) (defBody (top 19)) (defScope (top 19)) [] [] (He.ga K "_law_cut") fd
  h11 : mg "_law_cut" = some (.ref (He.ga K "_law_cut"))
  o12 : ∃ fd, FunD K "_law_turned_about" "_law_turned_about" (defArgs (top 20)) (defBody (top 20)) (defScope (top 20)) [] [] (He.ga K "_law_turned_about") fd
  h12 : mg "_law_turned_about" = some (.ref (He.ga K "_law_turned_about"))
  o13 : ∃ fd, FunD K "_law_odd" "_law_odd" (defArgs (top 21)) (defBody (top 21)) (defScope (top 21)) [] [] (He.ga K "_law_odd") fd
  h13 : mg "_law_odd" = some (.ref (He.ga K "_law_odd"))
  o14 : ∃ fd, FunD K "_law_drawn_table" "_law_drawn_table" (defArgs (top 22)) (defBody (top 22)) (defScope (top 22)) [] [] (He.ga K "_law_drawn_table") fd
  h14 : mg "_law_drawn_table" = some (.ref (He.ga K "_law_drawn_table"))
  o15 : ∃ fd, FunD K "_law_columns" "_law_columns" (defArgs (top 23)) (defBody (top 23)) (defScope (top 23)) [] [] (He.ga K "_law_columns") fd
  h15 : mg "_law_columns" = some (.ref (He.ga K "_law_columns"))
  o16 : ∃ fd, FunD K "_law_neighbour" "_law_neighbour" (defArgs (top 24)) (defBody (top 24)) (defScope (top 24)) [] [] (He.ga K "_law_neighbour") fd
  h16 : mg "_law_neighbour" = some (.ref (He.ga K "_law_neighbour"))
  o17 : ∃ fd, FunD K "_law_accepts" "_law_accepts" (defArgs (top 25)) (defBody (top 25)) (defScope (top 25)) [] [] (He.ga K "_law_accepts") fd
  h17 : mg "_law_accepts" = some (.ref (He.ga K "_law_accepts"))
  o18 : ∃ fd, FunD K "_law_told_near" "_law_told_near" (defArgs (top 26)) (defBody (top 26)) (defScope (top 26)) [] [] (He.ga K "_law_told_near") fd
  h18 : mg "_law_told_near" = some (.ref (He.ga K "_law_told_near"))
  o19 : ∃ fd, FunD K "_law_unfit" "_law_unfit" (defArgs (top 27)) (defBody (top 27)) (defScope (top 27)) [] [] (He.ga K "_law_unfit") fd
  h19 : mg "_law_unfit" = some (.ref (He.ga K "_law_unfit"))
  o20 : ∃ fd, FunD K "_law_accepts_too" "_law_accepts_too" (defArgs (top 28)) (defBody (top 28)) (defScope (top 28)) [] [] (He.ga K "_law_accepts_too") fd
  h20 : mg "_law_accepts_too" = some (.ref (He.ga K "_law_accepts_too"))
  o21 : ∃ fd, FunD K "_law_told_near_too" "_law_told_near_too" (defArgs (top 29)) (defBody (top 29)) (defScope (top 29)) [] [] (He.ga K "_law_told_near_too") fd
  h21 : mg "_law_told_near_too" = some (.ref (He.ga K "_law_told_near_too"))
  o22 : ∃ fd, FunD K "_law_unfit_too" "_law_unfit_too" (defArgs (top 30)) (defBody (top 30)) (defScope (top 30)) [] [] (He.ga K "_law_unfit_too") fd
  h22 : mg "_law_unfit_too" = some (.ref (He.ga K "_law_unfit_too"))
  o23 : ∃ fd, FunD K "law" "law" (defArgs (top 31)) (defBody (top 31)) (defScope (top 31)) [] [] (He.ga K "law") fd
  h23 : mg "law" = some (.ref (He.ga K "law"))
theorem fds (X : K.In h) (G : h.Ns mainGlobals mg) (c : SaysX fa fn exl K) : FDs K mg where
  o0 := c.d.def_ 0 (d := dd0) rfl
  h0 := He.glo_ok X G (c.d.fact 0 rfl)
  o1 := c.d.def_ 1 (d := dd1) rfl
  h1 := He.glo_ok X G (c.d.fact 1 rfl)
  o2 := c.d.def_ 2 (d := dd2) rfl
  h2 := He.glo_ok X G (c.d.fact 2 rfl)
  o3 := c.d.def_ 3 (d := dd3) rfl
  h3 := He.glo_ok X G (c.d.fact 3 rfl)
  o4 := c.d.def_ 4 (d := dd4) rfl
  h4 := He.glo_ok X G (c.d.fact 4 rfl)
  o5 := c.d.def_ 5 (d := dd5) rfl
  h5 := He.glo_ok X G (c.d.fact 5 rfl)
  o6 := c.d.def_ 6 (d := dd6) rfl
  h6 := He.glo_ok X G (c.d.fact 6 rfl)
  o7 := c.d.def_ 7 (d := dd7) rfl
  h7 := He.glo_ok X G (c.d.fact 7 rfl)
  o8 := c.d.def_ 8 (d := dd8) rfl
  h8 := He.glo_ok X G (c.d.fact 8 rfl)
  o9 := c.d.def_ 9 (d := dd9) rfl
  h9 := He.glo_ok X G (c.d.fact 9 rfl)
  o10 := c.d.def_ 10 (d := dd10) rfl
  h10 := He.glo_ok X G (c.d.fact 10 rfl)
  o11 := c.d.def_ 11 (d := dd11) rfl
  h11 := He.glo_ok X G (c.d.fact 11 rfl)
  o12 := c.d.def_ 12 (d := dd12) rfl
  h12 := He.glo_ok X G (c.d.fact 12 rfl)
  o13 := c.d.def_ 13 (d := dd13) rfl
  h13 := He.glo_ok X G (c.d.fact 13 rfl)
  o14 := c.d.def_ 14 (d := dd14) rfl
  h14 := He.glo_ok X G (c.d.fact 14 rfl)
  o15 := c.d.def_ 15 (d := dd15) rfl
  h15 := He.glo_ok X G (c.d.fact 15 rfl)
  o16 := c.d.def_ 16 (d := dd16) rfl
  h16 := He.glo_ok X G (c.d.fact 16 rfl)
  o17 := c.d.def_ 17 (d := dd17) rfl
  h17 := He.glo_ok X G (c.d.fact 17 rfl)
  o18 := c.d.def_ 18 (d := dd18) rfl
  h18 := He.glo_ok X G (c.d.fact 18 rfl)
  o19 := c.d.def_ 19 (d := dd19) rfl
  h19 := He.glo_ok X G (c.d.fact 19 rfl)
  o20 := c.d.def_ 20 (d := dd20) rfl
  h20 := He.glo_ok X G (c.d.fact 20 rfl)
  o21 := c.d.def_ 21 (d := dd21) rfl
  h21 := He.glo_ok X G (c.d.fact 21 rfl)
  o22 := c.d.def_ 22 (d := dd22) rfl
  h22 := He.glo_ok X G (c.d.fact 22 rfl)
  o23 := c.d.def_ 23 (d := dd23) rfl
  h23 := He.glo_ok X G (c.d.fact 23 rfl)
theorem fs0 : FnScope N0 ["told", "word", "count"] sc0 := ⟨rfl, rfl, rfl, by decide +kernel, rfl, by decide +kernel, by decide +kernel⟩
theorem fs1 : FnScope N1 ["rows", "low", "high"] sc1 := ⟨rfl, rfl, rfl, by decide +kernel, rfl, by decide +kernel, by decide +kernel⟩
theorem fs2 : FnScope N2 ["rows", "kind"] sc2 := ⟨rfl, rfl, rfl, by decide +kernel, rfl, by decide +kernel, by decide +kernel⟩
theorem fs3 : FnScope N3 ["rows", "kind", "told"] sc3 := ⟨rfl, rfl, rfl, by decide +kernel, rfl, by decide +kernel, by decide +kernel⟩
theorem fs4 : FnScope N4 ["rows", "kinds"] sc4 := ⟨rfl, rfl, rfl, by decide +kernel, rfl, by decide +kernel, by decide +kernel⟩
theorem fs5 : FnScope N5 ["rows", "kinds", "told"] sc5 := ⟨rfl, rfl, rfl, by decide +kernel, rfl, by decide +kernel, by decide +kernel⟩
theorem fs6 : FnScope N6 ["state", "limit"] sc6 := ⟨rfl, rfl, rfl, by decide +kernel, rfl, by decide +kernel, by decide +kernel⟩
theorem fs7 : FnScope N7 ["actual", "expected"] sc7 := ⟨rfl, rfl, rfl, by decide +kernel, rfl, by decide +kernel, by decide +kernel⟩
theorem fs8 : FnScope N8 ["state", "value"] sc8 := ⟨rfl, rfl, rfl, by decide +kernel, rfl, by decide +kernel, by decide +kernel⟩
theorem fs9 : FnScope N9 ["value"] sc9 := ⟨rfl, rfl, rfl, by decide +kernel, rfl, by decide +kernel, by decide +kernel⟩
theorem fs10 : FnScope N10 ["value", "one", "other"] sc10 := ⟨rfl, rfl, rfl, by decide +kernel, rfl, by decide +kernel, by decide +kernel⟩
theorem fs11 : FnScope N11 ["state", "value"] sc11 := ⟨rfl, rfl, rfl, by decide +kernel, rfl, by decide +kernel, by decide +kernel⟩
theorem fs12 : FnScope N12 ["state", "told"] sc12 := ⟨rfl, rfl, rfl, by decide +kernel, rfl, by decide +kernel, by decide +kernel⟩
theorem fs13 : FnScope N13 ["state", "told"] sc13 := ⟨rfl, rfl, rfl, by decide +kernel, rfl, by decide +kernel, by decide +kernel⟩
theorem fs14 : FnScope N14 ["state", "low", "high", "least", "most"] sc14 := ⟨rfl, rfl, rfl, by decide +kernel, rfl, by decide +kernel, by decide +kernel⟩
theorem fs15 : FnScope N15 ["rows"] sc15 := ⟨rfl, rfl, rfl, by decide +kernel, rfl, by decide +kernel, by decide +kernel⟩
theorem fs16 : FnScope N16 ["state", "value"] sc16 := ⟨rfl, rfl, rfl, by decide +kernel, rfl, by decide +kernel, by decide +kernel⟩
theorem fs17 : FnScope N17 ["rows", "kind", "told"] sc17 := ⟨rfl, rfl, rfl, by decide +kernel, rfl, by decide +kernel, by decide +kernel⟩
theorem fs18 : FnScope N18 ["state", "rows", "kind"] sc18 := ⟨rfl, rfl, rfl, by decide +kernel, rfl, by decide +kernel, by decide +kernel⟩
theorem fs19 : FnScope N19 ["rows", "kind"] sc19 := ⟨rfl, rfl, rfl, by decide +kernel, rfl, by decide +kernel, by decide +kernel⟩
theorem fs20 : FnScope N20 ["rows", "kinds", "told"] sc20 := ⟨rfl, rfl, rfl, by decide +kernel, rfl, by decide +kernel, by decide +kernel⟩
theorem fs21 : FnScope N21 ["state", "rows", "kinds"] sc21 := ⟨rfl, rfl, rfl, by decide +kernel, rfl, by decide +kernel, by decide +kernel⟩
theorem fs22 : FnScope N22 ["rows", "kinds"] sc22 := ⟨rfl, rfl, rfl, by decide +kernel, rfl, by decide +kernel, by decide +kernel⟩
theorem fs23 : FnScope N23 ["script"] sc23 := ⟨rfl, rfl, rfl, by decide +kernel, rfl, by decide +kernel, by decide +kernel⟩
theorem tab {P : Program} {w : World} {base : Heap} (F : Facts K mg) (D : FDs K mg) : ∀ n, Tab P w K mg base n (G n)
  | 0 => ⟨let ⟨_, h⟩ := D.o0; fun_no (ps := ["told", "word", "count"]) h D.h0 rfl (fun _ _ _ _ _ _ us hl => match us, hl with | [_, _, _], _ => rfl),
    let ⟨_, h⟩ := D.o1; fun_no (ps := ["rows", "low", "high"]) h D.h1 rfl (fun _ _ _ _ _ _ us hl => match us, hl with | [_, _, _], _ => rfl),
    let ⟨_, h⟩ := D.o2; fun_no (ps := ["rows", "kind"]) h D.h2 rfl (fun _ _ _ _ _ _ us hl => match us, hl with | [_, _], _ => rfl),
    let ⟨_, h⟩ := D.o3; fun_no (ps := ["rows", "kind", "told"]) h D.h3 rfl (fun _ _ _ _ _ _ us hl => match us, hl with | [_, _, _], _ => rfl),
    let ⟨_, h⟩ := D.o4; fun_no (ps := ["rows", "kinds"]) h D.h4 rfl (fun _ _ _ _ _ _ us hl => match us, hl with | [_, _], _ => rfl),
    let ⟨_, h⟩ := D.o5; fun_no (ps := ["rows", "kinds", "told"]) h D.h5 rfl (fun _ _ _ _ _ _ us hl => match us, hl with | [_, _, _], _ => rfl),
    let ⟨_, h⟩ := D.o6; fun_no (ps := ["state", "limit"]) h D.h6 rfl (fun _ _ _ _ _ _ us hl => match us, hl with | [_, _], _ => rfl),
    let ⟨_, h⟩ := D.o7; fun_no (ps := ["actual", "expected"]) h D.h7 rfl (fun _ _ _ _ _ _ us hl => match us, hl with | [_, _], _ => rfl),
    let ⟨_, h⟩ := D.o8; fun_no (ps := ["state", "value"]) h D.h8 rfl (fun _ _ _ _ _ _ us hl => match us, hl with | [_, _], _ => rfl),
    let ⟨_, h⟩ := D.o9; fun_no (ps := ["value"]) h D.h9 rfl (fun _ _ _ _ _ _ us hl => match us, hl with | [_], _ => rfl),
    let ⟨_, h⟩ := D.o10; fun_no (ps := ["value", "one", "other"]) h D.h10 rfl (fun _ _ _ _ _ _ us hl => match us, hl with | [_, _, _], _ => rfl),
    let ⟨_, h⟩ := D.o11; fun_no (ps := ["state", "value"]) h D.h11 rfl (fun _ _ _ _ _ _ us hl => match us, hl with | [_, _], _ => rfl),
    let ⟨_, h⟩ := D.o12; fun_no (ps := ["state", "told"]) h D.h12 rfl (fun _ _ _ _ _ _ us hl => match us, hl with | [_, _], _ => rfl),
    let ⟨_, h⟩ := D.o13; fun_no (ps := ["state", "told"]) h D.h13 rfl (fun _ _ _ _ _ _ us hl => match us, hl with | [_, _], _ => rfl),
    let ⟨_, h⟩ := D.o14; fun_no (ps := ["state", "low", "high", "least", "most"]) h D.h14 rfl (fun _ _ _ _ _ _ us hl => match us, hl with | [_, _, _, _, _], _ => rfl),
    let ⟨_, h⟩ := D.o15; fun_no (ps := ["rows"]) h D.h15 rfl (fun _ _ _ _ _ _ us hl => match us, hl with | [_], _ => rfl),
    let ⟨_, h⟩ := D.o16; fun_no (ps := ["state", "value"]) h D.h16 rfl (fun _ _ _ _ _ _ us hl => match us, hl with | [_, _], _ => rfl),
    let ⟨_, h⟩ := D.o17; fun_no (ps := ["rows", "kind", "told"]) h D.h17 rfl (fun _ _ _ _ _ _ us hl => match us, hl with | [_, _, _], _ => rfl),
    let ⟨_, h⟩ := D.o18; fun_no (ps := ["state", "rows", "kind"]) h D.h18 rfl (fun _ _ _ _ _ _ us hl => match us, hl with | [_, _, _], _ => rfl),
    let ⟨_, h⟩ := D.o19; fun_no (ps := ["rows", "kind"]) h D.h19 rfl (fun _ _ _ _ _ _ us hl => match us, hl with | [_, _], _ => rfl),
    let ⟨_, h⟩ := D.o20; fun_no (ps := ["rows", "kinds", "told"]) h D.h20 rfl (fun _ _ _ _ _ _ us hl => match us, hl with | [_, _, _], _ => rfl),
    let ⟨_, h⟩ := D.o21; fun_no (ps := ["state", "rows", "kinds"]) h D.h21 rfl (fun _ _ _ _ _ _ us hl => match us, hl with | [_, _, _], _ => rfl),
    let ⟨_, h⟩ := D.o22; fun_no (ps := ["rows", "kinds"]) h D.h22 rfl (fun _ _ _ _ _ _ us hl => match us, hl with | [_, _], _ => rfl),
    let ⟨_, h⟩ := D.o23; fun_no (ps := ["script"]) h D.h23 rfl (fun _ _ _ _ _ _ us hl => match us, hl with | [_], _ => rfl)⟩
  | n + 1 => have T := tab F D n; ⟨let ⟨_, h⟩ := D.o0; fun_ok h D.h0 rfl (fun _ _ _ _ _ _ us hl => match us, hl with | [_, _, _], _ => rfl) fs0 (d0 F T),
    let ⟨_, h⟩ := D.o1; fun_ok h D.h1 rfl (fun _ _ _ _ _ _ us hl => match us, hl with | [_, _, _], _ => rfl) fs1 (d1 F T),
    let ⟨_, h⟩ := D.o2; fun_ok h D.h2 rfl (fun _ _ _ _ _ _ us hl => match us, hl with | [_, _], _ => rfl) fs2 (d2 F T),
    let ⟨_, h⟩ := D.o3; fun_ok h D.h3 rfl (fun _ _ _ _ _ _ us hl => match us, hl with | [_, _, _], _ => rfl) fs3 (d3 F T),
    let ⟨_, h⟩ := D.o4; fun_ok h D.h4 rfl (fun _ _ _ _ _ _ us hl => match us, hl with | [_, _], _ => rfl) fs4 (d4 F T),
    let ⟨_, h⟩ := D.o5; fun_ok h D.h5 rfl (fun _ _ _ _ _ _ us hl => match us, hl with | [_, _, _], _ => rfl) fs5 (d5 F T),
    let ⟨_, h⟩ := D.o6; fun_ok h D.h6 rfl (fun _ _ _ _ _ _ us hl => match us, hl with | [_, _], _ => rfl) fs6 (d6 F T),
    let ⟨_, h⟩ := D.o7; fun_ok h D.h7 rfl (fun _ _ _ _ _ _ us hl => match us, hl with | [_, _], _ => rfl) fs7 (d7 F T),
    let ⟨_, h⟩ := D.o8; fun_ok h D.h8 rfl (fun _ _ _ _ _ _ us hl => match us, hl with | [_, _], _ => rfl) fs8 (d8 F T),
    let ⟨_, h⟩ := D.o9; fun_ok h D.h9 rfl (fun _ _ _ _ _ _ us hl => match us, hl with | [_], _ => rfl) fs9 (d9 F T),
    let ⟨_, h⟩ := D.o10; fun_ok h D.h10 rfl (fun _ _ _ _ _ _ us hl => match us, hl with | [_, _, _], _ => rfl) fs10 (d10 F T),
    let ⟨_, h⟩ := D.o11; fun_ok h D.h11 rfl (fun _ _ _ _ _ _ us hl => match us, hl with | [_, _], _ => rfl) fs11 (d11 F T),
    let ⟨_, h⟩ := D.o12; fun_ok h D.h12 rfl (fun _ _ _ _ _ _ us hl => match us, hl with | [_, _], _ => rfl) fs12 (d12 F T),
    let ⟨_, h⟩ := D.o13; fun_ok h D.h13 rfl (fun _ _ _ _ _ _ us hl => match us, hl with | [_, _], _ => rfl) fs13 (d13 F T),
    let ⟨_, h⟩ := D.o14; fun_ok h D.h14 rfl (fun _ _ _ _ _ _ us hl => match us, hl with | [_, _, _, _, _], _ => rfl) fs14 (d14 F T),
    let ⟨_, h⟩ := D.o15; fun_ok h D.h15 rfl (fun _ _ _ _ _ _ us hl => match us, hl with | [_], _ => rfl) fs15 (d15 F T),
    let ⟨_, h⟩ := D.o16; fun_ok h D.h16 rfl (fun _ _ _ _ _ _ us hl => match us, hl with | [_, _], _ => rfl) fs16 (d16 F T),
    let ⟨_, h⟩ := D.o17; fun_ok h D.h17 rfl (fun _ _ _ _ _ _ us hl => match us, hl with | [_, _, _], _ => rfl) fs17 (d17 F T),
    let ⟨_, h⟩ := D.o18; fun_ok h D.h18 rfl (fun _ _ _ _ _ _ us hl => match us, hl with | [_, _, _], _ => rfl) fs18 (d18 F T),
    let ⟨_, h⟩ := D.o19; fun_ok h D.h19 rfl (fun _ _ _ _ _ _ us hl => match us, hl with | [_, _], _ => rfl) fs19 (d19 F T),
    let ⟨_, h⟩ := D.o20; fun_ok h D.h20 rfl (fun _ _ _ _ _ _ us hl => match us, hl with | [_, _, _], _ => rfl) fs20 (d20 F T),
    let ⟨_, h⟩ := D.o21; fun_ok h D.h21 rfl (fun _ _ _ _ _ _ us hl => match us, hl with | [_, _, _], _ => rfl) fs21 (d21 F T),
    let ⟨_, h⟩ := D.o22; fun_ok h D.h22 rfl (fun _ _ _ _ _ _ us hl => match us, hl with | [_, _], _ => rfl) fs22 (d22 F T),
    let ⟨_, h⟩ := D.o23; fun_ok h D.h23 rfl (fun _ _ _ _ _ _ us hl => match us, hl with | [_], _ => rfl) fs23 (d23 F T)⟩
end
abbrev R : PySem.W.OpenRow := PySem.W.OpenLaw.row PySem.Challenge.rw_gridwhole_k67_tables_turned_and_folded
abbrev hk : PySem.W.Hook := hookX 4 fa fn exl
def ob (s : PySem.W.SharedT) : AlX := obsXG 4 fa fn exl (HandSHeadRun.getT s)
theorem ob_eq (s : PySem.W.SharedT) : ob s = hk.obs s.abs := obsXG_eq (HandSHeadRun.getT_eq s)
def loose : List Str := ("GridwholeError" : Str) :: ("UnfitGrid" : Str) :: ("TooWide" : Str) :: ("is_told" : Str) :: ("check_table" : Str) :: ("turned_table" : Str) :: ("judge_turned_table" : Str) :: ("folded" : Str) :: ("judge_folded" : Str) :: ("_law_next" : Str) :: ("_law_same" : Str) :: ("_law_changed" : Str) :: ("_law_ints" : Str) :: ("_law_exchanged" : Str) :: ("_law_cut" : Str) :: ("_law_turned_about" : Str) :: ("_law_odd" : Str) :: ("_law_drawn_table" : Str) :: ("_law_columns" : Str) :: ("_law_neighbour" : Str) :: ("_law_accepts" : Str) :: ("_law_told_near" : Str) :: ("_law_unfit" : Str) :: ("_law_accepts_too" : Str) :: ("_law_told_near_too" : Str) :: ("_law_unfit_too" : Str) :: []
theorem run (w : World) : HandSHeadRun.RunEq R (PySem.W.view R.prog [31]) hk ob 3000 loose w := by
  intro os
  kernel_rfl
end K67
open PySem PySem.W PySem.Calls PyProof.Rows
theorem K67.holds_of (pure : ∀ ns : List Int, ns.length ≤ 63 → ∃ fins, K67.G 60 23 [.fro (.lst (ns.map Ev.D.int))] = some (.ok (.bl true, false), fins)) : PySem.Challenge.rw_gridwhole_k67_tables_turned_and_folded.Holds := by
  w_on; o_law
  refine HandSHeadRun.head_any (r := OpenLaw.row PySem.Challenge.rw_gridwhole_k67_tables_turned_and_folded) (q := view (OpenLaw.row PySem.Challenge.rw_gridwhole_k67_tables_turned_and_folded).prog [31]) (H := K67.hk) (ob := K67.ob) (M := 3000) (loose := K67.loose) (d := HandSHeadRun.topDef (OpenLaw.row PySem.Challenge.rw_gridwhole_k67_tables_turned_and_folded).prog 31) (kwd := []) K67.ob_eq
    (by kernel_rfl) (fun s => by kernel_rfl) K67.run (by kernel_rfl) (by kernel_rfl) (by kernel_rfl) (by rfl) (by first | assumption | decide +kernel) (by decide +kernel) ⟨rfl, rfl, rfl, rfl, rfl, by decide +kernel⟩ ?hw ?hc
  case hw => w_witness2
  case hc =>
    refine Ev.walk_ofG (l := PySem.Challenge.rw_gridwhole_k67_tables_turned_and_folded) (n := 63) (k := 60) (x := "script") rfl (by decide) (by kernel_rfl) ⟨rfl, by decide, by decide⟩ ?F
    intro w mg fa h Y G hmg0
    obtain ⟨K, KX, c⟩ := Y
    have hmg : mg ("law" : PySem.Str) = some (.ref fa) := by
      have e : (HandSHeadRun.topDef (OpenLaw.row PySem.Challenge.rw_gridwhole_k67_tables_turned_and_folded).prog 31).name = ("law" : PySem.Str) := by kernel_rfl
      rw [← e]
      exact hmg0
    have F := K67.facts KX G c
    have D := K67.fds KX G c
    obtain ⟨fd, o⟩ := D.o23
    have e := hmg.symm.trans D.h23
    cases e
    have b := L2.FunD.bindsA (ps := ["script"]) o fun _ _ _ _ _ _ us hl => match us, hl with | [_], _ => rfl
    exact ⟨K, fd, K67.G 60 23, KX, fun s v => b s [v] rfl, pure, fun base _ _ => Ev.fnG_ok o rfl K67.fs23 (K67.d23 F (K67.tab F D 59))⟩

theorem PySem.Challenge.cw_gridwhole_k67_tables_turned_and_folded_holds : PySem.Challenge.rw_gridwhole_k67_tables_turned_and_folded.Holds := by
  exact K67.holds_of K67.pure
