import PyProof.Rows.All
import Wide.All
import OpenK.AllK
import Wide.FinOn
import HandS.ForMost
import HandS.Exc
import HandS.ExcOwn
import HandS.WordsExc
import KE.KDictKeyed
import KE.KDictCopyH
import HandS.TupAny
import HandS.TupMul
import HandS.Wide
import HandS.Deep
import HandS.Style
import HandS.IsInst
import HandS.Text
import HandS.SortInts
import KE.KDictDisplayH
import HandS.Walk
import HandS.Zip
import KE.GoesZip
import KE.GoesEnum
import HandS.Comp
import HandS.Head0
import HandS.Head1
import HandS.Head2
import HandS.HeadEnd
import HandS.HeadHook1
import HandS.HeadHook2
import HandS.SortOrd
import HandS.RaiseMore
import KE.KDictPairs
import KE.KDictOf
import HandS.Strs
import HandS.TupSets
import HandS.Replace
import KE.KRevSl
import HandS.Conv
import HandS.TryOnly
import KE.SortCalls
import KE.SortData
import KE.DataMinMax
import HandS.Codes
import HandS.HeadHook4
import HandS.HeadWalk
import PySem.Challenge.RW_diceyard_k84_whole_fewest_rolls
set_option Elab.async false
set_option linter.all false
set_option maxRecDepth 100000
section
/-! Ev0: plain data for Python's values, how a heap bears them, what a step keeps. -/
namespace Ev
open PySem PySem.Spec L2

/-- plain data -/
inductive D where
  | non | bl (b : Bool) | int (i : Int) | str (s : List Nat) | tup (l : List D) | lst (l : List D) | dct (kvs : List (D × D)) | fn (k : Nat) | hnd (k : Nat)
  deriving Inhabited

mutual
/-- a datum as a dict's key -/
def D.key : D → NestedKey
  | .non => .none
  | .int i => .num i
  | .str s => .text ⟨s.toArray⟩
  | .tup l => .tup (D.keys l)
  | _ => .none
def D.keys : List D → List NestedKey
  | [] => []
  | d :: r => d.key :: D.keys r
end

mutual
/-- may be a dict's key -/
def D.kok : D → Bool
  | .non => true
  | .int _ => true
  | .str _ => true
  | .tup l => D.koks l
  | _ => false
def D.koks : List D → Bool
  | [] => true
  | d :: r => d.kok && D.koks r
end
def D.isTup : D → Bool
  | .tup _ => true
  | _ => false
/-- what the keys of a dict are like: all tuples, or none -/
structure DOk (kvs : List (D × D)) : Prop where
  kok : ∀ p ∈ kvs, p.1.kok = true ∧ p.1.key.depth ≤ 8
  mode : (∀ p ∈ kvs, p.1.isTup = true) ∨ (∀ p ∈ kvs, p.1.isTup = false)
  nd : (kvs.map fun p => p.1.key).Nodup
/-- what the program's world is: what a value means beside the heap -/
structure Cst where
  K : PySem.W.Frag
  w : World
  fa : Nat → Option Addr
  hd : Nat → Option Addr

def FzL (K : PySem.W.Frag) (H : Hp) (a : Addr) (xs : List V) : Prop :=
  (∃ o, H a = some (.frz o (.lst xs))) ∨ ∃ (o : Obj) (its : Array Value) (n : Nat), K.lookup a = some o ∧ o.cls = .type "list" ∧ o.dict = none ∧ o.data = .seq its n ∧ its.size ≤ sizeLine ∧ Vals xs its.toList
theorem FzL.sq {K : PySem.W.Frag} {H : Hp} {a : Addr} {xs : List V} (h : FzL K H a xs) : SqL K H a xs := by
  rcases h with ⟨o, h⟩ | h
  · exact .inl (.inr ⟨o, h⟩)
  · exact .inr h
/-- a dict's object -/
def rawD (a : Addr) (o : Obj) : HO := .ext fun h => h.get? a = some o
/-- .. with these entries -/
def Dat (o : Obj) (es : List DictEntry) : Prop := o.ExactDict ∧ ∃ ep, o.data = .dict es.toArray ep
def FzD (K : PySem.W.Frag) (H : Hp) (a : Addr) (es : List DictEntry) : Prop := ∃ o, ((∃ o', H a = some (.frz o' (rawD a o))) ∨ K.lookup a = some o) ∧ Dat o es

/-- a tuple whose object has no dict -/
def PlT (K : PySem.W.Frag) (H : Hp) (a : Addr) (xs : List V) : Prop :=
  (∃ o : Obj, o.dict = none ∧ H a = some (.frz o (.tup xs))) ∨ ∃ (o : Obj) (its : Array Value) (n : Nat), K.lookup a = some o ∧ o.cls = .type "tuple" ∧ o.dict = none ∧ o.data = .seq its n ∧ its.size ≤ sizeLine ∧ Vals xs its.toList
theorem PlT.sq {K : PySem.W.Frag} {H : Hp} {a : Addr} {xs : List V} (h : PlT K H a xs) : SqT K H a xs := by
  rcases h with ⟨o, _, h⟩ | ⟨o, its, n, h1, h2, _, h3⟩
  · exact .inl (.inr ⟨o, h⟩)
  · exact .inr ⟨o, its, n, h1, h2, h3⟩
def tupO (us : List Value) : Obj := { cls := .type "tuple", data := .seq us.toArray }
theorem Inv.tupNew {X : Cx} {pins : List (Addr × Obj)} {σ : L2.St} {H : Hp} {s : Shared} {xs : List V} {us : List Value} (I : L2.Inv X pins σ H s) (r : Vals xs us) (hz : xs.length ≤ sizeLine) :
    L2.Inv X pins σ (upd H s.heap.objs.size (.frz (tupO us) (.tup xs))) { s with heap := s.heap.push (tupO us) } :=
  I.laid (t' := s.toks) (fun _ _ e => Heap.get?_push_of_some _ e) (Nat.le_refl _) ⟨Heap.get?_push_size _ rfl, hz, us, r, PyProof.Rows.IsTup.new _ _⟩
theorem PlT.new {K : PySem.W.Frag} {H : Hp} {a : Addr} {xs : List V} {us : List Value} : PlT K (upd H a (.frz (tupO us) (.tup xs))) a xs := .inl ⟨_, rfl, upd_same⟩
mutual
def Rep (C : Cst) (H : Hp) : D → V → Prop
  | .non, v => v = .non
  | .bl b, v => v = .bl b
  | .int i, v => v = .int i
  | .str s, v => v = .str ⟨s.toArray⟩
  | .tup ds, v => ∃ a xs, v = .ref a ∧ PlT C.K H a xs ∧ Reps C H ds xs
  | .lst ds, v => ∃ a xs, v = .ref a ∧ FzL C.K H a xs ∧ Reps C H ds xs
  | .dct kvs, v => ∃ a es, v = .ref a ∧ FzD C.K H a es ∧ (a == sysModules) = false ∧ es.length ≤ sizeLine ∧ DOk kvs ∧ RepE C H kvs es
  | .fn k, v => ∃ a, C.fa k = some a ∧ v = .ref a
  | .hnd k, v => ∃ a, C.hd k = some a ∧ v = .ref a
def Reps (C : Cst) (H : Hp) : List D → List V → Prop
  | [], xs => xs = []
  | d :: ds, xs => ∃ x ys, xs = x :: ys ∧ Rep C H d x ∧ Reps C H ds ys
def RepE (C : Cst) (H : Hp) : List (D × D) → List DictEntry → Prop
  | [], es => es = []
  | (k, v) :: r, es => ∃ e es' x y, es = e :: es' ∧ e.hash = k.key.hash C.w ∧ RelV x e.key ∧ Rep C H k x ∧ RelV y e.val ∧ Rep C H v y ∧ RepE C H r es'
end

/-- what never changes -/
def Imm : HO → Prop
  | .tup _ => True
  | .frz _ _ => True
  | _ => False
def Keep (H H' : Hp) : Prop := ∀ b u, Imm u → H b = some u → H' b = some u
theorem Keep.refl (H : Hp) : Keep H H := fun _ _ _ h => h
theorem Keep.trans {H H1 H2 : Hp} (a : Keep H H1) (b : Keep H1 H2) : Keep H H2 := fun c o i h => b c o i (a c o i h)

section
variable {C : Cst} {H H' : Hp}
theorem FzL.keep {K : PySem.W.Frag} (k : Keep H H') {a : Addr} {xs : List V} (h : FzL K H a xs) : FzL K H' a xs := by
  rcases h with ⟨o, h⟩ | h
  · exact .inl ⟨o, k _ _ trivial h⟩
  · exact .inr h
theorem FzD.keep {K : PySem.W.Frag} (k : Keep H H') {a : Addr} {es : List DictEntry} (h : FzD K H a es) : FzD K H' a es := by
  obtain ⟨o, h, d⟩ := h
  rcases h with ⟨o', h⟩ | h
  · exact ⟨o, .inl ⟨o', k _ _ trivial h⟩, d⟩
  · exact ⟨o, .inr h, d⟩
theorem SqT_keep {K : PySem.W.Frag} (k : Keep H H') {a : Addr} {xs : List V} (h : SqT K H a xs) : SqT K H' a xs := by
  rcases h with (h | ⟨o, h⟩) | h
  · exact .inl (.inl (k _ _ trivial h))
  · exact .inl (.inr ⟨o, k _ _ trivial h⟩)
  · exact .inr h
theorem PlT.keep {K : PySem.W.Frag} (k : Keep H H') {a : Addr} {xs : List V} (h : PlT K H a xs) : PlT K H' a xs := by
  rcases h with ⟨o, z, h⟩ | h
  · exact .inl ⟨o, z, k _ _ trivial h⟩
  · exact .inr h
mutual
theorem Rep.keep (k : Keep H H') : ∀ (d : D) {v : V}, Rep C H d v → Rep C H' d v
  | .non, _, h => h
  | .bl _, _, h => h
  | .int _, _, h => h
  | .str _, _, h => h
  | .tup ds, _, h => by
    obtain ⟨a, xs, e, s, r⟩ := h
    exact ⟨a, xs, e, s.keep k, Reps.keep k ds r⟩
  | .lst ds, _, h => by
    obtain ⟨a, xs, e, s, r⟩ := h
    exact ⟨a, xs, e, s.keep k, Reps.keep k ds r⟩
  | .dct kvs, _, h => by
    obtain ⟨a, es, e, s, n, l, q, r⟩ := h
    exact ⟨a, es, e, s.keep k, n, l, q, RepE.keep k kvs r⟩
  | .fn _, _, h => h
  | .hnd _, _, h => h
theorem Reps.keep (k : Keep H H') : ∀ (ds : List D) {xs : List V}, Reps C H ds xs → Reps C H' ds xs
  | [], _, h => h
  | d :: ds, _, h => by
    obtain ⟨x, ys, e, r, rs⟩ := h
    exact ⟨x, ys, e, Rep.keep k d r, Reps.keep k ds rs⟩
theorem RepE.keep (k : Keep H H') : ∀ (kvs : List (D × D)) {es : List DictEntry}, RepE C H kvs es → RepE C H' kvs es
  | [], _, h => h
  | (a, b) :: r, _, h => by
    obtain ⟨e, es', x, y, q, hs, r1, h1, r2, h2, t⟩ := h
    exact ⟨e, es', x, y, q, hs, r1, Rep.keep k a h1, r2, Rep.keep k b h2, RepE.keep k r t⟩
end

theorem Reps.length : ∀ {ds : List D} {xs : List V}, Reps C H ds xs → xs.length = ds.length
  | [], _, h => by rw [show _ = [] from h]; rfl
  | d :: ds, _, h => by
    obtain ⟨x, ys, rfl, _, rs⟩ := h
    simp [Reps.length rs]
theorem Reps.get : ∀ {ds : List D} {xs : List V} {i : Nat} {x : V}, Reps C H ds xs → xs[i]? = some x → ∃ d, ds[i]? = some d ∧ Rep C H d x
  | [], _, i, x, h, e => by rw [show _ = [] from h] at e; simp at e
  | d :: ds, _, 0, x, h, e => by
    obtain ⟨y, ys, rfl, r, rs⟩ := h
    simp at e; subst e; exact ⟨d, rfl, r⟩
  | d :: ds, _, i + 1, x, h, e => by
    obtain ⟨y, ys, rfl, r, rs⟩ := h
    obtain ⟨d', h1, h2⟩ := Reps.get (i := i) rs (by simpa using e)
    exact ⟨d', by simpa using h1, h2⟩
theorem Reps.get' : ∀ {ds : List D} {xs : List V} {i : Nat} {d : D}, Reps C H ds xs → ds[i]? = some d → ∃ x, xs[i]? = some x ∧ Rep C H d x
  | [], _, i, x, h, e => by simp at e
  | d :: ds, _, 0, x, h, e => by
    obtain ⟨y, ys, rfl, r, rs⟩ := h
    simp at e; subst e; exact ⟨y, rfl, r⟩
  | d :: ds, _, i + 1, x, h, e => by
    obtain ⟨y, ys, rfl, r, rs⟩ := h
    obtain ⟨d', h1, h2⟩ := Reps.get' (i := i) rs (by simpa using e)
    exact ⟨d', by simpa using h1, h2⟩
theorem Reps.append : ∀ {ds es : List D} {xs ys : List V}, Reps C H ds xs → Reps C H es ys → Reps C H (ds ++ es) (xs ++ ys)
  | [], _, _, _, h, t => by rw [show _ = [] from h]; exact t
  | d :: ds, _, _, _, h, t => by
    obtain ⟨x, ys, rfl, r, rs⟩ := h
    exact ⟨x, _, rfl, r, Reps.append rs t⟩
theorem Reps.one {d : D} {v : V} (h : Rep C H d v) : Reps C H [d] [v] := ⟨v, [], rfl, h, rfl⟩
theorem Reps.nil : Reps C H [] [] := rfl
theorem Reps.cons {d : D} {v : V} {ds : List D} {xs : List V} (h : Rep C H d v) (t : Reps C H ds xs) : Reps C H (d :: ds) (v :: xs) := ⟨v, xs, rfl, h, t⟩
theorem Reps.take : ∀ {ds : List D} {xs : List V} (n : Nat), Reps C H ds xs → Reps C H (ds.take n) (xs.take n)
  | [], _, n, h => by rw [show _ = [] from h]; simp; exact rfl
  | d :: ds, _, 0, h => by simp; exact rfl
  | d :: ds, _, n + 1, h => by
    obtain ⟨x, ys, rfl, r, rs⟩ := h
    exact ⟨x, _, rfl, r, Reps.take n rs⟩
theorem Reps.drop : ∀ {ds : List D} {xs : List V} (n : Nat), Reps C H ds xs → Reps C H (ds.drop n) (xs.drop n)
  | [], _, n, h => by rw [show _ = [] from h]; simp; exact rfl
  | d :: ds, _, 0, h => h
  | d :: ds, _, n + 1, h => by
    obtain ⟨x, ys, rfl, r, rs⟩ := h
    exact Reps.drop n rs
theorem Reps.reverse : ∀ {ds : List D} {xs : List V}, Reps C H ds xs → Reps C H ds.reverse xs.reverse
  | [], _, h => by rw [show _ = [] from h]; exact rfl
  | d :: ds, _, h => by
    obtain ⟨x, ys, rfl, r, rs⟩ := h
    rw [List.reverse_cons, List.reverse_cons]
    exact (Reps.reverse rs).append (.one r)
theorem Reps.set : ∀ {ds : List D} {xs : List V} (n : Nat) {d : D} {v : V}, Reps C H ds xs → Rep C H d v → Reps C H (ds.set n d) (xs.set n v)
  | [], _, n, _, _, h, _ => by rw [show _ = [] from h]; simp; exact rfl
  | e :: ds, _, 0, _, _, h, q => by
    obtain ⟨x, ys, rfl, r, rs⟩ := h
    exact ⟨_, _, rfl, q, rs⟩
  | e :: ds, _, n + 1, _, _, h, q => by
    obtain ⟨x, ys, rfl, r, rs⟩ := h
    exact ⟨x, _, rfl, r, Reps.set n rs q⟩
theorem Reps.ints : ∀ {ns : List Int} {xs : List V}, Reps C H (ns.map D.int) xs → xs = ns.map V.int
  | [], _, h => h
  | n :: ns, _, h => by
    obtain ⟨x, ys, rfl, r, rs⟩ := h
    rw [show x = .int n from r, Reps.ints rs]; rfl
theorem Reps.of_ints : ∀ {ns : List Int}, Reps C H (ns.map D.int) (ns.map V.int)
  | [] => rfl
  | n :: ns => ⟨_, _, rfl, rfl, Reps.of_ints⟩
end

/-! ### results -/
inductive Fl where
  | s | f | w
abbrev G := Option (Int × Int)
inductive R (α : Type) where
  | ok (a : α) (g : G)
  | exc (c : Nat) (xs : List D) (g : G)
  | bad
def R.bind {α β : Type} (r : R α) (f : α → G → R β) : R β := match r with
  | .ok a g => f a g
  | .exc c xs g => .exc c xs g
  | .bad => .bad
/-- a call of the k-th def -/
abbrev FT := Nat → List D → G → R (D × Bool)
inductive Slt where
  | n | s (d : D) | o (d : D)
abbrev Env' := List Slt
/-- an expression's meaning -/
abbrev Den := FT → Env' → G → R (D × Fl)
abbrev DenT := FT → Env' → G → R Bool
abbrev DenL := FT → Env' → G → R (List D)
inductive SR where
  | nx (ρ : Env') (g : G) | rt (d : D) (fresh : Bool) (g : G) | bk (ρ : Env') (g : G) | ct (ρ : Env') (g : G) | exc (c : Nat) (xs : List D) (g : G) | bad
abbrev DenS := FT → Env' → G → SR

/-- the mutable state beside the slots: handle 0, a list of two ints -/
def GOk (C : Cst) (g : G) (H : Hp) : Prop := match g with
  | none => ∀ n, C.hd n = none
  | some (x, y) => ∃ a, (∀ n b, C.hd n = some b → n = 0 ∧ b = a) ∧ C.hd 0 = some a ∧ H a = some (.lst [.int x, .int y])
def Cst.no (C : Cst) (a : Addr) : Prop := ∀ n, C.hd n ≠ some a
def Ext (C : Cst) (H H' : Hp) : Prop := ∀ b u, C.no b → H b = some u → H' b = some u
theorem Ext.refl (C : Cst) (H : Hp) : Ext C H H := fun _ _ _ h => h
theorem Ext.trans {C : Cst} {H H1 H2 : Hp} (a : Ext C H H1) (b : Ext C H1 H2) : Ext C H H2 := fun c o i h => b c o i (a c o i h)
theorem Ext.free {C : Cst} {H H' : Hp} (e : Ext C H H') {a : Addr} (n : C.no a) (h : H' a = none) : H a = none := by
  cases q : H a with
  | none => rfl
  | some u => rw [e a u n q] at h; cases h
theorem GOk.keep {C : Cst} {g : G} {H H' : Hp} (k : GOk C g H) (e : Ext C H H') : Keep H H' := fun b u i h => by
  refine e b u (fun n q => ?_) h
  cases g with
  | none => rw [k n] at q; cases q
  | some p =>
    obtain ⟨x, y⟩ := p
    obtain ⟨a, h1, h2, h3⟩ := k
    obtain ⟨_, rfl⟩ := h1 n b q
    rw [h3] at h; cases h; exact i
/-- a new address is no handle's -/
theorem GOk.no {C : Cst} {g : G} {H : Hp} (k : GOk C g H) {p : Addr} (h : H p = none) : C.no p := fun n q => by
  cases g with
  | none => rw [k n] at q; cases q
  | some z =>
    obtain ⟨x, y⟩ := z
    obtain ⟨a, h1, h2, h3⟩ := k
    obtain ⟨_, rfl⟩ := h1 n p q
    rw [h3] at h; cases h
theorem GOk.upd {C : Cst} {g : G} {H : Hp} (k : GOk C g H) {p : Addr} {o : HO} (h : C.no p) : GOk C g (upd H p o) := by
  cases g with
  | none => exact k
  | some z =>
    obtain ⟨x, y⟩ := z
    obtain ⟨a, h1, h2, h3⟩ := k
    refine ⟨a, h1, h2, ?_⟩
    rw [upd_ne (fun e => h 0 (by rw [h2, e]))]; exact h3
theorem Ext.new {C : Cst} {H : Hp} {p : Addr} {o : HO} (h : H p = none) : Ext C H (upd H p o) := fun b u _ e => by
  rw [upd_ne (ne_of_none e h)]; exact e

/-- a list or dict of one's own -/
def Own (C : Cst) (H : Hp) (a : Addr) : D → Prop
  | .lst ds => ∃ xs, H a = some (.lst xs) ∧ Reps C H ds xs
  | .dct kvs => ∃ es o, H a = some (rawD a o) ∧ Dat o es ∧ (a == sysModules) = false ∧ es.length ≤ sizeLine ∧ DOk kvs ∧ RepE C H kvs es
  | _ => False
def FRep (C : Cst) (H H' : Hp) : Fl → D → V → Prop
  | .s, d, v => Rep C H' d v
  | .f, d, v => ∃ a, v = .ref a ∧ H a = none ∧ C.no a ∧ Own C H' a d
  | .w, d, v => ∃ a, v = .ref a ∧ C.no a ∧ Own C H' a d
/-- an exception: of the own class c, with its fields -/
structure Xcs where
  cls : Nat → Option Addr
def XRep (Z : Xcs) (c : Nat) (xs : List D) (cv : Value) (od : Option Addr) (H' : Hp) : Prop :=
  (∃ a, Z.cls c = some a ∧ cv = .ref a) ∧ ((xs = [] ∧ od = none) ∨ ∃ d i, xs = [.int i] ∧ od = some d ∧ H' d = some (.xd [("limit", .int i)]))

/-- a relation of a result to what stands in the heap behind it -/
abbrev Rl (α β : Type) := Hp → Hp → α → β → Prop
def WRep (C : Cst) (H : Hp) (d : D) (v : V) : Prop := Rep C H d v ∨ ∃ a, v = .ref a ∧ C.no a ∧ Own C H a d
def WReps (C : Cst) (H : Hp) : List D → List V → Prop
  | [], xs => xs = []
  | d :: ds, xs => ∃ x ys, xs = x :: ys ∧ WRep C H d x ∧ WReps C H ds ys
def rlF (C : Cst) : Rl (D × Fl) V := fun H H' a v => FRep C H H' a.2 a.1 v
def rlT : Rl Bool Bool := fun _ _ a v => v = a
def rlL (C : Cst) : Rl (List D) (List V) := fun _ H' ds vs => Reps C H' ds vs
def rlW (C : Cst) : Rl (List D) (List V) := fun _ H' ds vs => WReps C H' ds vs
structure Shift {α β : Type} (C : Cst) (rl : Rl α β) : Prop where
  sh : ∀ H H1 H' a v, Ext C H H1 → rl H1 H' a v → rl H H' a v
theorem rlT.sh {C : Cst} : Shift C rlT := ⟨fun _ _ _ _ _ _ h => h⟩
theorem rlL.sh {C : Cst} : Shift C (rlL C) := ⟨fun _ _ _ _ _ _ h => h⟩
theorem rlW.sh {C : Cst} : Shift C (rlW C) := ⟨fun _ _ _ _ _ _ h => h⟩
theorem rlF.sh {C : Cst} : Shift C (rlF C) := ⟨fun H H1 H' a v e h => by
  obtain ⟨d, fl⟩ := a
  cases fl with
  | s => exact h
  | f => obtain ⟨a, h1, h2, h3, h4⟩ := h; exact ⟨a, h1, e.free h3 h2, h3, h4⟩
  | w => exact h⟩
section
variable {α β γ δ : Type} (C : Cst) (Z : Xcs) (W : WX) (σ : L2.St)
def PG' (rl : Rl α β) (H : Hp) (r : R α) (Q : β → Hp → Prop) : Prop := match r with
  | .ok a g => ∀ v H', Ext C H H' → GOk C g H' → rl H H' a v → Q v H'
  | .exc c xs g => ∀ cv od H', Ext C H H' → GOk C g H' → XRep Z c xs cv od H' → W cv od σ H'
  | .bad => False
variable {C Z W σ} {rl : Rl α β} {rl2 : Rl γ δ} {H H1 : Hp}
theorem PG'.mono {r : R α} {Q Q' : β → Hp → Prop} (h : PG' C Z W σ rl H r Q) (m : ∀ v H', Q v H' → Q' v H') : PG' C Z W σ rl H r Q' := by
  cases r with
  | ok a g => exact fun v H' e k f => m _ _ (h v H' e k f)
  | exc c xs g => exact h
  | bad => exact h
theorem PG'.shift (sh : Shift C rl) (e : Ext C H H1) {r : R α} {Q : β → Hp → Prop} (h : PG' C Z W σ rl H r Q) : PG' C Z W σ rl H1 r Q := by
  cases r with
  | ok a g => exact fun v H' e' k f => h v H' (e.trans e') k (sh.sh _ _ _ _ _ e f)
  | exc c xs g => exact fun cv od H' e' k x => h cv od H' (e.trans e') k x
  | bad => exact h
theorem PG'.bind (sh : Shift C rl2) {r : R α} {cont : α → G → R γ} {Q : δ → Hp → Prop} (h : PG' C Z W σ rl2 H (r.bind cont) Q) :
    PG' C Z W σ rl H r fun v H1 => ∃ a g, Ext C H H1 ∧ GOk C g H1 ∧ rl H H1 a v ∧ PG' C Z W σ rl2 H1 (cont a g) Q := by
  cases r with
  | ok a g => exact fun v H' e k f => ⟨a, g, e, k, f, h.shift sh e⟩
  | exc c xs g => exact h
  | bad => exact h
end
section
variable (C : Cst) (Z : Xcs) (W : WX) (σ : L2.St)
abbrev Post := PG' C Z W σ (rlF C)
abbrev PostT := PG' C Z W σ rlT
abbrev PostL := PG' C Z W σ (rlL C)
abbrev PostW := PG' C Z W σ (rlW C)
end

def SRel (C : Cst) (H0 H : Hp) : Slt → Option V → Prop
  | .n, _ => True
  | .s d, x => ∃ v, x = some v ∧ Rep C H d v
  | .o d, x => ∃ a, x = some (.ref a) ∧ H0 a = none ∧ C.no a ∧ Own C H a d
structure Sta (C : Cst) (H0 : Hp) (ρ : Env') (g : G) (σ : St) (H : Hp) : Prop where
  sl : ∀ (i : Nat) (s : Slt), ρ[i]? = some s → ∃ x, σ[i]? = some x ∧ SRel C H0 H s x
  ap : ∀ (i j : Nat) (d e : D) (a : Addr), ρ[i]? = some (.o d) → ρ[j]? = some (.o e) → σ[i]? = some (some (.ref a)) → σ[j]? = some (some (.ref a)) → i = j
  go : GOk C g H
  ex : Ext C H0 H
theorem Own.ext {C : Cst} {g : G} {H H' : Hp} (k : GOk C g H) (e : Ext C H H') {a : Addr} {d : D} (n : C.no a) (h : Own C H a d) : Own C H' a d := by
  have kp := k.keep e
  cases d with
  | lst ds => obtain ⟨xs, h1, h2⟩ := h; exact ⟨xs, e _ _ n h1, h2.keep kp⟩
  | dct kvs => obtain ⟨es, o, h1, h0, h2, h3, h5, h4⟩ := h; exact ⟨es, o, e _ _ n h1, h0, h2, h3, h5, RepE.keep kp _ h4⟩
  | _ => exact h.elim
theorem SRel.ext {C : Cst} {g : G} {H0 H H' : Hp} (k : GOk C g H) (e : Ext C H H') {s : Slt} {x : Option V} (h : SRel C H0 H s x) : SRel C H0 H' s x := by
  cases s with
  | n => trivial
  | s d => obtain ⟨v, h1, h2⟩ := h; exact ⟨v, h1, Rep.keep (k.keep e) _ h2⟩
  | o d => obtain ⟨a, h1, h2, h3, h4⟩ := h; exact ⟨a, h1, h2, h3, h4.ext k e h3⟩
theorem Sta.ext {C : Cst} {H0 H H' : Hp} {ρ : Env'} {g g' : G} {σ : St} (S : Sta C H0 ρ g σ H) (e : Ext C H H') (k : GOk C g' H') : Sta C H0 ρ g' σ H' :=
  ⟨fun i s h => let ⟨x, h1, h2⟩ := S.sl i s h; ⟨x, h1, h2.ext S.go e⟩, S.ap, k, S.ex.trans e⟩
end Ev
end

section
/-! Ev1: the context of a body, what an expression's meaning says. -/
namespace Ev
open PySem PySem.Spec L2

/-! ### weakest readings -/
section
variable (X : Cx)
def wE (e : Expr) : TE := fun σ H Q => ∀ pins s, Inv X pins σ H s → wpAny (model X.prog X.w) X.A (eval e X.env) (EP X pins σ Q) X.xe s
def wT (e : Expr) : TT := fun σ H Q => ∀ pins s, Inv X pins σ H s → wpAny (model X.prog X.w) X.A (isTrue e X.env (eval e X.env)) (TP X pins σ Q) X.xe s
def wA (es : List Expr) : TA := fun σ H Q => ∀ pos pins s, Inv X pins σ H s → wpAny (model X.prog X.w) X.A (spliced (backTo pos (starEach es X.env))) (AP X pins σ Q) X.xe s
def wS (st : Stmt) : TS := fun D σ H => ∀ pins s, Inv X pins σ H s → wpAny (model X.prog X.w) X.A (exec st X.env) (SP X pins D) X.xe s
def wSs (st : List Stmt) : TS := fun D σ H => ∀ pins s, Inv X pins σ H s → wpAny (model X.prog X.w) X.A (execs st X.env) (SP X pins D) X.xe s
def wOp (f : Value → Value → Sem Value) : R2 := fun x y H Q => ∀ pins s σ v u, Inv X pins σ H s → RelV x v → RelV y u → wpAny (model X.prog X.w) X.A (f v u) (EP X pins σ Q) X.xe s
def wCl (f : Value) : List V → Hp → VK → Prop := fun xs H Q => ∀ pins s σ us, Inv X pins σ H s → Vals xs us → wpAny (model X.prog X.w) X.A (call f us) (EP X pins σ Q) X.xe s
def wG (t : Expr) : TG := fun v σ H Q => ∀ pins s u, Inv X pins σ H s → RelV v u → wpAny (model X.prog X.w) X.A (assign t X.env u) (fun _ s' => ∃ σ' H', Inv X pins σ' H' s' ∧ Q σ' H') X.xe s
end
section
variable {X : Cx}
theorem wE.pe {e : Expr} : PE X e (wE X e) := ⟨fun pins s σ H Q I h => h pins s I⟩
theorem wT.pt {e : Expr} : PT X e (wT X e) := ⟨fun pins s σ H Q I h => h pins s I⟩
theorem wA.pa {es : List Expr} : PA X es (wA X es) := ⟨fun pos pins s σ H Q I h => h pos pins s I⟩
theorem wS.ps {st : Stmt} : PS X st (wS X st) := ⟨fun pins s σ H D I h => h pins s I⟩
theorem wSs.pss {st : List Stmt} : PSs X st (wSs X st) := ⟨fun pins s σ H D I h => h pins s I⟩
theorem wOp.op {f : Value → Value → Sem Value} : OpR X f (wOp X f) := fun pins s σ H x y v u Q I r1 r2 h => h pins s σ v u I r1 r2
theorem wCl.cl {f : Value} : CallR X f (wCl X f) := fun pins s σ H xs us Q I r h => h pins s σ us I r
theorem wG.pg {t : Expr} : PG X t (wG X t) := ⟨fun pins s σ H v u Q I r h => h pins s u I r⟩
theorem wE.of {e : Expr} {t : TE} {σ : L2.St} {H : Hp} {Q : VK} (h : PE X e t) (q : t σ H Q) : wE X e σ H Q := fun pins s I => h.run pins s σ H Q I q
theorem wT.of {e : Expr} {t : TT} {σ : L2.St} {H : Hp} {Q : Bool → Hp → Prop} (h : PT X e t) (q : t σ H Q) : wT X e σ H Q := fun pins s I => h.run pins s σ H Q I q
theorem wA.of {es : List Expr} {t : TA} {σ : L2.St} {H : Hp} {Q : List V → Hp → Prop} (h : PA X es t) (q : t σ H Q) : wA X es σ H Q := fun pos pins s I => h.run pos pins s σ H Q I q
theorem wS.of {st : Stmt} {t : TS} {σ : L2.St} {H : Hp} {D : Ends} (h : PS X st t) (q : t D σ H) : wS X st D σ H := fun pins s I => h.run pins s σ H D I q
theorem wSs.of {st : List Stmt} {t : TS} {σ : L2.St} {H : Hp} {D : Ends} (h : PSs X st t) (q : t D σ H) : wSs X st D σ H := fun pins s I => h.run pins s σ H D I q
theorem wOp.of {f : Value → Value → Sem Value} {r : R2} {x y : V} {H : Hp} {Q : VK} (h : OpR X f r) (q : r x y H Q) : wOp X f x y H Q := fun pins s σ v u I r1 r2 => h pins s σ H x y v u Q I r1 r2 q
theorem wCl.of {f : Value} {r : List V → Hp → VK → Prop} {xs : List V} {H : Hp} {Q : VK} (h : CallR X f r) (q : r xs H Q) : wCl X f xs H Q := fun pins s σ us I r => h pins s σ H xs us Q I r q
theorem wG.of {t : Expr} {g : TG} {v : V} {σ : L2.St} {H : Hp} {Q : L2.St → Hp → Prop} (h : PG X t g) (q : g v σ H Q) : wG X t v σ H Q := fun pins s u I r => h.run pins s σ H v u Q I r q
theorem wE.mono {e : Expr} {σ : L2.St} {H : Hp} {Q Q' : VK} (h : wE X e σ H Q) (m : ∀ v H', Q v H' → Q' v H') : wE X e σ H Q' := fun pins s I =>
  thn (h pins s I) fun _ _ ⟨v, H', I', r, q⟩ => ⟨v, H', I', r, m _ _ q⟩
theorem wT.mono {e : Expr} {σ : L2.St} {H : Hp} {Q Q' : Bool → Hp → Prop} (h : wT X e σ H Q) (m : ∀ v H', Q v H' → Q' v H') : wT X e σ H Q' := fun pins s I =>
  thn (h pins s I) fun _ _ ⟨H', I', q⟩ => ⟨H', I', m _ _ q⟩
end

/-! ### the text's names, the context -/
structure Tab where
  fns : List (Str × Nat)
  cons : List (Str × D)
  excs : List Str
  sub : List (Nat × List Bool)

def spF (C : Cst) (Z : Xcs) (F : FT) (i n : Nat) : Sp := fun vs H Q E => vs.length = n ∧ ∃ ds g, Reps C H ds vs ∧ GOk C g H ∧ match F i ds g with
  | .ok (d, fr) g' => ∀ v H', Ext C H H' → GOk C g' H' → FRep C H H' (if fr then .f else .s) d v → Q v H'
  | .exc c xs g' => ∀ cv od H', Ext C H H' → GOk C g' H' → XRep Z c xs cv od H' → E cv od H'
  | .bad => False
structure FnG (C : Cst) (Z : Xcs) (k : Nat) (F : FT) (i n : Nat) (a : Addr) (X : Cx) : Prop where
  ok : ∃ fd ps, FnOk X.prog X.w X.K X.mg X.base (L2.CX X.prog X.w) k a fd ps (spF C Z F i n) ∧ Binds X.K fd ps [] ∧ ps.length = n
  kp : PySem.W.keepIn X.K (.ref a) = true

def veB : List Value := [.type "ValueError", .type "Exception", .type "BaseException", .type "object"]
structure ExcIn (K : PySem.W.Frag) (c : Addr) : Prop where
  ex : PySem.W.excIn K c veB "ValueError.__new__" = true
  kp : PySem.W.keepIn K (.ref c) = true
  sub : PySem.W.subIn K (.ref c) (.type "BaseException") = some true
  ty : PySem.W.typeIn K (.ref c) = some (.type "type")
def bnames : List Str := ["abs", "all", "any", "dict", "enumerate", "int", "isinstance", "len", "list", "max", "min", "range", "set", "sorted", "str", "sum", "tuple", "zip", "bool", "super", "ValueError"]

structure Ctx (C : Cst) (Z : Xcs) (T : Tab) (k : Nat) (F : FT) (W : WX) (N : List Str) (sc : Scope) (X : Cx) : Prop where
  hK : X.K = C.K
  hw : X.w = C.w
  calm : X.calm = true
  hN : X.N = N
  nd : N.Nodup
  sc : X.env.scope = sc
  room : Room (k + 1) X.A
  fns : ∀ (i : Nat) x n, T.fns[i]? = some (x, n) → ∃ a, X.mg x = some (.ref a) ∧ C.fa i = some a ∧ FnG C Z k F i n a X
  cons : ∀ x d, (x, d) ∈ T.cons → ∃ u v, X.mg x = some u ∧ RelV v u ∧ Rep C (fun _ => none) d v
  bl : ∀ x ∈ bnames, X.mg x = none
  xcs : ∀ (i : Nat) x, T.excs[i]? = some x → ∃ c, X.mg x = some (.ref c) ∧ Z.cls i = some c ∧ ExcIn X.K c
  tk : Takes X W

/-- a meaning f is sound for a reading wt -/
def Snd {α β : Type} (T : Tab) (N : List Str) (sc : Scope) (rl : Cst → Rl α β) (wt : Cx → L2.St → Hp → (β → Hp → Prop) → Prop) (f : FT → Env' → G → R α) : Prop :=
  ∀ (C : Cst) (Z : Xcs) (k : Nat) (F : FT) (W : WX) (X : Cx), Ctx C Z T k F W N sc X → ∀ H0 ρ g σ H, Sta C H0 ρ g σ H → ∀ Q, PG' C Z W σ (rl C) H (f F ρ g) Q → wt X σ H Q
section
variable (T : Tab) (N : List Str) (sc : Scope)
abbrev SE (e : Expr) (f : Den) : Prop := Snd T N sc rlF (fun X => wE X e) f
abbrev STt (e : Expr) (f : DenT) : Prop := Snd T N sc (fun _ => rlT) (fun X => wT X e) f
/-- arguments that are handed on: none is one's own any more -/
abbrev SL (es : List Expr) (f : DenL) : Prop := Snd T N sc rlL (fun X => wA X es) f
/-- arguments that are only read -/
abbrev SLw (es : List Expr) (f : DenL) : Prop := Snd T N sc rlW (fun X => wA X es) f
end
theorem Snd.then {α β γ δ : Type} {T : Tab} {N : List Str} {sc : Scope} {rl : Cst → Rl α β} {wt : Cx → L2.St → Hp → (β → Hp → Prop) → Prop} {f : FT → Env' → G → R α} (ha : Snd T N sc rl wt f)
    {C : Cst} {Z : Xcs} {k : Nat} {F : FT} {W : WX} {X : Cx} (cx : Ctx C Z T k F W N sc X) {H0 : Hp} {ρ : Env'} {g : G} {σ : L2.St} {H : Hp} (S : Sta C H0 ρ g σ H) {rl2 : Rl γ δ} (sh : Shift C rl2) {cont : α → G → R γ} {Q : δ → Hp → Prop} {Q' : β → Hp → Prop}
    (hp : PG' C Z W σ rl2 H ((f F ρ g).bind cont) Q) (K : ∀ a g1 v H1, Ext C H H1 → GOk C g1 H1 → rl C H H1 a v → Sta C H0 ρ g1 σ H1 → PG' C Z W σ rl2 H1 (cont a g1) Q → Q' v H1) : wt X σ H Q' :=
  ha C Z k F W X cx H0 ρ g σ H S _ ((hp.bind sh).mono fun v H1 ⟨a, g1, e, k1, r, p⟩ => K a g1 v H1 e k1 r (S.ext e k1) p)

theorem FRep.w {C : Cst} {H H' : Hp} {fl : Fl} {d : D} {v : V} (h : FRep C H H' fl d v) : WRep C H' d v := by
  cases fl with
  | s => exact .inl h
  | f => obtain ⟨a, h1, _, h2, h3⟩ := h; exact .inr ⟨a, h1, h2, h3⟩
  | w => obtain ⟨a, h1, h2, h3⟩ := h; exact .inr ⟨a, h1, h2, h3⟩
theorem WRep.ext {C : Cst} {g : G} {H H' : Hp} (k : GOk C g H) (e : Ext C H H') {d : D} {v : V} (h : WRep C H d v) : WRep C H' d v := by
  rcases h with h | ⟨a, h1, h2, h3⟩
  · exact .inl (Rep.keep (k.keep e) _ h)
  · exact .inr ⟨a, h1, h2, h3.ext k e h2⟩
theorem WReps.ext {C : Cst} {g : G} {H H' : Hp} (k : GOk C g H) (e : Ext C H H') : ∀ {ds : List D} {vs : List V}, WReps C H ds vs → WReps C H' ds vs
  | [], _, h => h
  | d :: ds, _, h => by
    obtain ⟨x, ys, e1, r, rs⟩ := h
    exact ⟨x, ys, e1, r.ext k e, WReps.ext k e rs⟩
end Ev
end

section
/-! Ev2: expressions: names, numbers, displays, operators, tests. -/
namespace Ev
open PySem PySem.Spec L2

def LN : Nat := 16777216
theorem LN_eq : (sizeLine : Nat) = LN := sizeLine_eq

/-! ### a list or dict of one's own is handed on: from then on it never changes -/
def R.fz (r : R (D × Fl)) : R (D × Fl) := match r with
  | .ok (d, .s) g => .ok (d, .s) g
  | .ok (d, .f) g => .ok (d, .s) g
  | .ok (_, .w) _ => .bad
  | .exc c xs g => .exc c xs g
  | .bad => .bad
def dFz (f : Den) : Den := fun F ρ g => (f F ρ g).fz
theorem Own.mut {C : Cst} {H : Hp} {a : Addr} {d : D} (h : Own C H a d) : ∃ u, H a = some u ∧ Mut (some u) ∧ ¬ Imm u ∧ ∀ od, Rep C (upd H a (.frz od u)) d (.ref a) := by
  have kp : ∀ u, H a = some u → ¬ Imm u → ∀ od, Keep H (upd H a (.frz od u)) := fun u hu ni od b w i e => by
    rw [upd_ne (fun q => by subst q; rw [hu] at e; cases e; exact ni i)]; exact e
  cases d with
  | lst ds =>
    obtain ⟨xs, h1, h2⟩ := h
    exact ⟨_, h1, trivial, fun z => z, fun od => ⟨a, xs, rfl, .inl ⟨od, upd_same⟩, h2.keep (kp _ h1 (fun z => z) od)⟩⟩
  | dct kvs =>
    obtain ⟨es, o, h1, h0, h2, h3, h5, h4⟩ := h
    exact ⟨_, h1, trivial, fun z => z, fun od => ⟨a, es, rfl, ⟨o, .inl ⟨od, upd_same⟩, h0⟩, h2, h3, h5, RepE.keep (kp _ h1 (fun z => z) od) _ h4⟩⟩
  | _ => exact h.elim
theorem wE.lockOr {X : Cx} {e : Expr} {σ : L2.St} {H : Hp} {Q : VK} (h : wE X e σ H fun v H1 => Q v H1 ∨ ∃ a u, v = .ref a ∧ H1 a = some u ∧ Mut (some u) ∧ ∀ od, Q v (upd H1 a (.frz od u))) : wE X e σ H Q := fun pins s I =>
  thn (h pins s I) fun _ _ ⟨v, H', I', r, q⟩ => by
    rcases q with q | ⟨a, u, rfl, h1, m, q⟩
    · exact ⟨v, H', I', r, q⟩
    · obtain ⟨od, I2⟩ := Inv.lock I' h1 m
      exact ⟨_, _, I2, r, q od⟩

section
variable {T : Tab} {N : List Str} {sc : Scope}
theorem SE.fz {e : Expr} {f : Den} (h : SE T N sc e f) : SE T N sc e (dFz f) := by
  intro C Z k F W X cx H0 ρ g σ H S Q hp
  refine wE.lockOr (h C Z k F W X cx H0 ρ g σ H S _ ?_)
  unfold dFz at hp
  cases q : f F ρ g with
  | bad => rw [q] at hp; exact hp
  | exc c xs g' => rw [q] at hp; exact hp
  | ok a g' =>
    obtain ⟨d, fl⟩ := a
    rw [q] at hp
    cases fl with
    | s => exact fun v H' e k r => .inl (hp v H' e k r)
    | w => exact hp.elim
    | f =>
      rintro v H' e k ⟨a, rfl, h1, h2, h3⟩
      obtain ⟨u, m1, m2, m3, m4⟩ := h3.mut
      refine .inr ⟨a, u, rfl, m1, m2, fun od => hp _ _ (fun b w nb hb => ?_) (k.upd h2) (m4 od)⟩
      rw [upd_ne (ne_of_none hb h1)]; exact e b w nb hb

/-! ### names and constants -/
def dVar (i : Nat) : Den := fun _ ρ g => match ρ[i]? with
  | some (.s d) => .ok (d, .s) g
  | some (.o d) => .ok (d, .w) g
  | _ => .bad
def dC (d : D) : Den := fun _ _ g => .ok (d, .s) g
theorem SE.var {x : Str} {i : Nat} {pos : Pos} (hi : N[i]? = some x) (hv : Vis sc x) (hd : (x == ("__debug__" : Str)) = false) (hcd : (x == ("__classdict__" : Str)) = false) : SE T N sc (.Name x pos) (dVar i) := by
  intro C Z k F W X cx H0 ρ g σ H S Q hp
  refine wE.of (pe_var (i := i) (by rw [cx.hN]; exact hi) (by rw [cx.sc]; exact hv) hd hcd) ?_
  unfold dVar at hp
  cases q : ρ[i]? with
  | none => rw [q] at hp; exact hp.elim
  | some sl =>
    rw [q] at hp
    obtain ⟨x', h1, h2⟩ := S.sl i sl q
    cases sl with
    | n => exact hp.elim
    | s d =>
      obtain ⟨v, rfl, r⟩ := h2
      exact ⟨v, h1, hp v H (.refl _ _) S.go r⟩
    | o d =>
      obtain ⟨a, rfl, h3, h4, h5⟩ := h2
      exact ⟨_, h1, hp _ H (.refl _ _) S.go ⟨a, rfl, h4, h5⟩⟩
theorem SE.glob {x : Str} {d : D} {pos : Pos} (hg : sc.names.lookup x = some .globalImplicit) (hc : (x, d) ∈ T.cons) (hd : (x == ("__debug__" : Str)) = false) : SE T N sc (.Name x pos) (dC d) := by
  intro C Z k F W X cx H0 ρ g σ H S Q hp
  obtain ⟨u, v, h1, h2, h3⟩ := cx.cons x d hc
  have hg' : Gl X x := by show X.env.scope.names.lookup x = _; rw [cx.sc]; exact hg
  exact wE.of (pe_glob hg' h1 h2 hd) (hp v H (.refl _ _) S.go (Rep.keep (fun _ _ _ z => absurd (show (none : Option HO) = some _ from z) (by simp)) d h3))
theorem SE.fnv {x : Str} {i n : Nat} {pos : Pos} (hg : sc.names.lookup x = some .globalImplicit) (hf : T.fns[i]? = some (x, n)) (hd : (x == ("__debug__" : Str)) = false) : SE T N sc (.Name x pos) (dC (.fn i)) := by
  intro C Z k F W X cx H0 ρ g σ H S Q hp
  obtain ⟨a, h1, h2, h3⟩ := cx.fns i x n hf
  have hg' : Gl X x := by show X.env.scope.names.lookup x = _; rw [cx.sc]; exact hg
  exact wE.of (pe_glob (v := .ref a) hg' h1 rfl hd) (hp _ H (.refl _ _) S.go ⟨a, h2, rfl⟩)
theorem SE.int {i : Int} {j pos} : SE T N sc (.Constant (.int i) j pos) (dC (.int i)) := by
  intro C Z k F W X cx H0 ρ g σ H S Q hp
  exact wE.of pe_int (hp _ H (.refl _ _) S.go rfl)
theorem SE.bl {b : Bool} {j pos} : SE T N sc (.Constant (.bool b) j pos) (dC (.bl b)) := by
  intro C Z k F W X cx H0 ρ g σ H S Q hp
  exact wE.of pe_bl (hp _ H (.refl _ _) S.go rfl)
theorem SE.non {j pos} : SE T N sc (.Constant .none j pos) (dC .non) := by
  intro C Z k F W X cx H0 ρ g σ H S Q hp
  exact wE.of pe_non (hp _ H (.refl _ _) S.go rfl)
theorem str_arr (x : Str) : (⟨x.cps.toList.toArray⟩ : Str) = x := by cases x; simp
theorem SE.str {x : Str} {j pos} : SE T N sc (.Constant (.str x) j pos) (dC (.str x.cps.toList)) := by
  intro C Z k F W X cx H0 ρ g σ H S Q hp
  exact wE.of pe_str (hp _ H (.refl _ _) S.go (by show V.str x = _; rw [str_arr]))

/-! ### argument lists -/
def notStar : Expr → Bool
  | .Starred _ _ => false
  | _ => true
theorem star_of {e : Expr} {es : List Expr} {env : Env} (h : notStar e = true) : starEach (e :: es) env = (false, eval e env) :: starEach es env := by
  cases e <;> first | rfl | exact Bool.noConfusion h
def dNil : DenL := fun _ _ g => .ok [] g
def dCons (f : Den) (r : DenL) : DenL := fun F ρ g => (f F ρ g).bind fun a g1 => (r F ρ g1).bind fun b g2 => .ok (a.1 :: b) g2
theorem SL.nil : SL T N sc [] dNil := by
  intro C Z k F W X cx H0 ρ g σ H S Q hp
  exact wA.of pa_nil (hp _ H (.refl _ _) S.go rfl)
theorem SLw.nil : SLw T N sc [] dNil := by
  intro C Z k F W X cx H0 ρ g σ H S Q hp
  exact wA.of pa_nil (hp _ H (.refl _ _) S.go rfl)
theorem fz_s {f : Den} {F : FT} {ρ : Env'} {g : G} {a : D × Fl} {g1 : G} (h : dFz f F ρ g = .ok a g1) : a.2 = .s := by
  unfold dFz R.fz at h
  split at h <;> first | (cases h; rfl) | cases h
theorem SL.cons {e : Expr} {es : List Expr} {f : Den} {r : DenL} (hs : notStar e = true) (h : SE T N sc e f) (hr : SL T N sc es r) : SL T N sc (e :: es) (dCons (dFz f) r) := by
  intro C Z k F W X cx H0 ρ g σ H S Q hp
  refine wA.of (pa_cons wE.pe wA.pa (star_of hs)) ?_
  have key : ∀ a g1, dFz f F ρ g = .ok a g1 → a.2 = .s := fun a g1 q => fz_s q
  unfold dCons at hp
  cases q : dFz f F ρ g with
  | bad => rw [q] at hp; exact hp.elim
  | exc c xs g' => rw [q] at hp; exact h.fz C Z k F W X cx H0 ρ g σ H S _ (by rw [q]; exact hp)
  | ok a g1 =>
    have ha := key a g1 q
    obtain ⟨d, fl⟩ := a
    obtain rfl : fl = .s := ha
    rw [q] at hp
    refine h.fz C Z k F W X cx H0 ρ g σ H S _ ?_
    rw [q]
    intro v H1 e1 k1 r1
    have S1 := S.ext e1 k1
    refine hr.then cx S1 (rlL.sh) (PG'.shift rlL.sh e1 hp) fun b g2 vs H2 e2 k2 r2 S2 p2 => ?_
    exact p2 _ H2 (.refl _ _) k2 (.cons (Rep.keep (k1.keep e2) _ r1) r2)
theorem SLw.cons {e : Expr} {es : List Expr} {f : Den} {r : DenL} (hs : notStar e = true) (h : SE T N sc e f) (hr : SLw T N sc es r) : SLw T N sc (e :: es) (dCons f r) := by
  intro C Z k F W X cx H0 ρ g σ H S Q hp
  refine wA.of (pa_cons wE.pe wA.pa (star_of hs)) ?_
  refine h.then cx S rlW.sh hp fun a g1 v H1 e1 k1 r1 S1 p1 => ?_
  refine hr.then cx S1 rlW.sh p1 fun b g2 vs H2 e2 k2 r2 S2 p2 => ?_
  exact p2 _ H2 (.refl _ _) k2 ⟨v, vs, rfl, (FRep.w r1).ext k1 e2, r2⟩

/-! ### displays -/
def dTup (f : DenL) : Den := fun F ρ g => (f F ρ g).bind fun ds g1 => if ds.length ≤ LN then .ok (.tup ds, .s) g1 else .bad
def dLst (f : DenL) : Den := fun F ρ g => (f F ρ g).bind fun ds g1 => if ds.length ≤ LN then .ok (.lst ds, .f) g1 else .bad
theorem Keep.new {H : Hp} {p : Addr} {o : HO} (h : H p = none) : Keep H (upd H p o) := fun b u _ e => by
  rw [upd_ne (ne_of_none e h)]; exact e
theorem pe_tupP {X : Cx} {es : List Expr} {ta : TA} {k0 : Nat} {pos : Pos} (h : PA X es ta) : PE X (.Tuple es k0 pos) (fun σ H Q => ta σ H fun xs H1 => xs.length ≤ sizeLine ∧ ∀ (p : Addr) (us : List Value), H1 p = none → Q (.ref p) (upd H1 p (.frz (tupO us) (.tup xs)))) := by
  refine ⟨fun pins s σ H Q I hq => ?_⟩
  refine wpAny_Tuple_spliced (thn (h.run pos pins s σ H _ I hq) fun us s1 ⟨xs, H1, I1, r, z, q⟩ => ⟨by rw [← r.length]; exact z, ?_⟩)
  exact ⟨.ref s1.heap.objs.size, _, Inv.tupNew I1 r z, rfl, q _ us (I1.hok.fresh (Nat.le_refl _))⟩
theorem SE.tup {es : List Expr} {f : DenL} {k0 : Nat} {pos : Pos} (h : SL T N sc es f) : SE T N sc (.Tuple es k0 pos) (dTup f) := by
  intro C Z k F W X cx H0 ρ g σ H S Q hp
  refine wE.of (pe_tupP wA.pa) ?_
  refine h.then cx S rlF.sh hp fun ds g1 vs H1 e1 k1 r1 S1 p1 => ?_
  split at p1
  · rename_i hl
    refine ⟨by rw [r1.length, LN_eq]; exact hl, fun p us hn => p1 _ _ (.new hn) (k1.upd (k1.no hn)) ⟨p, vs, rfl, .new, r1.keep (.new hn)⟩⟩
  · exact p1.elim
theorem SE.lst {es : List Expr} {f : DenL} {pos : Pos} (h : SL T N sc es f) : SE T N sc (.List es pos) (dLst f) := by
  intro C Z k F W X cx H0 ρ g σ H S Q hp
  refine wE.of (pe_lst wA.pa) ?_
  refine h.then cx S rlF.sh hp fun ds g1 vs H1 e1 k1 r1 S1 p1 => ?_
  split at p1
  · rename_i hl
    refine ⟨by rw [r1.length, LN_eq]; exact hl, fun p hn => p1 _ _ (.new hn) (k1.upd (k1.no hn)) ⟨p, rfl, hn, k1.no hn, vs, upd_same, r1.keep (.new hn)⟩⟩
  · exact p1.elim

/-! ### operators -/
/-- a value with its flag, as it lies -/
def FW (C : Cst) (H : Hp) (a : D × Fl) (v : V) : Prop := match a.2 with
  | .s => Rep C H a.1 v
  | _ => ∃ b, v = .ref b ∧ C.no b ∧ Own C H b a.1
theorem FRep.fw {C : Cst} {H H' : Hp} {a : D × Fl} {v : V} (h : rlF C H H' a v) : FW C H' a v := by
  obtain ⟨d, fl⟩ := a
  cases fl with
  | s => exact h
  | f => obtain ⟨a, h1, _, h2, h3⟩ := h; exact ⟨a, h1, h2, h3⟩
  | w => exact h
theorem FW.w {C : Cst} {H : Hp} {a : D × Fl} {v : V} (h : FW C H a v) : WRep C H a.1 v := by
  obtain ⟨d, fl⟩ := a
  cases fl with
  | s => exact .inl h
  | f => exact .inr h
  | w => exact .inr h
theorem FW.ext {C : Cst} {g : G} {H H' : Hp} (k : GOk C g H) (e : Ext C H H') {a : D × Fl} {v : V} (h : FW C H a v) : FW C H' a v := by
  obtain ⟨d, fl⟩ := a
  cases fl with
  | s => exact Rep.keep (k.keep e) _ h
  | f => obtain ⟨a, h1, h2, h3⟩ := h; exact ⟨a, h1, h2, h3.ext k e h2⟩
  | w => obtain ⟨a, h1, h2, h3⟩ := h; exact ⟨a, h1, h2, h3.ext k e h2⟩
abbrev Op2 := D × Fl → D × Fl → Option (D × Fl)
def OpOk (f : Value → Value → Sem Value) (o : Op2) : Prop :=
  ∀ {C : Cst} {Z : Xcs} {T : Tab} {k : Nat} {F : FT} {W : WX} {N : List Str} {sc : Scope} {X : Cx}, Ctx C Z T k F W N sc X → ∀ {d1 d2 : D × Fl} {x y : V} {H : Hp} {g : G} {res : D × Fl}, o d1 d2 = some res → FW C H d1 x → FW C H d2 y → GOk C g H →
    ∀ Q, (∀ v H', Ext C H H' → GOk C g H' → rlF C H H' res v → Q v H') → wOp X f x y H Q
def dBin (o : Op2) (f h : Den) : Den := fun F ρ g => (f F ρ g).bind fun a g1 => (h F ρ g1).bind fun b g2 => match o a b with
  | some r => .ok r g2
  | none => .bad
theorem binD {a b : Expr} {f h : Den} {o : Op2} {op : Value → Value → Sem Value} (ho : OpOk op o) (ha : SE T N sc a f) (hb : SE T N sc b h) {C : Cst} {Z : Xcs} {k : Nat} {F : FT} {W : WX} {X : Cx} (cx : Ctx C Z T k F W N sc X)
    {H0 : Hp} {ρ : Env'} {g : G} {σ : L2.St} {H : Hp} (S : Sta C H0 ρ g σ H) {Q : VK} (hp : Post C Z W σ H (dBin o f h F ρ g) Q) : tOp (wOp X op) (wE X a) (wE X b) σ H Q := by
  refine ha.then cx S rlF.sh hp fun a1 g1 x H1 e1 k1 r1 S1 p1 => ?_
  refine hb.then cx S1 rlF.sh p1 fun b1 g2 y H2 e2 k2 r2 S2 p2 => ?_
  split at p2
  · rename_i res hr
    exact ho cx hr ((FRep.fw r1).ext k1 e2) (FRep.fw r2) k2 Q p2
  · exact p2.elim
theorem SE.bin {a b : Expr} {f h : Den} {o : Op2} {op : Operator} {pos : Pos} (ho : OpOk (binaryOp op) o) (ha : SE T N sc a f) (hb : SE T N sc b h) : SE T N sc (.BinOp a op b pos) (dBin o f h) := by
  intro C Z k F W X cx H0 ρ g σ H S Q hp
  exact wE.of (pe_op wOp.op wE.pe wE.pe) (binD ho ha hb cx S hp)
def notSet : Expr → Bool
  | .Set _ _ _ => false
  | _ => true
theorem marks_of {op : CmpOp} {b : Expr} (h : notSet b = true) : behindInMarks op b = false := by
  cases b <;> first | rfl | exact Bool.noConfusion h
theorem SE.cmp {a b : Expr} {f h : Den} {o : Op2} {op : CmpOp} {pos : Pos} (hs : notSet b = true) (ho : OpOk (compareOp op) o) (ha : SE T N sc a f) (hb : SE T N sc b h) : SE T N sc (.Compare a [op] [b] pos) (dBin o f h) := by
  intro C Z k F W X cx H0 ρ g σ H S Q hp
  exact wE.of (pe_cmpR wOp.op wE.pe wE.pe (marks_of hs)) (binD ho ha hb cx S hp)
/-- a truth value as a test -/
def R.tst (r : R (D × Fl)) : R Bool := r.bind fun a g => match a.1 with
  | .bl b => .ok b g
  | _ => .bad
def dT (f : Den) : DenT := fun F ρ g => (f F ρ g).tst
theorem WRep.bl {C : Cst} {H : Hp} {b : Bool} {v : V} (h : WRep C H (.bl b) v) : v = .bl b := by
  rcases h with h | ⟨a, _, _, h⟩
  · exact h
  · exact h.elim
theorem tstD {e : Expr} {f : Den} (he : SE T N sc e f) {C : Cst} {Z : Xcs} {k : Nat} {F : FT} {W : WX} {X : Cx} (cx : Ctx C Z T k F W N sc X)
    {H0 : Hp} {ρ : Env'} {g : G} {σ : L2.St} {H : Hp} (S : Sta C H0 ρ g σ H) {Q : Bool → Hp → Prop} (hp : PostT C Z W σ H (dT f F ρ g) Q) : wE X e σ H fun x H1 => ∃ c, x = .bl c ∧ Q c H1 := by
  refine he.then cx S rlT.sh hp fun a1 g1 x H1 e1 k1 r1 S1 p1 => ?_
  obtain ⟨d, fl⟩ := a1
  cases d with
  | bl b => exact ⟨b, (FRep.w r1).bl, p1 _ H1 (.refl _ _) k1 rfl⟩
  | _ => exact p1.elim
theorem STt.cmp {a b : Expr} {f h : Den} {o : Op2} {op : CmpOp} {pos : Pos} (hs : notSet b = true) (ho : OpOk (compareOp op) o) (ha : SE T N sc a f) (hb : SE T N sc b h) : STt T N sc (.Compare a [op] [b] pos) (dT (dBin o f h)) := by
  intro C Z k F W X cx H0 ρ g σ H S Q hp
  refine wT.of (pt_cmpR wOp.op wE.pe wE.pe (marks_of hs)) ?_
  show tOp (wOp X (compareOp op)) (wE X a) (wE X b) σ H _
  unfold dT R.tst at hp
  refine binD ho ha hb cx S ((hp.bind rlT.sh).mono fun x H1 ⟨r, g', e1, k1, rr, p1⟩ => ?_)
  obtain ⟨d, fl⟩ := r
  cases d with
  | bl b => exact ⟨b, (FRep.w rr).bl, p1 _ H1 (.refl _ _) k1 rfl⟩
  | _ => exact p1.elim
/-- the tests that are no and, or, not, comparison, conditional: by their value -/
def plainTest : Expr → Bool
  | .UnaryOp .Not _ _ => false
  | .BoolOp _ _ _ => false
  | .IfExp _ _ _ _ => false
  | .Compare _ _ _ _ => false
  | _ => true
theorem plain_of {e : Expr} (h : plainTest e = true) (env : Env) (whole : Sem Value) : isTrue e env whole = (do let v ← whole; standAt e.pos; holding [v] (truthy v)) := by
  cases e with
  | UnaryOp op x p => cases op <;> first | rfl | exact Bool.noConfusion h
  | BoolOp => exact Bool.noConfusion h
  | IfExp => exact Bool.noConfusion h
  | Compare => exact Bool.noConfusion h
  | _ => rfl
theorem STt.val {e : Expr} {f : Den} (hp' : plainTest e = true) (he : SE T N sc e f) : STt T N sc e (dT f) := by
  intro C Z k F W X cx H0 ρ g σ H S Q hp
  exact wT.of (pt_val wE.pe (fun whole => plain_of hp' X.env whole)) (tstD he cx S hp)
def tNot' (f : DenT) : DenT := fun F ρ g => (f F ρ g).bind fun b g1 => .ok (!b) g1
theorem STt.not {e : Expr} {f : DenT} {pos : Pos} (h : STt T N sc e f) : STt T N sc (.UnaryOp .Not e pos) (tNot' f) := by
  intro C Z k F W X cx H0 ρ g σ H S Q hp
  refine wT.of (pt_not wT.pt) ?_
  refine h.then cx S rlT.sh hp fun b g1 c H1 e1 k1 r1 S1 p1 => ?_
  obtain rfl : c = b := r1
  exact p1 _ H1 (.refl _ _) k1 rfl
def dNot (f : Den) : Den := fun F ρ g => (f F ρ g).bind fun a g1 => match a.1 with
  | .bl b => .ok (.bl (!b), .s) g1
  | _ => .bad
theorem SE.not {e : Expr} {f : Den} {pos : Pos} (h : SE T N sc e f) : SE T N sc (.UnaryOp .Not e pos) (dNot f) := by
  intro C Z k F W X cx H0 ρ g σ H S Q hp
  refine wE.of (pe_not wE.pe) ?_
  refine h.then cx S rlF.sh hp fun a1 g1 x H1 e1 k1 r1 S1 p1 => ?_
  obtain ⟨d, fl⟩ := a1
  cases d with
  | bl b => exact ⟨b, (FRep.w r1).bl, p1 _ H1 (.refl _ _) k1 rfl⟩
  | _ => exact p1.elim
def dNeg (f : Den) : Den := fun F ρ g => (f F ρ g).bind fun a g1 => match a.1 with
  | .int i => .ok (.int (-i), .s) g1
  | _ => .bad
theorem WRep.int {C : Cst} {H : Hp} {i : Int} {v : V} (h : WRep C H (.int i) v) : v = .int i := by
  rcases h with h | ⟨a, _, _, h⟩
  · exact h
  · exact h.elim
theorem WRep.str {C : Cst} {H : Hp} {i : List Nat} {v : V} (h : WRep C H (.str i) v) : v = .str ⟨i.toArray⟩ := by
  rcases h with h | ⟨a, _, _, h⟩
  · exact h
  · exact h.elim
theorem WRep.non {C : Cst} {H : Hp} {v : V} (h : WRep C H .non v) : v = .non := by
  rcases h with h | ⟨a, _, _, h⟩
  · exact h
  · exact h.elim
theorem WRep.tup {C : Cst} {H : Hp} {ds : List D} {v : V} (h : WRep C H (.tup ds) v) : ∃ a xs, v = .ref a ∧ PlT C.K H a xs ∧ Reps C H ds xs := by
  rcases h with h | ⟨a, _, _, h⟩
  · exact h
  · exact h.elim
theorem WRep.lst {C : Cst} {H : Hp} {ds : List D} {v : V} (h : WRep C H (.lst ds) v) : ∃ a xs, v = .ref a ∧ SqL C.K H a xs ∧ Reps C H ds xs := by
  rcases h with ⟨a, xs, e, s, r⟩ | ⟨a, e, _, xs, s, r⟩
  · exact ⟨a, xs, e, s.sq, r⟩
  · exact ⟨a, xs, e, .of s, r⟩
theorem SE.neg {e : Expr} {f : Den} {pos : Pos} (h : SE T N sc e f) : SE T N sc (.UnaryOp .USub e pos) (dNeg f) := by
  intro C Z k F W X cx H0 ρ g σ H S Q hp
  refine wE.of (pe_un un_neg wE.pe) ?_
  refine h.then cx S rlF.sh hp fun a1 g1 x H1 e1 k1 r1 S1 p1 => ?_
  obtain ⟨d, fl⟩ := a1
  cases d with
  | int b => exact ⟨b, (FRep.w r1).int, p1 _ H1 (.refl _ _) k1 rfl⟩
  | _ => exact p1.elim

/-! ### and, or, conditional -/
def tAnd' (f h : DenT) : DenT := fun F ρ g => (f F ρ g).bind fun b g1 => if b then h F ρ g1 else .ok false g1
def tOr' (f h : DenT) : DenT := fun F ρ g => (f F ρ g).bind fun b g1 => if b then .ok true g1 else h F ρ g1
/-- the soundness of a chain of tests -/
def wW (X : Cx) (e : Expr) : TT := fun σ H Q => ∀ (whole : Sem Value) pins s, Inv X pins σ H s → wpAny (model X.prog X.w) X.A (isTrue e X.env whole) (TP X pins σ Q) X.xe s
theorem wW.pw {X : Cx} {e : Expr} : PW X e (wW X e) := ⟨fun wh pins s σ H Q I h => h wh pins s I⟩
theorem wW.of {X : Cx} {e : Expr} {t : TT} {σ : L2.St} {H : Hp} {Q : Bool → Hp → Prop} (h : PW X e t) (q : t σ H Q) : wW X e σ H Q := fun wh pins s I => h.run wh pins s σ H Q I q
abbrev SW (T : Tab) (N : List Str) (sc : Scope) (e : Expr) (f : DenT) : Prop := Snd T N sc (fun _ => rlT) (fun X => wW X e) f
theorem SW.t {e : Expr} {f : DenT} (h : SW T N sc e f) : STt T N sc e f := by
  intro C Z k F W X cx H0 ρ g σ H S Q hp
  exact wT.of wW.pw.pt (h C Z k F W X cx H0 ρ g σ H S Q hp)
theorem SW.one {op : BoolOp} {a : Expr} {f : DenT} {pos : Pos} (h : STt T N sc a f) : SW T N sc (.BoolOp op [a] pos) f := by
  intro C Z k F W X cx H0 ρ g σ H S Q hp
  cases op with
  | And => exact wW.of (pw_and1 wT.pt) (h C Z k F W X cx H0 ρ g σ H S Q hp)
  | Or => exact wW.of (pw_or1 wT.pt) (h C Z k F W X cx H0 ρ g σ H S Q hp)
theorem SW.and {a b : Expr} {rest : List Expr} {f h : DenT} {pos : Pos} (ha : STt T N sc a f) (hb : SW T N sc (.BoolOp .And (b :: rest) pos) h) : SW T N sc (.BoolOp .And (a :: b :: rest) pos) (tAnd' f h) := by
  intro C Z k F W X cx H0 ρ g σ H S Q hp
  refine wW.of (pw_and wT.pt wW.pw) ?_
  refine ha.then cx S rlT.sh hp fun b1 g1 c H1 e1 k1 r1 S1 p1 => ?_
  obtain rfl : c = b1 := r1
  cases c with
  | true => exact hb C Z k F W X cx H0 ρ g1 σ H1 S1 Q p1
  | false => exact p1 _ H1 (.refl _ _) k1 rfl
theorem SW.or {a b : Expr} {rest : List Expr} {f h : DenT} {pos : Pos} (ha : STt T N sc a f) (hb : SW T N sc (.BoolOp .Or (b :: rest) pos) h) : SW T N sc (.BoolOp .Or (a :: b :: rest) pos) (tOr' f h) := by
  intro C Z k F W X cx H0 ρ g σ H S Q hp
  refine wW.of (pw_or wT.pt wW.pw) ?_
  refine ha.then cx S rlT.sh hp fun b1 g1 c H1 e1 k1 r1 S1 p1 => ?_
  obtain rfl : c = b1 := r1
  cases c with
  | false => exact hb C Z k F W X cx H0 ρ g1 σ H1 S1 Q p1
  | true => exact p1 _ H1 (.refl _ _) k1 rfl
def dAnd (f h : Den) : Den := fun F ρ g => (f F ρ g).bind fun a g1 => match a.1 with
  | .bl true => h F ρ g1
  | .bl false => .ok (.bl false, .s) g1
  | _ => .bad
def dOr (f h : Den) : Den := fun F ρ g => (f F ρ g).bind fun a g1 => match a.1 with
  | .bl true => .ok (.bl true, .s) g1
  | .bl false => h F ρ g1
  | _ => .bad
theorem SE.one {op : BoolOp} {a : Expr} {f : Den} {pos : Pos} (h : SE T N sc a f) : SE T N sc (.BoolOp op [a] pos) f := by
  intro C Z k F W X cx H0 ρ g σ H S Q hp
  exact wE.of (pe_one wE.pe) (h C Z k F W X cx H0 ρ g σ H S Q hp)
theorem SE.and {a b : Expr} {rest : List Expr} {f h : Den} {pos : Pos} (ha : SE T N sc a f) (hb : SE T N sc (.BoolOp .And (b :: rest) pos) h) : SE T N sc (.BoolOp .And (a :: b :: rest) pos) (dAnd f h) := by
  intro C Z k F W X cx H0 ρ g σ H S Q hp
  refine wE.of (pe_and wE.pe wE.pe) ?_
  refine ha.then cx S rlF.sh hp fun a1 g1 x H1 e1 k1 r1 S1 p1 => ?_
  obtain ⟨d, fl⟩ := a1
  cases d with
  | bl b =>
    refine ⟨b, (FRep.w r1).bl, ?_⟩
    cases b with
    | true => exact hb C Z k F W X cx H0 ρ g1 σ H1 S1 Q p1
    | false => exact p1 _ H1 (.refl _ _) k1 rfl
  | _ => exact p1.elim
theorem SE.or {a b : Expr} {rest : List Expr} {f h : Den} {pos : Pos} (ha : SE T N sc a f) (hb : SE T N sc (.BoolOp .Or (b :: rest) pos) h) : SE T N sc (.BoolOp .Or (a :: b :: rest) pos) (dOr f h) := by
  intro C Z k F W X cx H0 ρ g σ H S Q hp
  refine wE.of (pe_or wE.pe wE.pe) ?_
  refine ha.then cx S rlF.sh hp fun a1 g1 x H1 e1 k1 r1 S1 p1 => ?_
  obtain ⟨d, fl⟩ := a1
  cases d with
  | bl b =>
    refine ⟨b, (FRep.w r1).bl, ?_⟩
    cases b with
    | false => exact hb C Z k F W X cx H0 ρ g1 σ H1 S1 Q p1
    | true => exact p1 _ H1 (.refl _ _) k1 rfl
  | _ => exact p1.elim
def dIf (t : DenT) (f h : Den) : Den := fun F ρ g => (t F ρ g).bind fun b g1 => if b then f F ρ g1 else h F ρ g1
theorem SE.ife {c a b : Expr} {t : DenT} {f h : Den} {pos : Pos} (hc : STt T N sc c t) (ha : SE T N sc a f) (hb : SE T N sc b h) : SE T N sc (.IfExp c a b pos) (dIf t f h) := by
  intro C Z k F W X cx H0 ρ g σ H S Q hp
  refine wE.of (pe_ifExp wT.pt wE.pe wE.pe) ?_
  refine hc.then cx S rlF.sh hp fun b1 g1 c H1 e1 k1 r1 S1 p1 => ?_
  obtain rfl : c = b1 := r1
  cases c with
  | true => exact ha C Z k F W X cx H0 ρ g1 σ H1 S1 Q p1
  | false => exact hb C Z k F W X cx H0 ρ g1 σ H1 S1 Q p1
/-- a < b < c -/
def dChain (o o' : Op2) (f h u : Den) : Den := fun F ρ g => (f F ρ g).bind fun a g1 => (h F ρ g1).bind fun b g2 => match o a b with
  | some (.bl true, _) => (u F ρ g2).bind fun c g3 => match o' b c with
    | some r => .ok r g3
    | none => .bad
  | some (.bl false, _) => .ok (.bl false, .s) g2
  | _ => .bad
theorem rlF_bl {C : Cst} {H H' : Hp} {b : Bool} {fl : Fl} {v : V} (h : rlF C H H' (.bl b, fl) v) : v = .bl b := (FRep.w h).bl
theorem chainD {a b c : Expr} {f h u : Den} {o o' : Op2} {op op' : CmpOp} (ho : OpOk (compareOp op) o) (ho' : OpOk (compareOp op') o') (ha : SE T N sc a f) (hb : SE T N sc b h) (hc : SE T N sc c u) {C : Cst} {Z : Xcs} {k : Nat} {F : FT} {W : WX} {X : Cx} (cx : Ctx C Z T k F W N sc X)
    {H0 : Hp} {ρ : Env'} {g : G} {σ : L2.St} {H : Hp} (S : Sta C H0 ρ g σ H) {Q : VK} (hp : Post C Z W σ H (dChain o o' f h u F ρ g) Q) : tChain (wOp X (compareOp op)) (wOp X (compareOp op')) (wE X a) (wE X b) (wE X c) σ H Q := by
  refine ha.then cx S rlF.sh hp fun a1 g1 x H1 e1 k1 r1 S1 p1 => ?_
  refine hb.then cx S1 rlF.sh p1 fun b1 g2 y H2 e2 k2 r2 S2 p2 => ?_
  have fw1 := (FRep.fw r1).ext k1 e2
  have fw2 := FRep.fw r2
  split at p2
  · rename_i fl hr
    refine ho cx hr fw1 fw2 k2 _ fun z H3 e3 k3 r3 => ⟨true, rlF_bl r3, ?_⟩
    rw [if_pos rfl]
    have S3 := S2.ext e3 k3
    have p3 := PG'.shift rlF.sh e3 p2
    refine hc.then cx S3 rlF.sh p3 fun c1 g4 w H4 e4 k4 r4 S4 p4 => ?_
    split at p4
    · rename_i res hr'
      exact ho' cx hr' ((fw2.ext k2 e3).ext k3 e4) (FRep.fw r4) k4 Q p4
    · exact p4.elim
  · rename_i fl hr
    refine ho cx hr fw1 fw2 k2 _ fun z H3 e3 k3 r3 => ⟨false, rlF_bl r3, ?_⟩
    rw [if_neg Bool.false_ne_true]
    exact p2 _ H3 e3 k3 rfl
  · exact p2.elim
theorem SE.chain {a b c : Expr} {f h u : Den} {o o' : Op2} {op op' : CmpOp} {pos : Pos} (hs : notSet c = true) (ho : OpOk (compareOp op) o) (ho' : OpOk (compareOp op') o') (ha : SE T N sc a f) (hb : SE T N sc b h) (hc : SE T N sc c u) :
    SE T N sc (.Compare a [op, op'] [b, c] pos) (dChain o o' f h u) := by
  intro C Z k F W X cx H0 ρ g σ H S Q hp
  exact wE.of (pe_chain wOp.op wOp.op wE.pe wE.pe wE.pe (marks_of hs)) (chainD ho ho' ha hb hc cx S hp)
theorem STt.chain {a b c : Expr} {f h u : Den} {o o' : Op2} {op op' : CmpOp} {pos : Pos} (hs : notSet c = true) (ho : OpOk (compareOp op) o) (ho' : OpOk (compareOp op') o') (ha : SE T N sc a f) (hb : SE T N sc b h) (hc : SE T N sc c u) :
    STt T N sc (.Compare a [op, op'] [b, c] pos) (dT (dChain o o' f h u)) := by
  intro C Z k F W X cx H0 ρ g σ H S Q hp
  refine wT.of (pt_chain wOp.op wOp.op wE.pe wE.pe wE.pe (marks_of hs)) ?_
  unfold dT R.tst at hp
  refine chainD ho ho' ha hb hc cx S ((hp.bind rlT.sh).mono fun x H1 ⟨r, g', e1, k1, rr, p1⟩ => ?_)
  obtain ⟨d, fl⟩ := r
  cases d with
  | bl b => exact ⟨b, (FRep.w rr).bl, p1 _ H1 (.refl _ _) k1 rfl⟩
  | _ => exact p1.elim
end
end Ev
end

section
/-! Ev3: the operators, by values. -/
namespace Ev
open PySem PySem.Spec L2

theorem Ctx.un {C : Cst} {Z : Xcs} {T : Tab} {k : Nat} {F : FT} {W : WX} {N : List Str} {sc : Scope} {X : Cx} (cx : Ctx C Z T k F W N sc X) : X.A.units + 65 < cLine := by
  have := cx.room.un
  omega

/-- an operator of two ints -/
theorem OpOk.int {f : Value → Value → Sem Value} {P : Int → Int → Prop} {h : Int → Int → D} {gV : Int → Int → V} {o : Op2} (hf : ∀ X : Cx, OpR X f (rI P gV)) (hg : ∀ i j C H, Rep C H (h i j) (gV i j))
    (ho : ∀ a b r, o a b = some r → ∃ i j, a.1 = .int i ∧ b.1 = .int j ∧ P i j ∧ r = (h i j, .s)) : OpOk f o := by
  intro C Z T k F W N sc X cx d1 d2 x y H g res hr hx hy k0 Q hQ
  obtain ⟨i, j, e1, e2, p, rfl⟩ := ho _ _ _ hr
  have h1 := hx.w
  have h2 := hy.w
  rw [e1] at h1
  rw [e2] at h2
  exact wOp.of (hf X) ⟨i, j, h1.int, h2.int, p, hQ _ H (.refl _ _) k0 (hg i j C H)⟩
theorem rI0_I {g : Int → Int → V} {X : Cx} {f : Value → Value → Sem Value} (h : OpR X f (rI0 g)) : OpR X f (rI (fun _ _ => True) g) := fun pins s σ H x y v u Q I r1 r2 ⟨i, j, e1, e2, _, q⟩ => h pins s σ H x y v u Q I r1 r2 ⟨i, j, e1, e2, q⟩

theorem OpOk.or {f : Value → Value → Sem Value} {o o' : Op2} (h : OpOk f o) (h' : OpOk f o') : OpOk f (fun a b => match o a b with | some r => some r | none => o' a b) := by
  intro C Z T k F W N sc X cx d1 d2 x y H g res hr hx hy k0 Q hQ
  dsimp only at hr
  split at hr
  · rename_i r q
    cases hr
    exact h cx q hx hy k0 Q hQ
  · exact h' cx hr hx hy k0 Q hQ

/-! ### + -/
def oAddI : Op2 := fun a b => match a.1, b.1 with
  | .int i, .int j => some (.int (i + j), .s)
  | _, _ => none
theorem oAddI_ok : OpOk (binaryOp .Add) oAddI := OpOk.int (P := fun _ _ => True) (h := fun i j => .int (i + j)) (fun X => rI0_I op_add) (fun _ _ _ _ => rfl) fun a b r h => by
  unfold oAddI at h
  split at h
  · rename_i i j e1 e2; cases h; exact ⟨i, j, e1, e2, trivial, rfl⟩
  · cases h
section
variable {X : Cx}
def rCatL (K : PySem.W.Frag) : R2 := fun x y H Q => ∃ l b xs zs, x = .ref l ∧ y = .ref b ∧ SqL K H l xs ∧ SqL K H b zs ∧ xs.length + zs.length ≤ sizeLine ∧ ∀ p, H p = none → Q (.ref p) (upd H p (.lst (xs ++ zs)))
theorem op_catL : OpR X (binaryOp .Add) (rCatL X.K) := by
  intro pins s σ H x y v u Q I rx ry h
  obtain ⟨l, b, xs, zs, rfl, rfl, hH, hB, hz, q⟩ := h
  cases rx
  cases ry
  obtain ⟨its, r1, p1, z1⟩ := I.list hH
  obtain ⟨its2, r2, p2, z2⟩ := I.list hB
  obtain ⟨⟨cls, dd, data, sl⟩, n, ho, hc, hd0, hd⟩ := p1
  obtain ⟨⟨cls2, dd2, data2, sl2⟩, n2, ho2, hc2, hd02, hd2⟩ := p2
  simp only at hc hd hd0 hc2 hd2 hd02
  subst hc hd hd0 hc2 hd2 hd02
  have hl1 := r1.length
  have hl2 := r2.length
  refine concat_meets ⟨_, ho, rfl⟩ ⟨_, ho2, rfl⟩ noFill_list_add seq_list_add PySem.F.slot_list_add PySem.F.entry_list_add (PySem.F.args_list_add_2 _ _) (PyProof.Rows.list_addW l b its.toArray its2.toArray n n2 none none sl sl2 (by simp only [List.size_toArray]; omega)) ⟨ho, ho2, ?_⟩
  have e : its.toArray ++ its2.toArray = (its ++ its2).toArray := by simp
  rw [e]
  exact ⟨.ref _, _, I.lnew (t' := s.toks) (r1.append r2) (by rw [List.length_append]; exact hz), rfl, q _ I.fresh⟩
end
def oAddL : Op2 := fun a b => match a.1, b.1 with
  | .lst x, .lst y => if x.length + y.length ≤ LN then some (.lst (x ++ y), .f) else none
  | .tup x, .tup y => if x.length + y.length ≤ LN then some (.tup (x ++ y), .s) else none
  | .str x, .str y => if x.length + y.length ≤ LN then some (.str (x ++ y), .s) else none
  | _, _ => none
theorem Reps.nil_iff {C : Cst} {H : Hp} {ds : List D} {xs : List V} (h : Reps C H ds xs) : xs = [] ↔ ds = [] := by
  have := h.length
  constructor
  · intro e; rw [e] at this; exact List.eq_nil_of_length_eq_zero this.symm
  · intro e; rw [e] at this; exact List.eq_nil_of_length_eq_zero this
theorem str_app (x y : List Nat) : (⟨x.toArray⟩ : Str) ++ (⟨y.toArray⟩ : Str) = ⟨(x ++ y).toArray⟩ := by
  show (⟨x.toArray ++ y.toArray⟩ : Str) = _
  simp
/-- t + u, the new tuple plain -/
def rCatP (K : PySem.W.Frag) : R2 := fun x y H Q => ∃ a b xs ys, x = .ref a ∧ y = .ref b ∧ SqT K H a xs ∧ SqT K H b ys ∧ xs.length + ys.length ≤ sizeLine ∧
  (xs = [] → Q (.ref b) H) ∧ (xs ≠ [] → ys = [] → Q (.ref a) H) ∧ (xs ≠ [] → ys ≠ [] → ∀ (p : Addr) (us : List Value), H p = none → Q (.ref p) (upd H p (.frz (tupO us) (.tup (xs ++ ys)))))
theorem op_catP {X : Cx} : OpR X (binaryOp .Add) (rCatP X.K) := by
  intro pins s σ H x y v u Q I rx ry h
  obtain ⟨a, b, xs, ys, rfl, rfl, ha, hb, hz, q0, q1, q2⟩ := h
  by_cases hx : xs = []
  · exact op_catA pins s σ H _ _ v u Q I rx ry ⟨a, b, xs, ys, rfl, rfl, ha, hb, hz, q0, q1, fun z => absurd hx z⟩
  · by_cases hy : ys = []
    · exact op_catA pins s σ H _ _ v u Q I rx ry ⟨a, b, xs, ys, rfl, rfl, ha, hb, hz, q0, q1, fun _ z => absurd hy z⟩
    · cases rx
      cases ry
      obtain ⟨its, r1, p1, _⟩ := I.tuple ha
      obtain ⟨its2, r2, p2, _⟩ := I.tuple hb
      refine HT.cat_tup p1 p2 (fun z => hx (r1.nil_iff.mp z)) (fun z => absurd (r2.nil_iff.mp z) hy) (fun z => ?_) (by rw [← r1.length, ← r2.length]; exact hz)
      exact ⟨.ref s.heap.objs.size, _, Inv.tupNew I (r1.append r2) (by rw [List.length_append]; exact hz), rfl, q2 hx hy _ _ (I.hok.fresh (Nat.le_refl _))⟩
theorem oAddL_ok : OpOk (binaryOp .Add) oAddL := by
  intro C Z T k F W N sc X cx d1 d2 x y H g res hr hx hy k0 Q hQ
  obtain ⟨a, fa⟩ := d1
  obtain ⟨b, fb⟩ := d2
  have h1 := hx.w
  have h2 := hy.w
  unfold oAddL at hr
  split at hr
  · rename_i p q e1 e2
    simp only at e1 e2 h1 h2
    subst e1 e2
    split at hr
    · rename_i hl
      cases hr
      obtain ⟨a1, xs, rfl, s1, r1⟩ := h1.lst
      obtain ⟨a2, ys, rfl, s2, r2⟩ := h2.lst
      refine wOp.of op_catL ⟨a1, a2, xs, ys, rfl, rfl, by rw [cx.hK]; exact s1, by rw [cx.hK]; exact s2, by rw [r1.length, r2.length, LN_eq]; exact hl, fun p hn => ?_⟩
      exact hQ _ _ (.new hn) (k0.upd (k0.no hn)) ⟨p, rfl, hn, k0.no hn, _, upd_same, (r1.append r2).keep (.new hn)⟩
    · cases hr
  · rename_i p q e1 e2
    simp only at e1 e2 h1 h2
    subst e1 e2
    split at hr
    · rename_i hl
      cases hr
      obtain ⟨a1, xs, rfl, s1, r1⟩ := h1.tup
      obtain ⟨a2, ys, rfl, s2, r2⟩ := h2.tup
      refine wOp.of op_catP ⟨a1, a2, xs, ys, rfl, rfl, by rw [cx.hK]; exact s1.sq, by rw [cx.hK]; exact s2.sq, by rw [r1.length, r2.length, LN_eq]; exact hl, fun e => ?_, fun _ e => ?_, fun _ _ p us hn => ?_⟩
      · have := r1.nil_iff.mp e
        subst this
        exact hQ _ H (.refl _ _) k0 ⟨a2, ys, rfl, s2, r2⟩
      · have := r2.nil_iff.mp e
        subst this
        rw [List.append_nil] at hQ
        exact hQ _ H (.refl _ _) k0 ⟨a1, xs, rfl, s1, r1⟩
      · exact hQ _ _ (.new hn) (k0.upd (k0.no hn)) ⟨p, _, rfl, .new, (r1.append r2).keep (.new hn)⟩
    · cases hr
  · rename_i p q e1 e2
    simp only at e1 e2 h1 h2
    subst e1 e2
    split at hr
    · rename_i hl
      cases hr
      refine wOp.of op_add_str ⟨_, _, h1.str, h2.str, ?_, ?_⟩
      · rw [LN_eq]
        show p.toArray.size + q.toArray.size ≤ LN
        simp only [List.size_toArray]; exact hl
      · exact hQ _ H (.refl _ _) k0 (by show _ = _; rw [str_app])
    · cases hr
  · cases hr
def oAdd : Op2 := fun a b => match oAddI a b with | some r => some r | none => oAddL a b
theorem oAdd_ok : OpOk (binaryOp .Add) oAdd := oAddI_ok.or oAddL_ok

/-! ### -, //, %, ** -/
def oSub : Op2 := fun a b => match a.1, b.1 with
  | .int i, .int j => some (.int (i - j), .s)
  | _, _ => none
theorem oSub_ok : OpOk (binaryOp .Sub) oSub := OpOk.int (P := fun _ _ => True) (h := fun i j => .int (i - j)) (fun X => rI0_I op_sub) (fun _ _ _ _ => rfl) fun a b r h => by
  unfold oSub at h
  split at h
  · rename_i i j e1 e2; cases h; exact ⟨i, j, e1, e2, trivial, rfl⟩
  · cases h
def oDiv : Op2 := fun a b => match a.1, b.1 with
  | .int i, .int j => if 0 < j ∧ j.natAbs.log2 < 9000 then some (.int (i / j), .s) else none
  | _, _ => none
theorem oDiv_ok : OpOk (binaryOp .FloorDiv) oDiv := OpOk.int (P := CDivW) (h := fun i j => .int (i / j)) (fun X => op_fdivW) (fun _ _ _ _ => rfl) fun a b r h => by
  unfold oDiv at h
  split at h
  · rename_i i j e1 e2
    split at h
    · rename_i q; cases h; exact ⟨i, j, e1, e2, q, rfl⟩
    · cases h
  · cases h
def oMod : Op2 := fun a b => match a.1, b.1 with
  | .int i, .int j => if 0 < j then some (.int (i % j), .s) else none
  | _, _ => none
theorem oMod_ok : OpOk (binaryOp .Mod) oMod := OpOk.int (P := fun _ j => 0 < j) (h := fun i j => .int (i % j)) (fun X => op_mod) (fun _ _ _ _ => rfl) fun a b r h => by
  unfold oMod at h
  split at h
  · rename_i i j e1 e2
    split at h
    · rename_i q; cases h; exact ⟨i, j, e1, e2, q, rfl⟩
    · cases h
  · cases h
def oPow : Op2 := fun a b => match a.1, b.1 with
  | .int i, .int j => if 0 ≤ j ∧ j ≤ 1000000 ∧ i.natAbs < 2 ^ 64 then some (.int (i ^ j.toNat), .s) else none
  | _, _ => none
theorem oPow_ok : OpOk (binaryOp .Pow) oPow := OpOk.int (P := CPow) (h := fun i j => .int (i ^ j.toNat)) (fun X => op_pow) (fun _ _ _ _ => rfl) fun a b r h => by
  unfold oPow at h
  split at h
  · rename_i i j e1 e2
    split at h
    · rename_i q; cases h; exact ⟨i, j, e1, e2, q, rfl⟩
    · cases h
  · cases h

/-! ### * -/
def mulOk (i j : Int) : Bool := decide (i.natAbs < 2 ^ 64) || decide (j.natAbs < 2 ^ 64) || decide (i.natAbs.log2 + j.natAbs.log2 < 1000000)
def oMulI : Op2 := fun a b => match a.1, b.1 with
  | .int i, .int j => if mulOk i j = true then some (.int (i * j), .s) else none
  | _, _ => none
theorem op_mulA {X : Cx} : OpR X (binaryOp .Mult) (rI (fun i j => mulOk i j = true) fun i j => .int (i * j)) := by
  intro pins s σ H x y v u Q I r1 r2 h
  obtain ⟨i, j, e1, e2, p, q⟩ := h
  unfold mulOk at p
  simp only [Bool.or_eq_true, decide_eq_true_eq] at p
  rcases p with p | p
  · exact op_mul pins s σ H x y v u Q I r1 r2 ⟨i, j, e1, e2, by unfold CMul; omega, q⟩
  · exact op_mulW pins s σ H x y v u Q I r1 r2 ⟨i, j, e1, e2, p, q⟩
theorem oMulI_ok : OpOk (binaryOp .Mult) oMulI := OpOk.int (P := fun i j => mulOk i j = true) (h := fun i j => .int (i * j)) (fun X => op_mulA) (fun _ _ _ _ => rfl) fun a b r h => by
  unfold oMulI at h
  split at h
  · rename_i i j e1 e2
    split at h
    · rename_i q; cases h; exact ⟨i, j, e1, e2, q, rfl⟩
    · cases h
  · cases h

/-! ### comparisons of ints -/
section
variable (p : Int → Int → Bool)
def oCmp : Op2 := fun a b => match a.1, b.1 with
  | .int i, .int j => some (.bl (p i j), .s)
  | _, _ => none
end
theorem oCmp_ok {op : CmpOp} {p : Int → Int → Bool} (h : ∀ X : Cx, OpR X (compareOp op) (rI0 fun i j => .bl (p i j))) : OpOk (compareOp op) (oCmp p) := OpOk.int (P := fun _ _ => True) (h := fun i j => .bl (p i j)) (fun X => rI0_I (h X)) (fun _ _ _ _ => rfl) fun a b r h => by
  unfold oCmp at h
  split at h
  · rename_i i j e1 e2; cases h; exact ⟨i, j, e1, e2, trivial, rfl⟩
  · cases h
def oLt : Op2 := oCmp fun i j => decide (i < j)
def oLe : Op2 := oCmp fun i j => decide (i ≤ j)
def oGt : Op2 := oCmp fun i j => decide (j < i)
def oGe : Op2 := oCmp fun i j => decide (j ≤ i)
theorem oLt_ok : OpOk (compareOp .Lt) oLt := oCmp_ok fun X => op_lt
theorem oLe_ok : OpOk (compareOp .LtE) oLe := oCmp_ok fun X => op_le
theorem oGt_ok : OpOk (compareOp .Gt) oGt := oCmp_ok fun X => op_gt
theorem oGe_ok : OpOk (compareOp .GtE) oGe := oCmp_ok fun X => op_ge

/-! ### ==, != of data -/
mutual
def D.py : D → PyData
  | .non => .none
  | .bl b => .bool b
  | .int i => .int i
  | .str s => .str ⟨s.toArray⟩
  | .tup l => .tuple (D.pys l)
  | .lst l => .list (D.pys l)
  | _ => .dict []
def D.pys : List D → List PyData
  | [] => []
  | d :: r => d.py :: D.pys r
end
section
variable {C : Cst} {H : Hp}
mutual
theorem Rep.dp : ∀ (d : D) {v : V}, Rep C H d v → d.py.canLay0 = true → Dp C.K H v d.py
  | .non, _, h, _ => by rw [show _ = V.non from h]; exact .non
  | .bl _, _, h, _ => by rw [show _ = V.bl _ from h]; exact .bl _
  | .int _, _, h, _ => by rw [show _ = V.int _ from h]; exact .int _
  | .str _, _, h, _ => by rw [show _ = V.str _ from h]; exact .str _
  | .tup ds, _, h, p => by
    obtain ⟨a, xs, rfl, s, r⟩ := h
    exact .tup s.sq (Reps.dp ds r p)
  | .lst ds, _, h, p => by
    obtain ⟨a, xs, rfl, s, r⟩ := h
    exact .lst s.sq (Reps.dp ds r p)
  | .dct _, _, _, p => Bool.noConfusion p
  | .fn _, _, _, p => Bool.noConfusion p
  | .hnd _, _, _, p => Bool.noConfusion p
theorem Reps.dp : ∀ (ds : List D) {xs : List V}, Reps C H ds xs → PyData.canLayAll0 (D.pys ds) = true → DpAll C.K H xs (D.pys ds)
  | [], _, h, _ => by rw [show _ = [] from h]; exact .nil
  | d :: ds, _, h, p => by
    obtain ⟨x, ys, rfl, r, rs⟩ := h
    have p' : (d.py.canLay0 && PyData.canLayAll0 (D.pys ds)) = true := p
    rw [Bool.and_eq_true] at p'
    exact .cons (Rep.dp d r p'.1) (Reps.dp ds rs p'.2)
end
theorem WRep.dp {d : D} {v : V} (h : WRep C H d v) (p : d.py.canLay0 = true) : Dp C.K H v d.py := by
  cases d with
  | lst ds =>
    obtain ⟨a, xs, rfl, s, r⟩ := h.lst
    exact .lst s (Reps.dp ds r p)
  | dct _ => exact Bool.noConfusion p
  | _ =>
    rcases h with h | ⟨_, _, _, h⟩
    · exact Rep.dp _ h p
    · exact h.elim
end
def D.shp (d : D) : Bool := SeqAt.shaped d.py
def oEqD (neg : Bool) : Op2 := fun a b => match a.1, b.1 with
  | .int i, .int j => some (.bl (if neg then !decide (i = j) else decide (i = j)), .s)
  | x, y => if x.shp = true ∧ y.shp = true then some (.bl (if neg then !PyData.eqv x.py y.py else PyData.eqv x.py y.py), .s) else none
theorem eqD_int (i j : Int) : PyData.eqv (D.int i).py (D.int j).py = decide (i = j) := by
  show (i == j) = _
  exact Bool.beq_eq_decide_eq i j
theorem oEqD_spec {neg : Bool} {a b r : D × Fl} (h : oEqD neg a b = some r) : a.1.shp = true ∧ b.1.shp = true ∧ r = (.bl (if neg then !PyData.eqv a.1.py b.1.py else PyData.eqv a.1.py b.1.py), .s) := by
  obtain ⟨x, fx⟩ := a
  obtain ⟨y, fy⟩ := b
  unfold oEqD at h
  split at h
  · rename_i i j e1 e2
    simp only at e1 e2
    subst e1 e2
    cases h
    refine ⟨rfl, rfl, ?_⟩
    rw [eqD_int]
  · split at h
    · rename_i q
      cases h
      exact ⟨q.1, q.2, rfl⟩
    · cases h
def oEq : Op2 := oEqD false
def oNe : Op2 := oEqD true
theorem oEq_ok : OpOk (compareOp .Eq) oEq := by
  intro C Z T k F W N sc X cx d1 d2 x y H g res hr hx hy k0 Q hQ
  obtain ⟨s1, s2, rfl⟩ := oEqD_spec hr
  refine wOp.of (op_eqD (by have := cx.un; omega)) ⟨_, _, by rw [cx.hK]; exact hx.w.dp (SeqAt.canLay_of_shaped s1), by rw [cx.hK]; exact hy.w.dp (SeqAt.canLay_of_shaped s2), s1, s2, hQ _ H (.refl _ _) k0 rfl⟩
theorem oNe_ok : OpOk (compareOp .NotEq) oNe := by
  intro C Z T k F W N sc X cx d1 d2 x y H g res hr hx hy k0 Q hQ
  obtain ⟨s1, s2, rfl⟩ := oEqD_spec hr
  refine wOp.of (op_neD (by have := cx.un; omega)) ⟨_, _, by rw [cx.hK]; exact hx.w.dp (SeqAt.canLay_of_shaped s1), by rw [cx.hK]; exact hy.w.dp (SeqAt.canLay_of_shaped s2), s1, s2, hQ _ H (.refl _ _) k0 rfl⟩

/-! ### is, is not: None and truth values -/
def oIsD (neg : Bool) : Op2 := fun a b => match a.1, b.1 with
  | .bl x, .bl y => some (.bl (if neg then !(x == y) else (x == y)), .s)
  | .non, .non => some (.bl (!neg), .s)
  | .int _, .non => some (.bl neg, .s)
  | .bl _, .non => some (.bl neg, .s)
  | .str _, .non => some (.bl neg, .s)
  | .tup _, .non => some (.bl neg, .s)
  | .lst _, .non => some (.bl neg, .s)
  | _, _ => none
def oIs : Op2 := oIsD false
def oIsN : Op2 := oIsD true
theorem isD_aux {C : Cst} {H : Hp} {d : D} {v : V} (h : WRep C H d v) (hd : d ≠ .non) : decide (v = .non) = false := by
  refine decide_eq_false fun e => ?_
  subst e
  rcases h with h | ⟨a, e, _⟩
  · cases d with
    | non => exact hd rfl
    | bl b => cases h
    | int i => cases h
    | str s => cases h
    | tup l => obtain ⟨_, _, e, _⟩ := h; cases e
    | lst l => obtain ⟨_, _, e, _⟩ := h; cases e
    | dct l => obtain ⟨_, _, e, _⟩ := h; cases e
    | fn l => obtain ⟨_, _, e⟩ := h; cases e
    | hnd l => obtain ⟨_, _, e⟩ := h; cases e
  · cases e
theorem oIs_ok : OpOk (compareOp .Is) oIs := by
  intro C Z T k F W N sc X cx d1 d2 x y H g res hr hx hy k0 Q hQ
  obtain ⟨a, fa⟩ := d1
  obtain ⟨b, fb⟩ := d2
  have h1 := hx.w
  have h2 := hy.w
  have fin : ∀ bb, b = .non → decide (x = .non) = bb → (∀ v H', Ext C H H' → GOk C g H' → rlF C H H' (.bl bb, .s) v → Q v H') → wOp X (compareOp .Is) x y H Q := fun bb e q hQ => by
    subst e
    exact wOp.of op_isN ⟨h2.non, hQ _ H (.refl _ _) k0 (by show V.bl _ = _; rw [q])⟩
  unfold oIs oIsD at hr
  split at hr
  · rename_i p q e1 e2
    simp only at e1 e2 h1 h2
    subst e1 e2
    cases hr
    refine wOp.of op_isBl ⟨p, q, h1.bl, h2.bl, hQ _ H (.refl _ _) k0 ?_⟩
    show V.bl _ = V.bl _
    rw [if_neg Bool.false_ne_true, Bool.beq_eq_decide_eq]
  · rename_i e1 e2
    simp only at e1 e2 h1
    subst e1
    cases hr
    exact fin true e2 (by rw [h1.non]; rfl) hQ
  all_goals first
    | (cases hr; done)
    | (rename_i q e1 e2
       simp only at e1 e2 h1
       subst e1
       cases hr
       exact fin false e2 (isD_aux h1 (by intro z; cases z)) hQ)
theorem oIsN_ok : OpOk (compareOp .IsNot) oIsN := by
  intro C Z T k F W N sc X cx d1 d2 x y H g res hr hx hy k0 Q hQ
  obtain ⟨a, fa⟩ := d1
  obtain ⟨b, fb⟩ := d2
  have h1 := hx.w
  have h2 := hy.w
  have fin : ∀ bb, b = .non → (!decide (x = .non)) = bb → (∀ v H', Ext C H H' → GOk C g H' → rlF C H H' (.bl bb, .s) v → Q v H') → wOp X (compareOp .IsNot) x y H Q := fun bb e q hQ => by
    subst e
    exact wOp.of op_notN ⟨h2.non, hQ _ H (.refl _ _) k0 (by show V.bl _ = _; rw [q])⟩
  unfold oIsN oIsD at hr
  split at hr
  · rename_i p q e1 e2
    simp only at e1 e2 h1 h2
    subst e1 e2
    cases hr
    refine wOp.of op_notBl ⟨p, q, h1.bl, h2.bl, hQ _ H (.refl _ _) k0 ?_⟩
    show V.bl _ = V.bl _
    rw [if_pos rfl, Bool.beq_eq_decide_eq]
  · rename_i e1 e2
    simp only at e1 e2 h1
    subst e1
    cases hr
    exact fin false e2 (by rw [h1.non]; rfl) hQ
  all_goals first
    | (cases hr; done)
    | (rename_i q e1 e2
       simp only at e1 e2 h1
       subst e1
       cases hr
       exact fin true e2 (by rw [isD_aux h1 (by intro z; cases z)]; rfl) hQ)

/-! ### in, not in: flat items; a sign in a text -/
def D.flat : D → Bool
  | .non => true
  | .bl _ => true
  | .int _ => true
  | .str _ => true
  | _ => false
def D.feq : D → D → Bool
  | .non, .non => true
  | .bl a, .bl b => a == b
  | .bl a, .int b => (if a then 1 else 0) == b
  | .int a, .bl b => a == (if b then 1 else 0)
  | .int a, .int b => a == b
  | .str a, .str b => a == b
  | _, _ => false
def D.isIn (x : D) (l : List D) : Bool := l.any fun y => y.feq x
def oInS (neg : Bool) : Op2 := fun a b => match a.1, b.1 with
  | x, .tup l => if x.flat = true ∧ l.all D.flat = true then some (.bl (if neg then !x.isIn l else x.isIn l), .s) else none
  | x, .lst l => if x.flat = true ∧ l.all D.flat = true then some (.bl (if neg then !x.isIn l else x.isIn l), .s) else none
  | .str [c], .str l => some (.bl (if neg then !decide (c ∈ l) else decide (c ∈ l)), .s)
  | _, _ => none
section
variable {C : Cst} {H : Hp}
theorem flat_of {d : D} {v : V} (h : WRep C H d v) (f : d.flat = true) : flatV v = true := by
  cases d with
  | non => rw [h.non]; rfl
  | bl b => rw [h.bl]; rfl
  | int b => rw [h.int]; rfl
  | str b => rw [h.str]; rfl
  | _ => exact Bool.noConfusion f
theorem feq_of {d e : D} {v u : V} (h : WRep C H d v) (f : d.flat = true) (h' : WRep C H e u) (f' : e.flat = true) : eqV v u = d.feq e := by
  cases d with
  | non => rw [h.non]; cases e with
    | non => rw [h'.non]; rfl
    | bl b => rw [h'.bl]; rfl
    | int b => rw [h'.int]; rfl
    | str b => rw [h'.str]; rfl
    | _ => exact Bool.noConfusion f'
  | bl b => rw [h.bl]; cases e with
    | non => rw [h'.non]; rfl
    | bl b => rw [h'.bl]; rfl
    | int b => rw [h'.int]; rfl
    | str b => rw [h'.str]; rfl
    | _ => exact Bool.noConfusion f'
  | int b => rw [h.int]; cases e with
    | non => rw [h'.non]; rfl
    | bl b => rw [h'.bl]; rfl
    | int b => rw [h'.int]; rfl
    | str b => rw [h'.str]; rfl
    | _ => exact Bool.noConfusion f'
  | str b => rw [h.str]; cases e with
    | non => rw [h'.non]; rfl
    | bl b => rw [h'.bl]; rfl
    | int b => rw [h'.int]; rfl
    | str b' =>
      rw [h'.str]
      show ((⟨b.toArray⟩ : Str) == ⟨b'.toArray⟩) = (b == b')
      rw [Bool.eq_iff_iff, beq_iff_eq, beq_iff_eq]
      constructor
      · intro z
        have z2 : b.toArray = b'.toArray := congrArg Str.cps z
        simpa using congrArg Array.toList z2
      · intro z; rw [z]
    | _ => exact Bool.noConfusion f'
  | _ => exact Bool.noConfusion f
theorem allFlat_of : ∀ {ds : List D} {xs : List V}, Reps C H ds xs → ds.all D.flat = true → xs.all flatV = true
  | [], _, h, _ => by rw [show _ = [] from h]; rfl
  | d :: ds, _, h, f => by
    obtain ⟨x, ys, rfl, r, rs⟩ := h
    rw [List.all_cons, Bool.and_eq_true] at f
    rw [List.all_cons, flat_of (.inl r) f.1, allFlat_of rs f.2]; rfl
theorem isIn_of {x : D} {v : V} (h : WRep C H x v) (f : x.flat = true) : ∀ {ds : List D} {xs : List V}, Reps C H ds xs → ds.all D.flat = true → inV v xs = x.isIn ds
  | [], _, h, _ => by rw [show _ = [] from h]; rfl
  | d :: ds, _, hh, g => by
    obtain ⟨y, ys, rfl, r, rs⟩ := hh
    rw [List.all_cons, Bool.and_eq_true] at g
    show (eqV y v || inV v ys) = (d.feq x || x.isIn ds)
    rw [isIn_of h f rs g.2, feq_of (.inl r) g.1 h f]
end
theorem oInS_ok (neg : Bool) : OpOk (compareOp (if neg then .NotIn else .In)) (oInS neg) := by
  intro C Z T k F W N sc X cx d1 d2 x y H g res hr hx hy k0 Q hQ
  obtain ⟨a, fa⟩ := d1
  obtain ⟨b, fb⟩ := d2
  have h1 : WRep C H a x := hx.w
  have h2 : WRep C H b y := hy.w
  have sq : ∀ l p xs, (SqL C.K H p xs ∨ SqT C.K H p xs) → y = .ref p → Reps C H l xs → a.flat = true → l.all D.flat = true → res = (.bl (if neg then !a.isIn l else a.isIn l), .s) → wOp X (compareOp (if neg then .NotIn else .In)) x y H Q := fun l p xs s e r f f' hres => by
    subst hres e
    have w : rIn X.K neg x (.ref p) H Q := ⟨p, xs, rfl, by rw [cx.hK]; exact s, flat_of h1 f, allFlat_of r f', hQ _ H (.refl _ _) k0 (by show V.bl _ = _; rw [isIn_of h1 f r f'])⟩
    cases neg with
    | false => exact wOp.of op_in_seq w
    | true => exact wOp.of op_notIn_seq w
  unfold oInS at hr
  split at hr
  · rename_i l e2
    simp only at e2 hr
    subst e2
    split at hr
    · rename_i q
      cases hr
      obtain ⟨p, xs, rfl, s, r⟩ := h2.tup
      exact sq l p xs (.inr s.sq) rfl r q.1 q.2 rfl
    · cases hr
  · rename_i l e2
    simp only at e2 hr
    subst e2
    split at hr
    · rename_i q
      cases hr
      obtain ⟨p, xs, rfl, s, r⟩ := h2.lst
      exact sq l p xs (.inl s) rfl r q.1 q.2 rfl
    · cases hr
  · rename_i c l e1 e2
    simp only at e1 e2
    subst e1 e2
    cases hr
    have hm : decide (c ∈ (⟨l.toArray⟩ : Str).cps.toList) = decide (c ∈ l) := by simp
    cases neg with
    | false => exact wOp.of op_in_sign ⟨c, _, h1.str, h2.str, hQ _ H (.refl _ _) k0 (by show V.bl _ = _; rw [hm]; rfl)⟩
    | true => exact wOp.of op_notIn_sign ⟨c, _, h1.str, h2.str, hQ _ H (.refl _ _) k0 (by show V.bl _ = _; rw [hm]; rfl)⟩
  · cases hr
end Ev
end

section
/-! Ev4: subscripts, slices, calls of the text's own defs. -/
namespace Ev
open PySem PySem.Spec L2
open PyProof.Rows hiding St

/-! ### a[i] -/
def wIx (X : Cx) : R2 := fun x y H Q => ∀ (value slice : Expr) (pins : List (Addr × Obj)) (s : Shared) (σ : L2.St) (v u : Value), Inv X pins σ H s → RelV x v → RelV y u →
    subscripted slice false v u = operate [v, u] (getItem v u) → wpAny (model X.prog X.w) X.A (subscriptTail value slice v u) (EP X pins σ Q) X.xe s
theorem wIx.ix {X : Cx} : IxR X (wIx X) := fun value slice pins s σ H x y v u Q I rx ry q hs => q value slice pins s σ v u I rx ry hs
theorem wIx.of {X : Cx} {r : R2} {x y : V} {H : Hp} {Q : VK} (h : IxR X r) (q : r x y H Q) : wIx X x y H Q := fun value slice pins s σ v u I rx ry hs => h value slice pins s σ H x y v u Q I rx ry q hs
/-- by the state beside the slots, too: the handle 0 -/
abbrev OpG := G → D × Fl → D × Fl → Option (D × Fl)
def IxOk (o : OpG) : Prop :=
  ∀ {C : Cst} {Z : Xcs} {T : Tab} {k : Nat} {F : FT} {W : WX} {N : List Str} {sc : Scope} {X : Cx}, Ctx C Z T k F W N sc X → ∀ {d1 d2 : D × Fl} {x y : V} {H : Hp} {g : G} {res : D × Fl}, o g d1 d2 = some res → FW C H d1 x → FW C H d2 y → GOk C g H →
    ∀ Q, (∀ v H', Ext C H H' → GOk C g H' → rlF C H H' res v → Q v H') → wIx X x y H Q
def dIxBy (o : OpG) (f h : Den) : Den := fun F ρ g => (f F ρ g).bind fun a g1 => (h F ρ g1).bind fun b g2 => match o g2 a b with
  | some r => .ok r g2
  | none => .bad
def notSlice : Expr → Bool
  | .Slice _ _ _ _ => false
  | _ => true
theorem plainIx_of {e : Expr} (h : notSlice e = true) : PlainIx e := by
  cases e <;> first | (intro o i; rfl) | exact Bool.noConfusion h
section
variable {T : Tab} {N : List Str} {sc : Scope}
theorem SE.ixBy {a b : Expr} {f h : Den} {o : OpG} {pos : Pos} (hs : notSlice b = true) (ho : IxOk o) (ha : SE T N sc a f) (hb : SE T N sc b h) : SE T N sc (.Subscript a b pos) (dIxBy o f h) := by
  intro C Z k F W X cx H0 ρ g σ H S Q hp
  refine wE.of (pe_ix wIx.ix wE.pe wE.pe (plainIx_of hs)) ?_
  refine ha.then cx S rlF.sh hp fun a1 g1 x H1 e1 k1 r1 S1 p1 => ?_
  refine hb.then cx S1 rlF.sh p1 fun b1 g2 y H2 e2 k2 r2 S2 p2 => ?_
  split at p2
  · rename_i res hr
    exact ho cx hr ((FRep.fw r1).ext k1 e2) (FRep.fw r2) k2 Q p2
  · exact p2.elim
end
def oIxS : OpG := fun g a b => match a.1, b.1 with
  | .lst l, .int i => (atI l i).map fun d => (d, .s)
  | .tup l, .int i => (atI l i).map fun d => (d, .s)
  | .str l, .int i => if l.length ≤ LN then (atI l i).map fun c => (.str [c], .s) else none
  | .hnd 0, .int i => match g with
    | some (x, y) => if i = 0 then some (.int x, .s) else if i = 1 then some (.int y, .s) else none
    | none => none
  | _, _ => none
theorem Reps.atI {C : Cst} {H : Hp} {ds : List D} {xs : List V} (h : Reps C H ds xs) {i : Int} {d : D} (e : L2.atI ds i = some d) : ∃ v, L2.atI xs i = some v ∧ Rep C H d v := by
  unfold L2.atI at e ⊢
  rw [h.length]
  cases q : ixN ds.length i with
  | none => rw [q] at e; cases e
  | some j =>
    rw [q] at e
    exact h.get' e
theorem oIxS_ok : IxOk oIxS := by
  intro C Z T k F W N sc X cx d1 d2 x y H g res hr hx hy k0 Q hQ
  obtain ⟨a, fa⟩ := d1
  obtain ⟨b, fb⟩ := d2
  have h1 : WRep C H a x := hx.w
  have h2 : WRep C H b y := hy.w
  unfold oIxS at hr
  split at hr
  · rename_i l i e1 e2
    simp only at e1 e2
    subst e1 e2
    obtain ⟨d, ed, rfl⟩ := Option.map_eq_some_iff.mp hr
    obtain ⟨p, xs, rfl, s, r⟩ := h1.lst
    obtain ⟨v, ev, rv⟩ := r.atI ed
    exact wIx.of ix_list ⟨p, xs, i, v, rfl, h2.int, by rw [cx.hK]; exact s, ev, hQ _ H (.refl _ _) k0 rv⟩
  · rename_i l i e1 e2
    simp only at e1 e2
    subst e1 e2
    obtain ⟨d, ed, rfl⟩ := Option.map_eq_some_iff.mp hr
    obtain ⟨p, xs, rfl, s, r⟩ := h1.tup
    obtain ⟨v, ev, rv⟩ := r.atI ed
    exact wIx.of ix_tup ⟨p, xs, i, v, rfl, h2.int, by rw [cx.hK]; exact s.sq, ev, hQ _ H (.refl _ _) k0 rv⟩
  · rename_i l i e1 e2
    simp only at e1 e2
    subst e1 e2
    split at hr
    · rename_i hl
      obtain ⟨c, ec, rfl⟩ := Option.map_eq_some_iff.mp hr
      refine wIx.of ix_str ⟨⟨l.toArray⟩, i, c, h1.str, h2.int, ?_, ?_, hQ _ H (.refl _ _) k0 rfl⟩
      · rw [LN_eq]; show l.toArray.size ≤ LN; simpa using hl
      · show L2.atI l.toArray.toList i = some c
        simpa using ec
    · cases hr
  · rename_i i e1 e2
    simp only at e1 e2
    subst e1 e2
    cases g with
    | none => cases hr
    | some z =>
      obtain ⟨x0, y0⟩ := z
      obtain ⟨p, hu, hz, hH⟩ := id k0
      have hv : x = .ref p := by
        rcases h1 with h | ⟨_, _, _, h⟩
        · obtain ⟨p', e, rfl⟩ := h
          rw [hz] at e; cases e; rfl
        · exact h.elim
      subst hv
      dsimp only at hr
      split at hr
      · rename_i e0
        cases hr
        subst e0
        exact wIx.of ix_list ⟨p, _, 0, .int x0, rfl, h2.int, .of hH, rfl, hQ _ H (.refl _ _) k0 rfl⟩
      · split at hr
        · rename_i e0
          cases hr
          subst e0
          exact wIx.of ix_list ⟨p, _, 1, .int y0, rfl, h2.int, .of hH, rfl, hQ _ H (.refl _ _) k0 rfl⟩
        · cases hr
  · cases hr

/-! ### a[lo:hi] -/
def wSl (X : Cx) : V → Option Int → Option Int → Hp → VK → Prop := fun x lo hi H Q => ∀ (pins : List (Addr × Obj)) (s : Shared) (σ : L2.St) (v vl vu : Value) (sl : Addr), Inv X pins σ H s → RelV x v → s.heap.IsSliceOf sl vl vu .none → IsPart vl lo → IsPart vu hi →
    ∃ T id, typeLookup (.type T) "__getitem__" = pure (some (.builtin id)) ∧ s.TypeIs v T ∧ wpAny (model X.prog X.w) X.A (getItem v (.ref sl)) (EP X pins σ Q) X.xe s
theorem wSl.sl {X : Cx} : SlR X (wSl X) := fun pins s σ H x v vl vu lo hi sl Q I rx hs pl pu q => q pins s σ v vl vu sl I rx hs pl pu
theorem wSl.of {X : Cx} {r : V → Option Int → Option Int → Hp → VK → Prop} {x : V} {lo hi : Option Int} {H : Hp} {Q : VK} (h : SlR X r) (q : r x lo hi H Q) : wSl X x lo hi H Q := fun pins s σ v vl vu sl I rx hs pl pu => h pins s σ H x v vl vu lo hi sl Q I rx hs pl pu q
/-- t[lo:hi], the new tuple plain -/
def rSlP (K : PySem.W.Frag) : V → Option Int → Option Int → Hp → VK → Prop := fun x lo hi H Q => ∃ a xs, x = .ref a ∧ SqT K H a xs ∧
  (HT.sIx xs.length 0 lo = 0 ∧ HT.sIx xs.length xs.length hi = xs.length → Q (.ref a) H) ∧ (¬ (HT.sIx xs.length 0 lo = 0 ∧ HT.sIx xs.length xs.length hi = xs.length) → ∀ (p : Addr) (us : List Value), H p = none → Q (.ref p) (upd H p (.frz (tupO us) (.tup (cutV xs lo hi)))))
theorem sl_tupP {X : Cx} : SlR X (rSlP X.K) := by
  intro pins s σ H x v vl vu lo hi sl Q I rx hs pl pu h
  obtain ⟨a, xs, rfl, hx, q1, q2⟩ := h
  by_cases hw : HT.sIx xs.length 0 lo = 0 ∧ HT.sIx xs.length xs.length hi = xs.length
  · exact sl_tupA pins s σ H _ v vl vu lo hi sl Q I rx hs pl pu ⟨a, xs, rfl, hx, q1, fun z => absurd hw z⟩
  · cases rx
    obtain ⟨its, r, ht, hz⟩ := I.tuple hx
    have hl : its.toArray.size = xs.length := by rw [List.size_toArray]; exact r.length.symm
    refine ⟨"tuple", _, PyProof.Rows.slot_tuple_getitem.lookup, ht.typeIs, HT.getItem_tuple_cut ht hs pl pu (by rw [hl]; exact hw) ?_ (by rw [hl]; exact hz)⟩
    rw [hl]
    exact ⟨.ref s.heap.objs.size, _, Inv.tupNew I ((r.drop (HT.sIx xs.length 0 lo)).take (HT.sIx xs.length xs.length hi - HT.sIx xs.length 0 lo)) (Nat.le_trans (cutV_length xs lo hi) hz), rfl, q2 hw _ _ (I.hok.fresh (Nat.le_refl _))⟩
/-- a bound of a slice -/
abbrev DenO := FT → Env' → G → R (Option Int)
def wO (X : Cx) (e : Option Expr) : TO := fun σ H Q => ∀ pins s, Inv X pins σ H s → wpAny (model X.prog X.w) X.A (evalPart e X.env) (fun v s' => ∃ i H', Inv X pins σ H' s' ∧ IsPart v i ∧ Q i H') X.xe s
theorem wO.po {X : Cx} {e : Option Expr} : PO X e (wO X e) := ⟨fun pins s σ H Q I h => h pins s I⟩
theorem wO.of {X : Cx} {e : Option Expr} {t : TO} {σ : L2.St} {H : Hp} {Q : Option Int → Hp → Prop} (h : PO X e t) (q : t σ H Q) : wO X e σ H Q := fun pins s I => h.run pins s σ H Q I q
def rlO : Rl (Option Int) (Option Int) := fun _ _ a v => v = a
theorem rlO.sh {C : Cst} : Shift C rlO := ⟨fun _ _ _ _ _ _ h => h⟩
abbrev SO (T : Tab) (N : List Str) (sc : Scope) (e : Option Expr) (f : DenO) : Prop := Snd T N sc (fun _ => rlO) (fun X => wO X e) f
def dNoP : DenO := fun _ _ g => .ok none g
def dP (f : Den) : DenO := fun F ρ g => (f F ρ g).bind fun a g1 => match a.1 with
  | .int i => .ok (some i) g1
  | _ => .bad
def cutA {α : Type} (xs : List α) (lo hi : Option Int) : List α := (xs.drop (HT.sIx xs.length 0 lo)).take (HT.sIx xs.length xs.length hi - HT.sIx xs.length 0 lo)
def oSl (a : D × Fl) (lo hi : Option Int) : Option (D × Fl) := match a.1 with
  | .lst l => some (.lst (cutA l lo hi), .f)
  | .tup l => some (.tup (cutA l lo hi), .s)
  | .str l => if l.length ≤ LN then some (.str (cutA l lo hi), .s) else none
  | _ => none
def dSl (f : Den) (lo hi : DenO) : Den := fun F ρ g => (f F ρ g).bind fun a g1 => (lo F ρ g1).bind fun l g2 => (hi F ρ g2).bind fun u g3 => match oSl a l u with
  | some r => .ok r g3
  | none => .bad
section
variable {T : Tab} {N : List Str} {sc : Scope}
theorem SO.none : SO T N sc none dNoP := by
  intro C Z k F W X cx H0 ρ g σ H S Q hp
  exact wO.of po_none (hp _ H (.refl _ _) S.go rfl)
theorem SO.some {e : Expr} {f : Den} (h : SE T N sc e f) : SO T N sc (some e) (dP f) := by
  intro C Z k F W X cx H0 ρ g σ H S Q hp
  refine wO.of (po_some wE.pe) ?_
  refine h.then cx S rlO.sh hp fun a1 g1 x H1 e1 k1 r1 S1 p1 => ?_
  obtain ⟨d, fl⟩ := a1
  cases d with
  | int i => exact ⟨i, (FRep.w r1).int, p1 _ H1 (.refl _ _) k1 rfl⟩
  | _ => exact p1.elim
theorem cut_whole {α : Type} (xs : List α) (lo hi : Option Int) (h : HT.sIx xs.length 0 lo = 0 ∧ HT.sIx xs.length xs.length hi = xs.length) : cutA xs lo hi = xs := by
  unfold cutA
  rw [h.1, h.2]; simp
theorem Reps.cut {C : Cst} {H : Hp} {ds : List D} {xs : List V} (h : Reps C H ds xs) (lo hi : Option Int) : Reps C H (cutA ds lo hi) (cutV xs lo hi) := by
  unfold cutA cutV
  rw [h.length]
  exact (h.drop _).take _
theorem SE.slice {e : Expr} {lo hi : Option Expr} {f : Den} {fl fh : DenO} {p2 pos : Pos} (he : SE T N sc e f) (hl : SO T N sc lo fl) (hh : SO T N sc hi fh) : SE T N sc (.Subscript e (.Slice lo hi none p2) pos) (dSl f fl fh) := by
  intro C Z k F W X cx H0 ρ g σ H S Q hp
  refine wE.of (pe_slice wSl.sl wE.pe wO.po wO.po) ?_
  refine he.then cx S rlF.sh hp fun a1 g1 x H1 e1 k1 r1 S1 p1 => ?_
  refine hl.then cx S1 rlF.sh p1 fun l g2 l' H2 e2 k2 r2 S2 p2 => ?_
  obtain rfl : l' = l := r2
  refine hh.then cx S2 rlF.sh p2 fun u g3 u' H3 e3 k3 r3 S3 p3 => ?_
  obtain rfl : u' = u := r3
  have w1 : WRep C H3 a1.1 x := ((FRep.w r1).ext k1 e2).ext k2 e3
  split at p3
  · rename_i res hr
    obtain ⟨d, fl⟩ := a1
    unfold oSl at hr
    split at hr
    · rename_i ds ed
      simp only at ed w1
      subst ed
      cases hr
      obtain ⟨p, xs, rfl, s, r⟩ := w1.lst
      refine wSl.of sl_list ⟨p, xs, rfl, by rw [cx.hK]; exact s, fun q hn => ?_⟩
      exact p3 _ _ (.new hn) (k3.upd (k3.no hn)) ⟨q, rfl, hn, k3.no hn, _, upd_same, (r.cut _ _).keep (.new hn)⟩
    · rename_i ds ed
      simp only at ed w1
      subst ed
      cases hr
      obtain ⟨p, xs, rfl, s, r⟩ := w1.tup
      refine wSl.of sl_tupP ⟨p, xs, rfl, by rw [cx.hK]; exact s.sq, fun hw => ?_, fun hw q us hn => ?_⟩
      · rw [r.length] at hw
        exact p3 _ H3 (.refl _ _) k3 ⟨p, xs, rfl, s, by rw [cut_whole _ _ _ hw]; exact r⟩
      · exact p3 _ _ (.new hn) (k3.upd (k3.no hn)) ⟨q, _, rfl, .new, (r.cut _ _).keep (.new hn)⟩
    · rename_i l ed
      simp only at ed w1
      subst ed
      split at hr
      · rename_i hl
        cases hr
        refine wSl.of sl_str ⟨⟨l.toArray⟩, w1.str, by rw [LN_eq]; show l.toArray.size ≤ LN; simpa using hl, p3 _ H3 (.refl _ _) k3 ?_⟩
        show V.str _ = V.str _
        unfold cutS cutA
        show V.str ⟨_⟩ = _
        simp [Str.length]
      · cases hr
    · cases hr
  · exact p3.elim

/-! ### calls of the text's defs -/
def dCall (i : Nat) (fs : DenL) : Den := fun F ρ g => (fs F ρ g).bind fun ds g1 => (F i ds g1).bind fun r g2 => .ok (r.1, if r.2 then .f else .s) g2
theorem noStars {env : Env} {pos : Pos} : ∀ {es : List Expr}, es.all notStar = true → (backTo pos (starEach es env)).any (·.1) = false
  | [], _ => rfl
  | e :: es, h => by
    rw [List.all_cons, Bool.and_eq_true] at h
    rw [star_of h.1]
    show (false || (backTo pos (starEach es env)).any (·.1)) = false
    rw [noStars h.2]; rfl
theorem spF_of {C : Cst} {Z : Xcs} {F : FT} {i n : Nat} {W : WX} {σ : L2.St} {vs : List V} {ds : List D} {g : G} {H : Hp} {Q : VK} (hn : ds.length = n) (hr : Reps C H ds vs) (hg : GOk C g H)
    (hp : Post C Z W σ H ((F i ds g).bind fun r g2 => .ok (r.1, if r.2 then .f else .s) g2) Q) : spF C Z F i n vs H Q (WE W σ) := by
  refine ⟨by rw [hr.length]; exact hn, ds, g, hr, hg, ?_⟩
  cases q : F i ds g with
  | bad => rw [q] at hp; exact hp
  | exc c xs g' => rw [q] at hp; exact hp
  | ok a g' =>
    obtain ⟨d, fr⟩ := a
    rw [q] at hp
    exact hp
/-- a list of arguments has as many values -/
def DenL.len (n : Nat) (fs : DenL) : Prop := ∀ F ρ g ds g', fs F ρ g = .ok ds g' → ds.length = n
theorem dNil_len : DenL.len 0 dNil := fun F ρ g ds g' h => by cases h; rfl
theorem dCons_len {n : Nat} {f : Den} {r : DenL} (h : DenL.len n r) : DenL.len (n + 1) (dCons f r) := fun F ρ g ds g' e => by
  unfold dCons at e
  cases q : f F ρ g with
  | bad => rw [q] at e; cases e
  | exc c xs g' => rw [q] at e; cases e
  | ok a g1 =>
    rw [q] at e
    dsimp only [R.bind] at e
    cases q2 : r F ρ g1 with
    | bad => rw [q2] at e; cases e
    | exc c xs g' => rw [q2] at e; cases e
    | ok b g2 =>
      rw [q2] at e
      cases e
      simp [h F ρ g1 b _ q2]
theorem SE.call {x : Str} {i n : Nat} {e : Expr} {es : List Expr} {fs : DenL} {p pos : Pos} (hg : sc.names.lookup x = some .globalImplicit) (hd : (x == ("__debug__" : Str)) = false) (hf : T.fns[i]? = some (x, n)) (hs : (e :: es).all notStar = true) (ha : SL T N sc (e :: es) fs)
    (hl : DenL.len n fs) : SE T N sc (.Call (.Name x p) (e :: es) [] pos) (dCall i fs) := by
  intro C Z k F W X cx H0 ρ g σ H S Q hp
  obtain ⟨a, h1, h2, ⟨⟨fd, ps, ok, bd, hn⟩, kp⟩⟩ := cx.fns i x n hf
  have hg' : Gl X x := by show X.env.scope.names.lookup x = _; rw [cx.sc]; exact hg
  rw [List.all_cons, Bool.and_eq_true] at hs
  refine wE.of (pe_callS (E := WE W) ok (cx.room.mono (Nat.le_succ _)) hg' h1 kp bd (fun σ => passAt cx.tk σ) wA.pa hd (star_of hs.1) (noStars hs.2)) ?_
  have key : ∀ ds g', fs F ρ g = .ok ds g' → ds.length = n := fun ds g' q => hl F ρ g ds g' q
  unfold dCall at hp
  refine ha C Z k F W X cx H0 ρ g σ H S _ ?_
  cases q : fs F ρ g with
  | bad => rw [q] at hp; exact hp
  | exc c xs g' => rw [q] at hp; exact hp
  | ok ds g1 =>
    rw [q] at hp
    exact fun vs H1 e1 k1 r1 => spF_of (key ds g1 q) r1 k1 (PG'.shift rlF.sh e1 hp)
end
end Ev
end

section
/-! Ev5: built-in functions. -/
namespace Ev
open PySem PySem.Spec L2
open PyProof.Rows hiding St

def CallOk (fv : Value) (o : List D → Option (D × Fl)) : Prop :=
  ∀ {C : Cst} {Z : Xcs} {T : Tab} {k : Nat} {F : FT} {W : WX} {N : List Str} {sc : Scope} {X : Cx}, Ctx C Z T k F W N sc X → ∀ {ds : List D} {vs : List V} {H : Hp} {g : G} {res : D × Fl}, o ds = some res → WReps C H ds vs → GOk C g H →
    ∀ Q, (∀ v H', Ext C H H' → GOk C g H' → rlF C H H' res v → Q v H') → wCl X fv vs H Q
def dBif (o : List D → Option (D × Fl)) (fs : DenL) : Den := fun F ρ g => (fs F ρ g).bind fun ds g1 => match o ds with
  | some r => .ok r g1
  | none => .bad
section
variable {T : Tab} {N : List Str} {sc : Scope}
theorem SE.bif {x : Str} {id : String} {o : List D → Option (D × Fl)} {e : Expr} {es : List Expr} {fs : DenL} {p pos : Pos} (hg : sc.names.lookup x = some .globalImplicit) (hb : x ∈ bnames) (hv : bootBuiltins x = some (.builtin id)) (hn : x ≠ "__name__") (hd : (x == ("__debug__" : Str)) = false)
    (hs : (e :: es).all notStar = true) (ho : CallOk (.builtin id) o) (ha : SLw T N sc (e :: es) fs) : SE T N sc (.Call (.Name x p) (e :: es) [] pos) (dBif o fs) := by
  intro C Z k F W X cx H0 ρ g σ H S Q hp
  have hg' : Gl X x := by show X.env.scope.names.lookup x = _; rw [cx.sc]; exact hg
  rw [List.all_cons, Bool.and_eq_true] at hs
  refine wE.of (pe_callB wCl.cl hg' (cx.bl x hb) hv wA.pa hn hd (star_of hs.1) (noStars hs.2)) ?_
  refine ha.then cx S rlF.sh hp fun ds g1 vs H1 e1 k1 r1 S1 p1 => ?_
  split at p1
  · rename_i res hr
    exact ho cx hr r1 k1 Q p1
  · exact p1.elim
theorem SE.bty {x : Str} {id : String} {o : List D → Option (D × Fl)} {e : Expr} {es : List Expr} {fs : DenL} {p pos : Pos} (hg : sc.names.lookup x = some .globalImplicit) (hb : x ∈ bnames) (hv : bootBuiltins x = some (.type id)) (hn : x ≠ "__name__") (hd : (x == ("__debug__" : Str)) = false)
    (hs : (e :: es).all notStar = true) (ho : CallOk (.type id) o) (ha : SLw T N sc (e :: es) fs) : SE T N sc (.Call (.Name x p) (e :: es) [] pos) (dBif o fs) := by
  intro C Z k F W X cx H0 ρ g σ H S Q hp
  have hg' : Gl X x := by show X.env.scope.names.lookup x = _; rw [cx.sc]; exact hg
  rw [List.all_cons, Bool.and_eq_true] at hs
  refine wE.of (pe_callTy wCl.cl hg' (cx.bl x hb) hv wA.pa hn hd (star_of hs.1) (noStars hs.2)) ?_
  refine ha.then cx S rlF.sh hp fun ds g1 vs H1 e1 k1 r1 S1 p1 => ?_
  split at p1
  · rename_i res hr
    exact ho cx hr r1 k1 Q p1
  · exact p1.elim
end
theorem WReps.one {C : Cst} {H : Hp} {d : D} {vs : List V} (h : WReps C H [d] vs) : ∃ v, vs = [v] ∧ WRep C H d v := by
  obtain ⟨x, ys, rfl, r, e⟩ := h
  exact ⟨x, by rw [show ys = [] from e], r⟩
theorem WReps.two {C : Cst} {H : Hp} {d e : D} {vs : List V} (h : WReps C H [d, e] vs) : ∃ v u, vs = [v, u] ∧ WRep C H d v ∧ WRep C H e u := by
  obtain ⟨x, ys, rfl, r, y, zs, rfl, r2, e⟩ := h
  exact ⟨x, y, by rw [show zs = [] from e], r, r2⟩

/-! ### all, any, sum, abs, len, int, max, min -/
def D.bools : List D → Option (List Bool)
  | [] => some []
  | .bl b :: r => (D.bools r).map (b :: ·)
  | _ :: _ => none
def D.ints : List D → Option (List Int)
  | [] => some []
  | .int b :: r => (D.ints r).map (b :: ·)
  | _ :: _ => none
theorem bools_of {C : Cst} {H : Hp} : ∀ {ds : List D} {xs : List V} {bs : List Bool}, D.bools ds = some bs → Reps C H ds xs → xs = bs.map V.bl
  | [], _, _, e, h => by cases e; exact h
  | d :: ds, _, bs, e, h => by
    obtain ⟨x, ys, rfl, r, rs⟩ := h
    cases d with
    | bl b =>
      obtain ⟨t, et, rfl⟩ := Option.map_eq_some_iff.mp (show (D.bools ds).map (b :: ·) = some bs from e)
      rw [show x = .bl b from r, bools_of et rs]; rfl
    | _ => cases e
theorem ints_of {C : Cst} {H : Hp} : ∀ {ds : List D} {xs : List V} {bs : List Int}, D.ints ds = some bs → Reps C H ds xs → xs = bs.map V.int
  | [], _, _, e, h => by cases e; exact h
  | d :: ds, _, bs, e, h => by
    obtain ⟨x, ys, rfl, r, rs⟩ := h
    cases d with
    | int b =>
      obtain ⟨t, et, rfl⟩ := Option.map_eq_some_iff.mp (show (D.ints ds).map (b :: ·) = some bs from e)
      rw [show x = .int b from r, ints_of et rs]; rfl
    | _ => cases e
theorem D.ints_map : ∀ ns : List Int, D.ints (ns.map D.int) = some ns
  | [] => rfl
  | n :: ns => by simp [D.ints, D.ints_map ns]
theorem D.bools_map : ∀ ns : List Bool, D.bools (ns.map D.bl) = some ns
  | [] => rfl
  | n :: ns => by simp [D.bools, D.bools_map ns]
def oAll (ds : List D) : Option (D × Fl) := match ds with
  | [.lst l] => (D.bools l).map fun bs => (.bl (bs.all id), .s)
  | _ => none
def oAny (ds : List D) : Option (D × Fl) := match ds with
  | [.lst l] => (D.bools l).map fun bs => (.bl (bs.any id), .s)
  | _ => none
theorem oAll_ok : CallOk (.builtin "all") oAll := by
  intro C Z T k F W N sc X cx ds vs H g res hr hw k0 Q hQ
  unfold oAll at hr
  split at hr
  · rename_i l
    obtain ⟨bs, eb, rfl⟩ := Option.map_eq_some_iff.mp hr
    obtain ⟨v, rfl, w⟩ := hw.one
    obtain ⟨p, xs, rfl, s, r⟩ := w.lst
    rw [bools_of eb r] at s
    exact wCl.of (cr_all cx.calm) ⟨p, bs, rfl, by rw [cx.hK]; exact s, hQ _ H (.refl _ _) k0 rfl⟩
  · cases hr
theorem oAny_ok : CallOk (.builtin "any") oAny := by
  intro C Z T k F W N sc X cx ds vs H g res hr hw k0 Q hQ
  unfold oAny at hr
  split at hr
  · rename_i l
    obtain ⟨bs, eb, rfl⟩ := Option.map_eq_some_iff.mp hr
    obtain ⟨v, rfl, w⟩ := hw.one
    obtain ⟨p, xs, rfl, s, r⟩ := w.lst
    rw [bools_of eb r] at s
    exact wCl.of (cr_any cx.calm) ⟨p, bs, rfl, by rw [cx.hK]; exact s, hQ _ H (.refl _ _) k0 rfl⟩
  · cases hr

section
variable {prog : Program} {w : World} {A : Around} {E : Value → Shared → Prop} {s : Shared} {l : Addr} {xs : Array (Int × Tok)}
theorem iter_intTup {Q : Value → Shared → Prop} (hl : s.heap.IsTuple l (intItems xs))
    (h : ∀ s₂ : Shared, s₂ = { s with heap := s.heap.push { cls := .type "tuple_iterator", data := .fields #[.ref l, .int 0 0] } } →
      (s₂.heap.IsTupleIter s.heap.objs.size l 0 ∧ s₂.heap.IsTuple l (intItems xs)) → (∀ b ∈ [s.heap.objs.size, l], b < s₂.heap.objs.size) → l ≠ s.heap.objs.size → Q (.ref s.heap.objs.size) s₂) :
    wpAny (model prog w) A (pyIter (.ref l)) Q E s := by
  have hlt : l < s.heap.objs.size := by
    obtain ⟨o, eo, _⟩ := hl
    exact Heap.lt_size eo
  refine wpAny_pyIter_tuple hl (h _ rfl ⟨⟨_, Heap.get?_push_size _ rfl, rfl, rfl⟩, hl.at fun o e => Heap.get?_push_of_some _ e⟩ (fun b hb => ?_) (Nat.ne_of_lt hlt))
  rw [show ({ s with heap := s.heap.push { cls := .type "tuple_iterator", data := .fields #[.ref l, .int 0 0] } } : Shared).heap.objs.size = s.heap.objs.size + 1 from Heap.size_push _ _]
  simp only [List.mem_cons, List.not_mem_nil, or_false] at hb
  rcases hb with rfl | rfl
  · exact Nat.lt_succ_self _
  · exact Nat.lt_succ_of_lt hlt
theorem kept_tup {h' : Heap} (hk : ∀ b o, b ∉ [s.heap.objs.size] → (s.heap.push { cls := .type "tuple_iterator", data := .fields #[.ref l, .int 0 0] }).get? b = some o → h'.get? b = some o) :
    ∀ b o, s.heap.get? b = some o → h'.get? b = some o := fun b o e => by
  refine hk b o (fun hm => ?_) (Heap.get?_push_of_some _ e)
  have hlt := Heap.lt_size e
  simp only [List.mem_cons, List.not_mem_nil, or_false] at hm
  rw [hm] at hlt
  exact Nat.lt_irrefl _ hlt
theorem sum_tup {Q : Value → Shared → Prop} (hh : A.handled = none) (hl : s.heap.IsTuple l (intItems xs))
    (h : ∀ h' tk t', (∀ b o, s.heap.get? b = some o → h'.get? b = some o) → Q (.int (preSum (numAt xs) xs.size) t') { s with heap := h', toks := tk }) :
    wpAny (model prog w) A (call (.builtin "sum") [.ref l]) Q E s := by
  refine call_sum_walkG (iter_intTup hl fun s₂ e st hfp hlI => ?_)
  subst e
  refine ⟨_, _, _, _, _, _, numAt xs, rfl, Walks.tuple (A := A.in1) hh _ l hlI (intItems xs), st, hfp, (fun _ _ => intItems_at), fun h' tk t' hk => ?_⟩
  have := h h' tk t' (kept_tup hk)
  simpa [intItems] using this
theorem max_tup {Q : Value → Shared → Prop} (hh : A.handled = none) (hl : s.heap.IsTuple l (intItems xs)) (hne : 0 < xs.size)
    (h : ∀ v h' tk, (intItems xs)[argBest (fun i j => decide (numAt xs i > numAt xs j)) (xs.size - 1)]? = some v → (∀ b o, s.heap.get? b = some o → h'.get? b = some o) → Q v { s with heap := h', toks := tk }) :
    wpAny (model prog w) A (call (.builtin "max") [.ref l]) Q E s := by
  refine call_max_walk (iter_intTup hl fun s₂ e st hfp hlI => ?_)
  subst e
  refine ⟨_, _, _, _, _, _, _, rfl, Walks.tuple (A := A.in1) hh _ l hlI (intItems xs), st, hfp, by simpa [intItems] using hne, CmpOf.ints_gt (numAt xs) (fun _ _ => intItems_at), fun v h' tk hP hk => ?_⟩
  exact h v h' tk (by simpa [intItems] using hP) (kept_tup hk)
theorem min_tup {Q : Value → Shared → Prop} (hh : A.handled = none) (hl : s.heap.IsTuple l (intItems xs)) (hne : 0 < xs.size)
    (h : ∀ v h' tk, (intItems xs)[argBest (fun i j => decide (numAt xs i < numAt xs j)) (xs.size - 1)]? = some v → (∀ b o, s.heap.get? b = some o → h'.get? b = some o) → Q v { s with heap := h', toks := tk }) :
    wpAny (model prog w) A (call (.builtin "min") [.ref l]) Q E s := by
  refine call_min_walk (iter_intTup hl fun s₂ e st hfp hlI => ?_)
  subst e
  refine ⟨_, _, _, _, _, _, _, rfl, Walks.tuple (A := A.in1) hh _ l hlI (intItems xs), st, hfp, by simpa [intItems] using hne, CmpOf.ints_lt (numAt xs) (fun _ _ => intItems_at), fun v h' tk hP hk => ?_⟩
  exact h v h' tk (by simpa [intItems] using hP) (kept_tup hk)
end
section
variable {X : Cx}
def rSumT (K : PySem.W.Frag) : List V → Hp → VK → Prop := fun vs H Q => ∃ (a : Addr) (ns : List Int), vs = [V.ref a] ∧ SqT K H a (ns.map V.int) ∧ Q (.int ns.sum) H
def rMaxT (K : PySem.W.Frag) : List V → Hp → VK → Prop := fun vs H Q => ∃ (a : Addr) (ns : List Int), vs = [V.ref a] ∧ SqT K H a (ns.map V.int) ∧ 0 < ns.length ∧ ∀ m, m ∈ ns → (∀ y, y ∈ ns → y ≤ m) → Q (.int m) H
def rMinT (K : PySem.W.Frag) : List V → Hp → VK → Prop := fun vs H Q => ∃ (a : Addr) (ns : List Int), vs = [V.ref a] ∧ SqT K H a (ns.map V.int) ∧ 0 < ns.length ∧ ∀ m, m ∈ ns → (∀ y, y ∈ ns → m ≤ y) → Q (.int m) H
theorem ints_items {its : List Value} {ns : List Int} (hi : IntsAre its ns) : ∃ xs : Array (Int × Tok), its.toArray = intItems xs ∧ xs.toList.map (·.1) = ns := by
  obtain ⟨xs, e⟩ := hi.allInts.items
  have hn : numsOf (intItems xs).toList = ns := by rw [← e]; exact hi.numsOf
  rw [nums_intItems] at hn
  exact ⟨xs, e, hn⟩
theorem cr_sumT (hc : X.calm = true) : CallR X (.builtin "sum") (rSumT X.K) := by
  intro pins s σ H vs us Q I r h
  obtain ⟨a, ns, rfl, hs, q⟩ := h
  obtain ⟨its, rv, hl, _⟩ := I.tuple hs
  rw [Vals.ref1 r]
  obtain ⟨xs, e, hn⟩ := ints_items rv.ints
  rw [e] at hl
  refine sum_tup (I.ok.hd hc) hl fun h' tk t' hk => ⟨.int _, H, I.kept hk, ⟨_, rfl⟩, ?_⟩
  rw [preSum_eq, List.take_of_length_le (by simp), hn]; exact q
theorem cr_maxT (hc : X.calm = true) : CallR X (.builtin "max") (rMaxT X.K) := by
  intro pins s σ H vs us Q I r h
  obtain ⟨a, ns, rfl, hs, hne, q⟩ := h
  obtain ⟨its, rv, hl, _⟩ := I.tuple hs
  rw [Vals.ref1 r]
  obtain ⟨xs, e, hn⟩ := ints_items rv.ints
  subst hn
  rw [e] at hl
  have hsz : 0 < xs.size := by simpa using hne
  refine max_tup (I.ok.hd hc) hl hsz fun v h' tk hv hk => ?_
  obtain ⟨t, rfl⟩ := intItems_at hv
  obtain ⟨h1, h2⟩ := argBest_gt (numAt xs) (xs.size - 1)
  refine ⟨.int _, H, I.kept hk, ⟨_, rfl⟩, q _ ?_ fun y hy => ?_⟩
  · rw [numAt_eq]; exact PySem.getD_mem (by rw [List.length_map, Array.length_toList]; omega)
  · obtain ⟨j, hj, rfl⟩ := mem_getD hy
    rw [List.length_map, Array.length_toList] at hj
    rw [← numAt_eq]; exact h2 j (by omega)
theorem cr_minT (hc : X.calm = true) : CallR X (.builtin "min") (rMinT X.K) := by
  intro pins s σ H vs us Q I r h
  obtain ⟨a, ns, rfl, hs, hne, q⟩ := h
  obtain ⟨its, rv, hl, _⟩ := I.tuple hs
  rw [Vals.ref1 r]
  obtain ⟨xs, e, hn⟩ := ints_items rv.ints
  subst hn
  rw [e] at hl
  have hsz : 0 < xs.size := by simpa using hne
  refine min_tup (I.ok.hd hc) hl hsz fun v h' tk hv hk => ?_
  obtain ⟨t, rfl⟩ := intItems_at hv
  obtain ⟨h1, h2⟩ := argBest_lt (numAt xs) (xs.size - 1)
  refine ⟨.int _, H, I.kept hk, ⟨_, rfl⟩, q _ ?_ fun y hy => ?_⟩
  · rw [numAt_eq]; exact PySem.getD_mem (by rw [List.length_map, Array.length_toList]; omega)
  · obtain ⟨j, hj, rfl⟩ := mem_getD hy
    rw [List.length_map, Array.length_toList] at hj
    rw [← numAt_eq]; exact h2 j (by omega)
end
def oSum (ds : List D) : Option (D × Fl) := match ds with
  | [.lst l] => (D.ints l).map fun bs => (.int bs.sum, .s)
  | [.tup l] => (D.ints l).map fun bs => (.int bs.sum, .s)
  | _ => none
theorem oSum_ok : CallOk (.builtin "sum") oSum := by
  intro C Z T k F W N sc X cx ds vs H g res hr hw k0 Q hQ
  unfold oSum at hr
  split at hr
  · rename_i l
    obtain ⟨bs, eb, rfl⟩ := Option.map_eq_some_iff.mp hr
    obtain ⟨v, rfl, w⟩ := hw.one
    obtain ⟨p, xs, rfl, s, r⟩ := w.lst
    rw [ints_of eb r] at s
    exact wCl.of (cr_sum cx.calm) ⟨p, bs, rfl, by rw [cx.hK]; exact s, hQ _ H (.refl _ _) k0 rfl⟩
  · rename_i l
    obtain ⟨bs, eb, rfl⟩ := Option.map_eq_some_iff.mp hr
    obtain ⟨v, rfl, w⟩ := hw.one
    obtain ⟨p, xs, rfl, s, r⟩ := w.tup
    rw [ints_of eb r] at s
    exact wCl.of (cr_sumT cx.calm) ⟨p, bs, rfl, by rw [cx.hK]; exact s.sq, hQ _ H (.refl _ _) k0 rfl⟩
  · cases hr
/-- the greatest, the least -/
def maxL : List Int → Int
  | [] => 0
  | a :: r => r.foldl max a
def minL : List Int → Int
  | [] => 0
  | a :: r => r.foldl min a
theorem foldl_max : ∀ (r : List Int) (a : Int), (a ≤ r.foldl max a ∧ ∀ y ∈ r, y ≤ r.foldl max a) ∧ (r.foldl max a = a ∨ r.foldl max a ∈ r)
  | [], a => ⟨⟨Int.le_refl _, fun y hy => by cases hy⟩, .inl rfl⟩
  | b :: r, a => by
    obtain ⟨⟨h1, h2⟩, h3⟩ := foldl_max r (max a b)
    rw [List.foldl_cons]
    refine ⟨⟨by omega, fun y hy => ?_⟩, ?_⟩
    · rcases List.mem_cons.mp hy with rfl | hy
      · omega
      · exact h2 y hy
    · rcases h3 with h3 | h3
      · rw [h3]
        by_cases hab : a ≤ b
        · right; rw [Int.max_eq_right hab]; exact List.mem_cons_self
        · left; exact Int.max_eq_left (by omega)
      · exact .inr (List.mem_cons_of_mem _ h3)
theorem foldl_min : ∀ (r : List Int) (a : Int), (r.foldl min a ≤ a ∧ ∀ y ∈ r, r.foldl min a ≤ y) ∧ (r.foldl min a = a ∨ r.foldl min a ∈ r)
  | [], a => ⟨⟨Int.le_refl _, fun y hy => by cases hy⟩, .inl rfl⟩
  | b :: r, a => by
    obtain ⟨⟨h1, h2⟩, h3⟩ := foldl_min r (min a b)
    rw [List.foldl_cons]
    refine ⟨⟨by omega, fun y hy => ?_⟩, ?_⟩
    · rcases List.mem_cons.mp hy with rfl | hy
      · omega
      · exact h2 y hy
    · rcases h3 with h3 | h3
      · rw [h3]
        by_cases hab : a ≤ b
        · left; exact Int.min_eq_left hab
        · right; rw [Int.min_eq_right (by omega)]; exact List.mem_cons_self
      · exact .inr (List.mem_cons_of_mem _ h3)
theorem maxL_spec {ns : List Int} (h : ns ≠ []) : maxL ns ∈ ns ∧ ∀ y ∈ ns, y ≤ maxL ns := by
  cases ns with
  | nil => exact absurd rfl h
  | cons a r =>
    obtain ⟨⟨h1, h2⟩, h3⟩ := foldl_max r a
    refine ⟨?_, fun y hy => ?_⟩
    · rcases h3 with h3 | h3
      · show r.foldl max a ∈ _; rw [h3]; exact List.mem_cons_self
      · exact List.mem_cons_of_mem _ h3
    · rcases List.mem_cons.mp hy with rfl | hy
      · exact h1
      · exact h2 y hy
theorem minL_spec {ns : List Int} (h : ns ≠ []) : minL ns ∈ ns ∧ ∀ y ∈ ns, minL ns ≤ y := by
  cases ns with
  | nil => exact absurd rfl h
  | cons a r =>
    obtain ⟨⟨h1, h2⟩, h3⟩ := foldl_min r a
    refine ⟨?_, fun y hy => ?_⟩
    · rcases h3 with h3 | h3
      · show r.foldl min a ∈ _; rw [h3]; exact List.mem_cons_self
      · exact List.mem_cons_of_mem _ h3
    · rcases List.mem_cons.mp hy with rfl | hy
      · exact h1
      · exact h2 y hy
theorem maxL_uniq {ns : List Int} {m : Int} (h : ns ≠ []) (h1 : m ∈ ns) (h2 : ∀ y ∈ ns, y ≤ m) : m = maxL ns := Int.le_antisymm ((maxL_spec h).2 m h1) (h2 _ (maxL_spec h).1)
theorem minL_uniq {ns : List Int} {m : Int} (h : ns ≠ []) (h1 : m ∈ ns) (h2 : ∀ y ∈ ns, m ≤ y) : m = minL ns := Int.le_antisymm (h2 _ (minL_spec h).1) ((minL_spec h).2 m h1)
def oMax0 (ds : List D) : Option (D × Fl) := match ds with
  | [.lst (d :: l)] => (D.ints (d :: l)).map fun bs => (.int (maxL bs), .s)
  | [.tup (d :: l)] => (D.ints (d :: l)).map fun bs => (.int (maxL bs), .s)
  | [.int i, .int j] => some (.int (if j > i then j else i), .s)
  | _ => none
def oMinI0 (ds : List D) : Option (D × Fl) := match ds with
  | [.lst (d :: l)] => (D.ints (d :: l)).map fun bs => (.int (minL bs), .s)
  | [.tup (d :: l)] => (D.ints (d :: l)).map fun bs => (.int (minL bs), .s)
  | [.int i, .int j] => some (.int (if j < i then j else i), .s)
  | _ => none
theorem ints_ne {d : D} {l : List D} {bs : List Int} (h : D.ints (d :: l) = some bs) : bs ≠ [] := by
  cases d with
  | int b => obtain ⟨t, et, rfl⟩ := Option.map_eq_some_iff.mp (show (D.ints l).map (b :: ·) = some bs from h); exact List.cons_ne_nil _ _
  | _ => cases h
theorem oMax0_ok : CallOk (.builtin "max") oMax0 := by
  intro C Z T k F W N sc X cx ds vs H g res hr hw k0 Q hQ
  unfold oMax0 at hr
  split at hr
  · rename_i d l
    obtain ⟨bs, eb, rfl⟩ := Option.map_eq_some_iff.mp hr
    obtain ⟨v, rfl, w⟩ := hw.one
    obtain ⟨p, xs, rfl, s, r⟩ := w.lst
    have ne := ints_ne eb
    rw [ints_of eb r] at s
    exact wCl.of (cr_max cx.calm) ⟨p, bs, rfl, by rw [cx.hK]; exact s, List.length_pos_iff.mpr ne, fun m h1 h2 => by rw [maxL_uniq ne h1 h2]; exact hQ _ H (.refl _ _) k0 rfl⟩
  · rename_i d l
    obtain ⟨bs, eb, rfl⟩ := Option.map_eq_some_iff.mp hr
    obtain ⟨v, rfl, w⟩ := hw.one
    obtain ⟨p, xs, rfl, s, r⟩ := w.tup
    have ne := ints_ne eb
    rw [ints_of eb r] at s
    exact wCl.of (cr_maxT cx.calm) ⟨p, bs, rfl, by rw [cx.hK]; exact s.sq, List.length_pos_iff.mpr ne, fun m h1 h2 => by rw [maxL_uniq ne h1 h2]; exact hQ _ H (.refl _ _) k0 rfl⟩
  · cases hr
    obtain ⟨v, u, rfl, w1, w2⟩ := hw.two
    exact wCl.of (call_max2 cx.calm) ⟨_, _, by rw [w1.int, w2.int], hQ _ H (.refl _ _) k0 rfl⟩
  · cases hr
theorem oMinI0_ok : CallOk (.builtin "min") oMinI0 := by
  intro C Z T k F W N sc X cx ds vs H g res hr hw k0 Q hQ
  unfold oMinI0 at hr
  split at hr
  · rename_i d l
    obtain ⟨bs, eb, rfl⟩ := Option.map_eq_some_iff.mp hr
    obtain ⟨v, rfl, w⟩ := hw.one
    obtain ⟨p, xs, rfl, s, r⟩ := w.lst
    have ne := ints_ne eb
    rw [ints_of eb r] at s
    exact wCl.of (cr_min cx.calm) ⟨p, bs, rfl, by rw [cx.hK]; exact s, List.length_pos_iff.mpr ne, fun m h1 h2 => by rw [minL_uniq ne h1 h2]; exact hQ _ H (.refl _ _) k0 rfl⟩
  · rename_i d l
    obtain ⟨bs, eb, rfl⟩ := Option.map_eq_some_iff.mp hr
    obtain ⟨v, rfl, w⟩ := hw.one
    obtain ⟨p, xs, rfl, s, r⟩ := w.tup
    have ne := ints_ne eb
    rw [ints_of eb r] at s
    exact wCl.of (cr_minT cx.calm) ⟨p, bs, rfl, by rw [cx.hK]; exact s.sq, List.length_pos_iff.mpr ne, fun m h1 h2 => by rw [minL_uniq ne h1 h2]; exact hQ _ H (.refl _ _) k0 rfl⟩
  · cases hr
    obtain ⟨v, u, rfl, w1, w2⟩ := hw.two
    exact wCl.of (call_min2 cx.calm) ⟨_, _, by rw [w1.int, w2.int], hQ _ H (.refl _ _) k0 rfl⟩
  · cases hr
def oAbs (ds : List D) : Option (D × Fl) := match ds with
  | [.int i] => some (.int (if i < 0 then -i else i), .s)
  | _ => none
theorem oAbs_ok : CallOk (.builtin "abs") oAbs := by
  intro C Z T k F W N sc X cx ds vs H g res hr hw k0 Q hQ
  unfold oAbs at hr
  split at hr
  · cases hr
    obtain ⟨v, rfl, w⟩ := hw.one
    exact wCl.of call_abs ⟨_, by rw [w.int], hQ _ H (.refl _ _) k0 rfl⟩
  · cases hr
def oInt (ds : List D) : Option (D × Fl) := match ds with
  | [.int i] => some (.int i, .s)
  | _ => none
theorem oInt_ok : CallOk (.type "int") oInt := by
  intro C Z T k F W N sc X cx ds vs H g res hr hw k0 Q hQ
  unfold oInt at hr
  split at hr
  · cases hr
    obtain ⟨v, rfl, w⟩ := hw.one
    exact wCl.of call_int1 (.inl ⟨_, by rw [w.int], hQ _ H (.refl _ _) k0 rfl⟩)
  · cases hr
theorem call_tupleP {X : Cx} : CallR X (.type "tuple") (fun xs H Q => ∃ p ys, xs = [.ref p] ∧ ((SqL X.K H p ys ∧ ∀ (l : Addr) (us : List Value), H l = none → Q (.ref l) (upd H l (.frz (tupO us) (.tup ys)))) ∨ (SqT X.K H p ys ∧ Q (.ref p) H))) := by
  intro pins s σ H xs us Q I r h
  obtain ⟨p, ys, rfl, h⟩ := h
  rcases h with ⟨hq, q⟩ | h
  · obtain ⟨u, rfl, rx⟩ := vals1 r
    cases rx
    obtain ⟨its, r', pl, hz⟩ := I.list hq
    have hl := r'.length
    refine call_tuple_list pl.isList (fun h' kp => ?_) (by simp only [List.size_toArray] <;> omega)
    have I1 : Inv X pins σ H { s with heap := h' } := I.kept (t' := s.toks) kp
    exact ⟨.ref h'.objs.size, _, Inv.tupNew I1 r' hz, rfl, q _ _ (I1.hok.fresh (Nat.le_refl _))⟩
  · exact call_tuple_of pins s σ H _ us Q I r ⟨p, ys, rfl, .inr h⟩
def oTuple (ds : List D) : Option (D × Fl) := match ds with
  | [.lst l] => some (.tup l, .s)
  | [.tup l] => some (.tup l, .s)
  | _ => none
theorem oTuple_ok : CallOk (.type "tuple") oTuple := by
  intro C Z T k F W N sc X cx ds vs H g res hr hw k0 Q hQ
  unfold oTuple at hr
  split at hr
  · cases hr
    obtain ⟨v, rfl, w⟩ := hw.one
    obtain ⟨p, xs, rfl, s, r⟩ := w.lst
    exact wCl.of call_tupleP ⟨p, xs, rfl, .inl ⟨by rw [cx.hK]; exact s, fun q us hn => hQ _ _ (.new hn) (k0.upd (k0.no hn)) ⟨q, xs, rfl, .new, r.keep (.new hn)⟩⟩⟩
  · cases hr
    obtain ⟨v, rfl, w⟩ := hw.one
    obtain ⟨p, xs, rfl, s, r⟩ := w.tup
    exact wCl.of call_tupleP ⟨p, xs, rfl, .inr ⟨by rw [cx.hK]; exact s.sq, hQ _ H (.refl _ _) k0 ⟨p, xs, rfl, s, r⟩⟩⟩
  · cases hr
def oList (ds : List D) : Option (D × Fl) := match ds with
  | [.lst l] => some (.lst l, .f)
  | [.tup l] => some (.lst l, .f)
  | _ => none
theorem oList_ok : CallOk (.type "list") oList := by
  intro C Z T k F W N sc X cx ds vs H g res hr hw k0 Q hQ
  unfold oList at hr
  split at hr
  · cases hr
    obtain ⟨v, rfl, w⟩ := hw.one
    obtain ⟨p, xs, rfl, s, r⟩ := w.lst
    exact wCl.of call_list_of ⟨p, xs, rfl, .inl (by rw [cx.hK]; exact s), fun q hn => hQ _ _ (.new hn) (k0.upd (k0.no hn)) ⟨q, rfl, hn, k0.no hn, xs, upd_same, r.keep (.new hn)⟩⟩
  · cases hr
    obtain ⟨v, rfl, w⟩ := hw.one
    obtain ⟨p, xs, rfl, s, r⟩ := w.tup
    exact wCl.of call_list_of ⟨p, xs, rfl, .inr (by rw [cx.hK]; exact s.sq), fun q hn => hQ _ _ (.new hn) (k0.upd (k0.no hn)) ⟨q, rfl, hn, k0.no hn, xs, upd_same, r.keep (.new hn)⟩⟩
  · cases hr
end Ev
end

section
/-! Ev6: dicts. -/
namespace Ev
open PySem PySem.Spec L2
open PyProof.Rows hiding St

/-! ### keys -/
mutual
def D.keq : D → D → Bool
  | .non, .non => true
  | .int a, .int b => decide (a = b)
  | .str a, .str b => decide (a = b)
  | .tup a, .tup b => D.keqs a b
  | _, _ => false
def D.keqs : List D → List D → Bool
  | [], [] => true
  | a :: r, b :: s => a.keq b && D.keqs r s
  | _, _ => false
end
theorem str_inj {a b : List Nat} (h : (⟨a.toArray⟩ : Str) = ⟨b.toArray⟩) : a = b := by
  have z : a.toArray = b.toArray := congrArg Str.cps h
  simpa using congrArg Array.toList z
mutual
theorem keq_iff : ∀ (a b : D), a.kok = true → b.kok = true → (a.keq b = true ↔ a.key = b.key)
  | .non, b, ha, hb => by cases b <;> first | (simp [D.keq, D.key]; done) | exact Bool.noConfusion hb
  | .int i, b, ha, hb => by cases b <;> first | (simp [D.keq, D.key]; done) | exact Bool.noConfusion hb
  | .str s, b, ha, hb => by
    cases b with
    | str t =>
      simp only [D.keq, D.key, decide_eq_true_eq, NestedKey.text.injEq]
      exact ⟨fun e => by rw [e], fun e => str_inj e⟩
    | _ => first | (simp [D.keq, D.key]; done) | exact Bool.noConfusion hb
  | .tup l, b, ha, hb => by
    cases b with
    | tup m =>
      simp only [D.keq, D.key, NestedKey.tup.injEq]
      exact keqs_iff l m ha hb
    | _ => first | (simp [D.keq, D.key]; done) | exact Bool.noConfusion hb
  | .bl _, _, ha, _ => Bool.noConfusion ha
  | .lst _, _, ha, _ => Bool.noConfusion ha
  | .dct _, _, ha, _ => Bool.noConfusion ha
  | .fn _, _, ha, _ => Bool.noConfusion ha
  | .hnd _, _, ha, _ => Bool.noConfusion ha
theorem keqs_iff : ∀ (l m : List D), D.koks l = true → D.koks m = true → (D.keqs l m = true ↔ D.keys l = D.keys m)
  | [], [], _, _ => by simp [D.keqs, D.keys]
  | [], b :: s, _, _ => by simp [D.keqs, D.keys]
  | a :: r, [], _, _ => by simp [D.keqs, D.keys]
  | a :: r, b :: s, ha, hb => by
    have ha' : (a.kok && D.koks r) = true := ha
    have hb' : (b.kok && D.koks s) = true := hb
    rw [Bool.and_eq_true] at ha' hb'
    simp only [D.keqs, D.keys, Bool.and_eq_true, List.cons.injEq]
    rw [keq_iff a b ha'.1 hb'.1, keqs_iff r s ha'.2 hb'.2]
end
theorem keq_dec {a b : D} (ha : a.kok = true) (hb : b.kok = true) : a.keq b = decide (a.key = b.key) := by
  rw [Bool.eq_iff_iff, decide_eq_true_eq]; exact keq_iff a b ha hb
def D.look (kvs : List (D × D)) (k : D) : Option D := (kvs.find? fun p => p.1.keq k).map (·.2)
def D.put (kvs : List (D × D)) (k v : D) : List (D × D) := if kvs.any (fun p => p.1.keq k) then kvs.map (fun p => if p.1.keq k then (p.1, v) else p) else kvs ++ [(k, v)]
/-- the key suits the dict -/
def D.fit (kvs : List (D × D)) (k : D) : Bool := k.kok && decide (k.key.depth ≤ 8) && (match kvs with
  | [] => true
  | p :: _ => p.1.isTup == k.isTup)
theorem put_length (kvs : List (D × D)) (k v : D) : (D.put kvs k v).length ≤ kvs.length + 1 := by
  unfold D.put
  split
  · simp
  · simp
theorem DOk.nil : DOk [] := ⟨fun p hp => absurd hp (List.not_mem_nil), .inl fun p hp => absurd hp (List.not_mem_nil), List.nodup_nil⟩
theorem DOk.put {kvs : List (D × D)} {k v : D} (h : DOk kvs) (f : D.fit kvs k = true) : DOk (D.put kvs k v) := by
  unfold D.fit at f
  simp only [Bool.and_eq_true, decide_eq_true_eq] at f
  obtain ⟨⟨f1, f2⟩, f3⟩ := f
  unfold D.put
  split
  · refine ⟨fun p hp => ?_, ?_, ?_⟩
    · obtain ⟨q, hq, rfl⟩ := List.mem_map.mp hp
      have := h.kok q hq
      split <;> exact this
    · rcases h.mode with m | m
      · refine .inl fun p hp => ?_
        obtain ⟨q, hq, rfl⟩ := List.mem_map.mp hp
        have := m q hq
        split <;> exact this
      · refine .inr fun p hp => ?_
        obtain ⟨q, hq, rfl⟩ := List.mem_map.mp hp
        have := m q hq
        split <;> exact this
    · have e : (kvs.map (fun p => if p.1.keq k then (p.1, v) else p)).map (fun p => p.1.key) = kvs.map fun p => p.1.key := by
        rw [List.map_map]
        refine List.map_congr_left fun p _ => ?_
        simp only [Function.comp]
        split <;> rfl
      rw [e]; exact h.nd
  · rename_i hn
    refine ⟨fun p hp => ?_, ?_, ?_⟩
    · rcases List.mem_append.mp hp with hp | hp
      · exact h.kok p hp
      · rw [List.mem_singleton] at hp; subst hp; exact ⟨f1, f2⟩
    · cases kvs with
      | nil =>
        cases hk : k.isTup with
        | true => exact .inl fun p hp => by simp at hp; subst hp; exact hk
        | false => exact .inr fun p hp => by simp at hp; subst hp; exact hk
      | cons p0 r =>
        simp only [beq_iff_eq] at f3
        rcases h.mode with m | m
        · refine .inl fun p hp => ?_
          rcases List.mem_append.mp hp with hp | hp
          · exact m p hp
          · rw [List.mem_singleton] at hp; subst hp; rw [← f3]; exact m p0 List.mem_cons_self
        · refine .inr fun p hp => ?_
          rcases List.mem_append.mp hp with hp | hp
          · exact m p hp
          · rw [List.mem_singleton] at hp; subst hp; rw [← f3]; exact m p0 List.mem_cons_self
    · rw [List.map_append, List.nodup_append]
      refine ⟨h.nd, by simp, fun a ha b hb e => ?_⟩
      simp only [List.map_cons, List.map_nil, List.mem_singleton] at hb
      subst hb
      obtain ⟨p, hp, e2⟩ := List.mem_map.mp ha
      refine hn (List.any_eq_true.mpr ⟨p, hp, ?_⟩)
      rw [keq_iff _ _ (h.kok p hp).1 f1, e2, e]

/-! ### keys carried by value -/
def notBool : Value → Bool
  | .bool _ => false
  | _ => true
def sKind (P : Program) (w : World) : KeyKind P w Leaf where
  is := fun k v => Leaf.isOf k v && notBool v
  hash := (leafKind P w).hash
  inj := fun v a b ha hb => (leafKind P w).inj v a b ((Bool.and_eq_true _ _).mp ha).1 ((Bool.and_eq_true _ _).mp hb).1
  byValue := fun k v h => (leafKind P w).byValue k v ((Bool.and_eq_true _ _).mp h).1
  pyHash := fun hv h => (leafKind P w).pyHash ((Bool.and_eq_true _ _).mp hv).1 h
  eqBool := fun hu hv h => (leafKind P w).eqBool ((Bool.and_eq_true _ _).mp hu).1 ((Bool.and_eq_true _ _).mp hv).1 h
  «strs» := fun k x t v h => by
    have h1 := ((Bool.and_eq_true _ _).mp h).1
    have h2 := (leafKind P w).strs k x t v h1
    show (Leaf.isOf k v && notBool v) = _
    have h3 : Leaf.isOf k v = v.isStr x := h2
    rw [h3]
    cases v <;> simp [Value.isStr, notBool]
def D.leaf : D → Leaf
  | .int i => .num i
  | .str s => .text ⟨s.toArray⟩
  | _ => .none
theorem leaf_key {d : D} (h : d.kok = true) (t : d.isTup = false) : d.leaf.key = d.key := by
  cases d <;> first | rfl | exact Bool.noConfusion h | exact Bool.noConfusion t
theorem leaf_is {P : Program} {C : Cst} {H : Hp} {d : D} {x : V} {u : Value} (h : d.kok = true) (t : d.isTup = false) (r : Rep C H d x) (q : RelV x u) : (sKind P C.w).is d.leaf u = true := by
  cases d with
  | non => rw [show x = .non from r] at q; cases q; rfl
  | int i => rw [show x = .int i from r] at q; obtain ⟨t, rfl⟩ := q; show (decide (i = i) && true) = true; simp
  | str s => rw [show x = .str _ from r] at q; obtain ⟨t, rfl⟩ := q; show (Value.isStrOf _ (.str _ t) && true) = true; simp [Value.isStrOf]
  | tup l => exact Bool.noConfusion t
  | _ => exact Bool.noConfusion h
theorem leaf_of {P : Program} {C : Cst} {H : Hp} {d : D} {u : Value} (h : d.kok = true) (t : d.isTup = false) (q : (sKind P C.w).is d.leaf u = true) : ∃ x, RelV x u ∧ Rep C H d x := by
  have q1 := (Bool.and_eq_true _ _).mp (show (Leaf.isOf d.leaf u && notBool u) = true from q)
  cases d with
  | non => cases u <;> first | exact ⟨.non, rfl, rfl⟩ | exact Bool.noConfusion q1.1
  | int i =>
    cases u with
    | int j t =>
      have e : j = i := of_decide_eq_true q1.1
      subst e
      exact ⟨.int j, ⟨_, rfl⟩, rfl⟩
    | bool b => exact Bool.noConfusion q1.2
    | _ => exact Bool.noConfusion q1.1
  | str s =>
    obtain ⟨t, rfl⟩ := Value.isStrOf_shape (show Value.isStrOf ⟨s.toArray⟩ u = true from q1.1)
    exact ⟨.str _, ⟨t, rfl⟩, rfl⟩
  | tup l => exact Bool.noConfusion t
  | _ => exact Bool.noConfusion h

/-! ### keys that are tuples -/
section
variable {C : Cst} {X : Cx} {pins : List (Addr × Obj)} {σ : L2.St} {H : Hp} {s : Shared}
mutual
theorem Rep.nested (hK : X.K = C.K) (I : Inv X pins σ H s) : ∀ (d : D) {x : V} {u : Value}, d.kok = true → Rep C H d x → RelV x u → NestedIs s.heap d.key u
  | .non, _, _, _, r, q => by rw [show _ = V.non from r] at q; cases q; exact .none
  | .int i, _, _, _, r, q => by rw [show _ = V.int i from r] at q; obtain ⟨t, rfl⟩ := q; exact .int i t
  | .str l, _, _, _, r, q => by rw [show _ = V.str _ from r] at q; obtain ⟨t, rfl⟩ := q; exact .text _ t
  | .tup l, _, _, h, r, q => by
    obtain ⟨a, xs, rfl, sq, rs⟩ := r
    obtain rfl : _ = Value.ref a := q
    obtain ⟨its, rv, ⟨o, h1, h2, n, h3⟩, _⟩ := I.tuple (show SqT X.K H a xs by rw [hK]; exact sq.sq)
    exact .tup h1 h2 h3 (Reps.nested hK I l h rs (by simpa using rv))
  | .bl _, _, _, h, _, _ => Bool.noConfusion h
  | .lst _, _, _, h, _, _ => Bool.noConfusion h
  | .dct _, _, _, h, _, _ => Bool.noConfusion h
  | .fn _, _, _, h, _, _ => Bool.noConfusion h
  | .hnd _, _, _, h, _, _ => Bool.noConfusion h
theorem Reps.nested (hK : X.K = C.K) (I : Inv X pins σ H s) : ∀ (l : List D) {xs : List V} {us : List Value}, D.koks l = true → Reps C H l xs → Vals xs us → NestedAll s.heap (D.keys l) us
  | [], _, _, _, r, q => by rw [show _ = [] from r] at q; cases q; exact .nil
  | d :: l, _, _, h, r, q => by
    obtain ⟨x, ys, rfl, r1, rs⟩ := r
    have h' : (d.kok && D.koks l) = true := h
    rw [Bool.and_eq_true] at h'
    cases q with
    | cons q1 q2 => exact .cons (Rep.nested hK I d h'.1 r1 q1) (Reps.nested hK I l h'.2 rs q2)
end
end

/-! ### a dict that is read -/
def DRo (C : Cst) (H : Hp) (a : Addr) (o : Obj) : Prop := H a = some (rawD a o) ∨ (∃ o', H a = some (.frz o' (rawD a o))) ∨ C.K.lookup a = some o
def DRd (C : Cst) (H : Hp) (a : Addr) (es : List DictEntry) : Prop := ∃ o, DRo C H a o ∧ Dat o es
theorem DRo.at {C : Cst} {X : Cx} {pins : List (Addr × Obj)} {σ : L2.St} {H : Hp} {s : Shared} {a : Addr} {o : Obj} (hK : X.K = C.K) (I : Inv X pins σ H s) (h : DRo C H a o) : s.heap.get? a = some o := by
  rcases h with h | ⟨o', h⟩ | h
  · exact (I.hok a _ h).1
  · exact (I.hok a _ h).2.1
  · exact I.kIn a o (by rw [hK]; exact h)
theorem DRd.at {C : Cst} {X : Cx} {pins : List (Addr × Obj)} {σ : L2.St} {H : Hp} {s : Shared} {a : Addr} {es : List DictEntry} (hK : X.K = C.K) (I : Inv X pins σ H s) (h : DRd C H a es) : ∃ o ep, s.heap.get? a = some o ∧ o.ExactDict ∧ o.data = .dict es.toArray ep := by
  obtain ⟨o, h, h2, ep, h3⟩ := h
  exact ⟨o, ep, h.at hK I, h2, h3⟩
theorem WRep.dct {C : Cst} {H : Hp} {kvs : List (D × D)} {v : V} (h : WRep C H (.dct kvs) v) : ∃ a es, v = .ref a ∧ DRd C H a es ∧ (a == sysModules) = false ∧ es.length ≤ sizeLine ∧ DOk kvs ∧ RepE C H kvs es := by
  rcases h with ⟨a, es, e, ⟨o, s, d⟩, n, l, q, r⟩ | ⟨a, e, _, es, o, s, d, n, l, q, r⟩
  · exact ⟨a, es, e, ⟨o, .inr s, d⟩, n, l, q, r⟩
  · exact ⟨a, es, e, ⟨o, .inl s, d⟩, n, l, q, r⟩
theorem RepE.length {C : Cst} {H : Hp} : ∀ {kvs : List (D × D)} {es : List DictEntry}, RepE C H kvs es → es.length = kvs.length
  | [], _, h => by rw [show _ = [] from h]; rfl
  | (k, v) :: r, _, h => by
    obtain ⟨e, es', x, y, rfl, _, _, _, _, _, t⟩ := h
    simp [RepE.length t]
/-- leaf mode: the pairs by their leaves -/
def LP (C : Cst) (H : Hp) : List (D × D) → List (Leaf × Value) → Prop := Paired fun p l => l.1 = p.1.leaf ∧ ∃ y, RelV y l.2 ∧ Rep C H p.2 y
/-- tuple mode -/
def TP (C : Cst) (H : Hp) : List (D × D) → List (NestedKey × Addr × Value) → Prop := Paired fun p x => x.1 = p.1.key ∧ Rep C H p.1 (.ref x.2.1) ∧ ∃ y, RelV y x.2.2 ∧ Rep C H p.2 y
section
variable {C : Cst} {H : Hp} {P : Program}
theorem RepE.leaf : ∀ {kvs : List (D × D)} {es : List DictEntry}, RepE C H kvs es → (∀ p ∈ kvs, p.1.kok = true ∧ p.1.key.depth ≤ 8) → (∀ p ∈ kvs, p.1.isTup = false) → ∃ ls, Pairs (sKind P C.w) es ls ∧ KeysOf (sKind P C.w) es.toArray ∧ LP C H kvs ls
  | [], _, h, _, _ => by rw [show _ = [] from h]; exact ⟨[], .nil, (fun e he => by simp at he), .nil⟩
  | (k, v) :: r, _, h, g1, g2 => by
    obtain ⟨e, es', x, y, rfl, hs, r1, h1, r2, h2, t⟩ := h
    obtain ⟨ls, p1, p2, p3⟩ := RepE.leaf t (fun p hp => g1 p (List.mem_cons_of_mem _ hp)) fun p hp => g2 p (List.mem_cons_of_mem _ hp)
    have k1 := (g1 (k, v) List.mem_cons_self).1
    have k2 := g2 (k, v) List.mem_cons_self
    have is1 : (sKind P C.w).is k.leaf e.key = true := leaf_is k1 k2 h1 r1
    refine ⟨(k.leaf, e.val) :: ls, .cons is1 rfl p1, fun e' he' => ?_, .cons ⟨rfl, y, r2, h2⟩ p3⟩
    rw [List.mem_toArray] at he'
    rcases List.mem_cons.mp he' with rfl | he'
    · exact ⟨k.leaf, is1, by rw [hs]; show _ = k.leaf.key.hash C.w; rw [leaf_key k1 k2]⟩
    · exact p2 e' (by simpa using he')
theorem leaf_RepE : ∀ {kvs : List (D × D)} {es : List DictEntry} {ls : List (Leaf × Value)}, Pairs (sKind P C.w) es ls → (∀ e ∈ es, ∃ k, (sKind P C.w).is k e.key = true ∧ e.hash = (sKind P C.w).hash k) → LP C H kvs ls → (∀ p ∈ kvs, p.1.kok = true ∧ p.1.key.depth ≤ 8) → (∀ p ∈ kvs, p.1.isTup = false) → RepE C H kvs es
  | [], _, _, hp, _, hl, _, _ => by cases hl; cases hp; exact rfl
  | (k, v) :: r, _, _, hp, hk, hl, g1, g2 => by
    cases hl with
    | @cons _ b _ bs hh t =>
      obtain ⟨e1, y, ry, rp⟩ := hh
      cases hp with
      | @cons e _ es' _ i1 i2 i3 =>
        have k1 := (g1 (k, v) List.mem_cons_self).1
        have k2 := g2 (k, v) List.mem_cons_self
        rw [e1] at i1
        obtain ⟨x, rx, rpx⟩ := leaf_of (C := C) (H := H) k1 k2 i1
        obtain ⟨k', j1, j2⟩ := hk e List.mem_cons_self
        have e3 := (sKind P C.w).inj _ _ _ j1 i1
        refine ⟨e, es', x, y, rfl, ?_, rx, rpx, by rw [i2]; exact ry, rp, leaf_RepE i3 (fun e he => hk e (List.mem_cons_of_mem _ he)) t (fun p hp => g1 p (List.mem_cons_of_mem _ hp)) fun p hp => g2 p (List.mem_cons_of_mem _ hp)⟩
        rw [j2, e3]
        show k.leaf.key.hash C.w = _
        rw [leaf_key k1 k2]
theorem RepE.tup : ∀ {kvs : List (D × D)} {es : List DictEntry}, RepE C H kvs es → (∀ p ∈ kvs, p.1.isTup = true) → ∃ xs, es = xs.map (entryOfKey (nestedKind P C.w)) ∧ TP C H kvs xs
  | [], _, h, _ => by rw [show _ = [] from h]; exact ⟨[], rfl, .nil⟩
  | (k, v) :: r, _, h, g2 => by
    obtain ⟨e, es', x, y, rfl, hs, r1, h1, r2, h2, t⟩ := h
    obtain ⟨xs, p1, p2⟩ := RepE.tup t fun p hp => g2 p (List.mem_cons_of_mem _ hp)
    have k2 := g2 (k, v) List.mem_cons_self
    cases k with
    | tup l =>
      obtain ⟨a, ys, rfl, sq, rs⟩ := h1
      have ek : e.key = .ref a := r1
      refine ⟨((D.tup l).key, a, e.val) :: xs, ?_, .cons ⟨rfl, ⟨a, ys, rfl, sq, rs⟩, y, r2, h2⟩ p2⟩
      rw [List.map_cons, p1]
      congr 1
      cases e
      simp only at ek hs
      subst ek hs
      rfl
    | _ => exact Bool.noConfusion k2
theorem tup_RepE : ∀ {kvs : List (D × D)} {xs : List (NestedKey × Addr × Value)}, TP C H kvs xs → RepE C H kvs (xs.map (entryOfKey (nestedKind P C.w)))
  | [], _, h => by cases h; exact rfl
  | (k, v) :: r, _, h => by
    cases h with
    | @cons _ b _ bs hh t =>
      obtain ⟨e1, rp, y, ry, rpy⟩ := hh
      exact ⟨_, _, .ref b.2.1, y, rfl, by show b.1.hash C.w = _; rw [e1], rfl, rp, ry, rpy, tup_RepE t⟩
theorem Paired.mem_right {α β : Type} {G : α → β → Prop} : ∀ {l : List α} {m : List β}, Paired G l m → ∀ b ∈ m, ∃ a ∈ l, G a b
  | _, _, .nil, b, hb => by cases hb
  | _, _, .cons h t, b, hb => by
    rcases List.mem_cons.mp hb with rfl | hb
    · exact ⟨_, List.mem_cons_self, h⟩
    · obtain ⟨a, ha, g⟩ := Paired.mem_right t b hb
      exact ⟨a, List.mem_cons_of_mem _ ha, g⟩
theorem LP.keys : ∀ {kvs : List (D × D)} {ls : List (Leaf × Value)}, LP C H kvs ls → ls.map (·.1) = kvs.map fun p => p.1.leaf
  | _, _, .nil => rfl
  | _, _, .cons h t => by rw [List.map_cons, List.map_cons, h.1, LP.keys t]
theorem TP.keys : ∀ {kvs : List (D × D)} {ls : List (NestedKey × Addr × Value)}, TP C H kvs ls → ls.map (·.1) = kvs.map fun p => p.1.key
  | _, _, .nil => rfl
  | _, _, .cons h t => by rw [List.map_cons, List.map_cons, h.1, TP.keys t]
theorem leaf_nodup {kvs : List (D × D)} (h : DOk kvs) (m : ∀ p ∈ kvs, p.1.isTup = false) : (kvs.map fun p => p.1.leaf).Nodup := by
  have e : (kvs.map fun p => p.1.leaf).map Leaf.key = kvs.map fun p => p.1.key := by
    rw [List.map_map]
    exact List.map_congr_left fun p hp => leaf_key (h.kok p hp).1 (m p hp)
  have := h.nd
  rw [← e] at this
  refine List.Pairwise.of_map Leaf.key (fun a b h e => h (congrArg Leaf.key e)) this
/-- a look-up -/
def RelO' (C : Cst) (H : Hp) : Option D → Option Value → Prop
  | some d, some u => ∃ y, RelV y u ∧ Rep C H d y
  | none, none => True
  | _, _ => False
theorem LP.val {k : D} (hk : k.kok = true) (ht : k.isTup = false) : ∀ {kvs : List (D × D)} {ls : List (Leaf × Value)}, LP C H kvs ls → (∀ p ∈ kvs, p.1.kok = true ∧ p.1.key.depth ≤ 8) → (∀ p ∈ kvs, p.1.isTup = false) → RelO' C H (D.look kvs k) (valueAt ls k.leaf)
  | _, _, .nil, _, _ => trivial
  | p :: r, l :: ls, .cons h t, g1, g2 => by
    obtain ⟨e1, y, ry, rp⟩ := h
    have ih := LP.val hk ht t (fun p hp => g1 p (List.mem_cons_of_mem _ hp)) fun p hp => g2 p (List.mem_cons_of_mem _ hp)
    have q1 := (g1 p List.mem_cons_self).1
    have q2 := g2 p List.mem_cons_self
    have dq : p.1.keq k = decide (l.1 = k.leaf) := by
      rw [keq_dec q1 hk, e1]
      have : (p.1.key = k.key) ↔ (p.1.leaf = k.leaf) := by
        rw [← leaf_key q1 q2, ← leaf_key hk ht]
        exact ⟨fun z => Leaf.key_inj z, fun z => by rw [z]⟩
      exact decide_eq_decide.mpr this
    unfold D.look valueAt
    rw [List.find?_cons, List.find?_cons, dq]
    by_cases z : l.1 = k.leaf
    · simp only [z, decide_true]
      exact ⟨y, ry, rp⟩
    · simp only [z, decide_false]
      exact ih
theorem TP.val {k : D} (hk : k.kok = true) : ∀ {kvs : List (D × D)} {ls : List (NestedKey × Addr × Value)}, TP C H kvs ls → (∀ p ∈ kvs, p.1.kok = true ∧ p.1.key.depth ≤ 8) → RelO' C H (D.look kvs k) ((atKey ls k.key).map (·.2))
  | _, _, .nil, _ => trivial
  | p :: r, l :: ls, .cons h t, g1 => by
    obtain ⟨e1, rk, y, ry, rp⟩ := h
    have ih := TP.val hk t (fun p hp => g1 p (List.mem_cons_of_mem _ hp))
    have q1 := (g1 p List.mem_cons_self).1
    have dq : p.1.keq k = decide (l.1 = k.key) := by rw [keq_dec q1 hk, e1]
    unfold D.look atKey
    rw [List.find?_cons, List.find?_cons, dq]
    by_cases z : l.1 = k.key
    · simp only [z, decide_true]
      exact ⟨y, ry, rp⟩
    · simp only [z, decide_false]
      exact ih
theorem RelO'.isSome {o : Option D} {u : Option Value} (h : RelO' C H o u) : o.isSome = u.isSome := by
  cases o <;> cases u <;> first | rfl | exact h.elim
theorem look_any (kvs : List (D × D)) (k : D) : (kvs.any fun p => p.1.keq k) = (D.look kvs k).isSome := by
  unfold D.look
  rw [Option.isSome_map]
  induction kvs with
  | nil => rfl
  | cons p r ih =>
    rw [List.any_cons, List.find?_cons, ih]
    cases p.1.keq k <;> rfl
end
end Ev
end

section
/-! Ev7: dicts: what is done with them. -/
namespace Ev
open PySem PySem.Spec L2
open PyProof.Rows hiding St

theorem DOk.modeOf {kvs : List (D × D)} {k : D} (h : DOk kvs) (f : D.fit kvs k = true) : ∀ p ∈ kvs, p.1.isTup = k.isTup := by
  cases kvs with
  | nil => intro p hp; exact absurd hp List.not_mem_nil
  | cons p0 r =>
    unfold D.fit at f
    simp only [Bool.and_eq_true, beq_iff_eq] at f
    have f3 := f.2
    intro p hp
    rcases h.mode with m | m
    · rw [← f3, m p hp, m p0 List.mem_cons_self]
    · rw [← f3, m p hp, m p0 List.mem_cons_self]
theorem fit_kok {kvs : List (D × D)} {k : D} (f : D.fit kvs k = true) : k.kok = true ∧ k.key.depth ≤ 8 := by
  unfold D.fit at f
  simp only [Bool.and_eq_true, decide_eq_true_eq] at f
  exact f.1

section
variable {C : Cst} {H : Hp}
theorem LP.repl {k v : D} {u : Value} {y : V} (hk : k.kok = true) (ht : k.isTup = false) (ry : RelV y u) (rp : Rep C H v y) : ∀ {kvs : List (D × D)} {ls : List (Leaf × Value)}, LP C H kvs ls → (∀ p ∈ kvs, p.1.kok = true ∧ p.1.key.depth ≤ 8) → (∀ p ∈ kvs, p.1.isTup = false) →
    LP C H (kvs.map fun p => if p.1.keq k then (p.1, v) else p) (ls.map fun kv => if kv.1 = k.leaf then (kv.1, u) else kv)
  | _, _, .nil, _, _ => .nil
  | p :: r, l :: ls, .cons h t, g1, g2 => by
    have ih := LP.repl hk ht ry rp t (fun p hp => g1 p (List.mem_cons_of_mem _ hp)) fun p hp => g2 p (List.mem_cons_of_mem _ hp)
    have q1 := (g1 p List.mem_cons_self).1
    have q2 := g2 p List.mem_cons_self
    have dq : p.1.keq k = decide (l.1 = k.leaf) := by
      rw [keq_dec q1 hk, h.1]
      have : (p.1.key = k.key) ↔ (p.1.leaf = k.leaf) := by
        rw [← leaf_key q1 q2, ← leaf_key hk ht]
        exact ⟨fun z => Leaf.key_inj z, fun z => by rw [z]⟩
      exact decide_eq_decide.mpr this
    rw [List.map_cons, List.map_cons]
    refine .cons ?_ ih
    by_cases z : l.1 = k.leaf
    · have : p.1.keq k = true := by rw [dq]; exact decide_eq_true z
      rw [if_pos this, if_pos z]
      exact ⟨h.1, y, ry, rp⟩
    · have : ¬ p.1.keq k = true := by rw [dq]; simpa using z
      rw [if_neg this, if_neg z]
      exact h
theorem Paired.snoc {α β : Type} {G : α → β → Prop} {a : α} {b : β} (g : G a b) : ∀ {l : List α} {m : List β}, Paired G l m → Paired G (l ++ [a]) (m ++ [b])
  | _, _, .nil => .cons g .nil
  | _, _, .cons h t => .cons h (Paired.snoc g t)
theorem LP.put {k v : D} {u : Value} {y : V} (hk : k.kok = true) (ht : k.isTup = false) (ry : RelV y u) (rp : Rep C H v y) {kvs : List (D × D)} {ls : List (Leaf × Value)} (h : LP C H kvs ls) (g1 : ∀ p ∈ kvs, p.1.kok = true ∧ p.1.key.depth ≤ 8) (g2 : ∀ p ∈ kvs, p.1.isTup = false) :
    LP C H (D.put kvs k v) (stored ls k.leaf u) := by
  have q := (LP.val hk ht h g1 g2).isSome
  have any_ls : (ls.any fun kv => decide (kv.1 = k.leaf)) = (valueAt ls k.leaf).isSome := by
    unfold valueAt
    rw [Option.isSome_map]
    clear q h
    induction ls with
    | nil => rfl
    | cons p r ih =>
      rw [List.any_cons, List.find?_cons, ih]
      cases decide (p.1 = k.leaf) <;> rfl
  have e : (kvs.any fun p => p.1.keq k) = ls.any fun kv => decide (kv.1 = k.leaf) := by rw [look_any, q, any_ls]
  unfold D.put stored
  by_cases z : (kvs.any fun p => p.1.keq k) = true
  · rw [if_pos z, if_pos (by rw [← e]; exact z)]
    exact h.repl hk ht ry rp g1 g2
  · rw [if_neg z, if_neg (by rw [← e]; exact z)]
    exact Paired.snoc ⟨rfl, y, ry, rp⟩ h
theorem TP.repl {k v : D} {u : Value} {y : V} (hk : k.kok = true) (ry : RelV y u) (rp : Rep C H v y) : ∀ {kvs : List (D × D)} {ls : List (NestedKey × Addr × Value)}, TP C H kvs ls → (∀ p ∈ kvs, p.1.kok = true ∧ p.1.key.depth ≤ 8) →
    TP C H (kvs.map fun p => if p.1.keq k then (p.1, v) else p) (ls.map (putAt k.key u))
  | _, _, .nil, _ => .nil
  | p :: r, l :: ls, .cons h t, g1 => by
    have ih := TP.repl hk ry rp t (fun p hp => g1 p (List.mem_cons_of_mem _ hp))
    have q1 := (g1 p List.mem_cons_self).1
    have dq : p.1.keq k = decide (l.1 = k.key) := by rw [keq_dec q1 hk, h.1]
    rw [List.map_cons, List.map_cons]
    refine .cons ?_ ih
    unfold putAt
    by_cases z : l.1 = k.key
    · have : p.1.keq k = true := by rw [dq]; exact decide_eq_true z
      rw [if_pos this, if_pos z]
      exact ⟨h.1, h.2.1, y, ry, rp⟩
    · have : ¬ p.1.keq k = true := by rw [dq]; simpa using z
      rw [if_neg this, if_neg z]
      exact h
theorem TP.put {k v : D} {u : Value} {y : V} {b : Addr} (hk : k.kok = true) (rb : Rep C H k (.ref b)) (ry : RelV y u) (rp : Rep C H v y) {kvs : List (D × D)} {ls : List (NestedKey × Addr × Value)} (h : TP C H kvs ls) (g1 : ∀ p ∈ kvs, p.1.kok = true ∧ p.1.key.depth ≤ 8) :
    TP C H (D.put kvs k v) (storedH ls k.key b u) := by
  have q := (TP.val hk h g1).isSome
  rw [Option.isSome_map] at q
  have e : (kvs.any fun p => p.1.keq k) = (atKey ls k.key).isSome := by rw [look_any, q]
  unfold D.put storedH
  by_cases z : (kvs.any fun p => p.1.keq k) = true
  · rw [if_pos z, if_pos (by rw [← e]; exact z)]
    exact h.repl hk ry rp g1
  · rw [if_neg z, if_neg (by rw [← e]; exact z)]
    exact Paired.snoc ⟨rfl, rb, y, ry, rp⟩ h
end

/-- the dict by its mode, at a heap -/
inductive DMode (P : Program) (C : Cst) (H : Hp) (h : Heap) (a : Addr) (kvs : List (D × D)) (k : D) : Prop
  | leaf (ls : List (Leaf × Value)) (t : k.isTup = false) (g : ∀ p ∈ kvs, p.1.isTup = false) (d : h.DictOf (sKind P C.w) a ls) (l : LP C H kvs ls)
  | tup (xs : List (NestedKey × Addr × Value)) (t : k.isTup = true) (g : ∀ p ∈ kvs, p.1.isTup = true) (d : h.DictOfH (nestedKind P C.w) a xs) (l : TP C H kvs xs)
section
variable {C : Cst} {X : Cx} {pins : List (Addr × Obj)} {σ : L2.St} {H : Hp} {s : Shared} {a : Addr} {es : List DictEntry} {kvs : List (D × D)} {k : D}
theorem dmode (hK : X.K = C.K) (hw : X.w = C.w) (I : Inv X pins σ H s) (d : DRd C H a es) (ok : DOk kvs) (r : RepE C H kvs es) (f : D.fit kvs k = true) : DMode X.prog C H s.heap a kvs k := by
  obtain ⟨o, ep, h1, h2, h3⟩ := d.at hK I
  have m := ok.modeOf f
  cases t : k.isTup with
  | false =>
    have m' : ∀ p ∈ kvs, p.1.isTup = false := fun p hp => by rw [m p hp, t]
    obtain ⟨ls, p1, p2, p3⟩ := r.leaf (P := X.prog) ok.kok m'
    refine .leaf ls t m' ⟨o, es.toArray, ep, h1, h2, h3, p2, p1, ?_⟩ p3
    rw [p3.keys]; exact leaf_nodup ok m'
  | true =>
    have m' : ∀ p ∈ kvs, p.1.isTup = true := fun p hp => by rw [m p hp, t]
    obtain ⟨xs, p1, p2⟩ := r.tup (P := X.prog) m'
    refine .tup xs t m' ⟨o, es.toArray, ep, h1, h2, h3, by simpa using p1, fun x hx => ?_, by rw [p2.keys]; exact ok.nd⟩ p2
    obtain ⟨p, hp, e1, rp, _⟩ := Paired.mem_right p2 x hx
    exact ⟨by rw [e1]; exact Rep.nested hK I p.1 (ok.kok p hp).1 rp rfl, by rw [e1]; exact (ok.kok p hp).2⟩
theorem key_ref (t : k.isTup = true) {x : V} (h : Rep C H k x) : ∃ b, x = .ref b := by
  cases k with
  | tup l => obtain ⟨b, _, rfl, _⟩ := h; exact ⟨b, rfl⟩
  | _ => exact Bool.noConfusion t
variable {A : Around} {E : Value → Shared → Prop} {x : V} {u : Value}
theorem dd_getItem {v : D} {Q : Value → Shared → Prop} (hu : A.units + 9 < cLine) (hK : X.K = C.K) (hw : X.w = C.w) (I : Inv X pins σ H s) (d : DRd C H a es) (ok : DOk kvs) (r : RepE C H kvs es) (f : D.fit kvs k = true) (rk : Rep C H k x) (rx : RelV x u)
    (hv : D.look kvs k = some v) (h : ∀ w' y s', Inv X pins σ H s' → RelV y w' → Rep C H v y → Q w' s') : wpAny (model X.prog X.w) A (getItem (.ref a) u) Q E s := by
  obtain ⟨kk, kd⟩ := fit_kok f
  rcases dmode hK hw I d ok r f with ⟨ls, t, g, dd, l⟩ | ⟨xs, t, g, dd, l⟩
  · have q := LP.val kk t l ok.kok g
    rw [hv] at q
    cases e : valueAt ls k.leaf with
    | none => rw [e] at q; exact q.elim
    | some w' =>
      rw [e] at q
      obtain ⟨y, ry, rp⟩ := q
      have is1 : (sKind X.prog X.w).is k.leaf u = true := by rw [hw]; exact leaf_is kk t rk rx
      exact wpAny_getItem_of is1 (by rw [hw]; exact dd.mapOf) e (h w' y _ (I.tok _) ry rp)
  · have q := TP.val kk l ok.kok
    rw [hv] at q
    cases e : (atKey xs k.key).map (·.2) with
    | none => rw [e] at q; exact q.elim
    | some w' =>
      rw [e] at q
      obtain ⟨y, ry, rp⟩ := q
      obtain ⟨p, hp, hp2⟩ := Option.map_eq_some_iff.mp e
      obtain ⟨b, rfl⟩ := key_ref t rk
      obtain rfl : u = Value.ref b := rx
      refine wpAny_getItem_heap (knd := nestedKind X.prog X.w) (by show A.units + 1 + 8 < cLine; omega) ⟨Rep.nested hK I k kk rk rfl, kd⟩ (by rw [hw]; exact dd) hp ?_
      rw [hp2]
      exact h w' y _ (I.tok _) ry rp
theorem dd_in {Q : Value → Shared → Prop} (hu : A.units + 9 < cLine) (hK : X.K = C.K) (hw : X.w = C.w) (hd : (a == sysModules) = false) (I : Inv X pins σ H s) (d : DRd C H a es) (ok : DOk kvs) (r : RepE C H kvs es) (f : D.fit kvs k = true) (rk : Rep C H k x) (rx : RelV x u)
    (h : ∀ s', Inv X pins σ H s' → Q (.bool (D.look kvs k).isSome) s') : wpAny (model X.prog X.w) A (compareOp .In u (.ref a)) Q E s := by
  obtain ⟨kk, kd⟩ := fit_kok f
  rcases dmode hK hw I d ok r f with ⟨ls, t, g, dd, l⟩ | ⟨xs, t, g, dd, l⟩
  · have q := (LP.val kk t l ok.kok g).isSome
    have is1 : (sKind X.prog X.w).is k.leaf u = true := by rw [hw]; exact leaf_is kk t rk rx
    refine wpAny_in_of is1 hd (by rw [hw]; exact dd.mapOf) ?_
    rw [← q]
    exact h _ (I.tok _)
  · have q := (TP.val kk l ok.kok).isSome
    rw [Option.isSome_map] at q
    obtain ⟨b, rfl⟩ := key_ref t rk
    obtain rfl : u = Value.ref b := rx
    refine wpAny_in_heap (knd := nestedKind X.prog X.w) (by show A.units + 1 + 8 < cLine; omega) ⟨Rep.nested hK I k kk rk rfl, kd⟩ hd (by rw [hw]; exact dd) ?_
    rw [← q]
    exact h _ (I.tok _)
theorem dd_notIn {Q : Value → Shared → Prop} (hu : A.units + 9 < cLine) (hK : X.K = C.K) (hw : X.w = C.w) (hd : (a == sysModules) = false) (I : Inv X pins σ H s) (d : DRd C H a es) (ok : DOk kvs) (r : RepE C H kvs es) (f : D.fit kvs k = true) (rk : Rep C H k x) (rx : RelV x u)
    (h : ∀ s', Inv X pins σ H s' → Q (.bool (!(D.look kvs k).isSome)) s') : wpAny (model X.prog X.w) A (compareOp .NotIn u (.ref a)) Q E s := by
  obtain ⟨kk, kd⟩ := fit_kok f
  rcases dmode hK hw I d ok r f with ⟨ls, t, g, dd, l⟩ | ⟨xs, t, g, dd, l⟩
  · have q := (LP.val kk t l ok.kok g).isSome
    have is1 : (sKind X.prog X.w).is k.leaf u = true := by rw [hw]; exact leaf_is kk t rk rx
    refine wpAny_notIn_of is1 hd (by rw [hw]; exact dd.mapOf) ?_
    rw [← q]
    exact h _ (I.tok _)
  · have q := (TP.val kk l ok.kok).isSome
    rw [Option.isSome_map] at q
    obtain ⟨b, rfl⟩ := key_ref t rk
    obtain rfl : u = Value.ref b := rx
    refine wpAny_notIn_heap (knd := nestedKind X.prog X.w) (by show A.units + 1 + 8 < cLine; omega) ⟨Rep.nested hK I k kk rk rfl, kd⟩ hd (by rw [hw]; exact dd) ?_
    rw [← q]
    exact h _ (I.tok _)
theorem dd_get1 {Q : Value → Shared → Prop} (hu : A.units + 9 < cLine) (hK : X.K = C.K) (hw : X.w = C.w) (hd : (a == sysModules) = false) (I : Inv X pins σ H s) (d : DRd C H a es) (ok : DOk kvs) (r : RepE C H kvs es) (f : D.fit kvs k = true) (rk : Rep C H k x) (rx : RelV x u)
    (h : ∀ w' y s', Inv X pins σ H s' → RelV y w' → Rep C H ((D.look kvs k).getD .non) y → Q w' s') : wpAny (model X.prog X.w) A (call (.builtin "dict.get") [.ref a, u]) Q E s := by
  obtain ⟨kk, kd⟩ := fit_kok f
  have fin : ∀ (o : Option D) (o' : Option Value), RelO' C H o o' → ∃ y, RelV y (o'.getD .none) ∧ Rep C H (o.getD .non) y := fun o o' q => by
    cases o <;> cases o' <;> first | exact q.elim | exact q | exact ⟨.non, rfl, rfl⟩
  rcases dmode hK hw I d ok r f with ⟨ls, t, g, dd, l⟩ | ⟨xs, t, g, dd, l⟩
  · obtain ⟨y, ry, rp⟩ := fin _ _ (LP.val kk t l ok.kok g)
    have is1 : (sKind X.prog X.w).is k.leaf u = true := by rw [hw]; exact leaf_is kk t rk rx
    exact call_meetsIn PySem.F.slot_dict_get dd.typeIs PySem.F.entry_dict_get (PySem.F.args_dict_get_2 _ _) (meets_dict_get (sKind X.prog X.w) a is1 hd) ⟨_, by rw [hw]; exact dd.mapOf, h _ y _ (I.tok _) ry rp⟩
  · obtain ⟨y, ry, rp⟩ := fin _ _ (TP.val kk l ok.kok)
    obtain ⟨b, rfl⟩ := key_ref t rk
    obtain rfl : u = Value.ref b := rx
    exact call_meetsIn PySem.F.slot_dict_get dd.typeIs PySem.F.entry_dict_get (PySem.F.args_dict_get_2 _ _) (meetsH_dict_get (nestedKind X.prog X.w) a b hd) ⟨by show A.units + 1 + 8 < cLine; omega, k.key, xs, ⟨Rep.nested hK I k kk rk rfl, kd⟩, by rw [hw]; exact dd, h _ y _ (I.tok _) ry rp⟩
theorem dd_get2 {Q : Value → Shared → Prop} {df : D} {z : V} {fv : Value} (hu : A.units + 9 < cLine) (hK : X.K = C.K) (hw : X.w = C.w) (hd : (a == sysModules) = false) (I : Inv X pins σ H s) (d : DRd C H a es) (ok : DOk kvs) (r : RepE C H kvs es) (f : D.fit kvs k = true) (rk : Rep C H k x) (rx : RelV x u)
    (rz : RelV z fv) (rdf : Rep C H df z) (h : ∀ w' y s', Inv X pins σ H s' → RelV y w' → Rep C H ((D.look kvs k).getD df) y → Q w' s') : wpAny (model X.prog X.w) A (call (.builtin "dict.get") [.ref a, u, fv]) Q E s := by
  obtain ⟨kk, kd⟩ := fit_kok f
  have fin : ∀ (o : Option D) (o' : Option Value), RelO' C H o o' → ∃ y, RelV y (o'.getD fv) ∧ Rep C H (o.getD df) y := fun o o' q => by
    cases o <;> cases o' <;> first | exact q.elim | exact q | exact ⟨z, rz, rdf⟩
  rcases dmode hK hw I d ok r f with ⟨ls, t, g, dd, l⟩ | ⟨xs, t, g, dd, l⟩
  · obtain ⟨y, ry, rp⟩ := fin _ _ (LP.val kk t l ok.kok g)
    have is1 : (sKind X.prog X.w).is k.leaf u = true := by rw [hw]; exact leaf_is kk t rk rx
    exact call_meetsIn PySem.F.slot_dict_get dd.typeIs PySem.F.entry_dict_get (PySem.F.args_dict_get_3 _ _ _) (meets_dict_get_default (sKind X.prog X.w) a is1 hd fv) ⟨_, by rw [hw]; exact dd.mapOf, h _ y _ (I.tok _) ry rp⟩
  · obtain ⟨y, ry, rp⟩ := fin _ _ (TP.val kk l ok.kok)
    obtain ⟨b, rfl⟩ := key_ref t rk
    obtain rfl : u = Value.ref b := rx
    exact call_meetsIn PySem.F.slot_dict_get dd.typeIs PySem.F.entry_dict_get (PySem.F.args_dict_get_3 _ _ _) (meetsH_dict_get_default (nestedKind X.prog X.w) a b hd fv) ⟨by show A.units + 1 + 8 < cLine; omega, k.key, xs, ⟨Rep.nested hK I k kk rk rfl, kd⟩, by rw [hw]; exact dd, h _ y _ (I.tok _) ry rp⟩
/-- a dict's object is replaced -/
theorem raw_write {h' : Heap} {t' : Nat} {o o' : Obj} (I : Inv X pins σ H s) (e : H a = some (rawD a o)) (hs : Heap.SameBut a s.heap h') (new : h'.get? a = some o') :
    Inv X pins σ (upd H a (rawD a o')) { s with heap := h', toks := t' } := by
  refine I.write (x := a) (e := a) (by rw [e]; exact trivial) (.inl rfl) (fun b q hb z => (hs.2 b hb).trans z) ⟨o', new⟩ ⟨new, ⟨o', new⟩, fun h1 h2 e k => k _ e⟩
theorem raw_keep {o o' : Obj} (e : H a = some (rawD a o)) : Keep H (upd H a (rawD a o')) := fun b u i hb => by
  rw [upd_ne (fun q => by subst q; rw [e] at hb; cases hb; exact i)]; exact hb
theorem dd_by {Q : Unit → Shared → Prop} {v : D} {y : V} {r' : Value} {op : Value → Value → Sem Unit}
    (o1 : ∀ {ls : List (Leaf × Value)} {kl : Leaf} {key v : Value} {Q : Unit → Shared → Prop}, (sKind X.prog X.w).is kl key = true → s.heap.DictOf (sKind X.prog X.w) a ls → ls.length ≤ sizeLine → (∀ h' tk, h'.DictOf (sKind X.prog X.w) a (stored ls kl v) → Heap.SameBut a s.heap h' → Q () { s with heap := h', toks := tk }) → wpAny (model X.prog X.w) A (op key v) Q E s)
    (o2 : ∀ {xs : List (NestedKey × Addr × Value)} {nk : NestedKey} {b : Addr} {v : Value} {Q : Unit → Shared → Prop}, (nestedKind X.prog X.w).is s.heap nk b → s.heap.DictOfH (nestedKind X.prog X.w) a xs → xs.length ≤ sizeLine → (∀ h' tk, h'.DictOfH (nestedKind X.prog X.w) a (storedH xs nk b v) → Heap.SameBut a s.heap h' → Q () { s with heap := h', toks := tk }) → wpAny (model X.prog X.w) A (op (.ref b) v) Q E s)
    (hK : X.K = C.K) (hw : X.w = C.w) (I : Inv X pins σ H s) {o0 : Obj} (e : H a = some (rawD a o0)) (dt : Dat o0 es) (hz : es.length < sizeLine) (ok : DOk kvs) (r : RepE C H kvs es) (f : D.fit kvs k = true) (rk : Rep C H k x) (rx : RelV x u)
    (ry : RelV y r') (rv : Rep C H v y) (h : ∀ es' o' s', Inv X pins σ (upd H a (rawD a o')) s' → Dat o' es' → es'.length ≤ sizeLine → RepE C (upd H a (rawD a o')) (D.put kvs k v) es' → Q () s') : wpAny (model X.prog X.w) A (op u r') Q E s := by
  obtain ⟨kk, kd⟩ := fit_kok f
  have hlen := r.length
  have okp := ok.put (v := v) f
  rcases dmode hK hw I ⟨_, .inl e, dt⟩ ok r f with ⟨ls, t, g, dd, l⟩ | ⟨xs, t, g, dd, l⟩
  · have is1 : (sKind X.prog X.w).is k.leaf u = true := by rw [hw]; exact leaf_is kk t rk rx
    have hl : ls.length ≤ sizeLine := by rw [← Paired.length l, ← hlen]; omega
    refine o1 is1 (by rw [hw]; exact dd) hl fun h' tk dd' hs => ?_
    obtain ⟨o, es', ep, h1, h2, h3, h4, h5, h6⟩ := dd'
    have gp : ∀ p ∈ D.put kvs k v, p.1.isTup = false := by
      rcases okp.mode with m | m
      · intro p hp
        rw [okp.modeOf (k := k) (by
          unfold D.fit
          simp only [Bool.and_eq_true, decide_eq_true_eq]
          refine ⟨⟨kk, kd⟩, ?_⟩
          cases q : D.put kvs k v with
          | nil => rfl
          | cons p0 r0 =>
            show (p0.1.isTup == k.isTup) = true
            rw [beq_iff_eq]
            have hp0 : p0 ∈ D.put kvs k v := by rw [q]; exact List.mem_cons_self
            unfold D.put at hp0
            split at hp0
            · obtain ⟨p1, hp1, rfl⟩ := List.mem_map.mp hp0
              have := g p1 hp1
              rw [t]
              split <;> exact this
            · rcases List.mem_append.mp hp0 with hp0 | hp0
              · rw [t]; exact g p0 hp0
              · rw [List.mem_singleton] at hp0; subst hp0; rfl) p hp, t]
      · exact m
    have lp := l.put kk t ry rv ok.kok g
    rw [hw] at h5
    have rep : RepE C H (D.put kvs k v) es'.toList := leaf_RepE (P := X.prog) h5 (fun en hen => by
      have := h4 en (by simpa using hen)
      rw [hw] at this; exact this) lp okp.kok gp
    have hn := rep.length
    have hpl := put_length kvs k v
    refine h es'.toList o _ (raw_write I e hs h1) ⟨h2, ep, by simpa using h3⟩ (by omega) (RepE.keep (raw_keep e) _ rep)
  · obtain ⟨b, rfl⟩ := key_ref t rk
    obtain rfl : u = Value.ref b := rx
    have hl : xs.length ≤ sizeLine := by rw [← Paired.length l, ← hlen]; omega
    refine o2 ⟨Rep.nested hK I k kk rk rfl, kd⟩ (by rw [hw]; exact dd) hl fun h' tk dd' hs => ?_
    obtain ⟨o, es', ep, h1, h2, h3, h4, h5, h6⟩ := dd'
    have tp := l.put kk rk ry rv ok.kok
    have rep : RepE C H (D.put kvs k v) es'.toList := by
      rw [h4, hw]
      exact tup_RepE (P := X.prog) tp
    have hn := rep.length
    have hpl := put_length kvs k v
    exact h es'.toList o _ (raw_write I e hs h1) ⟨h2, ep, by simpa using h3⟩ (by omega) (RepE.keep (raw_keep e) _ rep)
theorem dd_set {Q : Unit → Shared → Prop} {v : D} {y : V} {r' : Value} (hu : A.units + 9 < cLine) (hK : X.K = C.K) (hw : X.w = C.w) (I : Inv X pins σ H s) {o0 : Obj} (e : H a = some (rawD a o0)) (dt : Dat o0 es) (hz : es.length < sizeLine) (ok : DOk kvs) (r : RepE C H kvs es) (f : D.fit kvs k = true) (rk : Rep C H k x) (rx : RelV x u)
    (ry : RelV y r') (rv : Rep C H v y) (h : ∀ es' o' s', Inv X pins σ (upd H a (rawD a o')) s' → Dat o' es' → es'.length ≤ sizeLine → RepE C (upd H a (rawD a o')) (D.put kvs k v) es' → Q () s') : wpAny (model X.prog X.w) A (setItem (.ref a) u r') Q E s :=
  dd_by (op := fun k v => setItem (.ref a) k v) (fun i m z q => wpAny_setItem_pairs (hsz := z) i m fun h' a b => q h' _ a b) (fun i m z q => wpAny_setItem_heap (knd := nestedKind X.prog X.w) (hsz := z) (by show A.units + 1 + 8 < cLine; omega) i m fun h' a b => q h' _ a b) hK hw I e dt hz ok r f rk rx ry rv h
theorem dd_dset {Q : Unit → Shared → Prop} {v : D} {y : V} {r' : Value} (hu : A.units + 9 < cLine) (hK : X.K = C.K) (hw : X.w = C.w) (I : Inv X pins σ H s) {o0 : Obj} (e : H a = some (rawD a o0)) (dt : Dat o0 es) (hz : es.length < sizeLine) (ok : DOk kvs) (r : RepE C H kvs es) (f : D.fit kvs k = true) (rk : Rep C H k x) (rx : RelV x u)
    (ry : RelV y r') (rv : Rep C H v y) (h : ∀ es' o' s', Inv X pins σ (upd H a (rawD a o')) s' → Dat o' es' → es'.length ≤ sizeLine → RepE C (upd H a (rawD a o')) (D.put kvs k v) es' → Q () s') : wpAny (model X.prog X.w) A (dictSet a u r') Q E s :=
  dd_by (op := fun k v => dictSet a k v) (fun i m z q => wpAny_dictSet_pairs (hsz := z) i m fun h' a b => q h' _ a b) (fun i m z q => wpAny_dictSet_heap (knd := nestedKind X.prog X.w) (hsz := z) (by show A.units + 8 < cLine; omega) i m fun h' a b => q h' _ a b) hK hw I e dt hz ok r f rk rx ry rv h
end

/-! ### d[k], k in d, k not in d -/
def oIxD (a b : D × Fl) : Option (D × Fl) := match a.1, b with
  | .dct kvs, (k, .s) => if D.fit kvs k = true then (D.look kvs k).map fun d => (d, .s) else none
  | _, _ => none
def oIx : OpG := fun g a b => match oIxS g a b with
  | some r => some r
  | none => oIxD a b
theorem Ctx.un9 {C : Cst} {Z : Xcs} {T : Tab} {k : Nat} {F : FT} {W : WX} {N : List Str} {sc : Scope} {X : Cx} (cx : Ctx C Z T k F W N sc X) : X.A.units + 9 < cLine := by
  have := cx.un
  omega
theorem oIx_ok : IxOk oIx := by
  intro C Z T k F W N sc X cx d1 d2 x y H g res hr hx hy k0 Q hQ
  unfold oIx at hr
  split at hr
  · rename_i r q
    cases hr
    exact oIxS_ok cx q hx hy k0 Q hQ
  · obtain ⟨a, fa⟩ := d1
    unfold oIxD at hr
    split at hr
    · rename_i kvs key e1 _
      have e1' : a = .dct kvs := e1
      subst e1'
      split at hr
      · rename_i f
        obtain ⟨v, ev, rfl⟩ := Option.map_eq_some_iff.mp hr
        obtain ⟨p, es, rfl, d, hd, hl, ok, re⟩ := WRep.dct hx.w
        intro value slice pins s σ v' u I rx ry hs
        obtain rfl : v' = Value.ref p := rx
        obtain ⟨o, ep, h1, h2, h3⟩ := d.at cx.hK I
        refine PyProof.Rows.tail_any (T := "dict") (ops := [.ref p, u]) ⟨o, h1, h2.1⟩ PySem.F.slot_dict_getitem.lookup ?_ hs
        exact dd_getItem cx.un9 cx.hK cx.hw I d ok re f hy ry ev fun w' y' s' I' ry' rp' => ⟨y', H, I', ry', hQ _ H (.refl _ _) k0 rp'⟩
      · cases hr
    · cases hr
def oInD (neg : Bool) : Op2 := fun a b => match a, b.1 with
  | (k, .s), .dct kvs => if D.fit kvs k = true then some (.bl (if neg then !(D.look kvs k).isSome else (D.look kvs k).isSome), .s) else none
  | _, _ => none
theorem oInD_ok (neg : Bool) : OpOk (compareOp (if neg then .NotIn else .In)) (oInD neg) := by
  intro C Z T k F W N sc X cx d1 d2 x y H g res hr hx hy k0 Q hQ
  obtain ⟨b, fb⟩ := d2
  unfold oInD at hr
  split at hr
  · rename_i key kvs e1
    simp only at e1
    subst e1
    split at hr
    · rename_i f
      cases hr
      obtain ⟨p, es, rfl, d, hd, hl, ok, re⟩ := WRep.dct hy.w
      intro pins s σ v u I rx ry
      obtain rfl : u = Value.ref p := ry
      cases neg with
      | false => exact dd_in cx.un9 cx.hK cx.hw hd I d ok re f hx rx fun s' I' => ⟨.bl _, H, I', rfl, hQ _ H (.refl _ _) k0 rfl⟩
      | true => exact dd_notIn cx.un9 cx.hK cx.hw hd I d ok re f hx rx fun s' I' => ⟨.bl _, H, I', rfl, hQ _ H (.refl _ _) k0 rfl⟩
    · cases hr
  · cases hr
def oIn0 : Op2 := fun a b => match oInS false a b with | some r => some r | none => oInD false a b
def oNi0 : Op2 := fun a b => match oInS true a b with | some r => some r | none => oInD true a b
theorem oIn0_ok : OpOk (compareOp .In) oIn0 := OpOk.or (oInS_ok false) (oInD_ok false)
theorem oNi0_ok : OpOk (compareOp .NotIn) oNi0 := OpOk.or (oInS_ok true) (oInD_ok true)

/-! ### d.get(k), d.get(k, x) -/
def notCall0 : Expr → Bool
  | .Call (.Name _ _) [] [] _ => false
  | _ => true
theorem base_of {o : Expr} {m : Str} {env : Env} (h : notCall0 o = true) (whole : Sem Value) : attributeBase o m env whole = whole := by
  unfold attributeBase
  split
  · rename_i id p1 p2
    exact Bool.noConfusion h
  · rfl
theorem few_of {es : List Expr} {pos : Pos} {env : Env} (h : es.all notStar = true) (hl : es.length < 30) : ((backTo pos (starEach es env)).all (fun x => !x.1) && (backToKw pos (keywordEach [] env)).all (fun x => x.1.isSome)
    && decide (es.length + ([] : List Keyword).length + (if ([] : List Keyword).isEmpty then 0 else 1) < 30)) = true := by
  have h1 : (backTo pos (starEach es env)).all (fun x => !x.1) = true := by
    clear hl
    induction es with
    | nil => rfl
    | cons e r ih =>
      rw [List.all_cons, Bool.and_eq_true] at h
      rw [star_of h.1]
      show (true && (backTo pos (starEach r env)).all (fun x => !x.1)) = true
      rw [ih h.2]; rfl
  rw [h1]
  simp only [List.length_nil, List.isEmpty_nil, if_true, Bool.true_and, Bool.and_eq_true, decide_eq_true_eq]
  exact ⟨rfl, by omega⟩
theorem trees2 {e f : Expr} {pos : Pos} {env : Env} (h : notStar e = true) (h' : notStar f = true) : backTo pos (starEach [e, f] env) = [(false, eval e env), (false, eval f env)] := by
  rw [star_of h, star_of h']; rfl
theorem trees1 {e : Expr} {pos : Pos} {env : Env} (h : notStar e = true) : backTo pos (starEach [e] env) = [(false, eval e env)] := by
  rw [star_of h]; rfl
def dGet2 (f h u : Den) : Den := fun F ρ g => (f F ρ g).bind fun a g1 => match a.1 with
  | .dct kvs => (dFz h F ρ g1).bind fun b g2 => (dFz u F ρ g2).bind fun c g3 => if D.fit kvs b.1 = true then .ok ((D.look kvs b.1).getD c.1, .s) g3 else .bad
  | _ => .bad
def dGet1 (f h : Den) : Den := fun F ρ g => (f F ρ g).bind fun a g1 => match a.1 with
  | .dct kvs => (dFz h F ρ g1).bind fun b g2 => if D.fit kvs b.1 = true then .ok ((D.look kvs b.1).getD .non, .s) g2 else .bad
  | _ => .bad
/-- a frozen value's flag -/
theorem Snd.thenZ {T : Tab} {N : List Str} {sc : Scope} {e : Expr} {f : Den} (ha : SE T N sc e f) {γ δ : Type}
    {C : Cst} {Z : Xcs} {k : Nat} {F : FT} {W : WX} {X : Cx} (cx : Ctx C Z T k F W N sc X) {H0 : Hp} {ρ : Env'} {g : G} {σ : L2.St} {H : Hp} (S : Sta C H0 ρ g σ H) {rl2 : Rl γ δ} (sh : Shift C rl2) {cont : D × Fl → G → R γ} {Q : δ → Hp → Prop} {Q' : VK}
    (hp : PG' C Z W σ rl2 H ((dFz f F ρ g).bind cont) Q) (K : ∀ d g1 v H1, Ext C H H1 → GOk C g1 H1 → Rep C H1 d v → Sta C H0 ρ g1 σ H1 → PG' C Z W σ rl2 H1 (cont (d, .s) g1) Q → Q' v H1) : wE X e σ H Q' := by
  refine ha.fz C Z k F W X cx H0 ρ g σ H S _ ?_
  have key : ∀ a g1, dFz f F ρ g = .ok a g1 → a.2 = .s := fun a g1 q => fz_s q
  cases q : dFz f F ρ g with
  | bad => rw [q] at hp; exact hp
  | exc c xs g' => rw [q] at hp; exact hp
  | ok a g1 =>
    have ha := key a g1 q
    obtain ⟨d, fl⟩ := a
    obtain rfl : fl = .s := ha
    rw [q] at hp
    exact fun v H1 e1 k1 r1 => K d g1 v H1 e1 k1 r1 (S.ext e1 k1) (PG'.shift sh e1 hp)
/-- a method of a built-in type, by values -/
def wMt (X : Cx) (id : String) : V → List V → Hp → VK → Prop := fun x xs H Q => ∀ (pins : List (Addr × Obj)) (s : Shared) (σ : L2.St) (v : Value) (us : List Value), Inv X pins σ H s → RelV x v → Vals xs us → wpAny (model X.prog X.w) X.A (call (.builtin id) (v :: us)) (EP X pins σ Q) X.xe s
theorem wMt.mt {X : Cx} {id : String} : MtR X id (wMt X id) := fun pins s σ H x xs v us Q I r rs q => q pins s σ v us I r rs
theorem wMt.of {X : Cx} {id : String} {r : V → List V → Hp → VK → Prop} {x : V} {xs : List V} {H : Hp} {Q : VK} (h : MtR X id r) (q : r x xs H Q) : wMt X id x xs H Q := fun pins s σ v us I r rs => h pins s σ H x xs v us Q I r rs q
/-- o.m(e, ..), o a dict -/
def tBMD (C : Cst) (X : Cx) (id : String) (to : TE) (t : TA) : TE := fun σ H Q => to σ H fun x H1 => ∃ a es, x = .ref a ∧ DRd C H1 a es ∧ t σ H1 fun xs H2 => wMt X id x xs H2 Q
theorem pe_bmD {C : Cst} {X : Cx} {o e : Expr} {es : List Expr} {to : TE} {t : TA} {name : Str} {apos cpos : Pos} {id : String} (hK : X.K = C.K) (slot : Slot "dict" name id) (hty : typeOf (.builtin id) = pure (.type "method_descriptor")) (ho : PE X o to) (ha : PA X (e :: es) t)
    (hc : notCall0 o = true) (hs : (e :: es).all notStar = true) (h30 : (e :: es).length < 30) (hline : (apos.endLine == cpos.line) = true) : PE X (.Call (.Attribute o name apos) (e :: es) [] cpos) (tBMD C X id to t) := by
  refine ⟨fun pins s σ H Q I h => ?_⟩
  refine wpAny_Call_method_late (base_of hc _) (few_of hs h30) hline rfl (thn (ho.run pins s σ H _ I h) fun v s1 ⟨x, H1, I1, r1, a, ens, ex, d, q1⟩ => ?_)
  subst ex
  obtain rfl : v = Value.ref a := r1
  obtain ⟨ob, ep, g1, g2, g3⟩ := d.at hK I1
  refine ⟨"dict", id, PySem.F.plainAttrs_dict, slot, hty, ⟨ob, g1, g2.1⟩, fun b hb => ?_, ?_⟩
  · cases hb; exact ⟨ob, g1, g2.2.1⟩
  · have hA := ha.run cpos pins s1 σ H1 _ I1 q1
    have hs' := hs
    rw [List.all_cons, Bool.and_eq_true] at hs'
    rw [star_of hs'.1] at hA ⊢
    refine Calls.callWith_builtin (by show (false || (backTo cpos (starEach es X.env)).any (·.1)) = false; rw [noStars hs'.2]; rfl) (Calls.evalArgs_plain ?_)
    exact thn hA fun us s2 ⟨vs, H2, I2, r2, q2⟩ => q2 pins s2 σ _ us I2 rfl r2
section
variable {T : Tab} {N : List Str} {sc : Scope}
theorem DRo.ext {C : Cst} {g : G} {H H' : Hp} (k : GOk C g H) (e : Ext C H H') {a : Addr} {o : Obj} (n : C.no a ∨ ¬ H a = some (rawD a o)) (h : DRo C H a o) : DRo C H' a o := by
  rcases h with h | ⟨o', h⟩ | h
  · rcases n with n | n
    · exact .inl (e _ _ n h)
    · exact absurd h n
  · exact .inr (.inl ⟨o', k.keep e _ _ trivial h⟩)
  · exact .inr (.inr h)
/-- where a dict stands, it is read later, too -/
theorem WRep.dct' {C : Cst} {g : G} {H : Hp} {kvs : List (D × D)} {v : V} (k : GOk C g H) (h : WRep C H (.dct kvs) v) : ∃ a es o, v = .ref a ∧ Dat o es ∧ (∀ H', Ext C H H' → DRo C H' a o ∧ RepE C H' kvs es) ∧ (a == sysModules) = false ∧ es.length ≤ sizeLine ∧ DOk kvs := by
  rcases h with ⟨a, es, e, ⟨o, s, d⟩, n, l, q, r⟩ | ⟨a, e, na, es, o, s, d, n, l, q, r⟩
  · refine ⟨a, es, o, e, d, fun H' ex => ⟨?_, RepE.keep (k.keep ex) _ r⟩, n, l, q⟩
    rcases s with ⟨o', s⟩ | s
    · exact .inr (.inl ⟨o', k.keep ex _ _ trivial s⟩)
    · exact .inr (.inr s)
  · exact ⟨a, es, o, e, d, fun H' ex => ⟨.inl (ex _ _ na s), RepE.keep (k.keep ex) _ r⟩, n, l, q⟩
theorem SE.get2 {o e1 e2 : Expr} {f h u : Den} {apos pos : Pos} (hc : notCall0 o = true) (hl : (apos.endLine == pos.line) = true) (n1 : notStar e1 = true) (n2 : notStar e2 = true) (ho : SE T N sc o f) (h1 : SE T N sc e1 h) (h2 : SE T N sc e2 u) :
    SE T N sc (.Call (.Attribute o "get" apos) [e1, e2] [] pos) (dGet2 f h u) := by
  intro C Z k F W X cx H0 ρ g σ H S Q hp
  unfold dGet2 at hp
  refine wE.of (pe_bmD cx.hK PySem.F.slot_dict_get PySem.F.type_dict_get wE.pe (pa_cons wE.pe (pa_cons wE.pe pa_nil (star_of n2)) (star_of n1)) hc (by simp [n1, n2]) (Nat.lt_of_sub_ne_zero (by simp)) hl) ?_
  refine ho.then cx S rlF.sh hp fun a1 g1 x H1 e1' k1 r1 S1 p1 => ?_
  obtain ⟨d1, fl1⟩ := a1
  cases d1 with
  | dct kvs =>
    obtain ⟨a, es, ob, rfl, dt, rd, hd, hz, ok⟩ := WRep.dct' k1 (FRep.w r1)
    refine ⟨a, es, rfl, ⟨ob, (rd H1 (.refl _ _)).1, dt⟩, ?_⟩
    refine Snd.thenZ h1 cx S1 rlF.sh p1 fun b g2 y H2 e2' k2 r2 S2 p2 => ?_
    refine Snd.thenZ h2 cx S2 rlF.sh p2 fun c g3 z H3 e3' k3 r3 S3 p3 => ?_
    dsimp only at p3
    split at p3
    · rename_i f'
      obtain ⟨d3, re3⟩ := rd H3 (e2'.trans e3')
      intro pins s σ' v us I rv rus
      obtain rfl : v = Value.ref a := rv
      obtain ⟨u1, u2, rfl, ru1, ru2⟩ := Vals.two rus
      exact dd_get2 cx.un9 cx.hK cx.hw hd I ⟨ob, d3, dt⟩ ok re3 f' (Rep.keep (k2.keep e3') _ r2) ru1 ru2 r3 fun w' y' s' I' ry' rp' => ⟨y', H3, I', ry', p3 _ H3 (.refl _ _) k3 rp'⟩
    · exact p3.elim
  | _ => exact p1.elim
theorem SE.get1 {o e1 : Expr} {f h : Den} {apos pos : Pos} (hc : notCall0 o = true) (hl : (apos.endLine == pos.line) = true) (n1 : notStar e1 = true) (ho : SE T N sc o f) (h1 : SE T N sc e1 h) :
    SE T N sc (.Call (.Attribute o "get" apos) [e1] [] pos) (dGet1 f h) := by
  intro C Z k F W X cx H0 ρ g σ H S Q hp
  unfold dGet1 at hp
  refine wE.of (pe_bmD cx.hK PySem.F.slot_dict_get PySem.F.type_dict_get wE.pe (pa_cons wE.pe pa_nil (star_of n1)) hc (by simp [n1]) (Nat.lt_of_sub_ne_zero (by simp)) hl) ?_
  refine ho.then cx S rlF.sh hp fun a1 g1 x H1 e1' k1 r1 S1 p1 => ?_
  obtain ⟨d1, fl1⟩ := a1
  cases d1 with
  | dct kvs =>
    obtain ⟨a, es, ob, rfl, dt, rd, hd, hz, ok⟩ := WRep.dct' k1 (FRep.w r1)
    refine ⟨a, es, rfl, ⟨ob, (rd H1 (.refl _ _)).1, dt⟩, ?_⟩
    refine Snd.thenZ h1 cx S1 rlF.sh p1 fun b g2 y H2 e2' k2 r2 S2 p2 => ?_
    dsimp only at p2
    split at p2
    · rename_i f'
      obtain ⟨d3, re3⟩ := rd H2 e2'
      intro pins s σ' v us I rv rus
      obtain rfl : v = Value.ref a := rv
      obtain ⟨u1, rfl, ru1⟩ := Vals.one rus
      exact dd_get1 cx.un9 cx.hK cx.hw hd I ⟨ob, d3, dt⟩ ok re3 f' r2 ru1 fun w' y' s' I' ry' rp' => ⟨y', H2, I', ry', p2 _ H2 (.refl _ _) k2 rp'⟩
    · exact p2.elim
  | _ => exact p1.elim
/-! ### {} and {k: v, ..} -/
theorem raw_empty {h : Heap} {P : Program} {w : World} {H : Hp} : ObjOk P w H (h.push { cls := .type "dict", data := .dict #[] }) h.objs.size (rawD h.objs.size { cls := .type "dict", data := .dict #[] }) :=
  ⟨Heap.get?_push_size _ rfl, ⟨_, Heap.get?_push_size _ rfl⟩, fun h1 h2 e k => k _ e⟩
theorem dat_empty : Dat { cls := .type "dict", data := .dict #[] } [] := ⟨⟨rfl, rfl, rfl⟩, 0, rfl⟩
def dDct0 : Den := fun _ _ g => .ok (.dct [], .f) g
theorem SE.dct0 {pos : Pos} : SE T N sc (.Dict [] [] pos) dDct0 := by
  intro C Z k F W X cx H0 ρ g σ H S Q hp pins s I
  have hn := I.hok.fresh (Nat.le_refl s.heap.objs.size)
  have hsys : (s.heap.objs.size == sysModules) = false := beq_eq_false_iff_ne.mpr (Ne.symm (Nat.ne_of_lt I.big))
  exact wpAny_Dict_empty ⟨.ref s.heap.objs.size, _, I.laid (a := s.heap.objs.size) (o := rawD s.heap.objs.size { cls := .type "dict", data := .dict #[] }) (t' := s.toks) (fun _ _ q => Heap.get?_push_of_some _ q) (Nat.le_refl _) raw_empty, rfl,
    hp _ _ (.new hn) (S.go.upd (S.go.no hn)) ⟨_, rfl, hn, S.go.no hn, [], _, upd_same, dat_empty, hsys, Nat.zero_le _, .nil, rfl⟩⟩
end
end Ev
end

section
/-! Ev8: what is walked, targets. -/
namespace Ev
open PySem PySem.Spec L2
open PyProof.Rows hiding St

structure WkD (C : Cst) (J : It) (items : List D) (G : Hp → Prop) : Prop where
  w : Walk J items.length G fun i H x H' => Ext C H H' ∧ (∀ g, GOk C g H → GOk C g H') ∧ ∃ d, items[i]? = some d ∧ Rep C H' d x
def rlIe (C : Cst) : Rl (List D) It := fun _ H1 items J => ∃ G, WkD C J items G ∧ ∀ g H', GOk C g H1 → Ext C H1 H' → G H'
def rlIk (C : Cst) : Rl (List D) It := fun _ H1 items J => ∃ G, WkD C J items G ∧ ∀ H', Keep H1 H' → G H'
theorem rlIe.sh {C : Cst} : Shift C (rlIe C) := ⟨fun _ _ _ _ _ _ h => h⟩
theorem rlIk.sh {C : Cst} : Shift C (rlIk C) := ⟨fun _ _ _ _ _ _ h => h⟩
def wI (X : Cx) (tg iter : Expr) : TI := fun σ H R => ∀ pins s, Inv X pins σ H s → wpAny (model X.prog X.w) X.A (eval iter X.env) (fun v s1 => wpAny (model X.prog X.w) X.A (pyIter v) (PIE X pins σ tg R) X.xe s1) X.xe s
theorem wI.pi {X : Cx} {tg iter : Expr} : PI X tg iter (wI X tg iter) := ⟨fun pins s σ H R I h => h pins s I⟩
theorem wI.of {X : Cx} {tg iter : Expr} {wi : TI} {σ : L2.St} {H : Hp} {R : It → Hp → Prop} (h : PI X tg iter wi) (q : wi σ H R) : wI X tg iter σ H R := fun pins s I => h.run pins s σ H R I q
abbrev SIe (T : Tab) (N : List Str) (sc : Scope) (tg iter : Expr) (f : DenL) : Prop := Snd T N sc rlIe (fun X => wI X tg iter) f
abbrev SIk (T : Tab) (N : List Str) (sc : Scope) (tg iter : Expr) (f : DenL) : Prop := Snd T N sc rlIk (fun X => wI X tg iter) f
section
variable {T : Tab} {N : List Str} {sc : Scope}
theorem SIk.e {tg iter : Expr} {f : DenL} (h : SIk T N sc tg iter f) : SIe T N sc tg iter f := by
  intro C Z k F W X cx H0 ρ g σ H S R hp
  refine h C Z k F W X cx H0 ρ g σ H S R ?_
  cases q : f F ρ g with
  | bad => rw [q] at hp; exact hp
  | exc c xs g' => rw [q] at hp; exact hp
  | ok ds g' =>
    rw [q] at hp
    exact fun J H' e k ⟨G, w, p⟩ => hp J H' e k ⟨G, w, fun g2 H2 k2 e2 => p H2 (k2.keep e2)⟩
end

/-! ### the keys of a dict -/
def ItD (C : Cst) (d : Addr) (o : Obj) (es : List DictEntry) : It :=
  ⟨fun i H => DRo C H d o ∧ ∃ e x, es[i]? = some e ∧ RelV x e.key, fun i H x H' => H' = H ∧ ∃ e, es[i]? = some e ∧ RelV x e.key, fun i H => DRo C H d o ∧ es.length ≤ i⟩
theorem turn_raw {P : Program} {w : World} {C : Cst} {tg : Expr} (it d : Addr) (o : Obj) (es : List DictEntry) (ep : Nat) (hdt : o.data = .dict es.toArray ep) :
    Turn P w C.K tg (ItD C d o es) [it] it (fun i h => h.IsKeyIter it d i es.length ep) where
  mem := by simp
  obj := fun i h st b hb => by
    have e : b = it := by simpa using hb
    subst e
    obtain ⟨oi, e, c, dd⟩ := st
    exact ⟨oi, e, fun v z => by rw [dd] at z; cases z⟩
  keep := fun i h h' st k => st.at fun oi e => k it (by simp) oi e
  item := by
    intro X hP hw hK hc i pins s σ H E I hf st hg
    subst hP hw
    obtain ⟨hd, e, x, he, rx⟩ := hg
    obtain ⟨f0, f1, f2, f3, f4, f5⟩ := hf it (by simp)
    have hod := hd.at hK I
    refine next_key_item (en := e) st hod hdt (by simp) (by simpa using he) fun h' st' sb => ?_
    have I1 : Inv X pins σ H { s with heap := h' } := I.turned (t' := s.toks) (fun b ob hb e => (sb.2 b hb).trans e) f0 f1 f3 f4 f5
    obtain ⟨oi, eo, co, dd⟩ := id st'
    exact ⟨e.key, rfl, go_of (s := { s with heap := h' }) eo co dd (by decide) ⟨x, H, I1, rx, ⟨rfl, e, he, rx⟩, st', fun b hb => (hf b hb).1⟩⟩
  done := by
    intro X hP hw hK hc i pins s σ H E I hf st hg
    subst hP hw
    obtain ⟨hd, hi⟩ := hg
    obtain ⟨f0, f1, f2, f3, f4, f5⟩ := hf it (by simp)
    exact next_key_end (I.ok.hd hc) st (hd.at hK I) hdt (by simp) hi fun h' eb => ⟨rfl, I.turned (t' := s.toks) (fun b ob hb e => eb b ob hb e) f0 f1 f3 f4 f5⟩
  self := fun A i s Q E st h => wpAny_pyIter_keyiter st h

theorem pi_raw {C : Cst} {X : Cx} {tg e : Expr} {td : TE} (hK : X.K = C.K) (he : PE X e td) :
    PI X tg e (fun σ H R => td σ H fun x H1 => ∃ d o es, x = .ref d ∧ (d == sysModules) = false ∧ DRo C H1 d o ∧ Dat o es ∧ R (ItD C d o es) H1) := by
  refine ⟨fun pins s σ H R I h => ?_⟩
  refine thn (he.run pins s σ H _ I h) fun u s1 ⟨x, H1, I1, rx, d, o, es, ex, hs, hd, ⟨hx, ep, hdt⟩, q⟩ => ?_
  subst ex
  obtain rfl : u = Value.ref d := rx
  have I0 := I1
  refine iter_keys hs (hd.at hK I1) hx hdt ?_
  have T : ∀ it, Turn X.prog X.w X.K tg (ItD C d o es) [it] it (fun i h => h.IsKeyIter it d i es.length ep) := fun it => by rw [hK]; exact turn_raw it d o es ep hdt
  refine pi_one (tk := s1.toks) I1 _ (T _) ⟨_, Heap.get?_push_size _ rfl, rfl, ?_⟩ q
  simp
theorem walk_raw {C : Cst} {d : Addr} {o : Obj} {es : List DictEntry} {kvs : List (D × D)} : WkD C (ItD C d o es) (kvs.map (·.1)) (fun H => DRo C H d o ∧ RepE C H kvs es) := by
  have key : ∀ {H : Hp} {kvs : List (D × D)} {es : List DictEntry} {i : Nat} {e : DictEntry}, RepE C H kvs es → es[i]? = some e → ∃ k v x, kvs[i]? = some (k, v) ∧ RelV x e.key ∧ Rep C H k x := by
    intro H kvs
    induction kvs with
    | nil => intro es i e h q; rw [show es = [] from h] at q; simp at q
    | cons p r ih =>
      intro es i e h q
      obtain ⟨k, v⟩ := p
      obtain ⟨e0, es', x, y, rfl, hs, r1, h1, r2, h2, t⟩ := h
      cases i with
      | zero => simp at q; subst q; exact ⟨k, v, x, rfl, r1, h1⟩
      | succ i => obtain ⟨k', v', x', a, b, c⟩ := ih (i := i) t (by simpa using q); exact ⟨k', v', x', by simpa using a, b, c⟩
  refine ⟨⟨fun i H hi g => ⟨g.1, ?_⟩, fun H g => ⟨g.1, by rw [List.length_map, g.2.length]; exact Nat.le_refl _⟩, fun i H x H' hi g y => ?_⟩⟩
  · rw [List.length_map, ← g.2.length] at hi
    obtain ⟨k, v, x, _, rx, _⟩ := key g.2 (List.getElem?_eq_getElem hi)
    exact ⟨_, x, List.getElem?_eq_getElem hi, rx⟩
  · obtain ⟨rfl, e, he, rx⟩ := y
    obtain ⟨k, v, x', a, b, c⟩ := key g.2 he
    have : x = x' := rx.inj b
    subst this
    exact ⟨.refl _ _, fun _ k => k, k, by simp [a], c⟩

/-! ### lists, tuples, texts, dicts -/
def dIt (f : Den) : DenL := fun F ρ g => (f F ρ g).bind fun a g1 => match a.1 with
  | .lst l => .ok l g1
  | .tup l => .ok l g1
  | .str l => .ok (l.map fun c => .str [c]) g1
  | .dct kvs => .ok (kvs.map (·.1)) g1
  | _ => .bad
theorem walk_lstD {C : Cst} {K : PySem.W.Frag} {a : Addr} {xs : List V} {ds : List D} (hl : xs.length = ds.length) : WkD C (Itl K a) ds (fun H => SqL K H a xs ∧ Reps C H ds xs) := by
  refine ⟨Walk.mono (by rw [← hl]; exact walk_list) (fun H h => h.1) fun i H x H' hi g y => ?_⟩
  obtain ⟨rfl, e⟩ := y
  obtain ⟨d, h1, h2⟩ := g.2.get e
  exact ⟨.refl _ _, fun _ k => k, d, h1, h2⟩
theorem walk_tupD {C : Cst} {K : PySem.W.Frag} {a : Addr} {xs : List V} {ds : List D} (hl : xs.length = ds.length) : WkD C (Itt K a) ds (fun H => SqT K H a xs ∧ Reps C H ds xs) := by
  refine ⟨Walk.mono (by rw [← hl]; exact walk_tup) (fun H h => h.1) fun i H x H' hi g y => ?_⟩
  obtain ⟨rfl, e⟩ := y
  obtain ⟨d, h1, h2⟩ := g.2.get e
  exact ⟨.refl _ _, fun _ k => k, d, h1, h2⟩
theorem walk_strD {C : Cst} {l : List Nat} : WkD C (Its ⟨l.toArray⟩) (l.map fun c => .str [c]) (fun _ => True) := by
  refine ⟨Walk.mono (by rw [List.length_map, show l.length = (⟨l.toArray⟩ : Str).cps.size by simp]; exact walk_str) (fun H h => h) fun i H x H' hi g y => ?_⟩
  obtain ⟨rfl, c, e, rfl⟩ := y
  have e' : l[i]? = some c := by simpa using e
  exact ⟨.refl _ _, fun _ k => k, .str [c], by simp [e'], rfl⟩
section
variable {T : Tab} {N : List Str} {sc : Scope}
/-- the den's value decides the rule -/
theorem den_cases {f : Den} {F : FT} {ρ : Env'} {g : G} (P : Prop) (h1 : ∀ a g1, f F ρ g = .ok a g1 → P) (h2 : ∀ c xs g1, f F ρ g = .exc c xs g1 → P) (h3 : f F ρ g = .bad → P) : P := by
  cases q : f F ρ g with
  | ok a g1 => exact h1 a g1 q
  | exc c xs g1 => exact h2 c xs g1 q
  | bad => exact h3 q

theorem it_lst {C : Cst} {H : Hp} {l : List D} {v : V} (h : WRep C H (.lst l) v) : ∃ a xs, v = .ref a ∧ SqL C.K H a xs ∧ xs.length = l.length ∧ ∀ g H', GOk C g H → Ext C H H' → SqL C.K H' a xs ∧ Reps C H' l xs := by
  rcases h with ⟨a, xs, rfl, s, r⟩ | ⟨a, rfl, n, xs, s, r⟩
  · exact ⟨a, xs, rfl, s.sq, r.length, fun g H' k e => ⟨(s.keep (k.keep e)).sq, r.keep (k.keep e)⟩⟩
  · exact ⟨a, xs, rfl, .inl (.inl s), r.length, fun g H' k e => ⟨.inl (.inl (e _ _ n s)), r.keep (k.keep e)⟩⟩
theorem it_dct {C : Cst} {H : Hp} {l : List (D × D)} {v : V} (h : WRep C H (.dct l) v) : ∃ a o es, v = .ref a ∧ (a == sysModules) = false ∧ DRo C H a o ∧ Dat o es ∧ ∀ g H', GOk C g H → Ext C H H' → DRo C H' a o ∧ RepE C H' l es := by
  rcases h with ⟨a, es, rfl, ⟨o, s, dt⟩, n, _, _, r⟩ | ⟨a, rfl, nh, es, o, s, dt, n, _, _, r⟩
  · have hs : ∀ H', Keep H H' → DRo C H' a o := fun H' k => by
      rcases s with ⟨o', s⟩ | s
      · exact .inr (.inl ⟨o', k _ _ trivial s⟩)
      · exact .inr (.inr s)
    exact ⟨a, o, es, rfl, n, hs _ (Keep.refl _), dt, fun g H' k e => ⟨hs _ (k.keep e), RepE.keep (k.keep e) _ r⟩⟩
  · exact ⟨a, o, es, rfl, n, .inl s, dt, fun g H' k e => ⟨.inl (e _ _ nh s), RepE.keep (k.keep e) _ r⟩⟩
theorem SIe.val {tg e : Expr} {f : Den} (h : SE T N sc e f) : SIe T N sc tg e (dIt f) := by
  intro C Z k F W X cx H0 ρ g σ H S Q hp
  have hh := h C Z k F W X cx H0 ρ g σ H S
  unfold dIt at hp
  cases q : f F ρ g with
  | bad => rw [q] at hp; exact hp.elim
  | exc c xs g' =>
    rw [q] at hp hh
    exact wI.of (pi_list wE.pe) (hh _ hp)
  | ok a g' =>
    obtain ⟨d, fl⟩ := a
    rw [q] at hp hh
    dsimp only [R.bind] at hp
    cases d with
    | lst l =>
      refine wI.of (pi_list wE.pe) (hh _ fun v H1 e1 k1 r1 => ?_)
      obtain ⟨p, xs, rfl, s, hl, kp⟩ := it_lst (FRep.w r1)
      exact ⟨p, rfl, ⟨xs, by rw [cx.hK]; exact s⟩, by rw [cx.hK]; exact hp _ H1 e1 k1 ⟨_, walk_lstD hl, fun g2 H2 k2 e2 => kp _ H2 k2 e2⟩⟩
    | tup l =>
      refine wI.of (pi_tup wE.pe) (hh _ fun v H1 e1 k1 r1 => ?_)
      obtain ⟨p, xs, rfl, s, r⟩ := (FRep.w r1).tup
      exact ⟨p, rfl, ⟨xs, by rw [cx.hK]; exact s.sq⟩, by rw [cx.hK]; exact hp _ H1 e1 k1 ⟨_, walk_tupD r.length, fun g2 H2 k2 e2 => ⟨SqT_keep (k2.keep e2) s.sq, r.keep (k2.keep e2)⟩⟩⟩
    | str l =>
      refine wI.of (pi_str wE.pe) (hh _ fun v H1 e1 k1 r1 => ?_)
      obtain rfl := (FRep.w r1).str
      exact ⟨_, rfl, hp _ H1 e1 k1 ⟨_, walk_strD, fun g2 H2 k2 e2 => trivial⟩⟩
    | dct l =>
      refine wI.of (pi_raw cx.hK wE.pe) (hh _ fun v H1 e1 k1 r1 => ?_)
      obtain ⟨p, o, es, rfl, n, s, dt, kp⟩ := it_dct (FRep.w r1)
      exact ⟨p, o, es, rfl, n, s, dt, hp _ H1 e1 k1 ⟨_, walk_raw, fun g2 H2 k2 e2 => kp _ H2 k2 e2⟩⟩
    | _ => exact hp.elim
theorem SIk.val {tg e : Expr} {f : Den} (h : SE T N sc e f) : SIk T N sc tg e (dIt (dFz f)) := by
  intro C Z k F W X cx H0 ρ g σ H S Q hp
  have hh := h.fz C Z k F W X cx H0 ρ g σ H S
  unfold dIt at hp
  cases q : dFz f F ρ g with
  | bad => rw [q] at hp; exact hp.elim
  | exc c xs g' =>
    rw [q] at hp hh
    exact wI.of (pi_list wE.pe) (hh _ hp)
  | ok a g' =>
    have hf := fz_s q
    obtain ⟨d, fl⟩ := a
    obtain rfl : fl = .s := hf
    rw [q] at hp hh
    dsimp only [R.bind] at hp
    cases d with
    | lst l =>
      refine wI.of (pi_list wE.pe) (hh _ fun v H1 e1 k1 r1 => ?_)
      obtain ⟨p, xs, rfl, s, r⟩ := r1
      exact ⟨p, rfl, ⟨xs, by rw [cx.hK]; exact s.sq⟩, by rw [cx.hK]; exact hp _ H1 e1 k1 ⟨_, walk_lstD r.length, fun H2 k2 => ⟨(s.keep k2).sq, r.keep k2⟩⟩⟩
    | tup l =>
      refine wI.of (pi_tup wE.pe) (hh _ fun v H1 e1 k1 r1 => ?_)
      obtain ⟨p, xs, rfl, s, r⟩ := r1
      exact ⟨p, rfl, ⟨xs, by rw [cx.hK]; exact s.sq⟩, by rw [cx.hK]; exact hp _ H1 e1 k1 ⟨_, walk_tupD r.length, fun H2 k2 => ⟨SqT_keep k2 s.sq, r.keep k2⟩⟩⟩
    | str l =>
      refine wI.of (pi_str wE.pe) (hh _ fun v H1 e1 k1 r1 => ?_)
      obtain rfl := r1
      exact ⟨_, rfl, hp _ H1 e1 k1 ⟨_, walk_strD, fun H2 k2 => trivial⟩⟩
    | dct l =>
      refine wI.of (pi_raw cx.hK wE.pe) (hh _ fun v H1 e1 k1 r1 => ?_)
      obtain ⟨p, es, rfl, ⟨o, s, dt⟩, n, _, _, r⟩ := r1
      have hs : ∀ H', Keep H1 H' → DRo C H' p o := fun H' k => by
        rcases s with ⟨o', s⟩ | s
        · exact .inr (.inl ⟨o', k _ _ trivial s⟩)
        · exact .inr (.inr s)
      exact ⟨p, o, es, rfl, n, hs _ (Keep.refl _), dt, hp _ H1 e1 k1 ⟨_, walk_raw, fun H2 k2 => ⟨hs _ k2, RepE.keep k2 _ r⟩⟩⟩
    | _ => exact hp.elim
end
end Ev
end

section
set_option maxHeartbeats 1000000
/-! EvZ: enumerate and zip of lists and tuples in any mixture; the new pairs are plain. -/
namespace EvZ
open PySem
open PySem.Sem (wp)
/-- the object of an iterator of a list, of a tuple -/
def itO (t : Bool) (a : Addr) : Obj := { cls := .type (if t then "tuple_iterator" else "list_iterator"), data := .fields #[.ref a, .int 0 0] }
/-- a sequence at a (t: a tuple), an iterator of it -/
def Sq (t : Bool) (h : Heap) (a : Addr) (items : Array Value) : Prop := if t then h.IsTuple a items else h.IsList a items
def It (t : Bool) (h : Heap) (it a : Addr) (i : Nat) : Prop := if t then h.IsTupleIter it a i else h.IsListIter it a i
theorem Sq.push {t : Bool} {h : Heap} {a : Addr} {items : Array Value} (x : Sq t h a items) (o : Obj) : Sq t (h.push o) a items := by
  cases t with
  | true => exact Heap.IsTuple.push x o
  | false => exact Heap.IsList.push x o
theorem It.at {t : Bool} {h h' : Heap} {it a : Addr} {i : Nat} (x : It t h it a i) (k : ∀ o, h.get? it = some o → h'.get? it = some o) : It t h' it a i := by
  cases t with
  | true => exact Heap.IsTupleIter.at x k
  | false => exact Heap.IsListIter.at x k
theorem It.there {t : Bool} {h : Heap} {it a : Addr} {i : Nat} (x : It t h it a i) : ∃ o : Obj, h.get? it = some o ∧ ∃ vs, o.data = .fields vs := by
  cases t with
  | true => obtain ⟨o, e, _, d⟩ := (show h.IsTupleIter it a i from x); exact ⟨o, e, _, d⟩
  | false => obtain ⟨o, e, _, d⟩ := (show h.IsListIter it a i from x); exact ⟨o, e, _, d⟩
theorem It.ne {t : Bool} {h : Heap} {it a : Addr} {i : Nat} {items : Array Value} (x : It t h it a i) (y : Sq t h a items) : a ≠ it := fun e => by
  subst e
  obtain ⟨o, h1, vs, h2⟩ := x.there
  cases t with
  | true =>
    obtain ⟨o', h3, _, n, h4⟩ := (show h.IsTuple a items from y)
    rw [h1] at h3; cases h3; rw [h2] at h4; cases h4
  | false =>
    obtain ⟨o', h3, _, n, h4⟩ := (show h.IsList a items from y)
    rw [h1] at h3; cases h3; rw [h2] at h4; cases h4
theorem It.new (t : Bool) (h : Heap) (a : Addr) : It t (h.push (itO t a)) h.objs.size a 0 := by
  cases t with
  | true => exact ⟨_, Heap.get?_push_size _ rfl, rfl, rfl⟩
  | false => exact ⟨_, Heap.get?_push_size _ rfl, rfl, rfl⟩
theorem draws (t : Bool) {prog : Program} {w : World} {A : Around} (hh : A.handled = none) (it a : Addr) (hne : a ≠ it) (items : Array Value) :
    Draws prog w A it [it, a] items.size (fun i v => items[i]? = some v) (fun i h => It t h it a i ∧ Sq t h a items) := by
  cases t with
  | true => exact Draws.tuple hh it a hne items
  | false => exact Draws.list hh it a hne items
theorem iter_of {t : Bool} {prog : Program} {w : World} {A : Around} {E : Value → Shared → Prop} {s : Shared} {a : Addr} {items : Array Value} {Q : Value → Shared → Prop} (h : Sq t s.heap a items) (q : Q (.ref s.heap.objs.size) { s with heap := s.heap.push (itO t a) }) : wpAny (model prog w) A (pyIter (.ref a)) Q E s := by
  cases t with
  | true => exact wpAny_pyIter_tuple h q
  | false => exact wpAny_pyIter_list h q

theorem meets_enum (t : Bool) (a : Addr) (items : Array Value) :
    Meets (Builtin.«enumerate.__new__» ⟨[.type "enumerate", .ref a], []⟩) (fun _ R s => Sq t s.heap a items ∧
      R (.ok (.ret (.ref (s.heap.push (itO t a)).objs.size))) { s with heap := (s.heap.push (itO t a)).push { cls := .type "enumerate", data := .fields #[.none, .bool false, .ref s.heap.objs.size, rawInt 0, .none, .none] } }) :=
  .of_wp fun prog w A R s h => by
    obtain ⟨hp, g, d, tk, os⟩ := s
    obtain ⟨hq, h⟩ := h
    have hsub := sub_enumerate
    have q1 : ∀ {A' : Around} {E : Value → Shared → Prop} {Q : Value → Shared → Prop}, Q (.ref hp.objs.size) ⟨hp.push (itO t a), g, d, tk, os⟩ → wpAny (model prog w) A' (pyIter (.ref a)) Q E ⟨hp, g, d, tk, os⟩ :=
      fun q => iter_of (s := ⟨hp, g, d, tk, os⟩) hq q
    wp_walk using q1
    refine wpAny_stack_any fun st => wpAny_pure ?_
    split
    · rename_i c _ _ _ _ _
      cases (c == Value.type "enumerate")
      · wp_walk using q1
        exact ⟨_, rfl, h⟩
      · wp_walk using q1
        exact ⟨_, rfl, h⟩
    · wp_walk using q1
      exact ⟨_, rfl, h⟩
abbrev zH1 (t1 : Bool) (h : Heap) (l1 : Addr) : Heap := h.push (itO t1 l1)
abbrev zH2 (t1 t2 : Bool) (h : Heap) (l1 l2 : Addr) : Heap := (zH1 t1 h l1).push (itO t2 l2)
abbrev zH3 (t1 t2 : Bool) (h : Heap) (l1 l2 : Addr) : Heap := (zH2 t1 t2 h l1 l2).push { cls := .type "tuple", data := .seq #[.ref h.objs.size, .ref (zH1 t1 h l1).objs.size] }
abbrev zH4 (t1 t2 : Bool) (h : Heap) (l1 l2 : Addr) : Heap := (zH3 t1 t2 h l1 l2).push { cls := .type "tuple", data := .seq #[.none, .none] }
abbrev zH5 (t1 t2 : Bool) (h : Heap) (l1 l2 : Addr) : Heap := (zH4 t1 t2 h l1 l2).push { cls := .type "zip", data := .fields #[.none, .bool false, .bool false, .ref (zH2 t1 t2 h l1 l2).objs.size, .ref (zH3 t1 t2 h l1 l2).objs.size] }
theorem meets_zip (t1 t2 : Bool) (l1 l2 : Addr) (xs ys : Array Value) :
    Meets (Builtin.«zip.__new__» ⟨[.type "zip", .ref l1, .ref l2], []⟩) (fun _ R s => Sq t1 s.heap l1 xs ∧ Sq t2 s.heap l2 ys ∧
      R (.ok (.ret (.ref (zH4 t1 t2 s.heap l1 l2).objs.size))) { s with heap := zH5 t1 t2 s.heap l1 l2 }) :=
  .of_wp fun prog w A R s h => by
    obtain ⟨hp, g, d, tk, os⟩ := s
    obtain ⟨hl1, hl2, h⟩ := h
    have hsub := sub_zip
    have q1 : ∀ {A' : Around} {E : Value → Shared → Prop} {Q : Value → Shared → Prop}, Q (.ref hp.objs.size) ⟨hp.push (itO t1 l1), g, d, tk, os⟩ → wpAny (model prog w) A' (pyIter (.ref l1)) Q E ⟨hp, g, d, tk, os⟩ :=
      fun q => iter_of (s := ⟨hp, g, d, tk, os⟩) hl1 q
    have q2 : ∀ {A' : Around} {E : Value → Shared → Prop} {Q : Value → Shared → Prop}, Q (.ref (hp.push (itO t1 l1)).objs.size) ⟨(hp.push (itO t1 l1)).push (itO t2 l2), g, d, tk, os⟩ → wpAny (model prog w) A' (pyIter (.ref l2)) Q E ⟨hp.push (itO t1 l1), g, d, tk, os⟩ :=
      fun q => iter_of (s := ⟨hp.push (itO t1 l1), g, d, tk, os⟩) (hl2.push _) q
    wp_walk using q1, q2
    exact ⟨_, rfl, h⟩
section
variable {prog : Program} {w : World} {A : Around} {E : Value → Shared → Prop} {s : Shared}
theorem call_enum {t : Bool} {a : Addr} {items : Array Value} {Q : Value → Shared → Prop} (hq : Sq t s.heap a items)
    (h : ∀ h', IsEnum h' (s.heap.objs.size + 1) s.heap.objs.size 0 .none → It t h' s.heap.objs.size a 0 → (∀ b o, s.heap.get? b = some o → h'.get? b = some o) → Q (.ref (s.heap.objs.size + 1)) { s with heap := h' }) :
    wpAny (model prog w) A (call (.type "enumerate") [.ref a]) Q E s := by
  refine callType_new F.called_enumerate (by decide) (F.typeCall_enumerate_1 _) (F.newCall_enumerate_1 _) (fun obj => F.args_object_init_2 obj _) F.entry_enumerate_new
    (meets_enum t a items) ⟨hq, ?_⟩
  have hz : (s.heap.push (itO t a)).objs.size = s.heap.objs.size + 1 := Heap.size_push ..
  show _ ∧ _
  rw [hz]
  have he : IsEnum ((s.heap.push (itO t a)).push { cls := .type "enumerate", data := .fields #[.none, .bool false, .ref s.heap.objs.size, rawInt 0, .none, .none] }) (s.heap.objs.size + 1) s.heap.objs.size 0 .none := by
    have := Heap.get?_push_size (s.heap.push (itO t a)) (o := { cls := .type "enumerate", data := .fields #[.none, .bool false, .ref s.heap.objs.size, rawInt 0, .none, .none] }) rfl
    rw [hz] at this; exact this
  exact ⟨⟨_, he, rfl⟩, h _ he ((It.new t s.heap a).at fun o q => Heap.get?_push_of_some _ q) fun b o x => Heap.get?_push_of_some _ (Heap.get?_push_of_some _ x)⟩
theorem call_zip {t1 t2 : Bool} {l1 l2 : Addr} {xs ys : Array Value} {Q : Value → Shared → Prop} (hl1 : Sq t1 s.heap l1 xs) (hl2 : Sq t2 s.heap l2 ys)
    (h : ∀ h', IsZip h' (s.heap.objs.size + 4) (s.heap.objs.size + 2) (s.heap.objs.size + 3) .none → IsTupOf2 h' (s.heap.objs.size + 2) (.ref s.heap.objs.size) (.ref (s.heap.objs.size + 1)) →
      IsTupOf2 h' (s.heap.objs.size + 3) .none .none → It t1 h' s.heap.objs.size l1 0 → It t2 h' (s.heap.objs.size + 1) l2 0 →
      (∀ c o, s.heap.get? c = some o → h'.get? c = some o) → Q (.ref (s.heap.objs.size + 4)) { s with heap := h' }) :
    wpAny (model prog w) A (call (.type "zip") [.ref l1, .ref l2]) Q E s := by
  refine callType_new F.called_zip (by decide) (F.typeCall_zip_2 _ _) (F.newCall_zip_2 _ _) (fun obj => F.args_object_init_3 obj _ _) F.entry_zip_new
    (meets_zip t1 t2 l1 l2 xs ys) ⟨hl1, hl2, ?_⟩
  have z1 : (zH1 t1 s.heap l1).objs.size = s.heap.objs.size + 1 := Heap.size_push ..
  have z2 : (zH2 t1 t2 s.heap l1 l2).objs.size = s.heap.objs.size + 2 := by rw [Heap.size_push, z1]
  have z3 : (zH3 t1 t2 s.heap l1 l2).objs.size = s.heap.objs.size + 3 := by rw [Heap.size_push, z2]
  have z4 : (zH4 t1 t2 s.heap l1 l2).objs.size = s.heap.objs.size + 4 := by rw [Heap.size_push, z3]
  have up4 : ∀ (h0 : Heap) (o1 o2 o3 o4 : Obj) (c : Addr) (o : Obj), h0.get? c = some o → ((((h0.push o1).push o2).push o3).push o4).get? c = some o := fun h0 o1 o2 o3 o4 c o x => Heap.get?_push_of_some _ (Heap.get?_push_of_some _ (Heap.get?_push_of_some _ (Heap.get?_push_of_some _ x)))
  have g5 : (zH5 t1 t2 s.heap l1 l2).get? (zH4 t1 t2 s.heap l1 l2).objs.size = some _ := Heap.get?_push_size _ rfl
  have g4 : (zH5 t1 t2 s.heap l1 l2).get? (zH3 t1 t2 s.heap l1 l2).objs.size = some _ := Heap.get?_push_of_some _ (Heap.get?_push_size _ rfl)
  have g3 : (zH5 t1 t2 s.heap l1 l2).get? (zH2 t1 t2 s.heap l1 l2).objs.size = some _ := Heap.get?_push_of_some _ (Heap.get?_push_of_some _ (Heap.get?_push_size _ rfl))
  have i2 : It t2 (zH5 t1 t2 s.heap l1 l2) (zH1 t1 s.heap l1).objs.size l2 0 := (It.new t2 (zH1 t1 s.heap l1) l2).at fun o q => Heap.get?_push_of_some _ (Heap.get?_push_of_some _ (Heap.get?_push_of_some _ q))
  have i1 : It t1 (zH5 t1 t2 s.heap l1 l2) s.heap.objs.size l1 0 := (It.new t1 s.heap l1).at fun o q => up4 _ _ _ _ _ _ _ q
  show _ ∧ _
  rw [z2, z3, z4] at g5
  rw [z1, z2] at g3
  rw [z3] at g4
  rw [z1] at i2
  rw [z4]
  exact ⟨⟨_, g5, rfl⟩, h _ g5 g3 g4 i1 i2 fun c o x => Heap.get?_push_of_some _ (up4 _ _ _ _ _ _ _ x)⟩
end
end EvZ
end

section
/-! EvY: enumerate, zip: the turns. -/
namespace Ev
open PySem PySem.Spec L2
open PyProof.Rows hiding St

/-- a list (false) or tuple (true) that is read -/
def SqA (t : Bool) (K : PySem.W.Frag) (H : Hp) (a : Addr) (xs : List V) : Prop := if t then SqT K H a xs else SqL K H a xs
theorem SqA.of {t : Bool} {X : Cx} {pins : List (Addr × Obj)} {σ : L2.St} {H : Hp} {s : Shared} {a : Addr} {xs : List V} (I : Inv X pins σ H s) (h : SqA t X.K H a xs) : ∃ its : List Value, Vals xs its ∧ EvZ.Sq t s.heap a its.toArray ∧ a < s.heap.objs.size := by
  cases t with
  | true => obtain ⟨its, r, p, _⟩ := I.tuple h; exact ⟨its, r, p, p.lt⟩
  | false => obtain ⟨its, r, p, _⟩ := I.list h; exact ⟨its, r, p.isList, p.lt⟩
theorem SqA.inj {t : Bool} {X : Cx} {pins : List (Addr × Obj)} {σ : L2.St} {H : Hp} {s : Shared} {a : Addr} {xs ys : List V} (I : Inv X pins σ H s) (h : SqA t X.K H a xs) (h' : SqA t X.K H a ys) : xs = ys := by
  cases t with
  | true => exact I.tuple_inj h h'
  | false => exact I.list_inj h h'
/-- a plain pair, new -/
def PairNew (H : Hp) (v : V) (H' : Hp) (x y : V) : Prop := ∃ (Tp : Addr) (us : List Value), v = .ref Tp ∧ H Tp = none ∧ H' = upd H Tp (.frz (tupO us) (.tup [x, y]))
def JEn (t : Bool) (K : PySem.W.Frag) (a : Addr) : It :=
  ⟨fun i H => ∃ (xs : List V) (x : V), SqA t K H a xs ∧ xs[i]? = some x, fun i H v H' => ∃ x, PairNew H v H' (.int (i : Nat)) x ∧ ∀ xs, SqA t K H a xs → xs[i]? = some x, fun i H => ∃ xs : List V, SqA t K H a xs ∧ xs.length = i⟩
theorem turn_en {P : Program} {w : World} {K : PySem.W.Frag} {elts : List Expr} {kk : Nat} {tpos : Pos} (t : Bool) (a e it : Addr) :
    Turn P w K (.Tuple elts kk tpos) (JEn t K a) [e, it] e (fun i h => (∃ old, IsEnum h e it ((i : Nat) : Int) old) ∧ EvZ.It t h it a i ∧ e ≠ it) where
  mem := by simp
  obj := fun i h st b hb => by
    obtain ⟨⟨old, he⟩, hi, _⟩ := st
    obtain ⟨o, ho, vs, hd⟩ := hi.there
    have q : b = e ∨ b = it := by simpa using hb
    rcases q with rfl | rfl
    · exact ⟨_, he, fun v q => nomatch q⟩
    · exact ⟨o, ho, fun v q => by rw [hd] at q; cases q⟩
  keep := fun i h h' st k => let ⟨⟨old, he⟩, hi, hne⟩ := st; ⟨⟨old, k e (by simp) _ he⟩, hi.at fun o q => k it (by simp) o q, hne⟩
  item := by
    intro X hP hw hK hc i pins s σ H E I hf st hg
    subst hP hw hK
    obtain ⟨⟨old, he⟩, hit, hne⟩ := st
    obtain ⟨xs, x, hq, hx⟩ := hg
    obtain ⟨its, rv, p, _⟩ := SqA.of I hq
    obtain ⟨u, hu, ru⟩ := rv.get hx
    have hel : e < s.heap.objs.size := Heap.lt_size he
    have hil : it < s.heap.objs.size := by obtain ⟨_, q, _⟩ := hit.there; exact Heap.lt_size q
    have hlt : i < its.toArray.size := by rw [List.size_toArray]; exact (List.getElem?_eq_some_iff.mp hu).1
    have hef : e ∉ [it, a] := fun m => by
      have m : e = it ∨ e = a := by simpa using m
      rcases m with m | m
      · exact hne m
      · subst m
        cases t with
        | true => obtain ⟨o, h1, h2, _⟩ := (show s.heap.IsTuple e its.toArray from p); rw [he] at h1; cases h1; exact absurd (Value.type.inj h2) (by decide)
        | false => obtain ⟨o, h1, h2, _⟩ := (show s.heap.IsList e its.toArray from p); rw [he] at h1; cases h1; exact absurd (Value.type.inj h2) (by decide)
    refine wpAny_pyNext_enum_itemC (EvZ.draws t (by show X.A.handled = none; exact I.ok.hd hc) it a (hit.ne p) its.toArray) he ⟨hit, p⟩ hlt hne hef fun x' h' tk hP ho hs' hT hsz hk => ?_
    have ex : x' = u := by
      have : its.toArray[i]? = some u := by simpa using hu
      rw [hP] at this; exact Option.some.inj this
    subst ex
    refine ⟨_, rfl, wpAny_letOwnedTupleGo_enum (s := { s with heap := h', toks := tk + 1 }) ho fun h'' he' sb => ?_⟩
    have hT2 : h''.get? s.heap.objs.size = some (tupO [.int i tk, x']) := (sb.2 _ (Nat.ne_of_gt hel)).trans hT
    have new : ObjOk X.prog X.w (upd H s.heap.objs.size (.frz (tupO [.int i tk, x']) (.tup [.int (i : Nat), x]))) h'' s.heap.objs.size (.frz (tupO [.int i tk, x']) (.tup [.int (i : Nat), x])) :=
      ⟨hT2, by show 2 ≤ sizeLine; decide, [.int i tk, x'], .cons ⟨_, rfl⟩ (.cons ru .nil), ⟨_, hT2, rfl, _, rfl⟩⟩
    have I1 : Inv X pins σ (upd H s.heap.objs.size (.frz (tupO [.int i tk, x']) (.tup [.int (i : Nat), x]))) { s with heap := h'', toks := tk + 1 } :=
      I.turnedNew (ch := [e, it]) (fun b ob hb q => (sb.2 b (fun z => hb (by simp [z]))).trans (hk b ob (fun z => hb (by simp [z])) (fun z => hb (by simp [z])) q)) hf (Nat.le_refl _) new
    refine ⟨.ref s.heap.objs.size, _, I1, rfl, ⟨x, ⟨_, _, rfl, I.hok.fresh (Nat.le_refl _), rfl⟩, fun ys hy => by rw [SqA.inj I hy hq]; exact hx⟩, ⟨⟨x', ?_⟩, hs'.1.at fun o q => (sb.2 it (Ne.symm hne)).trans q, hne⟩, fun b hb => ?_⟩
    · have e1 : ((i + 1 : Nat) : Int) = (i : Int) + 1 := by omega
      rw [e1]; exact he'
    · have hb' : b < s.heap.objs.size := by
        have q : b = e ∨ b = it := by simpa using hb
        rcases q with rfl | rfl
        · exact hel
        · exact hil
      rw [upd_ne (Nat.ne_of_lt hb')]
      exact (hf b hb).1
  done := by
    intro X hP hw hK hc i pins s σ H E I hf st hg
    subst hP hw hK
    obtain ⟨⟨old, he⟩, hit, hne⟩ := st
    obtain ⟨xs, hq, hx⟩ := hg
    obtain ⟨its, rv, p, _⟩ := SqA.of I hq
    obtain ⟨f0, f1, f2, f3, f4, f5⟩ := hf it (by simp)
    have hl : its.toArray.size = i := by rw [List.size_toArray, ← rv.length]; exact hx
    refine wpAny_pyNext_enum_endD (EvZ.draws t (by show X.A.handled = none; exact I.ok.hd hc) it a (hit.ne p) its.toArray) he (by rw [hl]; exact ⟨hit, p⟩) fun h' eb => ⟨rfl, I.turned (t' := s.toks) (fun b o hb q => eb b o hb q) f0 f1 f3 f4 f5⟩
  self := fun A i s Q E st h => let ⟨⟨_, he⟩, _⟩ := st; wpAny_pyIter_enum he h
def iEn (t : Bool) (K : PySem.W.Frag) (ta : TA) : TI := fun σ H R => ta σ H fun vs H1 => ∃ a xs, vs = [.ref a] ∧ SqA t K H1 a xs ∧ R (JEn t K a) H1
theorem pi_en (t : Bool) {X : Cx} {e : Expr} {ta : TA} {p pos tpos : Pos} {elts : List Expr} {kk : Nat} (hg : Gl X "enumerate") (hm : X.mg "enumerate" = none) (ha : PA X [e] ta) (hs : starEach [e] X.env = [(false, eval e X.env)]) :
    PI X (.Tuple elts kk tpos) (.Call (.Name "enumerate" p) [e] [] pos) (iEn t X.K ta) := by
  refine ⟨fun pins s σ H R I h => ?_⟩
  refine Call_ (ld_blt I hg hm boot_enumerate (PyProof.Rows.callWith_type1 (thn (ha.run pos pins s σ H _ I h) fun us s1 ⟨vs, H1, I1, r1, q1⟩ => ?_) hs rfl))
  obtain ⟨a, xs, rfl, hq, q⟩ := q1
  obtain ⟨u, rfl, ru⟩ := vals1 r1
  obtain rfl : u = Value.ref a := ru
  obtain ⟨its, rv, p', _⟩ := SqA.of I1 hq
  refine EvZ.call_enum p' fun h' he hit hk => wpAny_pyIter_enum he ?_
  have I2 : Inv X pins σ H1 { s1 with heap := h' } := I1.kept (t' := s1.toks) hk
  refine ⟨s1.heap.objs.size + 1, [s1.heap.objs.size + 1, s1.heap.objs.size], _, _, H1, rfl, I2, turn_en t a (s1.heap.objs.size + 1) s1.heap.objs.size, ⟨⟨.none, he⟩, hit, Nat.succ_ne_self _⟩, fun b hb => ?_, q⟩
  have hle : s1.heap.objs.size ≤ b := by
    have q : b = s1.heap.objs.size + 1 ∨ b = s1.heap.objs.size := by simpa using hb
    rcases q with rfl | rfl
    · exact Nat.le_add_right _ _
    · exact Nat.le_refl _
  exact I1.fpOk hle (I1.hok.fresh hle)

def JZp (t1 t2 : Bool) (K : PySem.W.Frag) (a b : Addr) : It :=
  ⟨fun i H => ∃ (xs ys : List V) (x y : V), SqA t1 K H a xs ∧ SqA t2 K H b ys ∧ xs[i]? = some x ∧ ys[i]? = some y,
    fun i H v H' => ∃ x y, PairNew H v H' x y ∧ (∀ xs, SqA t1 K H a xs → xs[i]? = some x) ∧ ∀ ys, SqA t2 K H b ys → ys[i]? = some y,
    fun i H => ∃ xs ys : List V, SqA t1 K H a xs ∧ SqA t2 K H b ys ∧ i = min xs.length ys.length⟩
theorem sep_of {t1 t2 : Bool} {h : Heap} {z TI TO i1 i2 a b : Addr} {xs ys : Array Value} {i j : Nat} {u1 u2 u3 u4 x1 : Value} (hz : IsZip h z TI TO x1) (hTI : IsTupOf2 h TI u1 u2) (hTO : IsTupOf2 h TO u3 u4) (h1 : EvZ.It t1 h i1 a i) (h2 : EvZ.It t2 h i2 b j) (q1 : EvZ.Sq t1 h a xs) (q2 : EvZ.Sq t2 h b ys)
    (d1 : TI ≠ TO) (d2 : i1 ≠ i2) (d3 : a ≠ TO) (d4 : b ≠ TO) : ZipSep2 z TI TO i1 i2 [i1, a] [i2, b] := by
  obtain ⟨o1, e1, v1, f1⟩ := h1.there
  obtain ⟨o2, e2, v2, f2⟩ := h2.there
  have na : a ≠ i1 := h1.ne q1
  have nb : b ≠ i2 := h2.ne q2
  have seq1 : ∃ o : Obj, h.get? a = some o ∧ ∃ its n, o.data = .seq its n := by
    cases t1 with
    | true => obtain ⟨o, e, _, n, d⟩ := (show h.IsTuple a xs from q1); exact ⟨o, e, _, _, d⟩
    | false => obtain ⟨o, e, _, n, d⟩ := (show h.IsList a xs from q1); exact ⟨o, e, _, _, d⟩
  have seq2 : ∃ o : Obj, h.get? b = some o ∧ ∃ its n, o.data = .seq its n := by
    cases t2 with
    | true => obtain ⟨o, e, _, n, d⟩ := (show h.IsTuple b ys from q2); exact ⟨o, e, _, _, d⟩
    | false => obtain ⟨o, e, _, n, d⟩ := (show h.IsList b ys from q2); exact ⟨o, e, _, _, d⟩
  obtain ⟨oa, ea, sa, na', da⟩ := seq1
  obtain ⟨ob, eb, sb, nb', db⟩ := seq2
  have fs : ∀ {p q : Addr} {op oq : Obj} {vs : Array Value} {its : Array Value} {n : Nat}, h.get? p = some op → op.data = .fields vs → h.get? q = some oq → oq.data = .seq its n → p ≠ q := fun {p q op oq vs its n} g1 g2 g3 g4 e => by
    subst e; rw [g1] at g3; cases g3; rw [g2] at g4; cases g4
  have itcls : ∀ {t : Bool} {it p : Addr} {k : Nat} {o : Obj}, EvZ.It t h it p k → h.get? it = some o → o.cls ≠ .type "zip" := fun {t it p k o} x g e => by
    cases t with
    | true => obtain ⟨o', g1, g2, _⟩ := (show h.IsTupleIter it p k from x); rw [g] at g1; cases g1; rw [e] at g2; exact absurd (Value.type.inj g2) (by decide)
    | false => obtain ⟨o', g1, g2, _⟩ := (show h.IsListIter it p k from x); rw [g] at g1; cases g1; rw [e] at g2; exact absurd (Value.type.inj g2) (by decide)
  have zi1 : z ≠ i1 := fun e => by subst e; exact itcls h1 hz rfl
  have zi2 : z ≠ i2 := fun e => by subst e; exact itcls h2 hz rfl
  exact ⟨(fs hz rfl hTI rfl).symm, (fs hz rfl hTO rfl).symm, d1, (fs e1 f1 hTI rfl).symm, (by simp), (by simp [zi1, fs hz rfl ea da]), (by simp [(fs e1 f1 hTO rfl).symm, d3.symm]),
    (fs e2 f2 hTI rfl).symm, (by simp), (by simp [zi2, fs hz rfl eb db]), (by simp [(fs e2 f2 hTO rfl).symm, d4.symm]), (by simp [d2, fs e1 f1 eb db]), (by simp [d2.symm, fs e2 f2 ea da])⟩
theorem turn_zp {P : Program} {w : World} {K : PySem.W.Frag} {elts : List Expr} {kk : Nat} {tpos : Pos} (t1 t2 : Bool) {a b z TI TO i1 i2 : Addr} (d1 : TI ≠ TO) (d2 : i1 ≠ i2) (d3 : a ≠ TO) (d4 : b ≠ TO) :
    Turn P w K (.Tuple elts kk tpos) (JZp t1 t2 K a b) [z, TI, TO, i1, i2] z (fun i h => IsZip h z TI TO .none ∧ IsTupOf2 h TI (.ref i1) (.ref i2) ∧ (∃ x y, IsTupOf2 h TO x y) ∧ EvZ.It t1 h i1 a i ∧ EvZ.It t2 h i2 b i) where
  mem := by simp
  obj := fun i h st c hc => by
    obtain ⟨hz, hTI, ⟨x, y, hTO⟩, h1, h2⟩ := st
    obtain ⟨o1, e1, _, g1⟩ := h1.there
    obtain ⟨o2, e2, _, g2⟩ := h2.there
    have q : c = z ∨ c = TI ∨ c = TO ∨ c = i1 ∨ c = i2 := by simpa using hc
    rcases q with rfl | rfl | rfl | rfl | rfl
    · exact ⟨_, hz, fun v q => nomatch q⟩
    · exact ⟨_, hTI, fun v q => nomatch q⟩
    · exact ⟨_, hTO, fun v q => nomatch q⟩
    · exact ⟨o1, e1, fun v q => by rw [g1] at q; cases q⟩
    · exact ⟨o2, e2, fun v q => by rw [g2] at q; cases q⟩
  keep := fun i h h' st k => by
    obtain ⟨hz, hTI, ⟨x, y, hTO⟩, h1, h2⟩ := st
    exact ⟨k z (by simp) _ hz, k TI (by simp) _ hTI, ⟨x, y, k TO (by simp) _ hTO⟩, h1.at fun o q => k i1 (by simp) o q, h2.at fun o q => k i2 (by simp) o q⟩
  item := by
    intro X hP hw hK hc i pins s σ H E I hf st hg
    subst hP hw hK
    obtain ⟨hz, hTI, ⟨x0, y0, hTO⟩, h1, h2⟩ := st
    obtain ⟨xs, ys, x, y, qx, qy, hx, hy⟩ := hg
    obtain ⟨its, rv, p1, _⟩ := SqA.of I qx
    obtain ⟨its2, rv2, p2, _⟩ := SqA.of I qy
    obtain ⟨u, hu, ru⟩ := rv.get hx
    obtain ⟨u2, hu2, ru2⟩ := rv2.get hy
    have hd : X.A.in1.handled = none := I.ok.hd hc
    have l1 : i < its.toArray.size := by rw [List.size_toArray]; exact (List.getElem?_eq_some_iff.mp hu).1
    have l2 : i < its2.toArray.size := by rw [List.size_toArray]; exact (List.getElem?_eq_some_iff.mp hu2).1
    have hzl : z < s.heap.objs.size := Heap.lt_size hz
    refine wpAny_pyNext_zipD2_item (sep_of hz hTI hTO h1 h2 p1 p2 d1 d2 d3 d4) (EvZ.draws t1 hd i1 a (h1.ne p1) its.toArray) (EvZ.draws t2 hd i2 b (h2.ne p2) its2.toArray) hz hTI hTO ⟨h1, p1⟩ ⟨h2, p2⟩ l1 l2 fun v1 v2 h' tk e1 e2 z' TO' h1' h2' hT hsz hk => ?_
    have ex : v1 = u := by
      have : its.toArray[i]? = some u := by simpa using hu
      rw [e1] at this; exact Option.some.inj this
    have ey : v2 = u2 := by
      have : its2.toArray[i]? = some u2 := by simpa using hu2
      rw [e2] at this; exact Option.some.inj this
    subst ex ey
    refine ⟨_, rfl, wpAny_letOwnedTupleGo_zip (s := { s with heap := h', toks := tk }) z' fun h'' z'' sb => ?_⟩
    have hT2 : h''.get? s.heap.objs.size = some (tupO [v1, v2]) := (sb.2 _ (Nat.ne_of_gt hzl)).trans hT
    have new : ObjOk X.prog X.w (upd H s.heap.objs.size (.frz (tupO [v1, v2]) (.tup [x, y]))) h'' s.heap.objs.size (.frz (tupO [v1, v2]) (.tup [x, y])) :=
      ⟨hT2, by show 2 ≤ sizeLine; decide, [v1, v2], .cons ru (.cons ru2 .nil), ⟨_, hT2, rfl, _, rfl⟩⟩
    have I1 : Inv X pins σ (upd H s.heap.objs.size (.frz (tupO [v1, v2]) (.tup [x, y]))) { s with heap := h'', toks := tk } :=
      I.turnedNew (t' := tk) (ch := [z, TI, TO, i1, i2]) (fun c o hb q => (sb.2 c (fun q' => hb (by simp [q']))).trans (hk c o (fun q' => hb (by simp [q'])) (fun q' => hb (by simp [q'])) (fun q' => hb (by simp [q'])) (fun q' => hb (by simp [q'])) q)) hf (Nat.le_refl _) new
    have sp := sep_of hz hTI hTO h1 h2 p1 p2 d1 d2 d3 d4
    refine ⟨.ref s.heap.objs.size, _, I1, rfl, ⟨x, y, ⟨_, _, rfl, I.hok.fresh (Nat.le_refl _), rfl⟩, fun l hl => by rw [SqA.inj I hl qx]; exact hx, fun l hl => by rw [SqA.inj I hl qy]; exact hy⟩, ⟨z'', ?_, ⟨v1, v2, ?_⟩, ?_, ?_⟩, fun c hcm => ?_⟩
    · exact (sb.2 _ sp.TIz).trans (hk _ _ sp.TIz sp.TITO sp.TIi1 sp.TIi2 hTI)
    · exact (sb.2 _ sp.TOz).trans TO'
    · exact h1'.1.at fun o q => (sb.2 _ sp.zi1.symm).trans q
    · exact h2'.1.at fun o q => (sb.2 _ sp.zi2.symm).trans q
    · have hlt : c < s.heap.objs.size := by
        obtain ⟨o1, g1, _⟩ := h1.there
        obtain ⟨o2, g2, _⟩ := h2.there
        have q : c = z ∨ c = TI ∨ c = TO ∨ c = i1 ∨ c = i2 := by simpa using hcm
        rcases q with rfl | rfl | rfl | rfl | rfl
        · exact hzl
        · exact Heap.lt_size hTI
        · exact Heap.lt_size hTO
        · exact Heap.lt_size g1
        · exact Heap.lt_size g2
      rw [upd_ne (Nat.ne_of_lt hlt)]
      exact (hf c hcm).1
  done := by
    intro X hP hw hK hc i pins s σ H E I hf st hg
    subst hP hw hK
    obtain ⟨hz, hTI, ⟨x0, y0, hTO⟩, h1, h2⟩ := st
    obtain ⟨xs, ys, qx, qy, hend⟩ := hg
    obtain ⟨its, rv, p1, _⟩ := SqA.of I qx
    obtain ⟨its2, rv2, p2, _⟩ := SqA.of I qy
    have hd : X.A.in1.handled = none := I.ok.hd hc
    have l1 := rv.length
    have l2 := rv2.length
    exact wpAny_pyNext_zipD2_end (sep_of hz hTI hTO h1 h2 p1 p2 d1 d2 d3 d4) (EvZ.draws t1 hd i1 a (h1.ne p1) its.toArray) (EvZ.draws t2 hd i2 b (h2.ne p2) its2.toArray) hz hTI hTO ⟨h1, p1⟩ ⟨h2, p2⟩ (by simp; omega) (by simp; omega) (by simp; omega) fun h' tk hk => ⟨rfl,
      I.turnedL (t' := tk) (ch := [z, TI, TO, i1, i2]) (fun c o hb q => hk c o (fun q' => hb (by simp [q'])) (fun q' => hb (by simp [q'])) (fun q' => hb (by simp [q'])) (fun q' => hb (by simp [q'])) q) hf⟩
  self := fun A i s Q E st h => wpAny_pyIter_zip st.1 h
def iZp (t1 t2 : Bool) (K : PySem.W.Frag) (ta : TA) : TI := fun σ H R => ta σ H fun vs H1 => ∃ a b xs ys, vs = [.ref a, .ref b] ∧ SqA t1 K H1 a xs ∧ SqA t2 K H1 b ys ∧ R (JZp t1 t2 K a b) H1
theorem pi_zp (t1 t2 : Bool) {X : Cx} {e e2 : Expr} {ta : TA} {p pos tpos : Pos} {elts : List Expr} {kk : Nat} (hg : Gl X "zip") (hm : X.mg "zip" = none) (ha : PA X [e, e2] ta)
    (hs : starEach [e, e2] X.env = (false, eval e X.env) :: starEach [e2] X.env) (hpl : (backTo pos (starEach [e2] X.env)).any (·.1) = false) :
    PI X (.Tuple elts kk tpos) (.Call (.Name "zip" p) [e, e2] [] pos) (iZp t1 t2 X.K ta) := by
  refine ⟨fun pins s σ H R I h => ?_⟩
  refine Call_ (ld_blt I hg hm PyProof.Rows.boot_zip (PyProof.Rows.callWith_type1 (thn (ha.run pos pins s σ H _ I h) fun us s1 ⟨vs, H1, I1, r1, q1⟩ => ?_) hs hpl))
  obtain ⟨a, b, xs, ys, rfl, qx, qy, q⟩ := q1
  obtain ⟨u1, u2, rfl, ru1, ru2⟩ := vals2 r1
  obtain rfl : u1 = Value.ref a := ru1
  obtain rfl : u2 = Value.ref b := ru2
  obtain ⟨its, rv, p1, la⟩ := SqA.of I1 qx
  obtain ⟨its2, rv2, p2, lb⟩ := SqA.of I1 qy
  refine EvZ.call_zip p1 p2 fun h' hz hTI hTO h1 h2 hk => wpAny_pyIter_zip hz ?_
  have I2 : Inv X pins σ H1 { s1 with heap := h' } := I1.kept (t' := s1.toks) hk
  refine ⟨s1.heap.objs.size + 4, [s1.heap.objs.size + 4, s1.heap.objs.size + 2, s1.heap.objs.size + 3, s1.heap.objs.size, s1.heap.objs.size + 1], _, _, H1, rfl, I2,
    turn_zp t1 t2 (Nat.ne_of_lt (Nat.add_lt_add_left (by decide) _)) (Nat.ne_of_lt (Nat.lt_succ_self _)) (Nat.ne_of_lt (Nat.lt_of_lt_of_le la (Nat.le_add_right _ _))) (Nat.ne_of_lt (Nat.lt_of_lt_of_le lb (Nat.le_add_right _ _))), ⟨hz, hTI, ⟨_, _, hTO⟩, h1, h2⟩, fun c hcm => ?_, q⟩
  have hle : s1.heap.objs.size ≤ c := by
    have q : c = s1.heap.objs.size + 4 ∨ c = s1.heap.objs.size + 2 ∨ c = s1.heap.objs.size + 3 ∨ c = s1.heap.objs.size ∨ c = s1.heap.objs.size + 1 := by simpa using hcm
    show (_ : Nat) ≤ (c : Nat)
    rcases q with rfl | rfl | rfl | rfl | rfl <;> omega
  exact I1.fpOk hle (I1.hok.fresh hle)
end Ev
end

section
/-! Ev9: range, zip, enumerate. -/
namespace Ev
open PySem PySem.Spec L2
open PyProof.Rows hiding St

def i62 : Int := 4611686018427387904
theorem i62_eq : (2 : Int) ^ 62 = i62 := by decide +kernel
def rngItems (i c : Int) (n : Nat) : List D := (List.range n).map fun k => .int (i + (k : Nat) * c)
def smallI (i : Int) : Bool := decide (-i62 ≤ i) && decide (i < i62)
theorem smallI_ok {i : Int} (h : smallI i = true) : -(2 ^ 62) ≤ i ∧ i < 2 ^ 62 := by
  unfold smallI at h
  rw [Bool.and_eq_true, decide_eq_true_eq, decide_eq_true_eq] at h
  rw [i62_eq]; exact h
def dRng1 (fs : DenL) : DenL := fun F ρ g => (fs F ρ g).bind fun ds g1 => match ds with
  | [.int j] => if smallI j then .ok (rngItems 0 1 j.toNat) g1 else .bad
  | _ => .bad
def dRng2 (fs : DenL) : DenL := fun F ρ g => (fs F ρ g).bind fun ds g1 => match ds with
  | [.int i, .int j] => if smallI i && smallI j then .ok (rngItems i 1 (j - i).toNat) g1 else .bad
  | _ => .bad
def dRng3 (fs : DenL) : DenL := fun F ρ g => (fs F ρ g).bind fun ds g1 => match ds with
  | [.int i, .int j, .int c] => if smallI i && smallI j && decide (c = -1) then .ok (rngItems i (-1) (i - j).toNat) g1 else .bad
  | _ => .bad
theorem rngItems_get {i c : Int} {n k : Nat} (h : k < n) : (rngItems i c n)[k]? = some (.int (i + (k : Nat) * c)) := by
  unfold rngItems
  rw [List.getElem?_map, List.getElem?_range h]; rfl
theorem rngItems_len {i c : Int} {n : Nat} : (rngItems i c n).length = n := by simp [rngItems]
theorem walk_rngD {C : Cst} {i : Int} {n : Nat} : WkD C (Itr i n) (rngItems i 1 n) (fun _ => True) := by
  refine ⟨Walk.mono (by rw [rngItems_len]; exact walk_range) (fun H h => h) fun k H x H' hi g y => ?_⟩
  obtain ⟨rfl, rfl⟩ := y
  rw [rngItems_len] at hi
  exact ⟨.refl _ _, fun _ k => k, _, rngItems_get hi, by rw [Int.mul_one]; exact rfl⟩
theorem walk_rngCD {C : Cst} {i c : Int} {n : Nat} : WkD C (Itc i c n) (rngItems i c n) (fun _ => True) := by
  refine ⟨Walk.mono (by rw [rngItems_len]; exact walk_rangeC) (fun H h => h) fun k H x H' hi g y => ?_⟩
  obtain ⟨rfl, rfl⟩ := y
  rw [rngItems_len] at hi
  exact ⟨.refl _ _, fun _ k => k, _, rngItems_get hi, rfl⟩
theorem Reps.int1 {C : Cst} {H : Hp} {i : Int} {vs : List V} (h : Reps C H [.int i] vs) : vs = [.int i] := by
  obtain ⟨x, ys, rfl, r, rs⟩ := h
  rw [show x = .int i from r, show ys = [] from rs]
theorem Reps.int2 {C : Cst} {H : Hp} {i j : Int} {vs : List V} (h : Reps C H [.int i, .int j] vs) : vs = [.int i, .int j] := by
  obtain ⟨x, ys, rfl, r, rs⟩ := h
  rw [show x = .int i from r, rs.int1]
theorem Reps.int3 {C : Cst} {H : Hp} {i j k : Int} {vs : List V} (h : Reps C H [.int i, .int j, .int k] vs) : vs = [.int i, .int j, .int k] := by
  obtain ⟨x, ys, rfl, r, rs⟩ := h
  rw [show x = .int i from r, rs.int2]
section
variable {T : Tab} {N : List Str} {sc : Scope}
def gl (sc : Scope) (x : Str) : Prop := sc.names.lookup x = some .globalImplicit
theorem gl.at {C Z k F W} {X : Cx} (h : gl sc x) (cx : Ctx C Z T k F W N sc X) : Gl X x := by show X.env.scope.names.lookup _ = _; rw [cx.sc]; exact h
theorem SIk.rng1 {tg a : Expr} {fs : DenL} {p pos : Pos} (hg : gl sc "range") (hs : notStar a = true) (h : SL T N sc [a] fs) : SIk T N sc tg (.Call (.Name "range" p) [a] [] pos) (dRng1 fs) := by
  intro C Z k F W X cx H0 ρ g σ H S Q hp
  have hh := h C Z k F W X cx H0 ρ g σ H S
  have P := pi_range1 (tg := tg) (p := p) (pos := pos) (hg.at cx) (cx.bl _ (by simp [bnames])) (wA.pa (X := X) (es := [a])) (star_of hs)
  refine wI.of P (hh _ ?_)
  unfold dRng1 at hp
  cases q : fs F ρ g with
  | bad => rw [q] at hp; exact hp
  | exc c xs g' => rw [q] at hp; exact hp
  | ok ds g1 =>
    rw [q] at hp
    dsimp only [R.bind] at hp
    intro vs H1 e1 k1 r1
    split at hp
    · rename_i j
      split at hp
      · rename_i hj
        obtain rfl := Reps.int1 r1
        obtain ⟨a1, a2⟩ := smallI_ok hj
        exact ⟨j, rfl, a1, a2, hp _ H1 e1 k1 ⟨_, walk_rngD, fun _ _ => trivial⟩⟩
      · exact hp.elim
    · exact hp.elim
theorem SIk.rng2 {tg a b : Expr} {fs : DenL} {p pos : Pos} (hg : gl sc "range") (hs : notStar a = true) (hs2 : notStar b = true) (h : SL T N sc [a, b] fs) : SIk T N sc tg (.Call (.Name "range" p) [a, b] [] pos) (dRng2 fs) := by
  intro C Z k F W X cx H0 ρ g σ H S Q hp
  have hh := h C Z k F W X cx H0 ρ g σ H S
  have P := pi_range2 (tg := tg) (p := p) (pos := pos) (hg.at cx) (cx.bl _ (by simp [bnames])) (wA.pa (X := X) (es := [a, b])) (by rw [star_of hs, star_of hs2]; rfl) (star_of hs2)
  refine wI.of P (hh _ ?_)
  unfold dRng2 at hp
  cases q : fs F ρ g with
  | bad => rw [q] at hp; exact hp
  | exc c xs g' => rw [q] at hp; exact hp
  | ok ds g1 =>
    rw [q] at hp
    dsimp only [R.bind] at hp
    intro vs H1 e1 k1 r1
    split at hp
    · rename_i i j
      split at hp
      · rename_i hj
        rw [Bool.and_eq_true] at hj
        obtain rfl := Reps.int2 r1
        obtain ⟨a1, a2⟩ := smallI_ok hj.1
        obtain ⟨a3, a4⟩ := smallI_ok hj.2
        exact ⟨i, j, rfl, ⟨a1, a2, a3, a4⟩, hp _ H1 e1 k1 ⟨_, walk_rngD, fun _ _ => trivial⟩⟩
      · exact hp.elim
    · exact hp.elim
theorem SIk.rng3 {tg a b c : Expr} {fs : DenL} {p pos : Pos} (hg : gl sc "range") (hs : notStar a = true) (hs2 : [b, c].all notStar = true) (h : SL T N sc [a, b, c] fs) : SIk T N sc tg (.Call (.Name "range" p) [a, b, c] [] pos) (dRng3 fs) := by
  intro C Z k F W X cx H0 ρ g σ H S Q hp
  have hh := h C Z k F W X cx H0 ρ g σ H S
  have P := pi_range3 (tg := tg) (p := p) (pos := pos) (hg.at cx) (cx.bl _ (by simp [bnames])) (wA.pa (X := X) (es := [a, b, c])) (star_of hs) (noStars hs2)
  refine wI.of P (hh _ ?_)
  unfold dRng3 at hp
  cases q : fs F ρ g with
  | bad => rw [q] at hp; exact hp
  | exc c xs g' => rw [q] at hp; exact hp
  | ok ds g1 =>
    rw [q] at hp
    dsimp only [R.bind] at hp
    intro vs H1 e1 k1 r1
    split at hp
    · rename_i i j c
      split at hp
      · rename_i hj
        rw [Bool.and_eq_true, Bool.and_eq_true, decide_eq_true_eq] at hj
        obtain ⟨⟨h1, h2⟩, rfl⟩ := hj
        obtain rfl := Reps.int3 r1
        obtain ⟨a1, a2⟩ := smallI_ok h1
        obtain ⟨a3, a4⟩ := smallI_ok h2
        exact ⟨i, j, -1, _, rfl, RgC.neg a1 a2 a3 a4, hp _ H1 e1 k1 ⟨_, walk_rngCD, fun _ _ => trivial⟩⟩
      · exact hp.elim
    · exact hp.elim

/-! ### zip, enumerate -/
def zipD (l m : List D) : List D := List.zipWith (fun a b => .tup [a, b]) l m
/-- a list's or a tuple's items -/
def seqD : D → Option (Bool × List D)
  | .lst l => some (false, l)
  | .tup l => some (true, l)
  | _ => none
def dZip (fs : DenL) : DenL := fun F ρ g => (fs F ρ g).bind fun ds g1 => match ds with
  | [a, b] => match seqD a, seqD b with
    | some l, some m => .ok (zipD l.2 m.2) g1
    | _, _ => .bad
  | _ => .bad
def enumD (l : List D) : List D := l.zipIdx.map fun p => .tup [.int (p.2 : Nat), p.1]
def dEnum (fs : DenL) : DenL := fun F ρ g => (fs F ρ g).bind fun ds g1 => match ds with
  | [a] => match seqD a with
    | some l => .ok (enumD l.2) g1
    | none => .bad
  | _ => .bad
theorem zipD_len {l m : List D} : (zipD l m).length = min l.length m.length := by simp [zipD]
theorem pair_new {C : Cst} {H H' : Hp} {d e : D} {v x y : V} (p : PairNew H v H' x y) (r : Rep C H d x) (s : Rep C H e y) : Ext C H H' ∧ (∀ g, GOk C g H → GOk C g H') ∧ Rep C H' (.tup [d, e]) v := by
  obtain ⟨Tp, us, rfl, hT, rfl⟩ := p
  have kp : Keep H (upd H Tp (.frz (tupO us) (.tup [x, y]))) := fun b u _ h => by rw [upd_ne (ne_of_none h hT)]; exact h
  exact ⟨Ext.new hT, fun g k => k.upd (k.no hT), Tp, _, rfl, .new, Reps.cons (r.keep kp) (.one (s.keep kp))⟩
theorem seqD_ok {C : Cst} {H : Hp} {d : D} {t : Bool} {l : List D} {v : V} (h : seqD d = some (t, l)) (r : Rep C H d v) : ∃ a xs, v = .ref a ∧ xs.length = l.length ∧ ∀ H', Keep H H' → SqA t C.K H' a xs ∧ Reps C H' l xs := by
  cases d with
  | lst l' => cases h; obtain ⟨a, xs, rfl, s, r⟩ := r; exact ⟨a, xs, rfl, r.length, fun H' k => ⟨(s.keep k).sq, r.keep k⟩⟩
  | tup l' => cases h; obtain ⟨a, xs, rfl, s, r⟩ := r; exact ⟨a, xs, rfl, r.length, fun H' k => ⟨(s.keep k).sq, r.keep k⟩⟩
  | _ => cases h
theorem SIk.zip {elts : List Expr} {kk : Nat} {tpos : Pos} {a b : Expr} {fs : DenL} {p pos : Pos} (hg : gl sc "zip") (hs : notStar a = true) (hs2 : [b].all notStar = true) (h : SL T N sc [a, b] fs) :
    SIk T N sc (.Tuple elts kk tpos) (.Call (.Name "zip" p) [a, b] [] pos) (dZip fs) := by
  intro C Z k F W X cx H0 ρ g σ H S Q hp
  have hh := h C Z k F W X cx H0 ρ g σ H S
  unfold dZip at hp
  cases q : fs F ρ g with
  | bad => rw [q] at hp; exact hp.elim
  | exc c xs g' => rw [q] at hp hh; exact wI.of (pi_zp true true (elts := elts) (kk := kk) (tpos := tpos) (p := p) (pos := pos) (hg.at cx) (cx.bl _ (by simp [bnames])) (wA.pa (X := X) (es := [a, b])) (star_of hs) (noStars hs2)) (hh _ hp)
  | ok ds g1 =>
    rw [q] at hp hh
    dsimp only [R.bind] at hp
    split at hp
    case h_2 => exact hp.elim
    rename_i d1 d2
    split at hp
    case h_2 => exact hp.elim
    rename_i l m q1 q2
    obtain ⟨t1, l⟩ := l
    obtain ⟨t2, m⟩ := m
    refine wI.of (pi_zp t1 t2 (elts := elts) (kk := kk) (tpos := tpos) (p := p) (pos := pos) (hg.at cx) (cx.bl _ (by simp [bnames])) (wA.pa (X := X) (es := [a, b])) (star_of hs) (noStars hs2)) (hh _ fun vs H1 e1 k1 r1 => ?_)
    obtain ⟨_, _, rfl, r1, _, _, rfl, r2, rs⟩ := r1
    cases rs
    obtain ⟨a1, xs, rfl, n1, s1⟩ := seqD_ok q1 r1
    obtain ⟨a2, ys, rfl, n2, s2⟩ := seqD_ok q2 r2
    refine ⟨a1, a2, xs, ys, rfl, by rw [cx.hK]; exact (s1 H1 (Keep.refl _)).1, by rw [cx.hK]; exact (s2 H1 (Keep.refl _)).1, ?_⟩
    rw [cx.hK]
    refine hp _ H1 e1 k1 ⟨fun H => (SqA t1 C.K H a1 xs ∧ Reps C H l xs) ∧ (SqA t2 C.K H a2 ys ∧ Reps C H m ys), ⟨⟨fun i H hi g => ?_, fun H g => ⟨xs, ys, g.1.1, g.2.1, by rw [zipD_len, n1, n2]⟩, fun i H v H' hi g y => ?_⟩⟩, fun H2 k2 => ⟨s1 H2 k2, s2 H2 k2⟩⟩
    · rw [zipD_len] at hi
      dsimp only at hi
      exact ⟨xs, ys, xs[i]'(by omega), ys[i]'(by omega), g.1.1, g.2.1, List.getElem?_eq_getElem _, List.getElem?_eq_getElem _⟩
    · obtain ⟨x, y, pn, h1, h2⟩ := y
      obtain ⟨d, b1, b2⟩ := g.1.2.get (h1 xs g.1.1)
      obtain ⟨e, c1, c2⟩ := g.2.2.get (h2 ys g.2.1)
      obtain ⟨f1, f2, f3⟩ := pair_new pn b2 c2
      exact ⟨f1, f2, .tup [d, e], by rw [zipD, List.getElem?_zipWith, b1, c1], f3⟩
theorem SIk.enum {elts : List Expr} {kk : Nat} {tpos : Pos} {a : Expr} {fs : DenL} {p pos : Pos} (hg : gl sc "enumerate") (hs : notStar a = true) (h : SL T N sc [a] fs) :
    SIk T N sc (.Tuple elts kk tpos) (.Call (.Name "enumerate" p) [a] [] pos) (dEnum fs) := by
  intro C Z k F W X cx H0 ρ g σ H S Q hp
  have hh := h C Z k F W X cx H0 ρ g σ H S
  unfold dEnum at hp
  cases q : fs F ρ g with
  | bad => rw [q] at hp; exact hp.elim
  | exc c xs g' => rw [q] at hp hh; exact wI.of (pi_en true (elts := elts) (kk := kk) (tpos := tpos) (p := p) (pos := pos) (hg.at cx) (cx.bl _ (by simp [bnames])) (wA.pa (X := X) (es := [a])) (star_of hs)) (hh _ hp)
  | ok ds g1 =>
    rw [q] at hp hh
    dsimp only [R.bind] at hp
    split at hp
    case h_2 => exact hp.elim
    rename_i d1
    split at hp
    case h_2 => exact hp.elim
    rename_i l q1
    obtain ⟨t, l⟩ := l
    refine wI.of (pi_en t (elts := elts) (kk := kk) (tpos := tpos) (p := p) (pos := pos) (hg.at cx) (cx.bl _ (by simp [bnames])) (wA.pa (X := X) (es := [a])) (star_of hs)) (hh _ fun vs H1 e1 k1 r1 => ?_)
    obtain ⟨_, _, rfl, r1, rs⟩ := r1
    cases rs
    obtain ⟨a1, xs, rfl, n1, s1⟩ := seqD_ok q1 r1
    refine ⟨a1, xs, rfl, by rw [cx.hK]; exact (s1 H1 (Keep.refl _)).1, ?_⟩
    rw [cx.hK]
    have hlen : (enumD l).length = xs.length := by simp [enumD, n1]
    refine hp _ H1 e1 k1 ⟨fun H => SqA t C.K H a1 xs ∧ Reps C H l xs, ⟨⟨fun i H hi g => ?_, fun H g => ⟨xs, g.1, hlen.symm⟩, fun i H v H' hi g y => ?_⟩⟩, fun H2 k2 => s1 H2 k2⟩
    · rw [hlen] at hi
      exact ⟨xs, xs[i], g.1, List.getElem?_eq_getElem _⟩
    · obtain ⟨x, pn, h1⟩ := y
      obtain ⟨e, b1, b2⟩ := g.2.get (h1 xs g.1)
      obtain ⟨f1, f2, f3⟩ := pair_new (d := .int (i : Nat)) pn rfl b2
      exact ⟨f1, f2, .tup [.int (i : Nat), e], by simp [enumD, b1], f3⟩
end
end Ev
end

section
/-! Ev10: targets, list comprehensions. -/
namespace Ev
open PySem PySem.Spec L2
open PyProof.Rows hiding St

inductive Tgt where
  | nm (i : Nat) | tp (l : List Tgt)
  deriving Inhabited
mutual
def Tgt.set : Tgt → D → Env' → Option Env'
  | .nm i, d, ρ => some (ρ.set i (.s d))
  | .tp l, .tup ds, ρ => if l.length = ds.length then Tgt.sets l ds ρ else none
  | .tp _, _, _ => none
def Tgt.sets : List Tgt → List D → Env' → Option Env'
  | t :: ts, d :: ds, ρ => match t.set d ρ with
    | some ρ1 => Tgt.sets ts ds ρ1
    | none => none
  | [], [], ρ => some ρ
  | _, _, _ => none
end
mutual
def Tgt.ixs : Tgt → List Nat
  | .nm i => [i]
  | .tp l => Tgt.ixss l
def Tgt.ixss : List Tgt → List Nat
  | [] => []
  | t :: ts => t.ixs ++ Tgt.ixss ts
end
mutual
/-- the target as it is written -/
inductive IsTg (N : List Str) (ok : Str → Bool) : Expr → Tgt → Prop
  | nm {i : Nat} {x : Str} {pos : Pos} (hi : N[i]? = some x) (h : ok x = true) : IsTg N ok (.Name x pos) (.nm i)
  | tp {es : List Expr} {k : Nat} {pos : Pos} {ts : List Tgt} (h : IsTgs N ok es ts) : IsTg N ok (.Tuple es k pos) (.tp ts)
inductive IsTgs (N : List Str) (ok : Str → Bool) : List Expr → List Tgt → Prop
  | nil : IsTgs N ok [] []
  | cons {e : Expr} {es : List Expr} {t : Tgt} {ts : List Tgt} (hs : notStar e = true) (h : IsTg N ok e t) (r : IsTgs N ok es ts) : IsTgs N ok (e :: es) (t :: ts)
end
theorem each_of {e : Expr} {es : List Expr} {env : Env} (h : notStar e = true) : assignEach (e :: es) env = (false, assign e env) :: assignEach es env := by
  cases e <;> first | rfl | exact Bool.noConfusion h

/-- only these slots differ -/
def Touch (is : List Nat) (σ σ' : L2.St) : Prop := σ'.length = σ.length ∧ ∀ j, j ∉ is → σ'[j]? = σ[j]?
theorem Touch.refl {is : List Nat} {σ : L2.St} : Touch is σ σ := ⟨rfl, fun _ _ => rfl⟩
theorem Touch.trans {is js : List Nat} {σ σ1 σ2 : L2.St} (a : Touch is σ σ1) (b : Touch js σ1 σ2) : Touch (is ++ js) σ σ2 :=
  ⟨b.1.trans a.1, fun j h => by rw [List.mem_append] at h; rw [b.2 j fun z => h (.inr z), a.2 j fun z => h (.inl z)]⟩
theorem wipe_touch {σ σ' : L2.St} : ∀ {vs is : List Nat}, Touch is σ σ' → (∀ i ∈ is, i ∈ vs) → wipe σ' vs = wipe σ vs := by
  intro vs is t h
  have g : ∀ (vs : List Nat) (τ : L2.St) (j : Nat), (wipe τ vs)[j]? = if j ∈ vs then (if j < τ.length then some none else none) else τ[j]? := by
    intro vs
    induction vs with
    | nil => intro τ j; simp [wipe]
    | cons v vs ih =>
      intro τ j
      show ((wipe τ vs).set v none)[j]? = _
      rw [List.getElem?_set, wipe_length]
      by_cases e : v = j
      · subst e; simp
      · rw [if_neg e, ih]
        have : (j ∈ v :: vs) ↔ j ∈ vs := by simp [Ne.symm e]
        simp only [this]
  apply List.ext_getElem?
  intro j
  rw [g, g, t.1]
  by_cases e : j ∈ vs
  · rw [if_pos e, if_pos e]
  · rw [if_neg e, if_neg e]; exact t.2 j fun z => e (h j z)
theorem Sta.set {C : Cst} {H0 H : Hp} {ρ : Env'} {g : G} {σ : L2.St} (S : Sta C H0 ρ g σ H) {i : Nat} {d : D} {v : V} (r : Rep C H d v) : Sta C H0 (ρ.set i (.s d)) g (σ.set i (some v)) H := by
  refine ⟨fun j s h => ?_, fun j k d' e a h1 h2 h3 h4 => ?_, S.go, S.ex⟩
  · rw [List.getElem?_set] at h
    by_cases e : i = j
    · subst e
      rw [if_pos rfl] at h
      split at h
      · rename_i hl
        obtain ⟨x, hx, _⟩ := S.sl i _ (List.getElem?_eq_getElem hl)
        cases h
        exact ⟨some v, by rw [List.getElem?_set, if_pos rfl, if_pos (List.getElem?_eq_some_iff.mp hx).1], v, rfl, r⟩
      · cases h
    · rw [if_neg e] at h
      obtain ⟨x, h1, h2⟩ := S.sl j s h
      exact ⟨x, by rw [List.getElem?_set, if_neg e]; exact h1, h2⟩
  · have n1 : i ≠ j := fun e => by subst e; rw [List.getElem?_set, if_pos rfl] at h1; split at h1 <;> cases h1
    have n2 : i ≠ k := fun e => by subst e; rw [List.getElem?_set, if_pos rfl] at h2; split at h2 <;> cases h2
    rw [List.getElem?_set, if_neg n1] at h1 h3
    rw [List.getElem?_set, if_neg n2] at h2 h4
    exact S.ap j k d' e a h1 h2 h3 h4
mutual
theorem tg_ok {X : Cx} {N : List Str} {ok : Str → Bool} (hN : X.N = N) (nd : N.Nodup) (calm : X.calm = true) (hok : ∀ x, ok x = true → Loc X.env.scope x ∧ (X.fn x = true ∨ X.env.scope.names.lookup x = some .local)) {C : Cst} (hK : X.K = C.K) :
    ∀ {t : Tgt} {e : Expr}, IsTg N ok e t → ∃ gt, PG X e gt ∧ ∀ {H0 H : Hp} {ρ ρ' : Env'} {g : G} {σ : L2.St} {d : D} {v : V} {Q : L2.St → Hp → Prop}, Sta C H0 ρ g σ H → Rep C H d v → t.set d ρ = some ρ' → (∀ σ', Sta C H0 ρ' g σ' H → Touch t.ixs σ σ' → Q σ' H) → gt v σ H Q
  | .nm i, _, .nm hi h => ⟨_, pg_name (by rw [hN]; exact nd) (by rw [hN]; exact hi) (hok _ h).1 (hok _ h).2, fun S r e q => by
      cases e
      exact q _ (S.set r) ⟨by simp, fun j hj => by rw [List.getElem?_set, if_neg (fun z => hj (by simp [Tgt.ixs, z]))]⟩⟩
  | .tp ts, _, .tp h => by
    obtain ⟨gt, p, f, l, fi⟩ := tgs_ok hN nd calm hok hK h
    refine ⟨_, pg_tup calm p (l _) (fi _), fun {H0 H ρ ρ' g σ d v Q} S r e q => ?_⟩
    cases d with
    | tup ds =>
      unfold Tgt.set at e
      split at e
      · rename_i hl
        obtain ⟨a, xs, rfl, s, rs⟩ := r
        exact ⟨a, xs, rfl, by rw [hK]; exact s.sq, by rw [rs.length, hl], f S rs e fun σ' S' t' => q σ' S' (by unfold Tgt.ixs; exact t')⟩
      · cases e
    | _ => exact absurd e (by simp [Tgt.set])
theorem tgs_ok {X : Cx} {N : List Str} {ok : Str → Bool} (hN : X.N = N) (nd : N.Nodup) (calm : X.calm = true) (hok : ∀ x, ok x = true → Loc X.env.scope x ∧ (X.fn x = true ∨ X.env.scope.names.lookup x = some .local)) {C : Cst} (hK : X.K = C.K) :
    ∀ {ts : List Tgt} {es : List Expr}, IsTgs N ok es ts → ∃ gt, PGs X es gt ∧ (∀ {H0 H : Hp} {ρ ρ' : Env'} {g : G} {σ : L2.St} {ds : List D} {vs : List V} {Q : L2.St → Hp → Prop}, Sta C H0 ρ g σ H → Reps C H ds vs → Tgt.sets ts ds ρ = some ρ' → (∀ σ', Sta C H0 ρ' g σ' H → Touch (Tgt.ixss ts) σ σ' → Q σ' H) → gt vs σ H Q)
      ∧ (∀ env, (assignEach es env).length = ts.length) ∧ ∀ env, (assignEach es env).findIdx? (·.1) = none
  | [], _, .nil => ⟨_, pgs_nil, fun {H0 H ρ ρ' g σ ds vs Q} S r e q => by
      cases ds with
      | nil => cases e; exact ⟨r, q _ S Touch.refl⟩
      | cons => exact absurd e (by simp [Tgt.sets]), fun _ => rfl, fun _ => rfl⟩
  | t :: ts, _, .cons hs h r => by
    obtain ⟨gt, p, f⟩ := tg_ok hN nd calm hok hK h
    obtain ⟨gt2, p2, f2, l, fi⟩ := tgs_ok hN nd calm hok hK r
    refine ⟨_, pgs_cons p p2 (by rw [each_of hs]; rfl), fun {H0 H ρ ρ' g σ ds vs Q} S rr e q => ?_, fun env => by rw [each_of hs]; simp [l env], fun env => by rw [each_of hs, List.findIdx?_cons, fi env]; rfl⟩
    cases ds with
    | nil => exact absurd e (by simp [Tgt.sets])
    | cons d ds =>
      obtain ⟨x, ys, rfl, r1, rs⟩ := rr
      unfold Tgt.sets at e
      cases q1 : t.set d ρ with
      | none => rw [q1] at e; cases e
      | some ρ1 =>
        rw [q1] at e
        exact ⟨x, ys, rfl, f S r1 q1 fun σ1 S1 t1 => f2 S1 rs e fun σ2 S2 t2 => q σ2 S2 (by unfold Tgt.ixss; exact t1.trans t2)⟩
end
end Ev
end

section
/-! Ev11: list comprehensions. -/
namespace Ev
open PySem PySem.Spec L2
open PyProof.Rows hiding St

abbrev W0 : WX := fun _ _ _ _ => False
theorem Ctx.blk {C Z T k F W N sc} {X : Cx} (cx : Ctx C Z T k F W N sc X) (s : Shared) (H : Hp) (scope : Scope) (cl : List (Str × Addr)) (L : Addr) (fp : List Addr) : Ctx C Z T k F W0 N (relS scope sc) (X.blk s H scope (compEnvC scope cl L X.env) fp) where
  hK := cx.hK
  hw := cx.hw
  calm := cx.calm
  hN := cx.hN
  nd := cx.nd
  sc := by rw [← cx.sc]; rfl
  room := cx.room
  fns := fun i x n h => let ⟨a, h1, h2, h3⟩ := cx.fns i x n h; ⟨a, h1, h2, ⟨h3.ok, h3.kp⟩⟩
  cons := cx.cons
  bl := cx.bl
  xcs := cx.xcs
  tk := L2.takes0

/-- nothing is raised -/
def R.nox {α : Type} (r : R α) : R α := match r with
  | .exc _ _ _ => .bad
  | r => r
theorem PG'.nox {α β : Type} {C : Cst} {Z : Xcs} {W W' : WX} {σ σ' : L2.St} {rl : Rl α β} {H : Hp} {r : R α} {Q : β → Hp → Prop} (h : PG' C Z W σ rl H r.nox Q) : PG' C Z W' σ' rl H r Q := by
  cases r with
  | ok a g => exact h
  | exc c xs g => exact h.elim
  | bad => exact h
theorem R.nox_bind {α β : Type} {r : R α} {f : α → G → R β} : (r.bind f).nox = r.nox.bind fun a g => (f a g).nox := by cases r <;> rfl
def lcGo (turn : D → G → R (List D)) : List D → G → R (List D)
  | [], g => .ok [] g
  | d :: r, g => (turn d g).bind fun o g1 => (lcGo turn r g1).bind fun l g2 => .ok (o ++ l) g2
def wipeE (ρ : Env') : List Nat → Env'
  | [] => ρ
  | v :: vs => (wipeE ρ vs).set v .n
def lcTurn (t : Tgt) (ft : DenT) (fe : Den) (F : FT) (ρ : Env') : D → G → R (List D) := fun d g => match t.set d ρ with
  | none => .bad
  | some ρ1 => (ft F ρ1 g).bind fun b g1 => if b then (dFz fe F ρ1 g1).bind fun a g2 => .ok [a.1] g2 else .ok [] g1
def dLc (fi : DenL) (t : Tgt) (ft : DenT) (fe : Den) (vs : List Nat) : Den := fun F ρ g => (fi F ρ g).bind fun ds g1 =>
  if ds.length ≤ LN then (lcGo (lcTurn t ft fe F (wipeE ρ vs)) ds g1).nox.bind fun l g2 => .ok (.lst l, .f) g2 else .bad
def dYes : DenT := fun _ _ g => .ok true g

theorem Sta.wipe {C : Cst} {H0 H : Hp} {ρ : Env'} {g : G} {σ : L2.St} (S : Sta C H0 ρ g σ H) : ∀ vs, Sta C H0 (wipeE ρ vs) g (wipe σ vs) H
  | [] => S
  | v :: vs => by
    have I := S.wipe vs
    show Sta C H0 ((wipeE ρ vs).set v .n) g ((L2.wipe σ vs).set v none) H
    refine ⟨fun j s h => ?_, fun j k d' e a h1 h2 h3 h4 => ?_, I.go, I.ex⟩
    · rw [List.getElem?_set] at h
      by_cases e : v = j
      · subst e
        rw [if_pos rfl] at h
        split at h
        · rename_i hl
          obtain ⟨x, hx, _⟩ := I.sl v _ (List.getElem?_eq_getElem hl)
          cases h
          exact ⟨none, by rw [List.getElem?_set, if_pos rfl, if_pos (List.getElem?_eq_some_iff.mp hx).1], trivial⟩
        · cases h
      · rw [if_neg e] at h
        obtain ⟨x, h1, h2⟩ := I.sl j s h
        exact ⟨x, by rw [List.getElem?_set, if_neg e]; exact h1, h2⟩
    · have n1 : v ≠ j := fun e => by subst e; rw [List.getElem?_set, if_pos rfl] at h1; split at h1 <;> cases h1
      have n2 : v ≠ k := fun e => by subst e; rw [List.getElem?_set, if_pos rfl] at h2; split at h2 <;> cases h2
      rw [List.getElem?_set, if_neg n1] at h1 h3
      rw [List.getElem?_set, if_neg n2] at h2 h4
      exact I.ap j k d' e a h1 h2 h3 h4

/-- what is tried in a block -/
def wTs (X : Cx) (ifs : List Expr) : TT := fun σ H Q => ∀ pins s, Inv X pins σ H s →
    wpAny (model X.prog X.w) X.A (forIn ifs true fun c r => if r = true then do let ok ← isTrue c X.env (eval c X.env); pure (ForInStep.yield ok) else pure (ForInStep.yield r)) (L2.TP X pins σ Q) X.xe s
theorem wTs.pts {X : Cx} {ifs : List Expr} : PTs X ifs (wTs X ifs) := ⟨fun pins s σ H Q I h => h pins s I⟩
theorem wTs.of {X : Cx} {ifs : List Expr} {t : TT} {σ : L2.St} {H : Hp} {Q : Bool → Hp → Prop} (h : PTs X ifs t) (q : t σ H Q) : wTs X ifs σ H Q := fun pins s I => h.run pins s σ H Q I q
abbrev STs (T : Tab) (N : List Str) (sc : Scope) (ifs : List Expr) (f : DenT) : Prop := Snd T N sc (fun _ => rlT) (fun X => wTs X ifs) f
theorem STs.nil {T N sc} : STs T N sc [] dYes := fun C Z k F W X cx H0 ρ g σ H S Q hp => wTs.of pts_nil (hp true H (.refl _ _) S.go rfl)
theorem STs.one {T N sc} {c : Expr} {f : DenT} (h : STt T N sc c f) : STs T N sc [c] f := fun C Z k F W X cx H0 ρ g σ H S Q hp => wTs.of (pts_one wT.pt) (h C Z k F W X cx H0 ρ g σ H S Q hp)

def bE (X : Cx) (scope : Scope) (e : Expr) : TE := fun σ H Q => ∀ (s : Shared) (H1 : Hp) (L : Addr) (cl : List (Str × Addr)) (fp : List Addr), wE (X.blk s H1 scope (compEnvC scope cl L X.env) fp) e σ H Q
def bT (X : Cx) (scope : Scope) (es : List Expr) : TT := fun σ H Q => ∀ (s : Shared) (H1 : Hp) (L : Addr) (cl : List (Str × Addr)) (fp : List Addr), wTs (X.blk s H1 scope (compEnvC scope cl L X.env) fp) es σ H Q
def bG (X : Cx) (scope : Scope) (e : Expr) : TG := fun v σ H Q => ∀ (s : Shared) (H1 : Hp) (L : Addr) (cl : List (Str × Addr)) (fp : List Addr), wG (X.blk s H1 scope (compEnvC scope cl L X.env) fp) e v σ H Q
def bI (X : Cx) (scope : Scope) (tg e : Expr) : TI := fun σ H Q => ∀ (s : Shared) (H1 : Hp) (L : Addr) (cl : List (Str × Addr)) (fp : List Addr), wI (X.blk s H1 scope (compEnvC scope cl L X.env) fp) tg e σ H Q
def blkOk (N : List Str) (sc scope : Scope) (own : List (Str × Nat)) : Bool :=
  (scope.kind == .function) && (scope.names.all fun y => scope.names.lookup y.1 == some y.2) && (own.all fun p => N[p.2]? == some p.1) && (scope.names.all fun y => y.2 != .free || (sc.names.lookup y.1 == some .cell || sc.names.lookup y.1 == some .free))
  && (scope.names.all fun y => !(y.2 == .local || y.2 == .cell) || ((own.map (·.1)).contains y.1 || !N.contains y.1))
theorem blkOk.ok {N : List Str} {sc scope : Scope} {own : List (Str × Nat)} (h : blkOk N sc scope own = true) : BlkOk N sc scope own := by
  unfold blkOk at h
  simp only [Bool.and_eq_true, List.all_eq_true, beq_iff_eq, Bool.or_eq_true, Bool.not_eq_true', List.contains_iff_mem, bne_iff_ne, ne_eq] at h
  obtain ⟨⟨⟨⟨h1, h2⟩, h3⟩, h4⟩, h5⟩ := h
  refine ⟨h1, h2, h3, fun y hy e => ?_, fun y hy e => ?_⟩
  · rcases h4 y hy with z | z
    · exact absurd e z
    · exact z
  · rcases h5 y hy with z | z | z
    · rcases e with e | e
      · simp [e] at z
      · simp [e] at z
    · exact .inl z
    · refine .inr fun hm => ?_
      simp [hm] at z
def ownOk (scope : Scope) (x : Str) : Bool := scope.names.lookup x == some .local || scope.names.lookup x == some .cell
theorem ownOk.ok {N : List Str} {sc scope : Scope} {X : Cx} (hsc : X.env.scope = sc) (s : Shared) (H : Hp) (L : Addr) (cl : List (Str × Addr)) (fp : List Addr) (x : Str) (h : ownOk scope x = true) :
    Loc (X.blk s H scope (compEnvC scope cl L X.env) fp).env.scope x ∧ ((X.blk s H scope (compEnvC scope cl L X.env) fp).fn x = true ∨ (X.blk s H scope (compEnvC scope cl L X.env) fp).env.scope.names.lookup x = some .local) := by
  unfold ownOk at h
  rw [Bool.or_eq_true, beq_iff_eq, beq_iff_eq] at h
  rcases h with h | h
  · have e : (relS scope X.env.scope).names.lookup x = some .local := lookup_relS_keep (by decide) h
    exact ⟨.inl e, .inr e⟩
  · have e : (relS scope X.env.scope).names.lookup x = some .cell := lookup_relS_keep (by decide) h
    exact ⟨.inr e, .inl (by show (scope.names.lookup x == some .cell) = true; rw [h]; rfl)⟩
theorem keep_upd {H : Hp} {L : Addr} {xs ys : List V} (h : H L = some (.lst xs)) : Keep H (upd H L (.lst ys)) := fun b u i e => by
  rw [upd_ne (fun z => by subst z; rw [h] at e; cases e; exact i)]; exact e
theorem Ext.upd {C : Cst} {H H' : Hp} {L : Addr} {o : HO} (e : Ext C H H') (h : H L = none) : Ext C H (L2.upd H' L o) := fun b u n q => by
  rw [upd_ne (ne_of_none q h)]; exact e b u n q
theorem lcGo_cons {turn : D → G → R (List D)} {d : D} {r : List D} {g : G} : lcGo turn (d :: r) g = (turn d g).bind fun o g1 => (lcGo turn r g1).bind fun l g2 => .ok (o ++ l) g2 := rfl
theorem wipe_none {σ : L2.St} {j : Nat} : ∀ {vs : List Nat}, j ∉ vs → (wipe σ vs)[j]? = σ[j]?
  | [], _ => rfl
  | v :: vs, hn => by
    show ((wipe σ vs).set v none)[j]? = _
    rw [List.getElem?_set, if_neg (fun z => hn (by simp [z])), wipe_none fun z => hn (by simp [z])]
theorem wipe_wipe {σ : L2.St} {vs : List Nat} : wipe (wipe σ vs) vs = wipe σ vs :=
  wipe_touch (is := vs) ⟨wipe_length _ _, fun _ hj => wipe_none hj⟩ fun _ h => h
section
variable {T : Tab} {N : List Str} {sc : Scope}
theorem lc_tail {elt tg iter : Expr} {ifs : List Expr} {scope : Scope} {own : List (Str × Nat)} {t : Tgt} {fi : DenL} {ft : DenT} {fe : Den} (hi : SIe T N sc tg iter fi) (ht : STs T N (relS scope sc) ifs ft)
    (he : SE T N (relS scope sc) elt fe) (htg : IsTg N (ownOk scope) tg t) (htv : ∀ i ∈ t.ixs, i ∈ own.map (·.2)) {C : Cst} {Z : Xcs} {k : Nat} {F : FT} {W : WX} {X : Cx} (cx : Ctx C Z T k F W N sc X) {H0 : Hp} {ρ : Env'} {g : Ev.G} {σ : L2.St} {H : Hp} (S : Sta C H0 ρ g σ H) {Q : VK}
    (hp : Post C Z W σ H (dLc fi t ft fe (own.map (·.2)) F ρ g) Q) : tLc (wI X tg iter) (bG X scope tg) (bT X scope ifs) (bE X scope elt) (own.map (·.2)) σ H Q := by
  unfold dLc at hp
  refine hi C Z k F W X cx H0 ρ g σ H S _ ?_
  cases q : fi F ρ g with
  | bad => rw [q] at hp; exact hp
  | exc c xs g' => rw [q] at hp; exact hp
  | ok ds g1 =>
    rw [q] at hp
    dsimp only [R.bind] at hp
    split at hp
    case isFalse => exact hp.elim
    rename_i hlen
    rintro J H1 e1 k1 ⟨G, w, gp⟩ L hL
    have S1 := S.ext e1 k1
    have nL := k1.no hL
    let Fin : List D → R (List D) → Prop := fun acc r => match r with
      | .ok l g2 => ∀ H', Ext C H1 H' → GOk C g2 H' → (∃ xs, H' L = some (.lst xs) ∧ Reps C H' (acc ++ l) xs) → Q (.ref L) H'
      | _ => False
    refine lc_it w.w (fun i H => ∃ acc xs g', Ext C H1 H ∧ GOk C g' H ∧ H L = some (.lst xs) ∧ Reps C H acc xs ∧ acc.length ≤ i ∧ Fin acc (lcGo (lcTurn t ft fe F (wipeE ρ (own.map (·.2)))) (ds.drop i) g')) ?_ ?_ ?_ ?_
    · refine ⟨[], [], g1, Ext.new hL, k1.upd nL, upd_same, rfl, Nat.le_refl _, ?_⟩
      rw [List.drop_zero]
      generalize lcGo _ ds g1 = r at hp
      cases r with
      | ok l g2 => exact fun H' e k ⟨xs, h1, h2⟩ => hp (.ref L) H' (e1.trans e) k ⟨L, rfl, Ext.free e1 nL hL, nL, xs, h1, h2⟩
      | exc c xs g' => exact hp
      | bad => exact hp
    · exact fun i H hi ⟨acc, xs, g', e, k, _⟩ => gp g1 H k1 e
    · rintro i x H2 H3 hi ⟨acc, xs, g', e2, k2, hl, hr, hal, fin⟩ ⟨e3, k3, d, hd, rd⟩
      have hdr : ds.drop i = d :: ds.drop (i + 1) := by
        obtain ⟨hlt, rfl⟩ := List.getElem?_eq_some_iff.mp hd
        exact List.drop_eq_getElem_cons hlt
      rw [hdr] at fin
      have kk := k3 _ k2
      have S3 := (S1.ext (e2.trans e3) kk).wipe (own.map (·.2))
      rw [lcGo_cons] at fin
      cases qt : t.set d (wipeE ρ (own.map (·.2))) with
      | none => rw [show lcTurn t ft fe F (wipeE ρ (own.map (·.2))) d g' = .bad by unfold lcTurn; rw [qt]] at fin; exact fin.elim
      | some ρ1 =>
      rw [show lcTurn t ft fe F (wipeE ρ (own.map (·.2))) d g' = (ft F ρ1 g').bind fun b g1 => if b then (dFz fe F ρ1 g1).bind fun a g2 => .ok [a.1] g2 else .ok [] g1 by unfold lcTurn; rw [qt]] at fin
      intro s Hs Ls cl fp
      obtain ⟨gt, pg, hg⟩ := tg_ok (X := X.blk s Hs scope (compEnvC scope cl Ls X.env) fp) cx.hN cx.nd cx.calm (ownOk.ok (N := N) rfl s Hs Ls cl fp) (C := C) cx.hK htg
      refine wG.of pg (hg S3 rd qt fun σ' S4 tch => ⟨by rw [wipe_touch tch htv, wipe_wipe], fun s Hs Ls cl fp => ?_⟩)
      refine ht C Z k F W0 _ (cx.blk s Hs scope cl Ls fp) H0 ρ1 g' σ' H3 S4 _ ?_
      cases qb : ft F ρ1 g' with
      | bad => rw [qb] at fin; exact fin
      | exc c ys g2 => rw [qb] at fin; exact fin.elim
      | ok b g2 =>
        rw [qb] at fin
        dsimp only [R.bind] at fin
        intro b' H4 e4 k4 rb
        obtain rfl : b' = b := rb
        have hl4 : H4 L = some (.lst xs) := e4 _ _ nL (e3 _ _ nL hl)
        cases b' with
        | false =>
          refine ⟨acc, xs, g2, e2.trans (e3.trans e4), k4, hl4, hr.keep ((k2.keep e3).trans (kk.keep e4)), by omega, ?_⟩
          simp only [Bool.false_eq_true, if_false] at fin
          generalize lcGo _ (ds.drop (i + 1)) g2 = r at fin ⊢
          cases r <;> exact fin
        | true =>
          intro s Hs Ls cl fp
          refine he.fz C Z k F W0 _ (cx.blk s Hs scope cl Ls fp) H0 ρ1 g2 σ' H4 (S4.ext e4 k4) _ ?_
          simp only [if_true] at fin
          cases qe : dFz fe F ρ1 g2 with
          | bad => rw [qe] at fin; exact fin
          | exc c ys g3 => rw [qe] at fin; exact fin.elim
          | ok a g3 =>
            have ha := fz_s qe
            obtain ⟨y, fl⟩ := a
            obtain rfl : fl = .s := ha
            rw [qe] at fin
            dsimp only [R.bind] at fin
            intro v H5 e5 k5 rv
            have hl5 : H5 L = some (.lst xs) := e5 _ _ nL hl4
            have kp5 := (k2.keep e3).trans ((kk.keep e4).trans (k4.keep e5))
            refine ⟨xs, hl5, ?_, acc ++ [y], xs ++ [v], g3, Ext.upd (e2.trans (e3.trans (e4.trans e5))) hL, k5.upd nL, upd_same, ?_, ?_, ?_⟩
            · have hi' : i < ds.length := hi
              rw [hr.length, LN_eq]; omega
            · exact Reps.append (hr.keep (kp5.trans (keep_upd hl5))) (.one (rv.keep (keep_upd hl5)))
            · simp; omega
            · generalize lcGo _ (ds.drop (i + 1)) g3 = r at fin ⊢
              cases r with
              | ok l g4 => intro H' e k ⟨xs, h1, h2⟩; exact fin H' e k ⟨xs, h1, by simpa using h2⟩
              | exc => exact fin
              | bad => exact fin
    · rintro H2 ⟨acc, xs, g', e2, k2, hl, hr, hal, fin⟩
      rw [List.drop_length] at fin
      exact fin H2 e2 k2 ⟨xs, hl, by simpa using hr⟩
theorem bG.pg {X : Cx} {scope : Scope} {tg : Expr} (s : Shared) (H : Hp) (L : Addr) (cl : List (Str × Addr)) (fp : List Addr) : PG (X.blk s H scope (compEnvC scope cl L X.env) fp) tg (bG X scope tg) := ⟨fun pins s σ H v u Q I r h => h _ _ _ _ _ pins s u I r⟩
theorem bT.pts {X : Cx} {scope : Scope} {ifs : List Expr} (s : Shared) (H : Hp) (L : Addr) (cl : List (Str × Addr)) (fp : List Addr) : PTs (X.blk s H scope (compEnvC scope cl L X.env) fp) ifs (bT X scope ifs) := ⟨fun pins s σ H Q I h => h _ _ _ _ _ pins s I⟩
theorem bE.pe {X : Cx} {scope : Scope} {e : Expr} (s : Shared) (H : Hp) (L : Addr) (cl : List (Str × Addr)) (fp : List Addr) : PE (X.blk s H scope (compEnvC scope cl L X.env) fp) e (bE X scope e) := ⟨fun pins s σ H Q I h => h _ _ _ _ _ pins s I⟩
theorem bI.pi {X : Cx} {scope : Scope} {tg e : Expr} (s : Shared) (H : Hp) (L : Addr) (cl : List (Str × Addr)) (fp : List Addr) : PI (X.blk s H scope (compEnvC scope cl L X.env) fp) tg e (bI X scope tg e) := ⟨fun pins s σ H Q I h => h _ _ _ _ _ pins s I⟩
theorem SE.lc {elt tg iter : Expr} {ifs : List Expr} {scope : Scope} {own : List (Str × Nat)} {pos : Pos} {t : Tgt} {fi : DenL} {ft : DenT} {fe : Den} (ok : blkOk N sc scope own = true) (hi : SIe T N sc tg iter fi) (ht : STs T N (relS scope sc) ifs ft)
    (he : SE T N (relS scope sc) elt fe) (htg : IsTg N (ownOk scope) tg t) (htv : ∀ i ∈ t.ixs, i ∈ own.map (·.2)) (hs : ∀ env x, foldedSetIterable iter env x = pure x) :
    SE T N sc (.ListComp elt [⟨tg, iter, ifs, 0⟩] scope pos) (dLc fi t ft fe (own.map (·.2))) := fun C Z k F W X cx H0 ρ g σ H S Q hp =>
  wE.of (pe_lc cx.calm (by rw [cx.hN]; exact cx.nd) wI.pi (by rw [cx.hN, cx.sc]; exact blkOk.ok ok) bG.pg bT.pts bE.pe (hs _)) (lc_tail hi ht he htg htv cx S hp)
end
end Ev
end

section
/-! Ev12: comprehensions of two clauses. -/
namespace Ev
open PySem PySem.Spec L2
open PyProof.Rows hiding St

def noO (ρ : Env') : Env' := ρ.map fun s => match s with
  | .o _ => .n
  | s => s
def NoOwn (ρ : Env') : Prop := ∀ (i : Nat) (d : D), ρ[i]? ≠ some (Slt.o d)
theorem noO.no {ρ : Env'} : NoOwn (noO ρ) := fun i d h => by
  unfold noO at h
  rw [List.getElem?_map] at h
  cases q : ρ[i]? with
  | none => rw [q] at h; cases h
  | some s => rw [q] at h; cases s <;> cases h
theorem NoOwn.set {ρ : Env'} (h : NoOwn ρ) {i : Nat} {s : Slt} (hs : ∀ d, s ≠ .o d) : NoOwn (ρ.set i s) := fun j d e => by
  rw [List.getElem?_set] at e
  split at e
  · split at e
    · cases e; exact hs d rfl
    · cases e
  · exact h j d e
theorem NoOwn.wipe {ρ : Env'} (h : NoOwn ρ) : ∀ vs, NoOwn (wipeE ρ vs)
  | [] => h
  | v :: vs => (NoOwn.wipe h vs).set fun d e => nomatch e
mutual
theorem NoOwn.tg : ∀ (t : Tgt) {d : D} {ρ ρ' : Env'}, NoOwn ρ → t.set d ρ = some ρ' → NoOwn ρ'
  | .nm i, d, ρ, ρ', h, e => by cases e; exact h.set fun d e => nomatch e
  | .tp l, d, ρ, ρ', h, e => by
    cases d with
    | tup ds =>
      unfold Tgt.set at e
      split at e
      · exact NoOwn.tgs l h e
      · cases e
    | _ => exact absurd e (by simp [Tgt.set])
theorem NoOwn.tgs : ∀ (ts : List Tgt) {ds : List D} {ρ ρ' : Env'}, NoOwn ρ → Tgt.sets ts ds ρ = some ρ' → NoOwn ρ'
  | [], ds, ρ, ρ', h, e => by
    cases ds with
    | nil => cases e; exact h
    | cons => exact absurd e (by simp [Tgt.sets])
  | t :: ts, ds, ρ, ρ', h, e => by
    cases ds with
    | nil => exact absurd e (by simp [Tgt.sets])
    | cons d ds =>
      unfold Tgt.sets at e
      cases q : t.set d ρ with
      | none => rw [q] at e; cases e
      | some ρ1 => rw [q] at e; exact NoOwn.tgs ts (NoOwn.tg t h q) e
end
theorem Sta.noO {C : Cst} {H0 H : Hp} {ρ : Env'} {g : G} {σ : L2.St} (S : Sta C H0 ρ g σ H) : Sta C H0 (noO ρ) g σ H := by
  refine ⟨fun i s h => ?_, fun i j d e a h1 _ _ _ => absurd h1 (noO.no i d), S.go, S.ex⟩
  unfold Ev.noO at h
  rw [List.getElem?_map] at h
  cases q : ρ[i]? with
  | none => rw [q] at h; cases h
  | some t =>
    rw [q] at h
    obtain ⟨x, h1, h2⟩ := S.sl i t q
    cases t <;> (cases h; exact ⟨x, h1, by first | exact h2 | trivial⟩)
theorem Sta.keepN {C : Cst} {H0 H H' : Hp} {ρ : Env'} {g g' : G} {σ : L2.St} (S : Sta C H0 ρ g σ H) (n : NoOwn ρ) (k : Keep H H') (go : GOk C g' H') (ex : Ext C H0 H') : Sta C H0 ρ g' σ H' := by
  refine ⟨fun i s h => ?_, fun i j d e a h1 _ _ _ => absurd h1 (n i d), go, ex⟩
  obtain ⟨x, h1, h2⟩ := S.sl i s h
  cases s with
  | n => exact ⟨x, h1, trivial⟩
  | s d => obtain ⟨v, h3, h4⟩ := h2; exact ⟨x, h1, v, h3, Rep.keep k _ h4⟩
  | o d => exact absurd h (n i d)
def lcTurn2 (t : Tgt) (ft : DenT) (fi1 : DenL) (t1 : Tgt) (ft1 : DenT) (fe : Den) (vs1 : List Nat) (F : FT) (ρ : Env') : D → G → R (List D) := fun d g => match t.set d ρ with
  | none => .bad
  | some ρ1 => (ft F ρ1 g).bind fun b g1 => if b then (fi1 F ρ1 g1).bind fun ds g2 => lcGo (lcTurn t1 ft1 fe F (wipeE ρ1 vs1)) ds g2 else .ok [] g1
def dLc2 (fi : DenL) (t : Tgt) (ft : DenT) (fi1 : DenL) (t1 : Tgt) (ft1 : DenT) (fe : Den) (vs vs1 : List Nat) : Den := fun F ρ g => (fi F ρ g).bind fun ds g1 =>
  (lcGo (lcTurn2 t ft fi1 t1 ft1 fe vs1 F (wipeE (noO ρ) vs)) ds g1).nox.bind fun l g2 => if l.length ≤ LN then .ok (.lst l, .f) g2 else .bad

/-- the list at L so far, and what is asked of it -/
def Acc (C : Cst) (H1 : Hp) (L : Addr) (B : Hp) (K : List D → Ev.G → Prop) (H : Hp) : Prop := ∃ acc xs g, Ext C H1 H ∧ Keep B H ∧ GOk C g H ∧ H L = some (.lst xs) ∧ Reps C H acc xs ∧ K acc g
def Aft (r : R (List D)) (acc : List D) (K : List D → Ev.G → Prop) : Prop := match r with
  | .ok o g => K (acc ++ o) g
  | _ => False
theorem Aft.cons {turn : D → Ev.G → R (List D)} {d : D} {r : List D} {g : Ev.G} {acc : List D} {K : List D → Ev.G → Prop} (h : Aft (lcGo turn (d :: r) g) acc K) : Aft (turn d g) acc fun acc g => Aft (lcGo turn r g) acc K := by
  rw [lcGo_cons] at h
  cases q : turn d g with
  | ok o g1 =>
    rw [q] at h
    show Aft (lcGo turn r g1) (acc ++ o) K
    dsimp only [R.bind] at h
    cases q2 : lcGo turn r g1 with
    | ok l g2 =>
      rw [q2] at h
      show K (acc ++ o ++ l) g2
      rw [List.append_assoc]
      exact h
    | exc => rw [q2] at h; exact h
    | bad => rw [q2] at h; exact h
  | exc => rw [q] at h; exact h
  | bad => rw [q] at h; exact h
theorem Aft.len {r : R (List D)} {a : List D} {K : List D → Ev.G → Prop} (h : Aft r a K) (hK : ∀ a g, K a g → a.length ≤ LN) : a.length ≤ LN := by
  cases r with
  | ok o g => have := hK _ _ h; rw [List.length_append] at this; omega
  | exc => exact h.elim
  | bad => exact h.elim
theorem Acc.mono {C : Cst} {H1 : Hp} {L : Addr} {B : Hp} {K K' : List D → Ev.G → Prop} {H : Hp} (h : Acc C H1 L B K H) (m : ∀ a g, K a g → K' a g) : Acc C H1 L B K' H := by
  obtain ⟨acc, xs, g, a, b, c, d, e, f⟩ := h
  exact ⟨acc, xs, g, a, b, c, d, e, m _ _ f⟩
theorem Acc.ext {C : Cst} {H1 : Hp} {L : Addr} {B : Hp} {acc : List D} {xs : List V} {g g' : Ev.G} {H H' : Hp} (nL : C.no L) (a : Ext C H1 H) (b : Keep B H) (c : GOk C g H) (d : H L = some (.lst xs)) (r : Reps C H acc xs) (e : Ext C H H') (k : GOk C g' H') :
    Ext C H1 H' ∧ Keep B H' ∧ GOk C g' H' ∧ H' L = some (.lst xs) ∧ Reps C H' acc xs := ⟨a.trans e, b.trans (c.keep e), k, e _ _ nL d, r.keep (c.keep e)⟩
theorem loop_ok {C : Cst} {J : It} {ds : List D} {G : Hp → Prop} (w : WkD C J ds G) {L : Addr} (nL : C.no L) {H1 H4 B : Hp} {turn : D → Ev.G → R (List D)} {K : List D → Ev.G → Prop} {Nx : Hp → Prop} {body : V → Hp → (Hp → Prop) → Prop}
    (h4 : Acc C H1 L B (fun acc g => Aft (lcGo turn ds g) acc K) H4) (gp : ∀ H', Acc C H1 L B (fun _ _ => True) H' → G H') (hK : ∀ a g, K a g → a.length ≤ LN) (hN : ∀ H, Acc C H1 L B K H → Nx H)
    (hb : ∀ d x H3 K' N2, Acc C H1 L B (fun acc g => Aft (turn d g) acc K') H3 → Rep C H3 d x → (∀ a g, K' a g → a.length ≤ LN) → (∀ H, Acc C H1 L B K' H → N2 H) → body x H3 N2) :
    ∃ W1 : Nat → Nat → Hp → Prop, (∃ m, W1 0 m H4) ∧ ∀ j k H, W1 j k H → (J.stop j H ∧ Nx H) ∨ (J.go j H ∧ ∃ Nx1 : Hp → Prop, (∀ H', Nx1 H' → ∃ k', k' < k ∧ W1 (j + 1) k' H') ∧ ∀ x H', J.yld j H x H' → body x H' Nx1) := by
  let P : Nat → Hp → Prop := fun j H => Acc C H1 L B (fun acc g => Aft (lcGo turn (ds.drop j) g) acc K) H
  refine ⟨fun j m H => m = ds.length - j ∧ j ≤ ds.length ∧ P j H, ⟨ds.length, rfl, Nat.zero_le _, by show Acc _ _ _ _ _ _; rw [List.drop_zero]; exact h4⟩, ?_⟩
  rintro j m H ⟨rfl, hj, p⟩
  have q := gp H (p.mono fun _ _ _ => trivial)
  by_cases hlt : j < ds.length
  · refine .inr ⟨w.w.goes j H hlt q, P (j + 1), fun H' p' => ⟨ds.length - (j + 1), by omega, rfl, hlt, p'⟩, fun x H' y => ?_⟩
    obtain ⟨e3, k3, d, hd, rd⟩ := w.w.yields j H x H' hlt q y
    obtain ⟨acc, xs, g, a1, a2, a3, a4, a5, a6⟩ := p
    obtain ⟨b1, b2, b3, b4, b5⟩ := Acc.ext nL a1 a2 a3 a4 a5 e3 (k3 _ a3)
    rw [show ds.drop j = d :: ds.drop (j + 1) by obtain ⟨h, rfl⟩ := List.getElem?_eq_some_iff.mp hd; exact List.drop_eq_getElem_cons h] at a6
    exact hb d x H' _ _ ⟨acc, xs, g, b1, b2, b3, b4, b5, a6.cons⟩ rd (fun a g h => h.len hK) fun H h => h
  · have e : j = ds.length := by omega
    subst e
    refine .inl ⟨w.w.stops H q, hN H ?_⟩
    refine p.mono fun a g h => ?_
    rw [List.drop_length] at h
    have h : K (a ++ []) g := h
    rwa [List.append_nil] at h
section
variable {T : Tab} {N : List Str} {sc : Scope}
/-- the innermost turn -/
theorem turn_ok {C : Cst} {Z : Xcs} {k : Nat} {F : FT} {W : WX} {X : Cx} (cx : Ctx C Z T k F W N sc X) {tg elt : Expr} {ifs : List Expr} {scope : Scope} {t : Tgt} {ft : DenT} {fe : Den} {vs1 : List Nat} (ht : STs T N (relS scope sc) ifs ft)
    (he : SE T N (relS scope sc) elt fe) (htg : IsTg N (ownOk scope) tg t) (htv : ∀ i ∈ t.ixs, i ∈ vs1) {H0 H1 B H3 : Hp} {L : Addr} (nL : C.no L) (hL : H1 L = none) {ρ : Env'} {σ : L2.St} (S : ∀ g, GOk C g H3 → Sta C H0 ρ g σ H3) {d : D} {x : V} {K : List D → Ev.G → Prop} {Nx : Hp → Prop}
    (h : Acc C H1 L B (fun acc g => Aft (lcTurn t ft fe F (wipeE ρ vs1) d g) acc K) H3) (rd : Rep C H3 d x) (hK : ∀ a g, K a g → a.length ≤ LN) (hN : ∀ H, Acc C H1 L B K H → Nx H) :
    bG X scope tg x (wipe σ vs1) H3 fun σ3 H5 => wipe σ3 vs1 = wipe σ vs1 ∧ bT X scope ifs σ3 H5 fun b H6 => if b = true then bE X scope elt σ3 H6 fun y H7 => ∃ acc, H7 L = some (.lst acc) ∧ acc.length < sizeLine ∧ Nx (upd H7 L (.lst (acc ++ [y]))) else Nx H6 := by
  obtain ⟨acc, xs, g', a1, a2, a3, a4, a5, fin⟩ := h
  have S3 := (S _ a3).wipe vs1
  cases qt : t.set d (wipeE ρ vs1) with
  | none => rw [show lcTurn t ft fe F (wipeE ρ vs1) d g' = .bad by unfold lcTurn; rw [qt]] at fin; exact fin.elim
  | some ρ1 =>
  rw [show lcTurn t ft fe F (wipeE ρ vs1) d g' = (ft F ρ1 g').bind fun b g1 => if b then (dFz fe F ρ1 g1).bind fun a g2 => .ok [a.1] g2 else .ok [] g1 by unfold lcTurn; rw [qt]] at fin
  intro s Hs Ls cl fp
  obtain ⟨gt, pg, hg⟩ := tg_ok (X := X.blk s Hs scope (compEnvC scope cl Ls X.env) fp) cx.hN cx.nd cx.calm (ownOk.ok (N := N) rfl s Hs Ls cl fp) (C := C) cx.hK htg
  refine wG.of pg (hg S3 rd qt fun σ' S4 tch => ⟨by rw [wipe_touch tch htv, wipe_wipe], fun s Hs Ls cl fp => ?_⟩)
  refine ht C Z k F W0 _ (cx.blk s Hs scope cl Ls fp) H0 ρ1 g' σ' H3 S4 _ ?_
  cases qb : ft F ρ1 g' with
  | bad => rw [qb] at fin; exact fin
  | exc c ys g2 => rw [qb] at fin; exact fin.elim
  | ok b g2 =>
    rw [qb] at fin
    dsimp only [R.bind] at fin
    intro b' H4 e4 k4 rb
    obtain rfl : b' = b := rb
    obtain ⟨b1, b2, b3, b4, b5⟩ := Acc.ext nL a1 a2 a3 a4 a5 e4 k4
    cases b' with
    | false =>
      simp only [Bool.false_eq_true, if_false] at fin
      have fin : K (acc ++ []) g2 := fin
      rw [List.append_nil] at fin
      exact hN _ ⟨acc, xs, g2, b1, b2, b3, b4, b5, fin⟩
    | true =>
      intro s Hs Ls cl fp
      refine he.fz C Z k F W0 _ (cx.blk s Hs scope cl Ls fp) H0 ρ1 g2 σ' H4 (S4.ext e4 k4) _ ?_
      simp only [if_true] at fin
      cases qe : dFz fe F ρ1 g2 with
      | bad => rw [qe] at fin; exact fin
      | exc c ys g3 => rw [qe] at fin; exact fin.elim
      | ok a g3 =>
        have ha := fz_s qe
        obtain ⟨y, fl⟩ := a
        obtain rfl : fl = .s := ha
        rw [qe] at fin
        have fin : K (acc ++ [y]) g3 := fin
        intro v H5 e5 k5 rv
        obtain ⟨c1, c2, c3, c4, c5⟩ := Acc.ext nL b1 b2 b3 b4 b5 e5 k5
        refine ⟨xs, c4, ?_, hN _ ⟨acc ++ [y], xs ++ [v], g3, Ext.upd c1 hL, c2.trans (keep_upd c4), k5.upd nL, upd_same, Reps.append (c5.keep (keep_upd c4)) (.one (Rep.keep (keep_upd c4) _ rv)), fin⟩⟩
        have := hK _ _ fin
        rw [List.length_append] at this
        rw [a5.length, LN_eq]
        exact this
theorem lc2_tail {elt tg iter tg1 iter1 : Expr} {ifs ifs1 : List Expr} {scope : Scope} {own : List (Str × Nat)} {t t1 : Tgt} {fi fi1 : DenL} {ft ft1 : DenT} {fe : Den} {vs1 : List Nat} (hi : SIe T N sc tg iter fi) (ht : STs T N (relS scope sc) ifs ft)
    (hi1 : SIk T N (relS scope sc) tg1 iter1 fi1) (ht1 : STs T N (relS scope sc) ifs1 ft1) (he : SE T N (relS scope sc) elt fe) (htg : IsTg N (ownOk scope) tg t) (htv : ∀ i ∈ t.ixs, i ∈ own.map (·.2)) (htg1 : IsTg N (ownOk scope) tg1 t1) (htv1 : ∀ i ∈ t1.ixs, i ∈ vs1) {C : Cst} {Z : Xcs} {k : Nat} {F : FT} {W : WX} {X : Cx} (cx : Ctx C Z T k F W N sc X) {H0 : Hp} {ρ : Env'} {g : Ev.G} {σ : L2.St} {H : Hp} (S : Sta C H0 ρ g σ H) {Q : VK}
    (hp : Post C Z W σ H (dLc2 fi t ft fi1 t1 ft1 fe (own.map (·.2)) vs1 F ρ g) Q) : tLc2 (wI X tg iter) (bG X scope tg) (bT X scope ifs) (bI X scope tg1 iter1) (bG X scope tg1) (bT X scope ifs1) (bE X scope elt) (own.map (·.2)) vs1 σ H Q := by
  unfold dLc2 at hp
  refine hi C Z k F W X cx H0 ρ g σ H S _ ?_
  cases q : fi F ρ g with
  | bad => rw [q] at hp; exact hp
  | exc c xs g' => rw [q] at hp; exact hp
  | ok ds g1 =>
  rw [q] at hp
  dsimp only [R.bind] at hp
  rintro J H1 e1 k1 ⟨G, w, gp⟩ L hL
  have S1 := S.ext e1 k1
  have nL := k1.no hL
  let K : List D → Ev.G → Prop := fun l g2 => l.length ≤ LN ∧ ∀ H', Ext C H1 H' → GOk C g2 H' → (∃ xs, H' L = some (.lst xs) ∧ Reps C H' l xs) → Q (.ref L) H'
  have h0 : Acc C H1 L H1 (fun acc g => Aft (lcGo (lcTurn2 t ft fi1 t1 ft1 fe vs1 F (wipeE (noO ρ) (own.map (·.2)))) ds g) acc K) (upd H1 L (.lst [])) := by
    refine ⟨[], [], g1, Ext.new hL, k1.keep (Ext.new hL), k1.upd nL, upd_same, rfl, ?_⟩
    show Aft (lcGo _ ds g1) [] K
    generalize lcGo _ ds g1 = r at hp ⊢
    cases r with
    | ok l g2 =>
      dsimp only [R.nox, R.bind] at hp
      split at hp
      case isFalse => exact hp.elim
      rename_i hl
      exact ⟨hl, fun H' e k ⟨xs, h1, h2⟩ => hp (.ref L) H' (e1.trans e) k ⟨L, rfl, Ext.free e1 nL hL, nL, xs, h1, h2⟩⟩
    | exc c xs g' => exact hp
    | bad => exact hp
  refine loop_ok w nL h0 (fun H' ⟨acc, xs, g, a, b, c, _⟩ => gp g1 H' k1 a) (fun a g h => h.1) (fun H' ⟨acc, xs, g, a, b, c, d, e, f⟩ => f.2 H' a c ⟨xs, d, e⟩) (body := fun x H' Nx => _) ?_
  rintro d x H3 K' N2 ⟨acc, xs, g', a1, a2, a3, a4, a5, fin⟩ rd hK hN
  have S3 := (S1.ext a1 a3).noO.wipe (own.map (·.2))
  cases qt : t.set d (wipeE (noO ρ) (own.map (·.2))) with
  | none => rw [show lcTurn2 t ft fi1 t1 ft1 fe vs1 F (wipeE (noO ρ) (own.map (·.2))) d g' = .bad by unfold lcTurn2; rw [qt]] at fin; exact fin.elim
  | some ρ1 =>
  rw [show lcTurn2 t ft fi1 t1 ft1 fe vs1 F (wipeE (noO ρ) (own.map (·.2))) d g' = (ft F ρ1 g').bind fun b g1 => if b then (fi1 F ρ1 g1).bind fun ds g2 => lcGo (lcTurn t1 ft1 fe F (wipeE ρ1 vs1)) ds g2 else .ok [] g1 by unfold lcTurn2; rw [qt]] at fin
  intro s Hs Ls cl fp
  obtain ⟨gt, pg, hg⟩ := tg_ok (X := X.blk s Hs scope (compEnvC scope cl Ls X.env) fp) cx.hN cx.nd cx.calm (ownOk.ok (N := N) rfl s Hs Ls cl fp) (C := C) cx.hK htg
  refine wG.of pg (hg S3 rd qt fun σ' S4 tch => ⟨by rw [wipe_touch tch htv, wipe_wipe], fun s Hs Ls cl fp => ?_⟩)
  refine ht C Z k F W0 _ (cx.blk s Hs scope cl Ls fp) H0 ρ1 g' σ' H3 S4 _ ?_
  cases qb : ft F ρ1 g' with
  | bad => rw [qb] at fin; exact fin
  | exc c ys g2 => rw [qb] at fin; exact fin.elim
  | ok b g2 =>
  rw [qb] at fin
  dsimp only [R.bind] at fin
  intro b' H4 e4 k4 rb
  obtain rfl : b' = b := rb
  obtain ⟨b1, b2, b3, b4, b5⟩ := Acc.ext nL a1 a2 a3 a4 a5 e4 k4
  have b2' : Keep H3 H4 := a3.keep e4
  cases b' with
  | false =>
    simp only [Bool.false_eq_true, if_false] at fin
    have fin : K' (acc ++ []) g2 := fin
    rw [List.append_nil] at fin
    exact hN _ ⟨acc, xs, g2, b1, b2, b3, b4, b5, fin⟩
  | true =>
  simp only [if_true] at fin
  intro s Hs Ls cl fp
  refine hi1 C Z k F W0 _ (cx.blk s Hs scope cl Ls fp) H0 ρ1 g2 σ' H4 (S4.ext e4 k4) _ ?_
  cases qi : fi1 F ρ1 g2 with
  | bad => rw [qi] at fin; exact fin
  | exc c ys g2 => rw [qi] at fin; exact fin.elim
  | ok ds2 g3 =>
  rw [qi] at fin
  dsimp only [R.bind] at fin
  rintro J2 H5 e5 k5 ⟨G2, w2, gp2⟩
  obtain ⟨c1, c2, c3, c4, c5⟩ := Acc.ext nL b1 b2 b3 b4 b5 e5 k5
  refine loop_ok w2 nL (B := H5) ⟨acc, xs, g3, c1, Keep.refl _, c3, c4, c5, fin⟩ (fun H' ⟨acc, xs, g, a, b, _⟩ => gp2 H' b) hK ?_ (body := fun x H' Nx => _) ?_
  · rintro H6 ⟨acc, xs, g, d1, d2, d3, d4, d5, d6⟩
    exact hN _ ⟨acc, xs, g, d1, c2.trans d2, d3, d4, d5, d6⟩
  · intro d' x' H6 K2 N3 h6 rd' hK2 hN3
    obtain ⟨acc, xs, g, d1, d2, d3, d4, d5, d6⟩ := id h6
    exact turn_ok cx ht1 he htg1 htv1 nL hL (fun g k => S4.keepN (NoOwn.tg t (noO.no.wipe _) qt) ((b2'.trans (k4.keep e5)).trans d2) k (S1.ex.trans d1)) h6 rd' hK2 hN3
theorem SE.lc2 {elt tg iter tg1 iter1 : Expr} {ifs ifs1 : List Expr} {scope : Scope} {own : List (Str × Nat)} {pos : Pos} {t t1 : Tgt} {fi fi1 : DenL} {ft ft1 : DenT} {fe : Den} {vs1 : List Nat} (ok : blkOk N sc scope own = true) (hi : SIe T N sc tg iter fi) (ht : STs T N (relS scope sc) ifs ft)
    (hi1 : SIk T N (relS scope sc) tg1 iter1 fi1) (ht1 : STs T N (relS scope sc) ifs1 ft1) (he : SE T N (relS scope sc) elt fe) (htg : IsTg N (ownOk scope) tg t) (htv : ∀ i ∈ t.ixs, i ∈ own.map (·.2)) (htg1 : IsTg N (ownOk scope) tg1 t1) (htv1 : ∀ i ∈ t1.ixs, i ∈ vs1) (hv1 : ∀ i ∈ vs1, i ∈ own.map (·.2))
    (hs : ∀ env x, foldedSetIterable iter env x = pure x) (hs1 : ∀ env x, foldedSetIterable iter1 env x = pure x) :
    SE T N sc (.ListComp elt [⟨tg, iter, ifs, 0⟩, ⟨tg1, iter1, ifs1, 0⟩] scope pos) (dLc2 fi t ft fi1 t1 ft1 fe (own.map (·.2)) vs1) := fun C Z k F W X cx H0 ρ g σ H S Q hp =>
  wE.of (pe_lc2 cx.calm (by rw [cx.hN]; exact cx.nd) wI.pi (by rw [cx.hN, cx.sc]; exact blkOk.ok ok) hv1 bG.pg bT.pts bI.pi bG.pg bT.pts bE.pe (hs _) hs1) (lc2_tail hi ht hi1 ht1 he htg htv htg1 htv1 cx S hp)
end
end Ev
end

section
/-! Ev13: statements. -/
namespace Ev
open PySem PySem.Spec L2
open PyProof.Rows hiding St

section
variable (C : Cst) (Z : Xcs) (W : WX) (H0 : Hp)
def PostS (H : Hp) (r : SR) (E : Ends) : Prop := match r with
  | .nx ρ g => ∀ σ' H', Keep H H' → Sta C H0 ρ g σ' H' → E.nx σ' H'
  | .bk ρ g => ∀ σ' H', Keep H H' → Sta C H0 ρ g σ' H' → E.bk σ' H'
  | .ct ρ g => ∀ σ' H', Keep H H' → Sta C H0 ρ g σ' H' → E.ct σ' H'
  | .rt d fr g => ∀ v H', Ext C H0 H' → GOk C g H' → FRep C H0 H' (if fr then .f else .s) d v → E.rt v H'
  | .exc c xs g => ∀ cv od σ' H', Ext C H0 H' → GOk C g H' → XRep Z c xs cv od H' → W cv od σ' H'
  | .bad => False
variable {C Z W H0}
theorem PostS.shift {H H1 : Hp} {r : SR} {E : Ends} (k : Keep H H1) (h : PostS C Z W H0 H r E) : PostS C Z W H0 H1 r E := by
  cases r with
  | nx ρ g => exact fun σ' H' k' S => h σ' H' (k.trans k') S
  | bk ρ g => exact fun σ' H' k' S => h σ' H' (k.trans k') S
  | ct ρ g => exact fun σ' H' k' S => h σ' H' (k.trans k') S
  | rt d fr g => exact h
  | exc c xs g => exact h
  | bad => exact h
end
/-- the context of a def's body -/
structure CtxS (C : Cst) (Z : Xcs) (T : Tab) (k : Nat) (F : FT) (W : WX) (N : List Str) (sc : Scope) (X : Cx) : Prop extends Ctx C Z T k F W N sc X where
  fnc : ∀ x, X.fn x = true
  stk : X.stack = X.env :: X.outer
  frm : X.env.frame = some X.env.locals
  exm : ∀ (j : Nat) (tb : List Bool) (i : Nat) (b : Bool) (ci cj : Addr), (j, tb) ∈ T.sub → tb[i]? = some b → Z.cls i = some ci → Z.cls j = some cj → PySem.W.exmOne X.K (.ref ci) (.ref cj) = some b
  po : PassesOwn (model X.prog X.w) X.A X.env X.xe
section
variable (T : Tab) (N : List Str) (sc : Scope)
def SSt (st : Stmt) (f : DenS) : Prop := ∀ (C : Cst) (Z : Xcs) (k : Nat) (F : FT) (W : WX) (X : Cx), CtxS C Z T k F W N sc X → ∀ H0 ρ g σ H, Sta C H0 ρ g σ H → ∀ E, PostS C Z W H0 H (f F ρ g) E → wS X st E σ H
def SSts (st : List Stmt) (f : DenS) : Prop := ∀ (C : Cst) (Z : Xcs) (k : Nat) (F : FT) (W : WX) (X : Cx), CtxS C Z T k F W N sc X → ∀ H0 ρ g σ H, Sta C H0 ρ g σ H → ∀ E, PostS C Z W H0 H (f F ρ g) E → wSs X st E σ H
end
def dSeq (f r : DenS) : DenS := fun F ρ g => match f F ρ g with
  | .nx ρ1 g1 => r F ρ1 g1
  | x => x
def dNop : DenS := fun _ ρ g => .nx ρ g
section
variable {T : Tab} {N : List Str} {sc : Scope}
theorem SSts.nil : SSts T N sc [] dNop := fun C Z k F W X cx H0 ρ g σ H S E hp => wSs.of pss_nil (hp σ H (Keep.refl _) S)
theorem SSts.cons {s : Stmt} {r : List Stmt} {f fr : DenS} (h : SSt T N sc s f) (hr : SSts T N sc r fr) : SSts T N sc (s :: r) (dSeq f fr) := by
  intro C Z k F W X cx H0 ρ g σ H S E hp
  refine wSs.of (pss_cons wS.ps wSs.pss) (h C Z k F W X cx H0 ρ g σ H S _ ?_)
  unfold dSeq at hp
  cases q : f F ρ g with
  | nx ρ1 g1 =>
    rw [q] at hp
    exact fun σ1 H1 k1 S1 => hr C Z k F W X cx H0 ρ1 g1 σ1 H1 S1 E (hp.shift k1)
  | bk => rw [q] at hp; exact hp
  | ct => rw [q] at hp; exact hp
  | rt => rw [q] at hp; exact hp
  | exc => rw [q] at hp; exact hp
  | bad => rw [q] at hp; exact hp
theorem SSts.one {s : Stmt} {f : DenS} (h : SSt T N sc s f) : SSts T N sc [s] f := fun C Z k F W X cx H0 ρ g σ H S E hp => wSs.of (pss_one wS.ps) (h C Z k F W X cx H0 ρ g σ H S E hp)
theorem SSt.pass {pos : Pos} : SSt T N sc (.Pass pos) dNop := fun C Z k F W X cx H0 ρ g σ H S E hp => wS.of ps_pass (hp σ H (Keep.refl _) S)
def dBreak : DenS := fun _ ρ g => .bk ρ g
def dCont : DenS := fun _ ρ g => .ct ρ g
theorem SSt.brk {pos : Pos} : SSt T N sc (.Break pos) dBreak := fun C Z k F W X cx H0 ρ g σ H S E hp => wS.of ps_break (hp σ H (Keep.refl _) S)
theorem SSt.cont {pos : Pos} : SSt T N sc (.Continue pos) dCont := fun C Z k F W X cx H0 ρ g σ H S E hp => wS.of ps_continue (hp σ H (Keep.refl _) S)

/-- an expression's answer, then a statement's -/
def R.sb {α : Type} (r : R α) (f : α → G → SR) : SR := match r with
  | .ok a g => f a g
  | .exc c xs g => .exc c xs g
  | .bad => .bad
theorem PostS.sb {α β : Type} {C : Cst} {Z : Xcs} {W : WX} {H0 : Hp} {ρ : Env'} {g : G} {σ : L2.St} {H : Hp} (S : Sta C H0 ρ g σ H) {rl : Rl α β} {r : R α} {f : α → G → SR} {E : Ends} {Q : β → Hp → Prop} (hp : PostS C Z W H0 H (r.sb f) E)
    (h : ∀ a g1 v H1, r = .ok a g1 → Ext C H H1 → GOk C g1 H1 → rl H H1 a v → Sta C H0 ρ g1 σ H1 → PostS C Z W H0 H1 (f a g1) E → Q v H1) : PG' C Z W σ rl H r Q := by
  cases r with
  | ok a g1 => exact fun v H1 e1 k1 r1 => h a g1 v H1 rfl e1 k1 r1 (S.ext e1 k1) (PostS.shift (S.go.keep e1) hp)
  | exc c xs g1 => exact fun cv od H' e k x => hp cv od σ H' (S.ex.trans e) k x
  | bad => exact hp
def dIfS (c : DenT) (a b : DenS) : DenS := fun F ρ g => (c F ρ g).sb fun t g1 => if t then a F ρ g1 else b F ρ g1
theorem SSt.ife {c : Expr} {a b : List Stmt} {pos : Pos} {fc : DenT} {fa fb : DenS} (hc : STt T N sc c fc) (ha : SSts T N sc a fa) (hb : SSts T N sc b fb) : SSt T N sc (.If c a b pos) (dIfS fc fa fb) := by
  intro C Z k F W X cx H0 ρ g σ H S E hp
  refine wS.of (ps_if wT.pt wSs.pss wSs.pss) (hc C Z k F W X cx.toCtx H0 ρ g σ H S _ (PostS.sb S hp fun t g1 v H1 _ e1 k1 r1 S1 h1 => ?_))
  obtain rfl : v = t := r1
  cases v with
  | true => exact ha C Z k F W X cx H0 ρ g1 σ H1 S1 E h1
  | false => exact hb C Z k F W X cx H0 ρ g1 σ H1 S1 E h1
def dDrop (f : Den) : DenS := fun F ρ g => (f F ρ g).sb fun _ g1 => .nx ρ g1
def notLc : Expr → Bool
  | .ListComp _ _ _ _ => false
  | .SetComp _ _ _ _ => false
  | .DictComp _ _ _ _ _ => false
  | _ => true
theorem swaps_no {e : Expr} {t : Option Expr} {n : Nat} {env : Env} (h : notLc e = true) : swapsWith e t n env = pure false := by
  cases e <;> first | rfl | exact Bool.noConfusion h
theorem SSt.drop {e : Expr} {pos : Pos} {f : Den} (hn : notLc e = true) (h : SE T N sc e f) : SSt T N sc (.Expr e pos) (dDrop f) := by
  intro C Z k F W X cx H0 ρ g σ H S E hp
  exact wS.of (ps_expr wE.pe (swaps_no hn)) (h C Z k F W X cx.toCtx H0 ρ g σ H S _ (PostS.sb S hp fun a g1 v H1 _ e1 k1 r1 S1 h1 => h1 σ H1 (Keep.refl _) S1))
theorem SSt.doc {x : Str} {j pos pos'} : SSt T N sc (.Expr (.Constant (.str x) j pos) pos') dNop := fun C Z k F W X cx H0 ρ g σ H S E hp => wS.of ps_doc (hp σ H (Keep.refl _) S)

/-! ### return -/
def dRet (f : Den) : DenS := fun F ρ g => (f F ρ g).sb fun a g1 => match a with
  | (d, .s) => .rt d false g1
  | (d, .f) => .rt d true g1
  | (_, .w) => .bad
theorem SSt.ret {e : Expr} {pos : Pos} {f : Den} (h : SE T N sc e f) : SSt T N sc (.Return (some e) pos) (dRet f) := by
  intro C Z k F W X cx H0 ρ g σ H S E hp
  refine wS.of (ps_ret wE.pe) (h C Z k F W X cx.toCtx H0 ρ g σ H S _ (PostS.sb S hp fun a g1 v H1 _ e1 k1 r1 S1 h1 => ?_))
  obtain ⟨d, fl⟩ := a
  cases fl with
  | s => exact h1 v H1 S1.ex k1 r1
  | f =>
    obtain ⟨p, h2, h3, h4, h5⟩ := r1
    exact h1 v H1 S1.ex k1 ⟨p, h2, S.ex.free h4 h3, h4, h5⟩
  | w => exact h1.elim
def dRetV (i : Nat) : DenS := fun _ ρ g => match ρ[i]? with
  | some (.s d) => .rt d false g
  | some (.o d) => .rt d true g
  | _ => .bad
theorem SSt.retV {x : Str} {i : Nat} {pos pos' : Pos} (hi : N[i]? = some x) (hv : Vis sc x) (hd : (x == ("__debug__" : Str)) = false) (hcd : (x == ("__classdict__" : Str)) = false) : SSt T N sc (.Return (some (.Name x pos)) pos') (dRetV i) := by
  intro C Z k F W X cx H0 ρ g σ H S E hp
  refine wS.of (ps_ret (pe_var (i := i) (by rw [cx.hN]; exact hi) (by rw [cx.sc]; exact hv) hd hcd)) ?_
  unfold dRetV at hp
  cases q : ρ[i]? with
  | none => rw [q] at hp; exact hp.elim
  | some sl =>
    rw [q] at hp
    obtain ⟨x', h1, h2⟩ := S.sl i sl q
    cases sl with
    | n => exact hp.elim
    | s d => obtain ⟨v, rfl, r⟩ := h2; exact ⟨v, h1, hp v H S.ex S.go r⟩
    | o d => obtain ⟨a, rfl, h3, h4, h5⟩ := h2; exact ⟨_, h1, hp _ H S.ex S.go ⟨a, rfl, h3, h4, h5⟩⟩
def dRetN : DenS := fun _ _ g => .rt .non false g
theorem SSt.retN {pos : Pos} : SSt T N sc (.Return none pos) dRetN := fun C Z k F W X cx H0 ρ g σ H S E hp => wS.of ps_retN (hp .non H S.ex S.go rfl)

/-! ### name = e -/
theorem Sta.setO {C : Cst} {H0 H : Hp} {ρ : Env'} {g : G} {σ : L2.St} (S : Sta C H0 ρ g σ H) {i : Nat} {d : D} {a : Addr} (h0 : H0 a = none) (na : C.no a) (ow : Own C H a d) (ap : ∀ (j : Nat) (e : D), ρ[j]? = some (Slt.o e) → σ[j]? ≠ some (some (V.ref a))) : Sta C H0 (ρ.set i (.o d)) g (σ.set i (some (.ref a))) H := by
  have key : ∀ (j : Nat) (e : D) (b : Addr), (ρ.set i (.o d))[j]? = some (.o e) → (σ.set i (some (V.ref a)))[j]? = some (some (.ref b)) → (j = i ∧ b = a) ∨ (j ≠ i ∧ ρ[j]? = some (.o e) ∧ σ[j]? = some (some (.ref b)) ∧ b ≠ a) := fun j e b h1 h2 => by
    by_cases z : i = j
    · subst z
      rw [List.getElem?_set, if_pos rfl] at h2
      split at h2
      · cases h2; exact .inl ⟨rfl, rfl⟩
      · cases h2
    · rw [List.getElem?_set, if_neg z] at h1 h2
      exact .inr ⟨fun y => z y.symm, h1, h2, fun y => ap j e h1 (by rw [h2, y])⟩
  refine ⟨fun j s h => ?_, fun j k d' e b h1 h2 h3 h4 => ?_, S.go, S.ex⟩
  · rw [List.getElem?_set] at h
    by_cases e : i = j
    · subst e
      rw [if_pos rfl] at h
      split at h
      · rename_i hl
        obtain ⟨x, hx, _⟩ := S.sl i _ (List.getElem?_eq_getElem hl)
        cases h
        exact ⟨some (.ref a), by rw [List.getElem?_set, if_pos rfl, if_pos (List.getElem?_eq_some_iff.mp hx).1], a, rfl, h0, na, ow⟩
      · cases h
    · rw [if_neg e] at h
      obtain ⟨x, h1, h2⟩ := S.sl j s h
      exact ⟨x, by rw [List.getElem?_set, if_neg e]; exact h1, h2⟩
  · rcases key j d' b h1 h3 with ⟨rfl, rfl⟩ | ⟨n1, p1, p2, p3⟩
    · rcases key k e b h2 h4 with ⟨rfl, _⟩ | ⟨_, _, _, n⟩
      · rfl
      · exact absurd rfl n
    · rcases key k e b h2 h4 with ⟨rfl, rfl⟩ | ⟨_, q1, q2, _⟩
      · exact absurd rfl p3
      · exact S.ap j k d' e b p1 q1 p2 q2
theorem Sta.own_ne {C : Cst} {H0 H : Hp} {ρ : Env'} {g : G} {σ : L2.St} (S : Sta C H0 ρ g σ H) {a : Addr} (h : H a = none) : ∀ (j : Nat) (e : D), ρ[j]? = some (.o e) → σ[j]? ≠ some (some (.ref a)) := fun j e q z => by
  obtain ⟨x, h1, b, rfl, _, _, ow⟩ := S.sl j _ q
  rw [z] at h1
  cases h1
  obtain ⟨u, hu, _⟩ := ow.mut
  rw [h] at hu; cases hu
def put1 (i : Nat) (a : D × Fl) (ρ : Env') (g : G) : SR := match a with
  | (d, .s) => .nx (ρ.set i (.s d)) g
  | (d, .f) => .nx (ρ.set i (.o d)) g
  | (_, .w) => .bad
def dSet (i : Nat) (f : Den) : DenS := fun F ρ g => (f F ρ g).sb fun a g1 => put1 i a ρ g1
theorem put1_ok {C : Cst} {Z : Xcs} {W : WX} {H0 H H1 : Hp} {ρ : Env'} {g g1 : G} {σ : L2.St} {i : Nat} {a : D × Fl} {v : V} {E : Ends} (S : Sta C H0 ρ g σ H) (e1 : Ext C H H1) (S1 : Sta C H0 ρ g1 σ H1) (r : FRep C H H1 a.2 a.1 v) (hp : PostS C Z W H0 H1 (put1 i a ρ g1) E) : E.nx (σ.set i (some v)) H1 := by
  obtain ⟨d, fl⟩ := a
  cases fl with
  | s => exact hp _ H1 (Keep.refl _) (S1.set r)
  | w => exact hp.elim
  | f =>
    obtain ⟨p, rfl, h2, h3, h4⟩ := r
    exact hp _ H1 (Keep.refl _) (S1.setO (S.ex.free h3 h2) h3 h4 (S.own_ne h2))
def locOk (sc : Scope) (x : Str) : Bool := sc.names.lookup x == some .local || sc.names.lookup x == some .cell
theorem locOk.loc {x : Str} (h : locOk sc x = true) : Loc sc x := by
  unfold locOk at h
  rw [Bool.or_eq_true, beq_iff_eq, beq_iff_eq] at h
  exact h
theorem SSt.set {x : Str} {i : Nat} {e : Expr} {pos pos' : Pos} {f : Den} (hi : N[i]? = some x) (hx : locOk sc x = true) (hn : ∀ env : Env, env.scope = sc → swapsWith e (some (.Name x pos')) pos.line env = pure false) (h : SE T N sc e f) : SSt T N sc (.Assign [.Name x pos'] e pos) (dSet i f) := by
  intro C Z k F W X cx H0 ρ g σ H S E hp
  refine wS.of (ps_set (by rw [cx.hN]; exact cx.nd) (by rw [cx.hN]; exact hi) (by rw [cx.sc]; exact locOk.loc hx) wE.pe (hn _ cx.sc) (.inl (cx.fnc x))) (h C Z k F W X cx.toCtx H0 ρ g σ H S _ (PostS.sb S hp fun a g1 v H1 _ e1 k1 r1 S1 h1 => put1_ok S e1 S1 r1 h1))
/-- name = [..], kept on one line -/
theorem SSt.setLc {x : Str} {i : Nat} {pos' spos : Pos} {elt tg iter : Expr} {ifs : List Expr} {scope : Scope} {own : List (Str × Nat)} {pos : Pos} {t : Tgt} {fi : DenL} {ft : DenT} {fe : Den} (hi' : N[i]? = some x) (hx : sc.names.lookup x = some .local)
    (hn : ∀ env : Env, env.scope = sc → swapsWith (.ListComp elt [⟨tg, iter, ifs, 0⟩] scope pos) (some (.Name x pos')) spos.line env = pure true) (ok : blkOk N sc scope own = true) (hi : SIe T N sc tg iter fi) (ht : STs T N (relS scope sc) ifs ft)
    (he : SE T N (relS scope sc) elt fe) (htg : IsTg N (ownOk scope) tg t) (htv : ∀ i ∈ t.ixs, i ∈ own.map (·.2)) (hs : ∀ env x, foldedSetIterable iter env x = pure x) :
    SSt T N sc (.Assign [.Name x pos'] (.ListComp elt [⟨tg, iter, ifs, 0⟩] scope pos) spos) (dSet i (dLc fi t ft fe (own.map (·.2)))) := by
  intro C Z k F W X cx H0 ρ g σ H S E hp
  refine wS.of (ps_setLc cx.calm (by rw [cx.hN]; exact cx.nd) (by rw [cx.hN]; exact hi') (by rw [cx.sc]; exact hx) (hn _ cx.sc) wI.pi (by rw [cx.hN, cx.sc]; exact blkOk.ok ok) bG.pg bT.pts bE.pe (hs _)) (lc_tail hi ht he htg htv cx.toCtx S (PostS.sb S hp fun a g1 v H1 _ e1 k1 r1 S1 h1 => put1_ok S e1 S1 r1 h1))
theorem SSt.setLc2 {x : Str} {i : Nat} {pos' spos : Pos} {elt tg iter tg1 iter1 : Expr} {ifs ifs1 : List Expr} {scope : Scope} {own : List (Str × Nat)} {pos : Pos} {t t1 : Tgt} {fi fi1 : DenL} {ft ft1 : DenT} {fe : Den} {vs1 : List Nat} (hi' : N[i]? = some x) (hx : sc.names.lookup x = some .local)
    (hn : ∀ env : Env, env.scope = sc → swapsWith (.ListComp elt [⟨tg, iter, ifs, 0⟩, ⟨tg1, iter1, ifs1, 0⟩] scope pos) (some (.Name x pos')) spos.line env = pure true) (ok : blkOk N sc scope own = true) (hi : SIe T N sc tg iter fi) (ht : STs T N (relS scope sc) ifs ft)
    (hi1 : SIk T N (relS scope sc) tg1 iter1 fi1) (ht1 : STs T N (relS scope sc) ifs1 ft1) (he : SE T N (relS scope sc) elt fe) (htg : IsTg N (ownOk scope) tg t) (htv : ∀ i ∈ t.ixs, i ∈ own.map (·.2)) (htg1 : IsTg N (ownOk scope) tg1 t1) (htv1 : ∀ i ∈ t1.ixs, i ∈ vs1) (hv1 : ∀ i ∈ vs1, i ∈ own.map (·.2))
    (hs : ∀ env x, foldedSetIterable iter env x = pure x) (hs1 : ∀ env x, foldedSetIterable iter1 env x = pure x) :
    SSt T N sc (.Assign [.Name x pos'] (.ListComp elt [⟨tg, iter, ifs, 0⟩, ⟨tg1, iter1, ifs1, 0⟩] scope pos) spos) (dSet i (dLc2 fi t ft fi1 t1 ft1 fe (own.map (·.2)) vs1)) := by
  intro C Z k F W X cx H0 ρ g σ H S E hp
  refine wS.of (ps_setLc2 cx.calm (by rw [cx.hN]; exact cx.nd) (by rw [cx.hN]; exact hi') (by rw [cx.sc]; exact hx) (hn _ cx.sc) wI.pi (by rw [cx.hN, cx.sc]; exact blkOk.ok ok) hv1 bG.pg bT.pts bI.pi bG.pg bT.pts bE.pe (hs _) hs1) (lc2_tail hi ht hi1 ht1 he htg htv htg1 htv1 cx.toCtx S (PostS.sb S hp fun a g1 v H1 _ e1 k1 r1 S1 h1 => put1_ok S e1 S1 r1 h1))

/-! ### a target of names = e, the value handed on -/
def dTgt (t : Tgt) (f : Den) : DenS := fun F ρ g => (dFz f F ρ g).sb fun a g1 => match t.set a.1 ρ with
  | some ρ1 => .nx ρ1 g1
  | none => .bad
theorem SSt.tgt {tg e : Expr} {pos : Pos} {t : Tgt} {f : Den} (htg : IsTg N (locOk sc) tg t) (hn : ∀ env : Env, env.scope = sc → swapsWithSole [tg] e pos.line env = pure false) (hw : ∀ env : Env, env.scope = sc → swappedStores [tg] e env = pure none) (hs : notStar tg = true) (h : SE T N sc e f) : SSt T N sc (.Assign [tg] e pos) (dTgt t f) := by
  intro C Z k F W X cx H0 ρ g σ H S E hp
  obtain ⟨gt, pg, hg⟩ := tg_ok (X := X) cx.hN cx.nd cx.calm (fun x hx => ⟨by rw [cx.sc]; exact locOk.loc hx, .inl (cx.fnc x)⟩) (C := C) cx.hK htg
  refine wS.of (ps_asg wE.pe pg (hn _ cx.sc) (hw _ cx.sc) (by rw [each_of hs]; rfl)) (h.fz C Z k F W X cx.toCtx H0 ρ g σ H S _ (PostS.sb S hp fun a g1 v H1 qa e1 k1 r1 S1 h1 => ?_))
  have ha := fz_s qa
  obtain ⟨d, fl⟩ := a
  obtain rfl : fl = .s := ha
  cases q : t.set d ρ with
  | none => rw [q] at h1; exact h1.elim
  | some ρ1 => rw [q] at h1; exact hg S1 r1 q fun σ' S' _ => h1 σ' H1 (Keep.refl _) S'

/-! ### loops -/
def whileGo (c : DenT) (b : DenS) (F : FT) : Nat → Env' → G → SR
  | 0, _, _ => .bad
  | n + 1, ρ, g => (c F ρ g).sb fun t g1 => if t then match b F ρ g1 with
      | .nx ρ1 g2 => whileGo c b F n ρ1 g2
      | .ct ρ1 g2 => whileGo c b F n ρ1 g2
      | .bk ρ1 g2 => .nx ρ1 g2
      | x => x
    else .nx ρ g1
def dWhile (n : Nat) (c : DenT) (b : DenS) : DenS := fun F ρ g => whileGo c b F n ρ g
theorem SSt.whl {c : Expr} {body : List Stmt} {pos : Pos} {n : Nat} {fc : DenT} {fb : DenS} (hc : STt T N sc c fc) (hb : SSts T N sc body fb) : SSt T N sc (.While c body [] pos) (dWhile n fc fb) := by
  intro C Z k F W X cx H0 ρ g σ H S E hp
  refine wS.of (ps_while cx.po wT.pt wSs.pss) ⟨fun m σ H' => ∃ ρ g, Sta C H0 ρ g σ H' ∧ Keep H H' ∧ PostS C Z W H0 H' (whileGo fc fb F m ρ g) E, ⟨n, ρ, g, S, Keep.refl _, hp⟩, ?_⟩
  rintro m σ H' ⟨ρ, g, S, kp, hp⟩
  cases m with
  | zero => exact hp.elim
  | succ m =>
    unfold whileGo at hp
    refine hc C Z k F W X cx.toCtx H0 ρ g σ H' S _ (PostS.sb S hp fun t g1 v H1 _ e1 k1 r1 S1 h1 => ?_)
    obtain rfl : v = t := r1
    have kp1 := kp.trans (S.go.keep e1)
    cases v with
    | false => simp only [Bool.false_eq_true, if_false] at h1 ⊢; exact h1 σ H1 (Keep.refl _) S1
    | true =>
      simp only [if_true] at h1 ⊢
      refine ⟨fun σ' H2 => ∃ ρ g, Sta C H0 ρ g σ' H2 ∧ Keep H H2 ∧ PostS C Z W H0 H2 (whileGo fc fb F m ρ g) E, fun σ' H2 w => ⟨m, Nat.lt_succ_self _, w⟩, hb C Z k F W X cx H0 ρ g1 σ H1 S1 _ ?_⟩
      cases q : fb F ρ g1 with
      | nx ρ1 g2 => rw [q] at h1; exact fun σ2 H2 k2 S2 => ⟨ρ1, g2, S2, kp1.trans k2, h1.shift k2⟩
      | ct ρ1 g2 => rw [q] at h1; exact fun σ2 H2 k2 S2 => ⟨ρ1, g2, S2, kp1.trans k2, h1.shift k2⟩
      | bk ρ1 g2 => rw [q] at h1; exact fun σ2 H2 k2 S2 => h1 σ2 H2 k2 S2
      | rt => rw [q] at h1; exact h1
      | exc => rw [q] at h1; exact h1
      | bad => rw [q] at h1; exact h1
def forGo (t : Tgt) (b : DenS) (F : FT) : List D → Env' → G → SR
  | [], ρ, g => .nx ρ g
  | d :: r, ρ, g => match t.set d ρ with
    | none => .bad
    | some ρ1 => match b F ρ1 g with
      | .nx ρ2 g2 => forGo t b F r ρ2 g2
      | .ct ρ2 g2 => forGo t b F r ρ2 g2
      | .bk ρ2 g2 => .nx ρ2 g2
      | x => x
def dFor (fi : DenL) (t : Tgt) (b : DenS) : DenS := fun F ρ g => (fi F ρ g).sb fun ds g1 => forGo t b F ds ρ g1
theorem SSt.for {tg iter : Expr} {body : List Stmt} {pos : Pos} {t : Tgt} {fi : DenL} {fb : DenS} (hi : SIk T N sc tg iter fi) (htg : IsTg N (locOk sc) tg t) (hb : SSts T N sc body fb) (hs : ∀ env x, foldedSetIterable iter env x = pure x) : SSt T N sc (.For tg iter body [] pos) (dFor fi t fb) := by
  intro C Z k F W X cx H0 ρ g σ H S E hp
  obtain ⟨gt, pg, hg⟩ := tg_ok (X := X) cx.hN cx.nd cx.calm (fun x hx => ⟨by rw [cx.sc]; exact locOk.loc hx, .inl (cx.fnc x)⟩) (C := C) cx.hK htg
  refine wS.of (ps_for cx.po cx.calm wI.pi pg wSs.pss (hs _)) (hi C Z k F W X cx.toCtx H0 ρ g σ H S _ (PostS.sb (rl := rlIk C) S hp fun ds g1 J H1 _ e1 k1 ⟨G, w, gp⟩ S1 h1 => ?_))
  refine for_it w.w (fun i σ H2 => ∃ ρ g, Sta C H0 ρ g σ H2 ∧ Keep H1 H2 ∧ PostS C Z W H0 H2 (forGo t fb F (ds.drop i) ρ g) E) ⟨ρ, g1, S1, Keep.refl _, by rw [List.drop_zero]; exact h1⟩ (fun i σ H2 hi ⟨_, _, _, kp, _⟩ => gp H2 kp) ?_ ?_
  · rintro i x σ2 H2 H3 hi ⟨ρ2, g2, S2, kp, h2⟩ ⟨e3, k3, d, hd, rd⟩
    have hdr : ds.drop i = d :: ds.drop (i + 1) := by
      obtain ⟨hlt, rfl⟩ := List.getElem?_eq_some_iff.mp hd
      exact List.drop_eq_getElem_cons hlt
    rw [hdr] at h2
    unfold forGo at h2
    have S3 := S2.ext e3 (k3 _ S2.go)
    have kp3 := kp.trans (S2.go.keep e3)
    cases qt : t.set d ρ2 with
    | none => rw [qt] at h2; exact h2.elim
    | some ρ3 =>
      rw [qt] at h2
      dsimp only at h2
      refine hg S3 rd qt fun σ4 S4 _ => hb C Z k F W X cx H0 ρ3 g2 σ4 H3 S4 _ ?_
      have h2 := h2.shift (S2.go.keep e3)
      cases q : fb F ρ3 g2 with
      | nx ρ4 g4 => rw [q] at h2; exact fun σ5 H5 k5 S5 => ⟨ρ4, g4, S5, kp3.trans k5, h2.shift k5⟩
      | ct ρ4 g4 => rw [q] at h2; exact fun σ5 H5 k5 S5 => ⟨ρ4, g4, S5, kp3.trans k5, h2.shift k5⟩
      | bk ρ4 g4 => rw [q] at h2; exact fun σ5 H5 k5 S5 => h2 σ5 H5 k5 S5
      | rt => rw [q] at h2; exact h2
      | exc => rw [q] at h2; exact h2
      | bad => rw [q] at h2; exact h2
  · rintro σ2 H2 ⟨ρ2, g2, S2, kp, h2⟩
    rw [List.drop_length] at h2
    exact h2 σ2 H2 (Keep.refl _) S2
end
end Ev
end

section
/-! Ev14: statements: freezing a slot, a, b = x, y; o[i] = v; xs.append(e). -/
namespace Ev
open PySem PySem.Spec L2
open PyProof.Rows hiding St

section
variable {T : Tab} {N : List Str} {sc : Scope}
theorem Sta.own {C : Cst} {H0 H : Hp} {ρ : Env'} {g : G} {σ : L2.St} (S : Sta C H0 ρ g σ H) {i : Nat} {d : D} (h : ρ[i]? = some (.o d)) : ∃ a, σ[i]? = some (some (.ref a)) ∧ H0 a = none ∧ C.no a ∧ Own C H a d := by
  obtain ⟨x, h1, a, rfl, h2, h3, h4⟩ := S.sl i _ h
  exact ⟨a, h1, h2, h3, h4⟩
theorem Own.upd {C : Cst} {H : Hp} {a b : Addr} {o : HO} {d : D} (h : Own C H b d) (ne : b ≠ a) (kp : Keep H (upd H a o)) : Own C (upd H a o) b d := by
  cases d with
  | lst ds => obtain ⟨xs, h1, h2⟩ := h; exact ⟨xs, by rw [upd_ne ne]; exact h1, h2.keep kp⟩
  | dct kvs => obtain ⟨es, o', h1, h0, h2, h3, h5, h4⟩ := h; exact ⟨es, o', by rw [upd_ne ne]; exact h1, h0, h2, h3, h5, RepE.keep kp _ h4⟩
  | _ => exact h.elim
/-- an own slot's object changes -/
theorem Sta.upd {C : Cst} {H0 H : Hp} {ρ : Env'} {g : G} {σ : L2.St} (S : Sta C H0 ρ g σ H) {i : Nat} {d : D} {a : Addr} {o : HO} {s : Slt} (h : ρ[i]? = some (.o d)) (ha : σ[i]? = some (some (.ref a))) (kp : Keep H (upd H a o)) (hs : SRel C H0 (L2.upd H a o) s (some (.ref a))) (ho : ∀ e, s = .o e → True) :
    Sta C H0 (ρ.set i s) g σ (L2.upd H a o) := by
  obtain ⟨a', h1, h2, h3, h4⟩ := S.own h
  rw [ha] at h1
  cases h1
  refine ⟨fun j t q => ?_, fun j k d' e b h5 h6 h7 h8 => ?_, S.go.upd h3, Ext.upd S.ex h2⟩
  · rw [List.getElem?_set] at q
    by_cases e : i = j
    · subst e
      rw [if_pos rfl] at q
      split at q
      · cases q; exact ⟨_, ha, hs⟩
      · cases q
    · rw [if_neg e] at q
      obtain ⟨x, q1, q2⟩ := S.sl j t q
      refine ⟨x, q1, ?_⟩
      cases t with
      | n => trivial
      | s d => obtain ⟨v, rfl, r⟩ := q2; exact ⟨v, rfl, Rep.keep kp _ r⟩
      | o d' =>
        obtain ⟨b, rfl, r1, r2, r3⟩ := q2
        exact ⟨b, rfl, r1, r2, r3.upd (fun z => e (S.ap i j d d' a h q ha (by rw [q1, z]))) kp⟩
  · have key : ∀ (j : Nat) (e : D), (ρ.set i s)[j]? = some (Slt.o e) → j = i ∨ ρ[j]? = some (Slt.o e) := fun j e q => by
      rw [List.getElem?_set] at q
      split at q
      · rename_i z; exact .inl z.symm
      · exact .inr q
    rcases key j d' h5 with z | h5'
    · rcases key k e h6 with y | h6'
      · rw [z, y]
      · subst z; exact S.ap _ _ _ _ b h h6' h7 h8
    · rcases key k e h6 with y | h6'
      · subst y; exact S.ap _ _ _ _ b h5' h h7 h8
      · exact S.ap _ _ _ _ b h5' h6' h7 h8

/-! ### a slot handed on -/
def fzE (i : Nat) (ρ : Env') : Env' := match ρ[i]? with
  | some (.o d) => ρ.set i (.s d)
  | _ => ρ
theorem SSt.fzV {st : Stmt} {f : DenS} (i : Nat) (h : SSt T N sc st f) : SSt T N sc st (fun F ρ g => f F (fzE i ρ) g) := by
  intro C Z k F W X cx H0 ρ g σ H S E hp
  have plain : ∀ ρ', ρ' = ρ → PostS C Z W H0 H (f F ρ' g) E → wS X st E σ H := fun ρ' e q => by subst e; exact h C Z k F W X cx H0 ρ' g σ H S E q
  have hp : PostS C Z W H0 H (f F (fzE i ρ) g) E := hp
  unfold fzE at hp
  cases q : ρ[i]? with
  | none => rw [q] at hp; exact plain ρ rfl hp
  | some sl =>
    rw [q] at hp
    cases sl with
    | n => exact plain ρ rfl hp
    | s d => exact plain ρ rfl hp
    | o d =>
      obtain ⟨a, h1, h2, h3, h4⟩ := S.own q
      obtain ⟨u, m1, m2, m3, m4⟩ := h4.mut
      intro pins s I
      obtain ⟨od, I2⟩ := Inv.lock I m1 m2
      have kp : Keep H (L2.upd H a (.frz od u)) := fun b w i e => by
        rw [upd_ne (fun z => by subst z; rw [m1] at e; cases e; exact m3 i)]; exact e
      exact h C Z k F W X cx H0 _ g σ _ (S.upd (s := .s d) q h1 kp ⟨_, rfl, m4 od⟩ fun _ _ => trivial) E (hp.shift kp) pins s I2

/-! ### a, b = x, y -/
def FReps (C : Cst) (H H' : Hp) : List (D × Fl) → List V → Prop
  | [], vs => vs = []
  | a :: r, vs => ∃ v ys, vs = v :: ys ∧ FRep C H H' a.2 a.1 v ∧ FReps C H H' r ys ∧ (∀ (p : Addr), a.2 = .f → v = .ref p → ∀ (j : Nat) (b : D × Fl), r[j]? = some b → b.2 = Fl.f → ys[j]? ≠ some (V.ref p))
def rlX (C : Cst) : Rl (List (D × Fl)) (List V) := fun H H' a v => FReps C H H' a v
theorem FReps.sh {C : Cst} {H H1 H' : Hp} (e : Ext C H H1) : ∀ {a : List (D × Fl)} {v : List V}, FReps C H1 H' a v → FReps C H H' a v
  | [], _, h => h
  | a :: r, _, h => by
    obtain ⟨x, ys, h1, h2, h3, h4⟩ := h
    exact ⟨x, ys, h1, rlF.sh.sh _ _ _ a x e h2, FReps.sh e h3, h4⟩
theorem rlX.sh {C : Cst} : Shift C (rlX C) := ⟨fun H H1 H' a v e h => FReps.sh e h⟩
theorem FRep.ext {C : Cst} {g : G} {H H1 H2 : Hp} (k : GOk C g H1) (e : Ext C H1 H2) {fl : Fl} {d : D} {v : V} (h : FRep C H H1 fl d v) : FRep C H H2 fl d v := by
  cases fl with
  | s => exact Rep.keep (k.keep e) _ h
  | f => obtain ⟨a, h1, h2, h3, h4⟩ := h; exact ⟨a, h1, h2, h3, h4.ext k e h3⟩
  | w => obtain ⟨a, h1, h3, h4⟩ := h; exact ⟨a, h1, h3, h4.ext k e h3⟩
theorem FReps.ext {C : Cst} {g : G} {H H1 H2 : Hp} (k : GOk C g H1) (e : Ext C H1 H2) : ∀ {a : List (D × Fl)} {v : List V}, FReps C H H1 a v → FReps C H H2 a v
  | [], _, h => h
  | a :: r, _, h => by
    obtain ⟨x, ys, h1, h2, h3, h4⟩ := h
    exact ⟨x, ys, h1, h2.ext k e, FReps.ext k e h3, h4⟩
theorem FReps.length {C : Cst} {H H' : Hp} : ∀ {a : List (D × Fl)} {v : List V}, FReps C H H' a v → v.length = a.length
  | [], _, h => by rw [show _ = [] from h]; rfl
  | a :: r, _, h => by
    obtain ⟨x, ys, rfl, h2, h3, h4⟩ := h
    simp [FReps.length h3]
theorem FReps.fresh {C : Cst} {H H' : Hp} : ∀ {as : List (D × Fl)} {vs : List V}, FReps C H H' as vs → ∀ (j : Nat) (b : D × Fl), as[j]? = some b → b.2 = .f → ∃ p, vs[j]? = some (.ref p) ∧ H p = none
  | [], _, h, j, b, q, _ => by simp at q
  | a :: r, _, h, j, b, q, f => by
    obtain ⟨v, ys, rfl, h2, h3, h4⟩ := h
    cases j with
    | zero =>
      simp at q; subst q
      obtain ⟨d, fl⟩ := a
      cases f
      obtain ⟨p, rfl, hp, _⟩ := h2
      exact ⟨p, rfl, hp⟩
    | succ j => obtain ⟨p, h5, h6⟩ := FReps.fresh h3 j b (by simpa using q) f; exact ⟨p, by simpa using h5, h6⟩
abbrev SLx (T : Tab) (N : List Str) (sc : Scope) (es : List Expr) (f : FT → Env' → G → R (List (D × Fl))) : Prop := Snd T N sc rlX (fun X => wA X es) f
def xNil : FT → Env' → G → R (List (D × Fl)) := fun _ _ g => .ok [] g
def noW (a : D × Fl) : Bool := match a.2 with
  | .w => false
  | _ => true
def xCons (f : Den) (r : FT → Env' → G → R (List (D × Fl))) : FT → Env' → G → R (List (D × Fl)) := fun F ρ g => (f F ρ g).bind fun a g1 => if noW a then (r F ρ g1).bind fun b g2 => .ok (a :: b) g2 else .bad
theorem SLx.nil : SLx T N sc [] xNil := fun C Z k F W X cx H0 ρ g σ H S Q hp => wA.of pa_nil (hp [] H (.refl _ _) S.go (show FReps _ _ _ [] [] from rfl))
theorem SLx.cons {e : Expr} {es : List Expr} {f : Den} {r : FT → Env' → G → R (List (D × Fl))} (hs : notStar e = true) (h : SE T N sc e f) (hr : SLx T N sc es r) : SLx T N sc (e :: es) (xCons f r) := by
  intro C Z k F W X cx H0 ρ g σ H S Q hp
  refine wA.of (pa_cons wE.pe wA.pa (star_of hs)) ?_
  unfold xCons at hp
  have hh := h C Z k F W X cx H0 ρ g σ H S
  cases q : f F ρ g with
  | bad => rw [q] at hp; exact hp.elim
  | exc c xs g' => rw [q] at hp hh; exact hh _ hp
  | ok a g1 =>
  rw [q] at hp hh
  refine hh _ fun v H1 e1 k1 r1 => ?_
  dsimp only [R.bind] at hp
  split at hp
  case isFalse => exact hp.elim
  rename_i nw
  refine hr C Z k F W X cx H0 ρ g1 σ H1 (S.ext e1 k1) _ ?_
  cases q2 : r F ρ g1 with
  | bad => rw [q2] at hp; exact hp.elim
  | exc c xs g' => rw [q2] at hp; exact fun cv od H' e k x => hp cv od H' (e1.trans e) k x
  | ok b g2 =>
  rw [q2] at hp
  intro vs H2 e2 k2 r2
  refine hp (v :: vs) H2 (e1.trans e2) k2 (show FReps _ _ _ _ _ from ⟨v, vs, rfl, FRep.ext k1 e2 r1, FReps.sh e1 r2, fun p ha hv j c hc hf z => ?_⟩)
  obtain ⟨p', z', hn⟩ := FReps.fresh r2 j c hc hf
  rw [z] at z'
  cases z'
  obtain ⟨d, fl⟩ := a
  cases ha
  obtain ⟨p', z, _, _, ow⟩ := r1
  subst hv
  cases z
  obtain ⟨u, hu, _⟩ := ow.mut
  rw [hn] at hu; cases hu

def setsV : List Nat → List V → L2.St → L2.St
  | i :: is, v :: vs, σ => setsV is vs (σ.set i (some v))
  | _, _, σ => σ
def putX : List Nat → List (D × Fl) → Env' → Option Env'
  | i :: is, (d, .s) :: as, ρ => putX is as (ρ.set i (.s d))
  | i :: is, (d, .f) :: as, ρ => putX is as (ρ.set i (.o d))
  | [], [], ρ => some ρ
  | _, _, _ => none
theorem putX_ok {C : Cst} {H0 H H1 : Hp} {g : G} : ∀ {is : List Nat} {as : List (D × Fl)} {vs : List V} {ρ ρ' : Env'} {σ : L2.St}, Sta C H0 ρ g σ H1 → Ext C H0 H → FReps C H H1 as vs →
    (∀ (j : Nat) (b : D × Fl) (p : Addr), as[j]? = some b → b.2 = Fl.f → vs[j]? = some (V.ref p) → ∀ (i : Nat) (e : D), ρ[i]? = some (Slt.o e) → σ[i]? ≠ some (some (V.ref p))) → putX is as ρ = some ρ' → Sta C H0 ρ' g (setsV is vs σ) H1
  | [], as, vs, ρ, ρ', σ, S, e0, r, ne, e => by
    cases as with
    | nil => cases e; exact S
    | cons a as => exact absurd e (by obtain ⟨d, fl⟩ := a; cases fl <;> simp [putX])
  | i :: is, [], vs, ρ, ρ', σ, S, e0, r, ne, e => absurd e (by simp [putX])
  | i :: is, (d, fl) :: as, vs, ρ, ρ', σ, S, e0, r, ne, e => by
    obtain ⟨v, ys, rfl, h2, h3, h4⟩ := r
    have old : ∀ (s : Slt), (∀ e, s ≠ .o e) → ∀ (j : Nat) (b : D × Fl) (p : Addr), as[j]? = some b → b.2 = Fl.f → ys[j]? = some (V.ref p) → ∀ (i' : Nat) (e : D), (ρ.set i s)[i']? = some (Slt.o e) → (σ.set i (some v))[i']? ≠ some (some (V.ref p)) := fun s hs j b p q1 q2 q3 i' e' q4 => by
      by_cases z : i = i'
      · subst z
        rw [List.getElem?_set, if_pos rfl] at q4
        split at q4
        · cases q4; exact absurd rfl (hs e')
        · cases q4
      · rw [List.getElem?_set, if_neg z] at q4 ⊢
        exact ne (j + 1) b p (by simpa using q1) q2 (by simpa using q3) i' e' q4
    cases fl with
    | w => exact absurd e (by simp [putX])
    | s => exact putX_ok (is := is) (as := as) (S.set h2) e0 h3 (old (.s d) fun _ z => by cases z) e
    | f =>
      obtain ⟨p, rfl, hp, na, ow⟩ := h2
      refine putX_ok (is := is) (as := as) (S.setO (e0.free na hp) na ow (ne 0 (d, .f) p rfl rfl rfl)) e0 h3 ?_ e
      intro j b q q1 q2 q3 i' e' q4
      by_cases z : i = i'
      · subst z
        rw [List.getElem?_set, if_pos rfl]
        split
        · intro w
          cases w
          exact h4 p rfl rfl j b q1 q2 q3
        · simp
      · rw [List.getElem?_set, if_neg z] at q4 ⊢
        exact ne (j + 1) b q (by simpa using q1) q2 (by simpa using q3) i' e' q4
def dPar (is : List Nat) (fs : FT → Env' → G → R (List (D × Fl))) : DenS := fun F ρ g => (fs F ρ g).sb fun as g1 => match putX is as ρ with
  | some ρ1 => .nx ρ1 g1
  | none => .bad
/-- the answer of the values, stored -/
theorem par_ok {C : Cst} {Z : Xcs} {W : WX} {H0 H H1 : Hp} {ρ : Env'} {g g1 : G} {σ : L2.St} {is : List Nat} {as : List (D × Fl)} {vs : List V} {E : Ends} (S : Sta C H0 ρ g σ H) (e1 : Ext C H H1) (S1 : Sta C H0 ρ g1 σ H1) (r : FReps C H H1 as vs)
    (h1 : PostS C Z W H0 H1 (match putX is as ρ with | some ρ1 => .nx ρ1 g1 | none => .bad) E) : E.nx (setsV is vs σ) H1 := by
  cases q : putX is as ρ with
  | none => rw [q] at h1; exact h1.elim
  | some ρ1 =>
    rw [q] at h1
    refine h1 _ H1 (Keep.refl _) (putX_ok S1 S.ex r (fun j b p q1 q2 q3 => ?_) q)
    obtain ⟨p', h3, h4⟩ := r.fresh j b q1 q2
    rw [q3] at h3
    cases h3
    exact S.own_ne h4
theorem putX_len {is : List Nat} {as : List (D × Fl)} {ρ ρ' : Env'} (h : putX is as ρ = some ρ') : as.length = is.length := by
  induction is generalizing as ρ with
  | nil =>
    cases as with
    | nil => rfl
    | cons a as => exact absurd h (by obtain ⟨d, fl⟩ := a; cases fl <;> simp [putX])
  | cons i is ih =>
    cases as with
    | nil => exact absurd h (by simp [putX])
    | cons a as =>
      obtain ⟨d, fl⟩ := a
      cases fl with
      | w => exact absurd h (by simp [putX])
      | s => simpa using ih h
      | f => simpa using ih h
theorem SSt.par2 {i j : Nat} {x y : Str} {a b : Expr} {px py pt pos : Pos} {kt k2 : Nat} {pt2 : Pos} {fs : FT → Env' → G → R (List (D × Fl))} (hi : N[i]? = some x) (hj : N[j]? = some y) (hij : i ≠ j) (hx : sc.names.lookup x = some .local) (hy : sc.names.lookup y = some .local)
    (hw : ∀ env : Env, env.scope = sc → swappedStores [.Tuple [.Name x px, .Name y py] kt pt] (.Tuple [a, b] k2 pt2) env = pure (some [x, y])) (ha : SLx T N sc [a, b] fs) : SSt T N sc (.Assign [.Tuple [.Name x px, .Name y py] kt pt] (.Tuple [a, b] k2 pt2) pos) (dPar [i, j] fs) := by
  intro C Z k F W X cx H0 ρ g σ H S E hp
  refine wS.of (ps_par cx.calm (by rw [cx.hN]; exact cx.nd) (by rw [cx.hN]; exact hi) (by rw [cx.hN]; exact hj) hij (by rw [cx.sc]; exact hx) (by rw [cx.sc]; exact hy) wA.pa (hw _ cx.sc)) (ha C Z k F W X cx.toCtx H0 ρ g σ H S _ (PostS.sb S hp fun as g1 vs H1 _ e1 k1 r1 S1 h1 => ?_))
  have hl : vs.length = 2 := by
    rw [FReps.length r1]
    cases q : putX [i, j] as ρ with
    | none => rw [q] at h1; exact h1.elim
    | some ρ1 => exact putX_len q
  match vs, hl, r1 with
  | [v, w], _, r1 => exact ⟨v, w, rfl, par_ok (is := [i, j]) S e1 S1 r1 h1⟩
theorem SSt.par3 {i j l : Nat} {x y z : Str} {a b c : Expr} {px py pz pt pos : Pos} {kt k2 : Nat} {pt2 : Pos} {fs : FT → Env' → G → R (List (D × Fl))} (hi : N[i]? = some x) (hj : N[j]? = some y) (hl : N[l]? = some z) (hij : i ≠ j) (hil : i ≠ l) (hjl : j ≠ l) (hx : sc.names.lookup x = some .local) (hy : sc.names.lookup y = some .local) (hz : sc.names.lookup z = some .local)
    (hw : ∀ env : Env, env.scope = sc → swappedStores [.Tuple [.Name x px, .Name y py, .Name z pz] kt pt] (.Tuple [a, b, c] k2 pt2) env = pure (some [x, y, z])) (ha : SLx T N sc [a, b, c] fs) : SSt T N sc (.Assign [.Tuple [.Name x px, .Name y py, .Name z pz] kt pt] (.Tuple [a, b, c] k2 pt2) pos) (dPar [i, j, l] fs) := by
  intro C Z k F W X cx H0 ρ g σ H S E hp
  refine wS.of (ps_par3 cx.calm (by rw [cx.hN]; exact cx.nd) (by rw [cx.hN]; exact hi) (by rw [cx.hN]; exact hj) (by rw [cx.hN]; exact hl) hij hil hjl (by rw [cx.sc]; exact hx) (by rw [cx.sc]; exact hy) (by rw [cx.sc]; exact hz) wA.pa (hw _ cx.sc)) (ha C Z k F W X cx.toCtx H0 ρ g σ H S _ (PostS.sb S hp fun as g1 vs H1 _ e1 k1 r1 S1 h1 => ?_))
  have hl : vs.length = 3 := by
    rw [FReps.length r1]
    cases q : putX [i, j, l] as ρ with
    | none => rw [q] at h1; exact h1.elim
    | some ρ1 => exact putX_len q
  match vs, hl, r1 with
  | [u, v, w], _, r1 => exact ⟨u, v, w, rfl, par_ok (is := [i, j, l]) S e1 S1 r1 h1⟩

/-- names only, stored from the left -/
inductive IsNs (N : List Str) (sc : Scope) : List Expr → List Nat → Prop
  | nil : IsNs N sc [] []
  | cons {x : Str} {i : Nat} {pos : Pos} {es : List Expr} {is : List Nat} (hi : N[i]? = some x) (hx : locOk sc x = true) (r : IsNs N sc es is) : IsNs N sc (.Name x pos :: es) (i :: is)
def gNs : List Nat → TGs := fun is vs σ H Q => vs.length = is.length ∧ Q (setsV is vs σ) H
theorem pgs_ns {X : Cx} (hN : X.N.Nodup) (hN' : X.N = N) (hsc : X.env.scope = sc) (hf : ∀ x, X.fn x = true) : ∀ {es : List Expr} {is : List Nat}, IsNs N sc es is → PGs X es (gNs is) ∧ (∀ env, (assignEach es env).length = is.length) ∧ ∀ env, (assignEach es env).findIdx? (·.1) = none
  | _, _, .nil => ⟨⟨fun pins s σ H vs us Q I r h => pgs_nil.run pins s σ H vs us Q I r ⟨List.eq_nil_of_length_eq_zero h.1, by
      have : vs = [] := List.eq_nil_of_length_eq_zero h.1
      subst this; exact h.2⟩⟩, fun _ => rfl, fun _ => rfl⟩
  | _, _, .cons (x := x) (i := i) (is := is) hi hx r => by
    obtain ⟨p, l, fi⟩ := pgs_ns hN hN' hsc hf r
    refine ⟨⟨fun pins s σ H vs us Q I rr h => (pgs_cons (pg_name hN (by rw [hN']; exact hi) (by rw [hsc]; exact locOk.loc hx) (.inl (hf x))) p).run pins s σ H vs us Q I rr ?_⟩, fun env => by
      show (assignEach _ env).length + 1 = _
      rw [l env]; rfl, fun env => by
      show List.findIdx? _ ((false, _) :: assignEach _ env) = none
      rw [List.findIdx?_cons, fi env]; rfl⟩
    match vs, h with
    | v :: vs, h => exact ⟨v, vs, rfl, by simpa using h.1, h.2⟩
theorem SSt.parT {ts es : List Expr} {is : List Nat} {kt k2 : Nat} {pt pt2 pos : Pos} {fs : FT → Env' → G → R (List (D × Fl))} (hts : IsNs N sc ts is) (h20 : is.length ≤ 20) (hw : ∀ env : Env, env.scope = sc → swappedStores [.Tuple ts kt pt] (.Tuple es k2 pt2) env = pure none) (ha : SLx T N sc es fs) :
    SSt T N sc (.Assign [.Tuple ts kt pt] (.Tuple es k2 pt2) pos) (dPar is fs) := by
  intro C Z k F W X cx H0 ρ g σ H S E hp
  obtain ⟨p, l, fi⟩ := pgs_ns (X := X) (by rw [cx.hN]; exact cx.nd) cx.hN cx.sc cx.fnc hts
  refine wS.of (ps_asg (pe_tup wA.pa) (pg_tup cx.calm p (l _) (fi _)) rfl (hw _ cx.sc) rfl) (ha C Z k F W X cx.toCtx H0 ρ g σ H S _ (PostS.sb S hp fun as g1 vs H1 _ e1 k1 r1 S1 h1 => ?_))
  have hl : vs.length = is.length := by
    rw [FReps.length r1]
    cases q : putX is as ρ with
    | none => rw [q] at h1; exact h1.elim
    | some ρ1 => exact putX_len q
  refine ⟨by rw [hl, LN_eq]; exact Nat.le_trans h20 (by decide), fun q hq => ⟨q, vs, rfl, .of upd_same, hl, hl, ?_⟩⟩
  have eN : Ext C H1 (L2.upd H1 q (.tup vs)) := Ext.new hq
  have kN := k1.upd (o := .tup vs) (k1.no hq)
  exact par_ok S (e1.trans eN) (S1.ext eN kN) (FReps.ext k1 eN r1) (h1.shift (k1.keep eN))
end
end Ev
end

section
/-! Ev15: o[i] = v, xs.append(e). -/
namespace Ev
open PySem PySem.Spec L2
open PyProof.Rows hiding St

def wSet (X : Cx) : TSet := fun o i v H Q => ∀ pins s σ ov iv u, Inv X pins σ H s → RelV o ov → RelV i iv → RelV v u → wpAny (model X.prog X.w) X.A (setItem ov iv u) (fun _ s' => ∃ H', Inv X pins σ H' s' ∧ Q H') X.xe s
theorem wSet.ps {X : Cx} : PSet X (wSet X) := fun pins s σ H o i v ov iv u Q I ro ri rv h => h pins s σ ov iv u I ro ri rv
theorem wSet.of {X : Cx} {t : TSet} {o i v : V} {H : Hp} {Q : Hp → Prop} (h : PSet X t) (q : t o i v H Q) : wSet X o i v H Q := fun pins s σ ov iv u I ro ri rv => h pins s σ H o i v ov iv u Q I ro ri rv q

def hndPut (k v : D) (g : G) : Option G := match g with
  | some (x, y) => match k, v with
    | .int i, .int n => if i = 0 then some (some (n, y)) else if i = 1 then some (some (x, n)) else none
    | _, _ => none
  | none => none
theorem hndPut_ok {k v : D} {g g' : G} (h : hndPut k v g = some g') : ∃ (x y n : Int) (i : Nat), g = some (x, y) ∧ (g' = if i = 0 then some (n, y) else some (x, n)) ∧ i < 2 ∧ k = .int i ∧ v = .int n := by
  unfold hndPut at h
  split at h
  · rename_i x y
    split at h
    · rename_i i n
      split at h
      · rename_i e; cases h; exact ⟨x, y, n, 0, rfl, rfl, by decide, by rw [e]; rfl, rfl⟩
      · split at h
        · rename_i e; cases h; exact ⟨x, y, n, 1, rfl, rfl, by decide, by rw [e]; rfl, rfl⟩
        · cases h
    · cases h
  · cases h
/-- what a store does to a slot -/
def put2 (j : Nat) (k v : D) (ρ : Env') (g : G) : SR := match ρ[j]? with
  | some (.o (.dct kvs)) => if D.fit kvs k && decide (kvs.length < LN) then .nx (ρ.set j (.o (.dct (D.put kvs k v)))) g else .bad
  | some (.o (.lst l)) => match k with
    | .int i => match ixN l.length i with
      | some n => .nx (ρ.set j (.o (.lst (l.set n v)))) g
      | none => .bad
    | _ => .bad
  | some (.s (.hnd 0)) => match hndPut k v g with
    | some g' => .nx ρ g'
    | none => .bad
  | _ => .bad
def hasV (ρ : Env') (j : Nat) : Bool := match ρ[j]? with
  | some (.s _) => true
  | some (.o _) => true
  | _ => false
theorem hasV.ok {C : Cst} {H0 H : Hp} {ρ : Env'} {g : G} {σ : L2.St} (S : Sta C H0 ρ g σ H) {j : Nat} (h : hasV ρ j = true) : ∃ x, σ[j]? = some (some x) := by
  unfold hasV at h
  split at h
  · rename_i d q; obtain ⟨x, h1, v, rfl, _⟩ := S.sl j _ q; exact ⟨v, h1⟩
  · rename_i d q; obtain ⟨a, h1, _⟩ := S.own q; exact ⟨_, h1⟩
  · cases h
def dPut (j : Nat) (fi fv : Den) : DenS := fun F ρ g => (dFz fv F ρ g).sb fun v g1 => if !hasV ρ j then .bad else (dFz fi F ρ g1).sb fun k g2 => put2 j k.1 v.1 ρ g2
theorem put2_ok {C : Cst} {Z : Xcs} {T : Tab} {k : Nat} {F : FT} {W : WX} {N : List Str} {sc : Scope} {X : Cx} (cx : CtxS C Z T k F W N sc X) {H0 H : Hp} {ρ : Env'} {g : G} {σ : L2.St} {j : Nat} {kd vd : D} {x kv vv : V} {E : Ends} (S : Sta C H0 ρ g σ H) (hj : σ[j]? = some (some x)) (rk : Rep C H kd kv) (rv : Rep C H vd vv)
    (hp : PostS C Z W H0 H (put2 j kd vd ρ g) E) : wSet X x kv vv H fun H2 => E.nx σ H2 := by
  unfold put2 at hp
  split at hp
  · rename_i kvs q
    split at hp
    case isFalse => exact hp.elim
    rename_i hc
    rw [Bool.and_eq_true, decide_eq_true_eq] at hc
    obtain ⟨a, h1, h2, h3, es, o, h4, h5, h6, h7, h8, h9⟩ := S.own q
    rw [hj] at h1
    cases h1
    intro pins s σ' ov iv u I ro ri ru
    obtain rfl : ov = Value.ref a := ro
    have hl := h9.length
    refine dd_set cx.un9 cx.hK cx.hw I h4 h5 (by rw [hl, LN_eq]; exact hc.2) h8 h9 hc.1 rk ri ru rv fun es' o' s' I' d' hz' re' => ⟨_, I', ?_⟩
    have kp : Keep H (L2.upd H a (rawD a o')) := raw_keep h4
    exact hp σ _ kp (S.upd (s := .o _) q hj kp ⟨a, rfl, h2, h3, es', o', upd_same, d', h6, hz', h8.put hc.1, re'⟩ fun _ _ => trivial)
  · rename_i l q
    split at hp
    · rename_i i
      split at hp
      · rename_i n hn
        obtain ⟨a, h1, h2, h3, xs, h4, h5⟩ := S.own q
        rw [hj] at h1
        cases h1
        obtain rfl : kv = .int i := rk
        refine wSet.of set_list ⟨a, xs, i, n, rfl, rfl, h4, by rw [h5.length]; exact hn, ?_⟩
        have kp : Keep H (L2.upd H a (.lst (xs.set n vv))) := keep_upd h4
        exact hp σ _ kp (S.upd (s := .o _) q hj kp ⟨a, rfl, h2, h3, _, upd_same, (h5.keep kp).set n (Rep.keep kp _ rv)⟩ fun _ _ => trivial)
      · exact hp.elim
    · exact hp.elim
  · rename_i q
    obtain ⟨x', h1, v, h2, a, h3, rfl⟩ := S.sl j _ q
    rw [hj] at h1
    cases h1
    cases h2
    have go : ∀ (x y : Int) (n : Int) (i : Nat) (g' : G), g = some (x, y) → (g' = if i = 0 then some (n, y) else some (x, n)) → i < 2 → kv = .int i → vv = .int n → (∀ σ' H', Keep H H' → Sta C H0 ρ g' σ' H' → E.nx σ' H') → wSet X (.ref a) kv vv H fun H2 => E.nx σ H2 := by
      intro x y n i g' hg hg' hi hk hv fin
      clear hp
      subst hg hk hv
      obtain ⟨b, b1, b2, b3⟩ := S.go
      rw [h3] at b2
      cases b2
      refine wSet.of set_list ⟨a, _, i, i, rfl, rfl, b3, ?_, ?_⟩
      · match i, hi with
        | 0, _ => rfl
        | 1, _ => rfl
      · have kp : Keep H (L2.upd H a (.lst ([V.int x, V.int y].set i (.int n)))) := keep_upd b3
        have nb : ∀ b, C.no b → b ≠ a := fun b n z => n 0 (by rw [z]; exact h3)
        refine fin σ _ kp ⟨fun j s q => ?_, S.ap, ?_, fun b u n q => by rw [upd_ne (nb b n)]; exact S.ex b u n q⟩
        · obtain ⟨z, q1, q2⟩ := S.sl j s q
          refine ⟨z, q1, ?_⟩
          cases s with
          | n => trivial
          | s d => obtain ⟨v, rfl, r⟩ := q2; exact ⟨v, rfl, Rep.keep kp _ r⟩
          | o d' => obtain ⟨b, rfl, r1, r2, r3⟩ := q2; exact ⟨b, rfl, r1, r2, r3.upd (nb b r2) kp⟩
        · subst hg'
          match i, hi with
          | 0, _ => exact ⟨a, b1, h3, upd_same⟩
          | 1, _ => exact ⟨a, b1, h3, upd_same⟩
    cases q : hndPut kd vd g with
    | none => rw [q] at hp; exact hp.elim
    | some g' =>
      rw [q] at hp
      obtain ⟨x, y, n, i, e1, e2, e3, rfl, rfl⟩ := hndPut_ok q
      exact go x y n i g' e1 e2 e3 rk rv hp
  · exact hp.elim
section
variable {T : Tab} {N : List Str} {sc : Scope}
/-- a name's slot, whatever is in it -/
theorem wE.var {C Z k F W} {X : Cx} (cx : Ctx C Z T k F W N sc X) {x : Str} {i : Nat} {pos : Pos} (hi : N[i]? = some x) (hv : Vis sc x) (hd : (x == ("__debug__" : Str)) = false) (hcd : (x == ("__classdict__" : Str)) = false) {σ : L2.St} {H : Hp} {Q : VK} {v : V} (h : σ[i]? = some (some v)) (q : Q v H) : wE X (.Name x pos) σ H Q :=
  wE.of (pe_var (i := i) (by rw [cx.hN]; exact hi) (by rw [cx.sc]; exact hv) hd hcd) ⟨v, h, q⟩
theorem SSt.put {x : Str} {j : Nat} {i value : Expr} {px tpos spos : Pos} {fi fv : Den} (hi : N[j]? = some x) (hv : Vis sc x) (hd : (x == ("__debug__" : Str)) = false) (hcd : (x == ("__classdict__" : Str)) = false) (hn : notLc value = true) (hs : notSlice i = true) (h1 : SE T N sc value fv) (h2 : SE T N sc i fi) :
    SSt T N sc (.Assign [.Subscript (.Name x px) i tpos] value spos) (dPut j fi fv) := by
  intro C Z k F W X cx H0 ρ g σ H S E hp
  refine wS.of (ps_asg (g := gSub (wE X (.Name x px)) (wE X i) (wSet X)) wE.pe (pg_sub wE.pe wE.pe wSet.ps ?_) (by cases value <;> first | rfl | exact Bool.noConfusion hn) (by cases value <;> rfl) rfl) ?_
  · intro v
    cases i <;> first | rfl | exact Bool.noConfusion hs
  refine h1.fz C Z k F W X cx.toCtx H0 ρ g σ H S _ (PostS.sb S hp fun a g1 v H1 qa e1 k1 r1 S1 hp1 => ?_)
  have ha := fz_s qa
  obtain ⟨vd, fl⟩ := a
  obtain rfl : fl = .s := ha
  dsimp only at hp1
  split at hp1
  · exact hp1.elim
  rename_i hv'
  obtain ⟨x0, hx0⟩ := hasV.ok S1 (j := j) (by simpa using hv')
  refine wE.var cx.toCtx hi hv hd hcd hx0 (h2.fz C Z k F W X cx.toCtx H0 ρ g1 σ H1 S1 _ (PostS.sb S1 hp1 fun b g2 w H2 qb e2 k2 r2 S2 hp2 => ?_))
  have hb := fz_s qb
  obtain ⟨kd, fl⟩ := b
  obtain rfl : fl = .s := hb
  exact put2_ok cx S2 hx0 r2 (Rep.keep (k1.keep e2) _ r1) hp2

/-! ### xs.append(e) -/
def dApp (j : Nat) (f : Den) : DenS := fun F ρ g => match ρ[j]? with
  | some (.o (.lst l)) => if l.length < LN then (dFz f F ρ g).sb fun v g1 => .nx (ρ.set j (.o (.lst (l ++ [v.1])))) g1 else .bad
  | _ => .bad
theorem SSt.app {x : Str} {j : Nat} {e : Expr} {px apos cpos spos : Pos} {f : Den} (hi : N[j]? = some x) (hv : Vis sc x) (hd : (x == ("__debug__" : Str)) = false) (hcd : (x == ("__classdict__" : Str)) = false) (hs : notStar e = true) (hline : (apos.endLine == cpos.line) = true) (h : SE T N sc e f) :
    SSt T N sc (.Expr (.Call (.Attribute (.Name x px) "append" apos) [e] [] cpos) spos) (dApp j f) := by
  intro C Z k F W X cx H0 ρ g σ H S E hp
  refine wS.of (ps_expr (pe_bm (T := "list") (t := wA X [e]) PySem.F.plainAttrs_list PySem.F.slot_list_append PySem.F.type_list_append mt_append wE.pe wA.pa (base_of rfl _) (few_of (by simp [hs]) (by show 1 < 30; decide)) hline (star_of hs) (noStars rfl)) rfl) ?_
  unfold dApp at hp
  split at hp
  case h_2 => exact hp.elim
  rename_i l q
  split at hp
  case isFalse => exact hp.elim
  rename_i hl
  obtain ⟨a, h1, h2, h3, xs, h4, h5⟩ := S.own q
  refine wE.var cx.toCtx hi hv hd hcd h1 ⟨.inl ⟨rfl, xs, by rw [cx.hK]; exact .inl (.inl h4)⟩, ?_⟩
  refine wA.of (pa_cons wE.pe pa_nil (star_of hs)) (h.fz C Z k F W X cx.toCtx H0 ρ g σ H S _ (PostS.sb S hp fun v g1 y H1 qa e1 k1 r1 S1 hp1 => ?_))
  have ha := fz_s qa
  obtain ⟨d, fl⟩ := v
  obtain rfl : fl = .s := ha
  obtain ⟨a', h1', h2', h3', xs', h4', h5'⟩ := S1.own q
  rw [h1] at h1'
  cases h1'
  have kp : Keep H1 (L2.upd H1 a (.lst (xs' ++ [y]))) := keep_upd h4'
  exact ⟨a, xs', y, rfl, rfl, h4', by rw [h5'.length, LN_eq]; exact hl, hp1 σ _ kp (S1.upd (s := .o _) q h1 kp ⟨a, rfl, h2, h3, _, upd_same, (h5'.keep kp).append (.one (Rep.keep kp _ r1))⟩ fun _ _ => trivial)⟩
end
end Ev
end

section
/-! Ev16: raise; defs; the law's end. -/
namespace Ev
open PySem PySem.Spec L2
open PyProof.Rows hiding St

section
variable {T : Tab} {N : List Str} {sc : Scope}
def dRaise (i : Nat) : DenS := fun _ _ g => .exc i [] g
theorem SSt.raise {x m : Str} {i j : Nat} {p p2 cpos pos : Pos} (hx : T.excs[i]? = some x) (hg : gl sc x) (hd : (x == ("__debug__" : Str)) = false) : SSt T N sc (.Raise (some (.Call (.Name x p) [.Constant (.str m) j p2] [] cpos)) none pos) (dRaise i) := by
  intro C Z k F W X cx H0 ρ g σ H S E hp
  obtain ⟨c, h1, h2, h3⟩ := cx.xcs i x hx
  exact wS.of (ps_raise cx.calm cx.tk (pmk_own PySem.F.excBase_ValueError h3.ex h1 h3.kp (raises_own h3.sub h3.ty) (hg.at cx.toCtx) hd)) (hp _ _ σ H S.ex S.go ⟨⟨c, h2, rfl⟩, .inl ⟨rfl, rfl⟩⟩)
end

/-! ### defs -/
/-- number of parameters, of slots, the body's meaning -/
abbrev Bd := Nat → Option (Nat × Nat × DenS)
def SR.fin (r : SR) : R (D × Bool) := match r with
  | .rt d fr g => .ok (d, fr) g
  | .nx _ g => .ok (.non, false) g
  | .exc c xs g => .exc c xs g
  | _ => .bad
def entry (nn : Nat) (ds : List D) : Env' := ds.map Slt.s ++ List.replicate (nn - ds.length) .n
def callF (bd : Bd) : Nat → FT
  | 0 => fun _ _ _ => .bad
  | n + 1 => fun i ds g => match bd i with
    | some (np, nn, b) => if ds.length = np then (b (callF bd n) (entry nn ds) g).fin else .bad
    | none => .bad
structure DefOk (T : Tab) (d : He.DefD) (np nn : Nat) (b : DenS) : Prop where
  dfl : d.dfl = []
  kwd : d.kwd = []
  ex : ∃ N ps, ps.length = np ∧ N.length = nn ∧ FnScope N ps d.scope ∧ SSts T N d.scope d.body b ∧
    ∀ (kV doc pm : Value) (an : Option Addr) (cdv ct : Value) (us : List Value), us.length = ps.length → bindArgs (PySem.W.fnOf d.name d.qual d.params d.body d.scope .none kV doc pm an cdv ct) ⟨us, []⟩ = pure (ps.zip us)
theorem Sta.entry {C : Cst} {H : Hp} {g : G} {N : List Str} {vs : List V} {ds : List D} (hl : vs.length ≤ N.length) (r : Reps C H ds vs) (k : GOk C g H) : Sta C H (Ev.entry N.length ds) g (L2.start N vs) H := by
  have hd := r.length
  refine ⟨fun i s h => ?_, fun i j d e a h1 => ?_, k, .refl _ _⟩
  · unfold Ev.entry at h
    unfold L2.start
    by_cases hi : i < ds.length
    · rw [List.getElem?_append_left (by simpa using hi), List.getElem?_map] at h
      rw [List.getElem?_append_left (by simpa [hd] using hi), List.getElem?_map]
      rw [List.getElem?_eq_getElem hi] at h
      cases h
      obtain ⟨x, h1, h2⟩ := r.get' (List.getElem?_eq_getElem hi)
      rw [h1]
      exact ⟨_, rfl, x, rfl, h2⟩
    · rw [List.getElem?_append_right (by simpa using hi), List.getElem?_replicate] at h
      rw [List.getElem?_append_right (by simpa [hd] using hi), List.getElem?_replicate]
      rw [List.length_map] at h ⊢
      split at h
      · rename_i h'
        cases h
        rw [hd, if_pos (by omega)]
        exact ⟨none, rfl, trivial⟩
      · cases h
  · exfalso
    unfold Ev.entry at h1
    by_cases hi : i < ds.length
    · rw [List.getElem?_append_left (by simpa using hi), List.getElem?_map, List.getElem?_eq_getElem hi] at h1
      cases h1
    · rw [List.getElem?_append_right (by simpa using hi), List.getElem?_replicate] at h1
      split at h1 <;> cases h1
section
variable {P : Program} {w : World} {K : PySem.W.Frag} {mg : Str → Option Value} {base : Heap}
/-- what a text's names stand for -/
structure Lay (T : Tab) (C : Cst) (Z : Xcs) (mg : Str → Option Value) : Prop where
  cons : ∀ x d, (x, d) ∈ T.cons → ∃ u v, mg x = some u ∧ RelV v u ∧ Rep C (fun _ => none) d v
  bl : ∀ x ∈ bnames, mg x = none
  xcs : ∀ (i : Nat) x, T.excs[i]? = some x → ∃ c, mg x = some (.ref c) ∧ Z.cls i = some c ∧ ExcIn C.K c
  exm : ∀ (j : Nat) (tb : List Bool) (i : Nat) (b : Bool) (ci cj : Addr), (j, tb) ∈ T.sub → tb[i]? = some b → Z.cls i = some ci → Z.cls j = some cj → PySem.W.exmOne C.K (.ref ci) (.ref cj) = some b
  fns : ∀ (i : Nat) x n, T.fns[i]? = some (x, n) → ∃ a, mg x = some (.ref a) ∧ C.fa i = some a
/-- a def's object, of the text -/
def DefAt (T : Tab) (K : PySem.W.Frag) (i : Nat) (a : Addr) (np nn : Nat) (b : DenS) : Prop :=
  ∃ d fd, DefOk T d np nn b ∧ FunD K d.name d.qual d.params d.body d.scope [] [] a fd
theorem def_ok {T : Tab} {C : Cst} {Z : Xcs} {bd : Bd} (hK : C.K = K) (hw : C.w = w) (L : Lay T C Z mg)
    (hd : ∀ (i : Nat) x n a, T.fns[i]? = some (x, n) → C.fa i = some a → ∃ nn b, bd i = some (n, nn, b) ∧ DefAt T K i a n nn b) :
    ∀ (lv : Nat) (i : Nat) x n a, T.fns[i]? = some (x, n) → C.fa i = some a → ∃ fd ps, FnOk P w K mg base (L2.CX P w) (2 * lv + 1) a fd ps (spF C Z (callF bd lv) i n) ∧ Binds K fd ps [] ∧ ps.length = n ∧ PySem.W.keepIn K (.ref a) = true := by
  intro lv
  induction lv with
  | zero =>
    intro i x n a hx ha
    obtain ⟨nn, b, hb, d, fd, ok, F⟩ := hd i x n a hx ha
    obtain ⟨N, ps, e1, e2, S, _, B⟩ := ok.ex
    refine ⟨fd, ps, ⟨fun vs H Q E h => by rw [e1]; exact h.1, fun A outer s H args us vs Q E hr e0 hb r hsp => ?_⟩, F.bindsN B, e1, F.kp⟩
    obtain ⟨_, ds, g, _, _, z⟩ := hsp
    exact z.elim
  | succ lv ih =>
    intro i x n a hx ha
    obtain ⟨nn, b, hb, d, fd, ok, F⟩ := hd i x n a hx ha
    obtain ⟨N, ps, e1, e2, S, B0, B⟩ := ok.ex
    refine ⟨fd, ps, F.ok (k := 2 * lv + 2) S (fun vs H Q E h => by rw [e1]; exact h.1) (fun cdv A outer s H vs Q E hr h => ?_), F.bindsN B, e1, F.kp⟩
    obtain ⟨hl, ds, g, rds, go, z⟩ := h
    have cx : CtxS C Z T (2 * lv + 1) (callF bd lv) (fun cls d _ H => E cls d H) N d.scope (cxOf (L2.CX P w) P w K mg base N d.qual d.scope a cdv A outer s H E) :=
      { hK := hK.symm, hw := hw.symm, calm := rfl, hN := rfl, nd := S.nd, sc := rfl, room := hr, cons := L.cons, bl := L.bl, xcs := by
          rw [← hK]; exact L.xcs
        fns := fun j y m hy => by
          obtain ⟨a', h1, h2⟩ := L.fns j y m hy
          obtain ⟨fd', ps', h3, h4, h5, h6⟩ := ih j y m a' hy h2
          exact ⟨a', h1, h2, ⟨⟨fd', ps', h3, h4, h5⟩, h6⟩⟩
        tk := takes_of rfl rfl rfl rfl
        fnc := fun _ => rfl
        stk := rfl
        frm := rfl
        exm := by rw [← hK]; exact L.exm
        po := passes_of (K := fun e s'' => L2.CX P w outer H s E e s'') (E₁ := fun e' s'' => L2.CX P w outer H s E e' s'') rfl }
    have hN : vs.length ≤ N.length := by
      have := congrArg List.length S.pre
      rw [List.length_take] at this
      omega
    refine ⟨_, wSs.pss, B0 C Z (2 * lv + 1) (callF bd lv) _ _ cx H _ g _ H (Sta.entry hN rds go) _ ?_⟩
    have hdl : ds.length = n := by rw [← rds.length]; exact hl
    unfold callF at z
    rw [hb] at z
    dsimp only at z
    rw [if_pos hdl, ← e2] at z
    cases q : b (callF bd lv) (Ev.entry N.length ds) g with
    | nx ρ g' => rw [q] at z; exact fun σ' H' k' S' => z .non H' S'.ex S'.go rfl
    | rt d fr g' => rw [q] at z; exact z
    | exc c xs g' => rw [q] at z; exact fun cv od σ' H' e k x => z cv od H' e k x
    | bk => rw [q] at z; exact z.elim
    | ct => rw [q] at z; exact z.elim
    | bad => rw [q] at z; exact z.elim
end
end Ev
end

section
/-! Ev17: the law's own def. -/
namespace Ev
open PySem PySem.Spec L2
open PyProof.Rows hiding St

/-- with a handle -/
def Cst.with_ (C : Cst) (a : Addr) : Cst := { C with hd := fun n => if n = 0 then some a else none }
theorem with_hd {C : Cst} {a : Addr} (n : Nat) (b : Addr) (q : (C.with_ a).hd n = some b) : n = 0 ∧ b = a := by
  unfold Cst.with_ at q
  dsimp only at q
  split at q
  · rename_i e; cases q; exact ⟨e, rfl⟩
  · cases q
mutual
theorem Rep.hd {C : Cst} {a : Addr} (h0 : ∀ n, C.hd n = none) {H : Hp} : ∀ (d : D) {v : V}, Rep C H d v → Rep (C.with_ a) H d v
  | .non, _, h => h
  | .bl _, _, h => h
  | .int _, _, h => h
  | .str _, _, h => h
  | .tup ds, _, h => by obtain ⟨p, xs, e, s, r⟩ := h; exact ⟨p, xs, e, s, Reps.hd h0 ds r⟩
  | .lst ds, _, h => by obtain ⟨p, xs, e, s, r⟩ := h; exact ⟨p, xs, e, s, Reps.hd h0 ds r⟩
  | .dct kvs, _, h => by obtain ⟨p, es, e, s, n, l, q, r⟩ := h; exact ⟨p, es, e, s, n, l, q, RepE.hd h0 kvs r⟩
  | .fn _, _, h => h
  | .hnd k, _, h => by obtain ⟨p, e, _⟩ := h; rw [h0 k] at e; cases e
theorem Reps.hd {C : Cst} {a : Addr} (h0 : ∀ n, C.hd n = none) {H : Hp} : ∀ (ds : List D) {xs : List V}, Reps C H ds xs → Reps (C.with_ a) H ds xs
  | [], _, h => h
  | d :: ds, _, h => by obtain ⟨x, ys, e, r, rs⟩ := h; exact ⟨x, ys, e, Rep.hd h0 d r, Reps.hd h0 ds rs⟩
theorem RepE.hd {C : Cst} {a : Addr} (h0 : ∀ n, C.hd n = none) {H : Hp} : ∀ (kvs : List (D × D)) {es : List DictEntry}, RepE C H kvs es → RepE (C.with_ a) H kvs es
  | [], _, h => h
  | (k, v) :: r, _, h => by
    obtain ⟨e, es', x, y, q, hs, r1, h1, r2, h2, t⟩ := h
    exact ⟨e, es', x, y, q, hs, r1, Rep.hd h0 k h1, r2, Rep.hd h0 v h2, RepE.hd h0 r t⟩
end
def spLaw (K : PySem.W.Frag) (n : Nat) : Sp := fun vs H Q _ => ∃ (a : Addr) (ns : List Int), vs = [.ref a] ∧ SqL K H a (ns.map V.int) ∧ ns.length ≤ n ∧ ∀ H', Q (.bl true) H'
/-- what the law's def answers: its first statement makes the cup, the rest answers True -/
def LawSays (F : FT) (nn j : Nat) (f0 fr : DenS) (n : Nat) : Prop := ∀ ns : List Int, ns.length ≤ n → ∃ x y : Int,
  f0 F (entry nn [.lst (ns.map D.int)]) none = .nx ((entry nn [.lst (ns.map D.int)]).set j (.o (.lst [.int x, .int y]))) none ∧
  ∃ g, fr F ((entry nn [.lst (ns.map D.int)]).set j (.s (.hnd 0))) (some (x, y)) = .rt (.bl true) false g
structure LawOk (T : Tab) (d : He.DefD) (nn j : Nat) (f0 fr : DenS) : Prop where
  dfl : d.dfl = []
  kwd : d.kwd = []
  ex : ∃ N s rest, N.length = nn ∧ 0 < j ∧ j < nn ∧ d.body = s :: rest ∧ FnScope N ["script"] d.scope ∧ SSt T N d.scope s f0 ∧ SSts T N d.scope rest fr ∧
    ∀ (kV doc pm : Value) (an : Option Addr) (cdv ct : Value) (us : List Value), us.length = 1 → bindArgs (PySem.W.fnOf d.name d.qual d.params d.body d.scope .none kV doc pm an cdv ct) ⟨us, []⟩ = pure (([("script" : Str)]).zip us)
theorem intsRep {C : Cst} {H : Hp} (ns : List Int) : Reps C H (ns.map D.int) (ns.map V.int) := Reps.of_ints
section
variable {P : Program} {w : World} {K : PySem.W.Frag} {mg : Str → Option Value} {base : Heap}
theorem law_ok {T : Tab} {C : Cst} {Z : Xcs} {bd : Bd} {lv nn j n : Nat} {f0 fr : DenS} {d : He.DefD} {fa : Addr} {fd : FuncData} (hK : C.K = K) (hw : C.w = w) (h0 : ∀ n, C.hd n = none) (L : Lay T C Z mg)
    (hd : ∀ (i : Nat) x n a, T.fns[i]? = some (x, n) → C.fa i = some a → ∃ nn b, bd i = some (n, nn, b) ∧ DefAt T K i a n nn b) (ok : LawOk T d nn j f0 fr) (F : FunD K d.name d.qual d.params d.body d.scope [] [] fa fd)
    (says : LawSays (callF bd lv) nn j f0 fr n) : FnOk P w K mg base (L2.CX P w) (2 * lv + 3) fa fd ["script"] (spLaw K n) := by
  obtain ⟨N, s0, rest, eN, j0, jn, eb, S, B0, B1, B⟩ := ok.ex
  refine F.ok (k := 2 * lv + 2) S (fun vs H Q E h => ?_) (fun cdv A outer s H vs Q E hr h => ?_)
  · obtain ⟨a, ns, rfl, _⟩ := h; rfl
  obtain ⟨a, ns, rfl, hs, hl, hQ⟩ := h
  obtain ⟨x, y, q0, g, q1⟩ := says ns hl
  have mkC : ∀ C' : Cst, C'.K = K → C'.w = w → Lay T C' Z mg → C'.fa = C.fa → CtxS C' Z T (2 * lv + 1) (callF bd lv) (fun cls d _ H => E cls d H) N d.scope (cxOf (L2.CX P w) P w K mg base N d.qual d.scope fa cdv A outer s H E) := fun C' hK' hw' L' hfa =>
    { hK := hK'.symm, hw := hw'.symm, calm := rfl, hN := rfl, nd := S.nd, sc := rfl, room := hr, cons := L'.cons, bl := L'.bl, xcs := by
        rw [← hK']; exact L'.xcs
      fns := fun i y m hy => by
        obtain ⟨a', h1, h2⟩ := L'.fns i y m hy
        obtain ⟨fd', ps', h3, h4, h5, h6⟩ := def_ok (P := P) (base := base) hK' hw' L' (fun i x n a q1 q2 => hd i x n a q1 (by rw [← hfa]; exact q2)) lv i y m a' hy h2
        exact ⟨a', h1, h2, ⟨⟨fd', ps', h3, h4, h5⟩, h6⟩⟩
      tk := takes_of rfl rfl rfl rfl
      fnc := fun _ => rfl
      stk := rfl
      frm := rfl
      exm := by rw [← hK']; exact L'.exm
      po := passes_of (K := fun e s'' => L2.CX P w outer H s E e s'') (E₁ := fun e' s'' => L2.CX P w outer H s E e' s'') rfl }
  have cx0 := mkC C hK hw L rfl
  -- the script does not change
  have main : ∀ H1, FzL K H1 a (ns.map V.int) → wSs (cxOf (L2.CX P w) P w K mg base N d.qual d.scope fa cdv A outer s H E) d.body { nx := fun _ H' => Q .non H', rt := Q } (L2.start N [.ref a]) H1 := by
    intro H1 fz
    have rs : Reps C H1 [.lst (ns.map D.int)] [.ref a] := .one ⟨a, _, rfl, by rw [hK]; exact fz, intsRep ns⟩
    have go : GOk C none H1 := h0
    have St0 := Sta.entry (g := none) (N := N) (vs := [.ref a]) (by rw [eN]; show 1 ≤ nn; omega) rs go
    rw [eb]
    refine wSs.of (pss_cons wS.ps wSs.pss) (B0 C Z _ _ _ _ cx0 H1 _ none _ H1 St0 _ ?_)
    rw [eN, q0]
    intro σ1 H2 kp S1
    obtain ⟨p, s1, s2, s3, xs, s4, s5⟩ := S1.own (i := j) (d := .lst [.int x, .int y]) (by rw [List.getElem?_set, if_pos rfl, if_pos]; simp [entry]; omega)
    have ex : xs = [.int x, .int y] := Reps.int2 s5
    subst ex
    have hrep : ∀ (i : Nat) (sl : Slt), ((entry nn [.lst (ns.map D.int)]).set j (.s (.hnd 0)))[i]? = some sl → ∃ z, σ1[i]? = some z ∧ SRel (C.with_ p) H2 H2 sl z := fun i sl q => by
      by_cases e : j = i
      · subst e
        rw [List.getElem?_set, if_pos rfl] at q
        split at q
        · cases q; exact ⟨_, s1, _, rfl, p, by simp [Cst.with_], rfl⟩
        · cases q
      · rw [List.getElem?_set, if_neg e] at q
        obtain ⟨z, z1, z2⟩ := S1.sl i sl (by rw [List.getElem?_set, if_neg e]; exact q)
        refine ⟨z, z1, ?_⟩
        cases sl with
        | n => trivial
        | s d' => obtain ⟨v, rfl, r⟩ := z2; exact ⟨v, rfl, Rep.hd h0 _ r⟩
        | o d' =>
          exfalso
          unfold entry at q
          cases i with
          | zero => cases q
          | succ i =>
            have q : (List.replicate (nn - 1) Slt.n)[i]? = some (.o d') := q
            rw [List.getElem?_replicate] at q
            split at q <;> cases q
    have noO : ∀ (i : Nat) (d' : D), ((entry nn [.lst (ns.map D.int)]).set j (.s (.hnd 0)))[i]? ≠ some (Slt.o d') := fun i d' q => by
      by_cases e : j = i
      · subst e
        rw [List.getElem?_set, if_pos rfl] at q
        split at q <;> cases q
      · rw [List.getElem?_set, if_neg e] at q
        unfold entry at q
        cases i with
        | zero => cases q
        | succ i =>
          have q : (List.replicate (nn - 1) Slt.n)[i]? = some (.o d') := q
          rw [List.getElem?_replicate] at q
          split at q <;> cases q
    have St1 : Sta (C.with_ p) H2 ((entry nn [.lst (ns.map D.int)]).set j (.s (.hnd 0))) (some (x, y)) σ1 H2 :=
      ⟨hrep, fun i j' d' e' b q _ _ _ => absurd q (noO i d'), ⟨p, with_hd, rfl, s4⟩, .refl _ _⟩
    have L1 : Lay T (C.with_ p) Z mg := ⟨fun x d h => let ⟨u, v, h1, h2, h3⟩ := L.cons x d h; ⟨u, v, h1, h2, Rep.hd h0 _ h3⟩, L.bl, L.xcs, L.exm, L.fns⟩
    refine B1 (C.with_ p) Z _ _ _ _ (mkC (C.with_ p) hK hw L1 rfl) H2 _ (some (x, y)) σ1 H2 St1 _ ?_
    rw [q1]
    intro v H3 _ _ r
    have r : v = .bl true := r
    subst r
    exact hQ H3
  refine ⟨_, wSs.pss, ?_⟩
  rcases hs with (hs | ⟨o, hs⟩) | hs
  · intro pins s' I
    obtain ⟨od, I2⟩ := Inv.lock I hs trivial
    exact main _ (.inl ⟨od, upd_same⟩) pins s' I2
  · exact main H (.inl ⟨o, hs⟩)
  · exact main H (.inr hs)
end
end Ev
end

section
/-! EvA: len, isinstance. -/
namespace Ev
open PySem PySem.Spec L2
open PyProof.Rows hiding St

def oLen (ds : List D) : Option (D × Fl) := match ds with
  | [.lst l] => some (.int (l.length : Nat), .s)
  | [.tup l] => some (.int (l.length : Nat), .s)
  | [.str s] => if s.length ≤ LN then some (.int (s.length : Nat), .s) else none
  | [.dct kvs] => some (.int (kvs.length : Nat), .s)
  | _ => none
theorem oLen_ok : CallOk (.builtin "len") oLen := by
  intro C Z T k F W N sc X cx ds vs H g res hr hx k0 Q hQ
  unfold oLen at hr
  split at hr
  · rename_i l
    cases hr
    obtain ⟨v, _, rfl, h, rfl⟩ := hx
    obtain ⟨a, xs, rfl, s, r⟩ := h.lst
    refine wCl.of call_len_seq ⟨a, xs, rfl, .inl (by rw [cx.hK]; exact s), ?_⟩
    rw [r.length]
    exact hQ _ H (.refl _ _) k0 rfl
  · rename_i l
    cases hr
    obtain ⟨v, _, rfl, h, rfl⟩ := hx
    obtain ⟨a, xs, rfl, s, r⟩ := h.tup
    refine wCl.of call_len_seq ⟨a, xs, rfl, .inr (by rw [cx.hK]; exact s.sq), ?_⟩
    rw [r.length]
    exact hQ _ H (.refl _ _) k0 rfl
  · rename_i l
    split at hr
    · rename_i hl
      cases hr
      obtain ⟨v, _, rfl, h, rfl⟩ := hx
      obtain rfl := h.str
      refine wCl.of call_len_str ⟨_, rfl, by rw [LN_eq]; simpa [Str.length] using hl, ?_⟩
      exact hQ _ H (.refl _ _) k0 (by show V.int _ = V.int _; simp [Str.length])
    · cases hr
  · rename_i kvs
    cases hr
    obtain ⟨v, _, rfl, h, rfl⟩ := hx
    obtain ⟨a, es, rfl, ⟨o, d, dt⟩, n, hl, _, re⟩ := WRep.dct h
    intro pins s σ us I r
    obtain ⟨u, rfl, rx⟩ := vals1 r
    obtain rfl : u = Value.ref a := rx
    obtain ⟨hx, ep, hd⟩ := dt
    have raw : s.heap.DictRaw a es.toArray ep := ⟨o, d.at cx.hK I, hx, hd⟩
    have hn := line63
    have hz : es.toArray.size ≤ sizeLine := by simpa using hl
    refine PyProof.Rows.call_len_slot (n := (es.toArray.size : Nat)) raw.typeIs PySem.F.slot_dict_len (fun Q' hq => PySem.call_len_raw n raw hq) (by omega) (by omega) ⟨.int (kvs.length : Nat), H, I.tok _, ⟨s.toks + 1, by simp [re.length]⟩, hQ _ H (.refl _ _) k0 rfl⟩
  · cases hr

/-! ### isinstance(x, T) -/
def D.ty : D → Option String
  | .non => some "NoneType"
  | .bl _ => some "bool"
  | .int _ => some "int"
  | .str _ => some "str"
  | .tup _ => some "tuple"
  | .lst _ => some "list"
  | .dct _ => some "dict"
  | _ => none
def tyNames : List String := ["int", "bool", "tuple", "list", "str", "dict"]
def subTy (a b : String) : Bool := a == b || (a == "bool" && b == "int")
def D.isa (d : D) (t : String) : Bool := match d.ty with
  | some a => subTy a t
  | none => false
theorem kit_all {K : PySem.W.Frag} {d : D} {a t : String} (hd : d.ty = some a) (ht : t ∈ tyNames) : PySem.W.kitOne K (.type a) (.type t) = some (subTy a t) := by
  simp only [tyNames, List.mem_cons, List.mem_nil_iff, or_false] at ht
  cases d <;> first | cases hd | skip
  all_goals rcases ht with rfl | rfl | rfl | rfl | rfl | rfl <;> rfl
theorem kitD {C : Cst} {X : Cx} (hK : X.K = C.K) {d : D} {x : V} {u : Value} {t : String} {pins : List (Addr × Obj)} {σ : L2.St} {H : Hp} {s : Shared} (I : Inv X pins σ H s) (h : WRep C H d x) (rx : RelV x u) (ht : d.ty = some t) :
    ∃ P : Heap → Prop, PySem.W.KitX X.K u (.type t) P ∧ P s.heap ∧ u ≠ .builtin "__main__.__loader__#opaque" := by
  cases d with
  | non => cases ht; obtain rfl := h.non; exact kit_of I rx (.base .non)
  | bl b => cases ht; obtain rfl := h.bl; exact kit_of I rx (.base (.bl b))
  | int i => cases ht; obtain rfl := h.int; exact kit_of I rx (.base (.int i))
  | str z => cases ht; obtain rfl := h.str; exact kit_of I rx (.base (.str _))
  | tup l =>
    cases ht
    obtain ⟨a, xs, rfl, s', r⟩ := h.tup
    rw [← hK] at s'
    have s' := s'.sq
    rcases s' with (s' | ⟨o, s'⟩) | ⟨o, its, n, s', c, _⟩
    · exact kit_of I rx (.base (.tup s'))
    · exact kit_of I rx (.fTuple s')
    · exact kit_of I rx (.kTuple s' c)
  | lst l =>
    cases ht
    obtain ⟨a, xs, rfl, s', r⟩ := h.lst
    rw [← hK] at s'
    rcases s' with (s' | ⟨o, s'⟩) | ⟨o, its, n, s', c, _⟩
    · exact kit_of I rx (.base (.lst s'))
    · exact kit_of I rx (.base (.frz s'))
    · exact kit_of I rx (.kList s' c)
  | dct kvs =>
    cases ht
    obtain ⟨a, es, rfl, ⟨o, d, dt⟩, _⟩ := WRep.dct h
    obtain rfl : u = Value.ref a := rx
    exact ⟨_, PySem.W.kitx_dict, ⟨o, d.at hK I, dt.1.1⟩, fun z => nomatch z⟩
  | fn k => cases ht
  | hnd k => cases ht
def dIsa (t : String) (f : Den) : Den := fun F ρ g => (f F ρ g).bind fun a g1 => match a.1.ty with
  | some _ => .ok (.bl (a.1.isa t), .s) g1
  | none => .bad
section
variable {T : Tab} {N : List Str} {sc : Scope}
theorem SE.isa {e : Expr} {t : String} {x : Str} {f : Den} {p p2 pos : Pos} (hg : sc.names.lookup ("isinstance" : Str) = some .globalImplicit) (hx : sc.names.lookup x = some .globalImplicit) (hb : x ∈ bnames) (hv : bootBuiltins x = some (.type t)) (hn : x ≠ "__name__") (hd : (x == ("__debug__" : Str)) = false) (ht : t ∈ tyNames)
    (hs : notStar e = true) (h : SE T N sc e f) : SE T N sc (.Call (.Name "isinstance" p) [e, .Name x p2] [] pos) (dIsa t f) := by
  intro C Z k F W X cx H0 ρ g σ H S Q hp
  have hg' : Gl X "isinstance" := by show X.env.scope.names.lookup _ = _; rw [cx.sc]; exact hg
  have hx' : Gl X x := by show X.env.scope.names.lookup _ = _; rw [cx.sc]; exact hx
  have P : PA X [e, .Name x p2] _ := pa_cons (wE.pe (X := X) (e := e)) (pa_cons (pe_bltn (v := .ty t) hx' (cx.bl _ hb) hv rfl hn hd) pa_nil) (star_of hs)
  refine wE.of (pe_callB (wCl.cl (X := X) (f := .builtin "isinstance")) hg' (cx.bl _ (by simp [bnames])) (by rfl) P (by decide) (by decide) (star_of hs) rfl) ?_
  refine h.then cx S rlF.sh hp fun a1 g1 y H1 e1 k1 r1 S1 p1 => ?_
  cases q : a1.1.ty with
  | none => rw [q] at p1; exact p1.elim
  | some ta =>
    rw [q] at p1
    intro pins s σ' us I r
    obtain ⟨u1, u2, rfl, ry, rt⟩ := vals2 r
    obtain rfl : u2 = Value.type t := rt
    obtain ⟨P, Z', p', hx⟩ := kitD cx.hK I (FRep.w r1) ry q
    refine PySem.W.kia_one Z' I.kIn p' (kit_all q ht) hx fun tk => ⟨.bl (a1.1.isa t), H1, I.tok tk, ?_, p1 _ H1 (.refl _ _) k1 rfl⟩
    show _ = _
    unfold D.isa
    rw [q]
end
end Ev
end

section
/-! EvB: sorted. -/
namespace SrtE
open PySem PySem.Spec PyProof.Rows SrtO PySem.Calls
section
variable {prog : Program} {w : World} {A : Around} {E : Value → Shared → Prop} {s : Shared}
/-- sorted(v), whatever v is, once its items are got -/
theorem sorted_from {v : Value} {vs : List Value} {ltv : Value → Value → Bool} {Q : Value → Shared → Prop} (O : Swo ltv) (hz : vs.length ≤ sizeLine)
    (hcol : ∀ Q' : List Value → Shared → Prop, (∀ (h' : Heap) (tk : Nat), (∀ b o, s.heap.get? b = some o → h'.get? b = some o) → Q' vs { s with heap := h', toks := tk }) → wpAny (model prog w) A.in1 (collect v) Q' E s)
    (hS : 2 ≤ vs.length → ∀ (h1 : Heap) (a : Addr) (tk : Nat), h1.get? a = some (seqObj "list" vs.toArray 0) → (∀ b o, s.heap.get? b = some o → b ≠ a ∧ h1.get? b = some o) → SortableO prog w A.in1.in1 { s with heap := h1, toks := tk } a vs ltv)
    (h : ∀ (h1 h' : Heap) (tk : Nat) (out : List Value), Srtd ltv out → Stb ltv out vs → (∀ b o, s.heap.get? b = some o → h1.get? b = some o) → (∀ b o, h1.get? b = some o → h'.get? b = some o) → (∃ n, h'.get? h1.objs.size = some (seqObj "list" out.toArray n)) → Q (.ref h1.objs.size) { s with heap := h', toks := tk }) :
    wpAny (model prog w) A (call (.builtin "sorted") [v]) Q E s := by
  refine call_function_entry kind_sorted plain_sorted entry_sorted (args_sorted1 _) ?_
  unfold Builtin.«sorted»
  refine wpAny_bind (m := checkCount "sorted" 1 1 _) (wpAny_pure ?_)
  refine wpAny_bind (hcol _ fun h1 tk kp => ?_)
  refine wpAny_bind (wpAny_newList ?_ hz)
  have at1 : (h1.push (seqObj "list" vs.toArray 0)).get? h1.objs.size = some (seqObj "list" vs.toArray 0) := Heap.get?_push_size _ rfl
  have kp1 : ∀ b o, s.heap.get? b = some o → b ≠ h1.objs.size ∧ (h1.push (seqObj "list" vs.toArray 0)).get? b = some o := fun b o q =>
    ⟨Nat.ne_of_lt (Heap.lt_size (kp b o q)), Heap.get?_push_of_some _ (kp b o q)⟩
  show wpAny _ _ _ _ _ { s with heap := h1.push (seqObj "list" vs.toArray 0), toks := tk }
  refine wpAny_bind (wpAny_holding (wpAny_call_entry slot_list_sort ⟨_, at1, rfl⟩ entry_list_sort (list_sort_ord O at1 hz (fun h2 => hS h2 _ _ tk at1 kp1) fun out hs hb => ⟨_, rfl, ?_⟩) (args_list_sort _)))
  refine wpAny_pure ⟨_, rfl, h h1 _ tk out hs hb kp (fun b o q => ?_) (sortedHeap_at at1)⟩
  have n1 : b ≠ h1.objs.size := Nat.ne_of_lt (Heap.lt_size q)
  have q1 : (h1.push (seqObj "list" vs.toArray 0)).get? b = some o := Heap.get?_push_of_some _ q
  rw [sortedHeap_old n1 (Heap.lt_size q1)]
  exact q1
end
end SrtE
namespace Ev
open PySem PySem.Spec L2
open PyProof.Rows hiding St

/-- what is got by walking -/
def D.items : D → Option (List D)
  | .lst l => some l
  | .tup l => some l
  | .dct kvs => some (kvs.map (·.1))
  | _ => none
theorem keysOf {C : Cst} {H : Hp} : ∀ {kvs : List (D × D)} {es : List DictEntry}, RepE C H kvs es → ∃ xs, Vals xs (es.map (·.key)) ∧ Reps C H (kvs.map (·.1)) xs
  | [], _, h => by rw [show _ = [] from h]; exact ⟨[], .nil, rfl⟩
  | (k, v) :: r, _, h => by
    obtain ⟨e, es', x, y, rfl, hs, r1, h1, r2, h2, t⟩ := h
    obtain ⟨xs, a, b⟩ := keysOf t
    exact ⟨x :: xs, .cons r1 a, Reps.cons h1 b⟩
theorem collectD {C : Cst} {Z : Xcs} {T : Tab} {k : Nat} {F : FT} {W : WX} {N : List Str} {sc : Scope} {X : Cx} (cx : Ctx C Z T k F W N sc X) {d : D} {l : List D} {x : V} {v : Value} {pins : List (Addr × Obj)} {σ : L2.St} {H : Hp} {s : Shared} (I : Inv X pins σ H s) (h : WRep C H d x) (rx : RelV x v) (hd : d.items = some l) :
    ∃ vs xs, Vals xs vs ∧ Reps C H l xs ∧ vs.length ≤ sizeLine ∧ ∀ (A : Around) (E : Value → Shared → Prop), A.handled = none → ∀ Q' : List Value → Shared → Prop, (∀ (h' : Heap) (tk : Nat), (∀ b o, s.heap.get? b = some o → h'.get? b = some o) → Q' vs { s with heap := h', toks := tk }) →
      wpAny (model X.prog X.w) A (collect v) Q' E s := by
  cases d with
  | lst l0 =>
    cases hd
    obtain ⟨a, xs, rfl, hs, r⟩ := h.lst
    obtain rfl : v = Value.ref a := rx
    rw [← cx.hK] at hs
    obtain ⟨its, rv, p, hz⟩ := I.list hs
    obtain ⟨o, ho, hc, n, hd⟩ := p.isList
    refine ⟨its, xs, rv, r, by rw [← rv.length]; exact hz, fun A E hh Q' q => ?_⟩
    have q' := wpAny_collect_seq (Q := Q') (A := A) (E := E) (prog := X.prog) (w := X.w) (s := s) a (.inl rfl) ho hc hd (fun h' kp => q h' s.toks kp) (by simpa [← rv.length] using hz)
    exact q'
  | tup l0 =>
    cases hd
    obtain ⟨a, xs, rfl, hs, r⟩ := h.tup
    obtain rfl : v = Value.ref a := rx
    rw [← cx.hK] at hs
    obtain ⟨its, rv, p, hz⟩ := I.tuple hs.sq
    obtain ⟨o, ho, hc, n, hd⟩ := p
    refine ⟨its, xs, rv, r, by rw [← rv.length]; exact hz, fun A E hh Q' q => ?_⟩
    exact wpAny_collect_seq (Q := Q') (A := A) (E := E) (prog := X.prog) (w := X.w) (s := s) a (.inr rfl) ho hc hd (fun h' kp => q h' s.toks kp) (by simpa [← rv.length] using hz)
  | dct kvs =>
    cases hd
    obtain ⟨a, es, rfl, ⟨o, d, dt⟩, n, hz, _, re⟩ := WRep.dct h
    obtain rfl : v = Value.ref a := rx
    obtain ⟨hx, ep, hdt⟩ := dt
    have raw : s.heap.DictRaw a es.toArray ep := ⟨o, d.at cx.hK I, hx, hdt⟩
    obtain ⟨xs, rv, r⟩ := keysOf re
    have hl : (es.map (·.key)).length ≤ sizeLine := by rw [List.length_map]; exact hz
    refine ⟨es.map (·.key), xs, rv, r, hl, fun A E hh Q' q => ?_⟩
    refine PySem.W.kdu_collect (PySem.KdlSrc.rawDict n) hh raw (by simpa using hz) fun h' tk acc kp it => ?_
    have e : acc.toList = es.map (·.key) := by
      apply List.ext_getElem?
      intro j
      rw [Array.getElem?_toList]
      cases q1 : acc[j]? with
      | none =>
        rw [Array.getElem?_eq_none_iff] at q1
        rw [List.getElem?_eq_none]
        have := it.1
        simp at this ⊢
        omega
      | some v =>
        obtain ⟨hi, rfl⟩ := it.2 j v q1
        have hi' : j < es.length := by simpa using hi
        rw [List.getElem?_map, List.getElem?_eq_getElem hi']
        simp
    rw [e]
    exact q h' tk kp
  | _ => cases hd

/-! ### sorted(x), ints -/
def insI (n : Int) : List Int → List Int
  | [] => [n]
  | m :: r => if n ≤ m then n :: m :: r else m :: insI n r
def isort : List Int → List Int
  | [] => []
  | n :: r => insI n (isort r)
theorem insI_perm (n : Int) : ∀ l, (insI n l).Perm (n :: l)
  | [] => List.Perm.refl _
  | m :: r => by
    unfold insI
    split
    · exact List.Perm.refl _
    · exact ((insI_perm n r).cons m).trans (List.Perm.swap n m r)
theorem isort_perm : ∀ l, (isort l).Perm l
  | [] => List.Perm.refl _
  | n :: r => (insI_perm n _).trans ((isort_perm r).cons n)
theorem insI_sorted (n : Int) : ∀ {l : List Int}, l.Pairwise (· ≤ ·) → (insI n l).Pairwise (· ≤ ·)
  | [], _ => List.pairwise_singleton _ _
  | m :: r, h => by
    obtain ⟨h1, h2⟩ := List.pairwise_cons.mp h
    unfold insI
    split
    · rename_i c
      refine List.pairwise_cons.mpr ⟨fun a ha => ?_, h⟩
      rcases List.mem_cons.mp ha with rfl | ha
      · exact c
      · exact Int.le_trans c (h1 a ha)
    · rename_i c
      refine List.pairwise_cons.mpr ⟨fun a ha => ?_, insI_sorted n h2⟩
      rcases List.mem_cons.mp ((insI_perm n r).mem_iff.mp ha) with rfl | ha
      · omega
      · exact h1 a ha
theorem isort_sorted : ∀ l, (isort l).Pairwise (· ≤ ·)
  | [] => List.Pairwise.nil
  | n :: r => insI_sorted n (isort_sorted r)
theorem sorted_uniq {l m : List Int} (p : l.Perm m) (h1 : l.Pairwise (· ≤ ·)) (h2 : m.Pairwise (· ≤ ·)) : l = m := p.eq_of_pairwise (fun a b _ _ h h' => Int.le_antisymm h h') h1 h2
def oSortI (ds : List D) : Option (D × Fl) := match ds with
  | [d] => (d.items.bind D.ints).map fun ns => (.lst ((isort ns).map .int), .f)
  | _ => none
theorem oSortI_ok : CallOk (.builtin "sorted") oSortI := by
  intro C Z T k F W N sc X cx ds vs H g res hr hx k0 Q hQ
  unfold oSortI at hr
  split at hr
  · rename_i d
    obtain ⟨x, _, rfl, h, rfl⟩ := hx
    obtain ⟨ns, hn, rfl⟩ := Option.map_eq_some_iff.mp hr
    obtain ⟨l, hl, hns⟩ := Option.bind_eq_some_iff.mp hn
    intro pins s σ us I r
    obtain ⟨u, rfl, ru⟩ := vals1 r
    obtain ⟨vs, xs, rv, rr, hz, col⟩ := collectD cx I h ru hl
    have ex : xs = ns.map V.int := ints_of hns rr
    rw [ex] at rv
    have hi := rv.ints
    refine SrtE.sorted_from SrtO.swo_int hz (fun Q' q => col X.A.in1 X.xe (I.ok.hd cx.calm) Q' q) (fun h2 h1 a tk _ _ => SrtO.ints_sortable hi h2) fun h1 h' tk out hs hb kp kp' at_ => ?_
    obtain ⟨k1, k2, k3⟩ := SrtO.ints_out hi hs hb
    have e : out.map SrtO.iv = isort ns := sorted_uniq (k2.trans (isort_perm ns).symm) k3 (isort_sorted ns)
    rw [e] at k1
    have I1 : Inv X pins σ H { s with heap := h1, toks := tk } := I.kept (t' := tk) kp
    have hlen : ((isort ns).map V.int).length ≤ sizeLine := by
      rw [List.length_map, (isort_perm ns).length_eq, ← hi.length]
      exact hz
    obtain ⟨n, at_⟩ := at_
    have nw := I1.hok.fresh (Nat.le_refl _)
    have I2 := I1.laid (o := .lst ((isort ns).map V.int)) (t' := tk) kp' (Nat.le_refl _) ⟨hlen, out, n, vals_of_ints k1, at_⟩
    exact ⟨.ref _, _, I2, rfl, hQ _ _ (Ext.new nw) (k0.upd (k0.no nw)) ⟨_, rfl, nw, k0.no nw, _, upd_same, Reps.of_ints⟩⟩
  · cases hr
end Ev
end

section
/-! EvC: {k: v, ..}, str(x). -/
namespace Ev
open PySem PySem.Spec L2
open PyProof.Rows hiding St

/-! ### dict displays -/
def RepP (C : Cst) (H : Hp) : List (D × D) → List (V × V) → Prop
  | [], ps => ps = []
  | (k, v) :: r, ps => ∃ x y qs, ps = (x, y) :: qs ∧ Rep C H k x ∧ Rep C H v y ∧ RepP C H r qs
theorem RepP.keep {C : Cst} {H H' : Hp} (kp : Keep H H') : ∀ {l : List (D × D)} {ps : List (V × V)}, RepP C H l ps → RepP C H' l ps
  | [], _, h => h
  | (k, v) :: r, _, h => by
    obtain ⟨x, y, qs, e, a, b, c⟩ := h
    exact ⟨x, y, qs, e, Rep.keep kp _ a, Rep.keep kp _ b, RepP.keep kp c⟩
inductive PVals : List (V × V) → List (Value × Value) → Prop
  | nil : PVals [] []
  | cons {x y : V} {u v : Value} {ps : List (V × V)} {vs : List (Value × Value)} (r : RelV x u) (q : RelV y v) (t : PVals ps vs) : PVals ((x, y) :: ps) ((u, v) :: vs)
def rlP (C : Cst) : Rl (List (D × D)) (List (V × V)) := fun _ H' a v => RepP C H' a v
theorem rlP.sh {C : Cst} : Shift C (rlP C) := ⟨fun _ _ _ _ _ _ h => h⟩
def wP (X : Cx) (keys : List (Option Expr)) (values : List Expr) (pos : Pos) : L2.St → Hp → (List (V × V) → Hp → Prop) → Prop := fun σ H Q => ∀ pins s, Inv X pins σ H s →
  wpAny (model X.prog X.w) X.A (evalPairs (pairTrees keys values X.env pos)) (fun vs s' => ∃ ps H', Inv X pins σ H' s' ∧ PVals ps vs ∧ Q ps H') X.xe s
abbrev SP (T : Tab) (N : List Str) (sc : Scope) (keys : List (Option Expr)) (values : List Expr) (pos : Pos) (f : FT → Env' → G → R (List (D × D))) : Prop := Snd T N sc rlP (fun X => wP X keys values pos) f
def pNil : FT → Env' → G → R (List (D × D)) := fun _ _ g => .ok [] g
def pCons (fk fv : Den) (r : FT → Env' → G → R (List (D × D))) : FT → Env' → G → R (List (D × D)) := fun F ρ g => (dFz fk F ρ g).bind fun k g1 => (dFz fv F ρ g1).bind fun v g2 => (r F ρ g2).bind fun l g3 => .ok ((k.1, v.1) :: l) g3
def putAll : List (D × D) → List (D × D) → Option (List (D × D))
  | acc, [] => some acc
  | acc, (k, v) :: r => if D.fit acc k = true then putAll (D.put acc k v) r else none
def dDct (f : FT → Env' → G → R (List (D × D))) : Den := fun F ρ g => (f F ρ g).bind fun ps g1 => match putAll [] ps with
  | some kvs => .ok (.dct kvs, .f) g1
  | none => .bad
section
variable {T : Tab} {N : List Str} {sc : Scope}
theorem SP.nil {pos : Pos} : SP T N sc [] [] pos pNil := fun C Z k F W X cx H0 ρ g σ H S Q hp pins s I => evalPairs_nil ⟨[], H, I, .nil, hp [] H (.refl _ _) S.go (show RepP C H [] [] from rfl)⟩
theorem SP.cons {e1 e2 : Expr} {keys : List (Option Expr)} {values : List Expr} {pos : Pos} {fk fv : Den} {r : FT → Env' → G → R (List (D × D))} (h1 : SE T N sc e1 fk) (h2 : SE T N sc e2 fv) (hr : SP T N sc keys values pos r) : SP T N sc (some e1 :: keys) (e2 :: values) pos (pCons fk fv r) := by
  intro C Z k F W X cx H0 ρ g σ H S Q hp pins s I
  show wpAny _ _ (evalPairs ((eval e1 X.env, do let x ← eval e2 X.env; standAt pos; pure x) :: pairTrees keys values X.env pos)) _ _ _
  refine evalPairs_cons ?_
  have w : wE X e1 σ H fun x H1 => wE X e2 σ H1 fun y H2 => wP X keys values pos σ H2 fun ps H3 => Q ((x, y) :: ps) H3 := by
    refine h1.thenZ cx S rlP.sh hp fun kd g1 x H1 e1' k1 r1 S1 p1 => ?_
    refine h2.thenZ cx S1 rlP.sh p1 fun vd g2 y H2 e2' k2 r2 S2 p2 => ?_
    refine hr.then cx S2 rlP.sh p2 fun l g3 ps H3 e3 k3 r3 S3 p3 => ?_
    exact p3 _ H3 (.refl _ _) k3 ⟨x, y, ps, rfl, Rep.keep ((k1.keep e2').trans (k2.keep e3)) _ r1, Rep.keep (k2.keep e3) _ r2, r3⟩
  refine thn (w pins s I) fun u s1 ⟨x, H1, I1, rx, w1⟩ => ?_
  refine wpAny_bind (thn (w1 pins s1 I1) fun v s2 ⟨y, H2, I2, ry, w2⟩ => ?_)
  refine wpAny_bind (wpAny_standAt (wpAny_pure ?_))
  exact thn (w2 pins s2 I2) fun vs s3 ⟨ps, H3, I3, rs, q⟩ => ⟨_, H3, I3, .cons rx ry rs, q⟩
theorem storeD {C : Cst} {Z : Xcs} {k : Nat} {F : FT} {W : WX} {X : Cx} (cx : Ctx C Z T k F W N sc X) {pins : List (Addr × Obj)} {σ : L2.St} {a : Addr} {Q : PUnit → Shared → Prop} :
    ∀ {ps : List (V × V)} {vs : List (Value × Value)} {l acc kvs : List (D × D)} {es : List DictEntry} {o : Obj} {H : Hp} {s : Shared}, PVals ps vs → RepP C H l ps → putAll acc l = some kvs → acc.length + l.length ≤ 1000 → Inv X pins σ H s → H a = some (rawD a o) → Dat o es → DOk acc → RepE C H acc es →
      (∀ es' o' H' s', Inv X pins σ H' s' → H' a = some (rawD a o') → (∀ b, b ≠ a → H' b = H b) → Dat o' es' → es'.length ≤ sizeLine → DOk kvs → RepE C H' kvs es' → Q PUnit.unit s') → wpAny (model X.prog X.w) X.A (storeAll a vs) Q X.xe s := by
  intro ps
  induction ps with
  | nil =>
    intro vs l acc kvs es o H s pv rp hp hn I ha dt ok re fin
    cases pv
    cases l with
    | cons p r => obtain ⟨k, v⟩ := p; obtain ⟨x, y, qs, e, _⟩ := rp; cases e
    | nil =>
      cases hp
      unfold storeAll
      rw [List.forIn_nil]
      refine wpAny_pure (fin es o H s I ha (fun _ _ => rfl) dt ?_ ok re)
      rw [re.length, LN_eq]
      have : acc.length ≤ 1000 := by omega
      exact Nat.le_trans this (by decide)
  | cons p ps ih =>
    intro vs l acc kvs es o H s pv rp hp hn I ha dt ok re fin
    cases pv with
    | cons rx ry pv =>
      rename_i x y u v vs
      cases l with
      | nil => exact absurd rp (by simp [RepP])
      | cons q l =>
        obtain ⟨kd, vd⟩ := q
        obtain ⟨x', y', qs, e, r1, r2, r3⟩ := rp
        cases e
        unfold putAll at hp
        split at hp
        · rename_i f
          unfold storeAll
          rw [List.forIn_cons]
          rw [List.length_cons] at hn
          have hz : es.length < sizeLine := by rw [re.length, LN_eq]; exact Nat.lt_of_le_of_lt (show acc.length ≤ 1000 by omega) (by decide)
          refine wpAny_bind (wpAny_bind (dd_dset cx.un9 cx.hK cx.hw I ha dt hz ok re f r1 rx ry r2 fun es' o' s' I' d' hz' re' => wpAny_pure ?_))
          have kp : Keep H (L2.upd H a (rawD a o')) := raw_keep ha
          refine ih pv (r3.keep kp) hp ?_ I' upd_same d' (ok.put f) re' fun es2 o2 H2 s2 I2 a1 a2 a3 a4 a5 a6 => ?_
          · have := put_length acc kd vd; omega
          · exact fin es2 o2 H2 s2 I2 a1 (fun b hb => by rw [a2 b hb, upd_ne hb]) a3 a4 a5 a6
        · cases hp
theorem SE.dct {keys : List (Option Expr)} {values : List Expr} {pos : Pos} {f : FT → Env' → G → R (List (D × D))} (hall : keys.all (·.isSome) = true) (hl : keys.length = values.length) (h0 : keys ≠ []) (hlen : keys.length ≤ 15) (hf : ∀ F ρ g l g', f F ρ g = .ok l g' → l.length ≤ 15) (h : SP T N sc keys values pos f) : SE T N sc (.Dict keys values pos) (dDct f) := by
  intro C Z k F W X cx H0 ρ g σ H S Q hp pins s I
  have hn := I.hok.fresh (Nat.le_refl s.heap.objs.size)
  have hsys : (s.heap.objs.size == sysModules) = false := beq_eq_false_iff_ne.mpr (Ne.symm (Nat.ne_of_lt I.big))
  refine wpAny_Dict_any hall hl h0 hlen ?_
  have nA := S.go.no hn
  have I0 : Inv X pins σ (L2.upd H s.heap.objs.size (rawD s.heap.objs.size { cls := .type "dict", data := .dict #[] })) { s with heap := s.heap.push { cls := .type "dict", data := .dict #[] } } :=
    I.laid (a := s.heap.objs.size) (t' := s.toks) (fun _ _ q => Heap.get?_push_of_some _ q) (Nat.le_refl _) raw_empty
  have e0 : Ext C H (L2.upd H s.heap.objs.size (rawD s.heap.objs.size { cls := .type "dict", data := .dict #[] })) := Ext.new hn
  have k0 := S.go.upd (o := rawD s.heap.objs.size { cls := .type "dict", data := .dict #[] }) nA
  have hh := h C Z k F W X cx H0 ρ g σ _ (S.ext e0 k0)
  unfold dDct at hp
  cases q : f F ρ g with
  | bad => rw [q] at hp; exact hp.elim
  | exc c xs g' =>
    rw [q] at hp hh
    have := hh (fun _ _ => False) (fun cv od H' e kk x => hp cv od H' (e0.trans e) kk x) pins _ I0
    exact thn this fun vs s1 ⟨ps, H1, I1, pv, z⟩ => z.elim
  | ok l g1 =>
    rw [q] at hp hh
    dsimp only [R.bind] at hp
    cases qa : putAll [] l with
    | none => rw [qa] at hp; exact hp.elim
    | some kvs =>
      rw [qa] at hp
      have := hh (fun ps H1 => Ext C (L2.upd H s.heap.objs.size (rawD s.heap.objs.size { cls := .type "dict", data := .dict #[] })) H1 ∧ GOk C g1 H1 ∧ RepP C H1 l ps) (fun v H' e kk rr => ⟨e, kk, rr⟩) pins _ I0
      refine thn this fun vs s1 ⟨ps, H1, I1, pv, e1, k1, rp⟩ => ?_
      have ll := hf F ρ g l g1 q
      refine storeD cx pv rp qa (by simp; omega) I1 (e1 _ _ nA upd_same) dat_empty .nil (show RepE C H1 [] [] from rfl) fun es' o' H2 s2 I2 a1 a2 a3 a4 a5 a6 => ?_
      have e2 : Ext C H H2 := fun b u nb hb => by
        have ne : b ≠ s.heap.objs.size := ne_of_none hb hn
        rw [a2 b ne]
        exact e1 _ _ nb (by rw [upd_ne ne]; exact hb)
      have k2 : GOk C g1 H2 := by
        cases g1 with
        | none => exact k1
        | some z =>
          obtain ⟨x, y⟩ := z
          obtain ⟨c, c1, c2, c3⟩ := k1
          refine ⟨c, c1, c2, ?_⟩
          rw [a2 c (fun z => nA 0 (by rw [c2, z]))]
          exact c3
      exact ⟨.ref s.heap.objs.size, H2, I2, rfl, hp _ H2 e2 k2 ⟨_, rfl, hn, nA, es', o', a1, a3, hsys, a4, a5, a6⟩⟩

/-! ### str(x) -/
def oStr (ds : List D) : Option (D × Fl) := match ds with
  | [.str s] => some (.str s, .s)
  | _ => none
theorem oStr_ok : CallOk (.type "str") oStr := by
  intro C Z T k F W N sc X cx ds vs H g res hr hx k0 Q hQ
  unfold oStr at hr
  split at hr
  · rename_i z
    cases hr
    obtain ⟨v, _, rfl, h, rfl⟩ := hx
    obtain rfl := h.str
    exact wCl.of SkE.call_str_str ⟨_, rfl, hQ _ H (.refl _ _) k0 rfl⟩
  · cases hr
end
end Ev
end

section
/-! EvD: dict(pairs), d.update(pairs). -/
namespace Ev
open PySem PySem.Spec L2
open PyProof.Rows hiding St

/-- pairs, as data -/
def pairsD : List D → Option (List (D × D))
  | [] => some []
  | .tup [k, v] :: r => (pairsD r).map ((k, v) :: ·)
  | _ :: _ => none
/-- a key and a value, read -/
def PV (C : Cst) (H : Hp) (d : D × D) (p : Value × Value) : Prop := ∃ x y, RelV x p.1 ∧ Rep C H d.1 x ∧ RelV y p.2 ∧ Rep C H d.2 y
section
variable {C : Cst} {X : Cx} {pins : List (Addr × Obj)} {σ : L2.St} {H : Hp} {s : Shared}
theorem pair_items (hK : X.K = C.K) (I : Inv X pins σ H s) : ∀ {l : List D} {ps : List (D × D)} {xs : List V} {vs : List Value}, pairsD l = some ps → Reps C H l xs → Vals xs vs → ∃ (as : List Addr) (qs : List (Value × Value)), vs = as.map Value.ref ∧ as.length = qs.length ∧ Paired (PV C H) ps qs ∧ ∀ (j : Nat) (k v : Value), qs[j]? = some (k, v) → ∃ a, as[j]? = some a ∧ PairAt s.heap a k v
  | [], ps, _, _, hp, r, q => by
    rw [show _ = [] from r] at q
    cases q
    cases hp
    exact ⟨[], [], rfl, rfl, .nil, fun j k v h => by simp at h⟩
  | d :: l, ps, _, _, hp, r, q => by
    obtain ⟨x, ys, rfl, r1, rs⟩ := r
    cases q with
    | cons q1 q2 =>
      have : ∃ k v, d = .tup [k, v] := by
        cases d with
        | tup m =>
          match m, hp with
          | [k, v], _ => exact ⟨k, v, rfl⟩
          | [], hp => exact absurd hp (by simp [pairsD])
          | [_], hp => exact absurd hp (by simp [pairsD])
          | _ :: _ :: _ :: _, hp => exact absurd hp (by simp [pairsD])
        | _ => exact absurd hp (by simp [pairsD])
      obtain ⟨k, v, rfl⟩ := this
      obtain ⟨ps', hp', rfl⟩ := Option.map_eq_some_iff.mp (show (pairsD l).map ((k, v) :: ·) = some ps from hp)
      obtain ⟨as, qs, rfl, h2, h3, h4⟩ := pair_items hK I hp' rs q2
      obtain ⟨a, zs, rfl, sq, z⟩ := r1
      obtain rfl := (show _ = Value.ref a from q1)
      obtain ⟨y1, _, rfl, z1, y2, _, rfl, z2, z3⟩ := z
      cases z3
      obtain ⟨its, rv, p, _⟩ := I.tuple (show SqT X.K H a _ by rw [hK]; exact sq.sq)
      obtain ⟨u1, u2, rfl, ru1, ru2⟩ := vals2 rv
      refine ⟨a :: as, (u1, u2) :: qs, rfl, by simp [h2], .cons ⟨y1, y2, ru1, z1, ru2, z2⟩ h3, fun j k' v' h => ?_⟩
      cases j with
      | zero => simp at h; obtain ⟨rfl, rfl⟩ := h; exact ⟨a, rfl, .inl (show s.heap.IsTuple a #[u1, u2] from p)⟩
      | succ j => obtain ⟨a', g1, g2⟩ := h4 j k' v' (by simpa using h); exact ⟨a', by simpa using g1, g2⟩
/-- the keys of putAll -/
theorem putAll_fit : ∀ {l acc kvs : List (D × D)}, putAll acc l = some kvs → DOk acc → DOk kvs ∧ ∀ p ∈ l, p.1.kok = true ∧ p.1.key.depth ≤ 8
  | [], acc, kvs, h, ok => by cases h; exact ⟨ok, fun p hp => absurd hp List.not_mem_nil⟩
  | (k, v) :: r, acc, kvs, h, ok => by
    unfold putAll at h
    split at h
    · rename_i f
      obtain ⟨a, b⟩ := putAll_fit h (ok.put f)
      refine ⟨a, fun p hp => ?_⟩
      rcases List.mem_cons.mp hp with rfl | hp
      · exact fit_kok f
      · exact b p hp
    · cases h
theorem put_ne (acc : List (D × D)) (k v : D) : D.put acc k v ≠ [] := by
  unfold D.put
  split
  · rename_i h
    intro e
    rw [List.map_eq_nil_iff] at e
    subst e
    simp at h
  · simp
theorem put_head {acc : List (D × D)} {k v : D} (m : ∀ p ∈ acc, p.1.isTup = k.isTup) : ∀ p ∈ D.put acc k v, p.1.isTup = k.isTup := by
  intro p hp
  unfold D.put at hp
  split at hp
  · obtain ⟨q, hq, rfl⟩ := List.mem_map.mp hp
    have := m q hq
    split <;> exact this
  · rcases List.mem_append.mp hp with hp | hp
    · exact m p hp
    · rw [List.mem_singleton] at hp; subst hp; rfl
theorem putAll_mode {b : Bool} : ∀ {l acc kvs : List (D × D)}, putAll acc l = some kvs → (acc ≠ [] ∨ ∃ p r, l = p :: r ∧ p.1.isTup = b) → (∀ p ∈ acc, p.1.isTup = b) → (∀ p ∈ l, p.1.isTup = b) ∧ ∀ p ∈ kvs, p.1.isTup = b
  | [], acc, kvs, h, _, m => by cases h; exact ⟨fun p hp => absurd hp List.not_mem_nil, m⟩
  | (k, v) :: r, acc, kvs, h, ne, m => by
    unfold putAll at h
    split at h
    · rename_i f
      have hk : k.isTup = b := by
        rcases ne with ne | ⟨p, r', e, hp⟩
        · cases acc with
          | nil => exact absurd rfl ne
          | cons p0 _ =>
            unfold D.fit at f
            simp only [Bool.and_eq_true, beq_iff_eq] at f
            rw [← f.2]; exact m p0 List.mem_cons_self
        · cases e; exact hp
      obtain ⟨a1, a2⟩ := putAll_mode (b := b) h (.inl (put_ne _ _ _)) (by rw [← hk]; exact put_head fun p hp => by rw [m p hp, hk])
      refine ⟨fun p hp => ?_, a2⟩
      rcases List.mem_cons.mp hp with rfl | hp
      · exact hk
      · exact a1 p hp
    · cases h
theorem LP.putAll : ∀ {l acc kvs : List (D × D)} {qs : List (Value × Value)} {ls : List (Leaf × Value)}, Ev.putAll acc l = some kvs → DOk acc → (∀ p ∈ acc, p.1.isTup = false) → (∀ p ∈ l, p.1.isTup = false) → Paired (PV C H) l qs → LP C H acc ls →
    ∃ ms : List (Leaf × Value), ms = (l.zip qs).map (fun z => (z.1.1.leaf, z.2.2)) ∧ LP C H kvs (merged ls ms)
  | [], acc, kvs, _, ls, h, _, _, _, .nil, lp => by cases h; exact ⟨[], rfl, lp⟩
  | (k, v) :: r, acc, kvs, _, ls, h, ok, m, m2, .cons (b := q) pv t, lp => by
    unfold Ev.putAll at h
    split at h
    · rename_i f
      obtain ⟨x, y, r1, r2, r3, r4⟩ := pv
      have hk : k.isTup = false := m2 (k, v) List.mem_cons_self
      have lp' := lp.put (fit_kok f).1 hk r3 r4 ok.kok m
      have m' : ∀ p ∈ D.put acc k v, p.1.isTup = false := by rw [← hk]; exact put_head fun p hp => by rw [m p hp, hk]
      obtain ⟨ms, e, g⟩ := LP.putAll h (ok.put f) m' (fun p hp => m2 p (List.mem_cons_of_mem _ hp)) t lp'
      exact ⟨(k.leaf, q.2) :: ms, by rw [e]; rfl, g⟩
    · cases h
theorem TP.putAll : ∀ {l acc kvs : List (D × D)} {qs : List (Value × Value)} {ls : List (NestedKey × Addr × Value)}, Ev.putAll acc l = some kvs → DOk acc → (∀ p ∈ l, p.1.isTup = true) → Paired (PV C H) l qs → TP C H acc ls →
    ∃ ms : List (NestedKey × Addr × Value), ms.length = qs.length ∧ (∀ (j : Nat) (k v : Value), qs[j]? = some (k, v) → ∃ (n : NestedKey) (b : Addr), ms[j]? = some (n, b, v) ∧ k = Value.ref b) ∧ (∀ z ∈ ms, ∃ p ∈ l, z.1 = p.1.key ∧ Rep C H p.1 (.ref z.2.1)) ∧ TP C H kvs (storedAllH ls ms)
  | [], acc, kvs, _, ls, h, _, _, .nil, tp => by cases h; exact ⟨[], rfl, fun j k v h => by simp at h, fun z hz => absurd hz List.not_mem_nil, tp⟩
  | (k, v) :: r, acc, kvs, _, ls, h, ok, m2, .cons (b := q) pv t, tp => by
    unfold Ev.putAll at h
    split at h
    · rename_i f
      obtain ⟨x, y, r1, r2, r3, r4⟩ := pv
      have hk : k.isTup = true := m2 (k, v) List.mem_cons_self
      obtain ⟨b, rfl⟩ := key_ref hk r2
      have eq1 : q.1 = Value.ref b := r1
      have tp' := tp.put (fit_kok f).1 r2 r3 r4 ok.kok
      obtain ⟨ms, e, g, g2, g3⟩ := TP.putAll h (ok.put f) (fun p hp => m2 p (List.mem_cons_of_mem _ hp)) t tp'
      refine ⟨(k.key, b, q.2) :: ms, by simp [e], fun j k' v' hj => ?_, fun z hz => ?_, g3⟩
      · cases j with
        | zero =>
          simp at hj
          subst hj
          exact ⟨k.key, b, rfl, eq1⟩
        | succ j =>
          obtain ⟨n, b', h1, h2⟩ := g j k' v' (by simpa using hj)
          exact ⟨n, b', by simpa using h1, h2⟩
      · rcases List.mem_cons.mp hz with rfl | hz
        · exact ⟨(k, v), List.mem_cons_self, rfl, r2⟩
        · obtain ⟨p, hp, h3⟩ := g2 z hz
          exact ⟨p, List.mem_cons_of_mem _ hp, h3⟩
    · cases h
/-- a new dict at the heap's end -/
theorem raw_laid {h' : Heap} {tk : Nat} {o : Obj} (I : Inv X pins σ H s) (kp : ∀ b u, s.heap.get? b = some u → h'.get? b = some u) (e : h'.get? s.heap.objs.size = some o) :
    Inv X pins σ (upd H s.heap.objs.size (rawD s.heap.objs.size o)) { s with heap := h', toks := tk } :=
  I.laid (t' := tk) kp (Nat.le_refl _) ⟨e, ⟨o, e⟩, fun h1 h2 e k => k _ e⟩
theorem sys_new (I : Inv X pins σ H s) : (s.heap.objs.size == sysModules) = false := beq_eq_false_iff_ne.mpr (Ne.symm (Nat.ne_of_lt I.big))
theorem paired_at {α β : Type} {G : α → β → Prop} : ∀ {l : List α} {m : List β}, Paired G l m → ∀ (j : Nat) (b : β), m[j]? = some b → ∃ a, l[j]? = some a ∧ G a b
  | _, _, .nil, j, b, h => by simp at h
  | _, _, .cons g t, 0, b, h => by simp at h; subst h; exact ⟨_, rfl, g⟩
  | _, _, .cons g t, j + 1, b, h => by obtain ⟨a, h1, h2⟩ := paired_at t j b (by simpa using h); exact ⟨a, by simpa using h1, h2⟩
end
def oDictP (ds : List D) : Option (D × Fl) := match ds with
  | [d] => match seqD d with
    | some l => if l.2.length ≤ LN then ((pairsD l.2).bind (putAll [])).map fun kvs => (.dct kvs, .f) else none
    | none => none
  | _ => none
theorem oDictP_ok : CallOk (.type "dict") oDictP := by
  intro C Z T k F W N sc X cx ds vs H g res hr hx k0 Q hQ
  unfold oDictP at hr
  split at hr
  case h_2 => cases hr
  rename_i d
  split at hr
  case h_2 => cases hr
  rename_i l hseq
  split at hr
  case isFalse => cases hr
  rename_i hlen
  obtain ⟨kvs, hk, rfl⟩ := Option.map_eq_some_iff.mp hr
  obtain ⟨ps, hps, hput⟩ := Option.bind_eq_some_iff.mp hk
  obtain ⟨x, _, rfl, hw, rfl⟩ := hx
  intro pins s σ us I r
  obtain ⟨u, rfl, ru⟩ := vals1 r
  have hd := I.ok.hd cx.calm
  -- the items, the argument
  have arg : ∃ (a : Addr) (its : List Value) (xs : List V) (ty : String), u = Value.ref a ∧ Vals xs its ∧ Reps C H l.2 xs ∧ PlainSeq ty s.heap a its.toArray ∧ ∀ (Ts : Nat → Addr) (qs : List (Value × Value)), PairArg X.prog X.w ty a (a :: (List.range qs.length).map Ts) [] qs.length (PairRel qs) (fun h => PlainSeq ty h a its.toArray ∧ PairItems h its.toArray Ts qs) := by
    cases d with
    | lst l0 =>
      cases hseq
      obtain ⟨a, xs, rfl, hs, rr⟩ := hw.lst
      obtain rfl : u = Value.ref a := ru
      rw [← cx.hK] at hs
      obtain ⟨its, rv, p, _⟩ := I.list hs
      refine ⟨a, its, xs, "list", rfl, rv, rr, ?_, fun Ts qs => PairArg.list a _ Ts qs⟩
      obtain ⟨o, n, h1, h2, h3, h4⟩ : ∃ (o : Obj) (n : Nat), s.heap.get? a = some o ∧ o.cls = .type "list" ∧ o.dict = none ∧ o.data = .seq its.toArray n := by
        rcases hs with (h | ⟨o, h⟩) | ⟨o, its', n, h1, h2, h3, h4, h5, h6⟩
        · obtain ⟨its2, n, r2, e, _⟩ := I.lst h
          obtain ⟨o', h1, h2, n', h3⟩ := p.isList
          rw [e] at h1
          cases h1
          exact ⟨_, n', e, rfl, rfl, h3⟩
        · obtain ⟨e0, hz, its2, n, r2, e⟩ := I.hok a _ h
          obtain ⟨o', h1, h2, n', h3⟩ := p.isList
          rw [e] at h1
          cases h1
          exact ⟨_, n', e, rfl, rfl, h3⟩
        · have e := I.kIn a o h1
          obtain ⟨o', g1, g2, n', g3⟩ := p.isList
          rw [e] at g1
          cases g1
          exact ⟨o, n', e, h2, h3, g3⟩
      exact ⟨o, n, h1, h2, h3, h4⟩
    | tup l0 =>
      cases hseq
      obtain ⟨a, xs, rfl, hs, rr⟩ := hw.tup
      obtain rfl : u = Value.ref a := ru
      rw [← cx.hK] at hs
      obtain ⟨its, rv, p, _⟩ := I.tuple hs.sq
      refine ⟨a, its, xs, "tuple", rfl, rv, rr, ?_, fun Ts qs => PairArg.tuple a _ Ts qs⟩
      obtain ⟨o', g1, g2, n', g3⟩ := p
      rcases hs with ⟨o, h3, h⟩ | ⟨o, its', n, h1, h2, h3, h4, h5, h6⟩
      · have e := (I.hok a _ h).1
        have eo : o = o' := Option.some.inj (e.symm.trans g1)
        exact ⟨o', n', g1, g2, by rw [← eo]; exact h3, g3⟩
      · have e := I.kIn a o h1
        have eo : o = o' := Option.some.inj (e.symm.trans g1)
        exact ⟨o', n', g1, g2, by rw [← eo]; exact h3, g3⟩
    | _ => cases hseq
  obtain ⟨a, its, xs, ty, rfl, rv, rr, plain, P⟩ := arg
  obtain ⟨as, qs, rfl, hl, pq, hat⟩ := pair_items cx.hK I hps rr rv
  have hq : qs.length ≤ sizeLine := by
    rw [← hl]
    have := rv.length
    rw [List.length_map] at this
    rw [← this, rr.length, LN_eq]
    exact hlen
  have ok : PlainSeq ty s.heap a (as.map Value.ref).toArray ∧ PairItems s.heap (as.map Value.ref).toArray (fun j => as.getD j 0) qs := by
    refine ⟨plain, by simp [hl], fun j k v hj => ?_⟩
    obtain ⟨b, hb, hp⟩ := hat j k v hj
    refine ⟨by simp [List.getD_eq_getElem?_getD, hb], ?_⟩
    show PairAt s.heap (as.getD j 0) k v
    rw [List.getD_eq_getElem?_getD, hb]
    exact hp
  obtain ⟨okk, kok⟩ := putAll_fit hput .nil
  have hn := I.hok.fresh (Nat.le_refl s.heap.objs.size)
  have hsys := sys_new I
  have fin : ∀ (h' : Heap) (tk : Nat) (o : Obj) (es : List DictEntry), (∀ b u, s.heap.get? b = some u → h'.get? b = some u) → h'.get? s.heap.objs.size = some o → Dat o es → es.length ≤ sizeLine → RepE C H kvs es → EP X pins σ Q (.ref s.heap.objs.size) { s with heap := h', toks := tk } :=
    fun h' tk o es kp e dt hz re => ⟨.ref s.heap.objs.size, _, raw_laid I kp e, rfl, hQ _ _ (Ext.new hn) (k0.upd (k0.no hn)) ⟨_, rfl, hn, k0.no hn, es, o, upd_same, dt, hsys, hz, okk, RepE.keep (k0.keep (Ext.new hn)) _ re⟩⟩
  have lenk : ∀ {l acc m : List (D × D)}, putAll acc l = some m → m.length ≤ acc.length + l.length := by
    intro l
    induction l with
    | nil => intro acc m h; cases h; simp
    | cons p r ih =>
      intro acc m h
      obtain ⟨k, v⟩ := p
      unfold putAll at h
      split at h
      · have := ih h; have := put_length acc k v; simp; omega
      · cases h
  have hkl : kvs.length ≤ sizeLine := by
    have h1 := lenk hput
    have h2 := Paired.length pq
    simp at h1
    omega
  -- the first key decides
  cases hps0 : ps with
  | nil =>
    subst hps0
    cases pq
    cases hput
    refine call_dict_pairs (knd := sKind X.prog X.w) (kvs := []) (P (fun j => as.getD j 0) []) hd ok ⟨rfl, fun i key v h => by simp [PairRel] at h⟩ (Nat.zero_le _) fun h' tk dd kp => ?_
    obtain ⟨o, es', ep, h1, h2, h3, h4, h5, h6⟩ := dd
    have e0 : es'.toList = [] := by
      generalize es'.toList = L at h5
      cases h5
      rfl
    exact fin h' tk o es'.toList (fun b u e => kp b u (by simp) e) h1 ⟨h2, ep, by simpa using h3⟩ (by rw [e0]; exact Nat.zero_le _) (by rw [e0]; exact rfl)
  | cons p0 r0 =>
    cases ht : p0.1.isTup with
    | false =>
      obtain ⟨m1, m2⟩ := putAll_mode (b := false) hput (.inr ⟨p0, r0, hps0, ht⟩) (fun p hp => absurd hp List.not_mem_nil)
      obtain ⟨ms, e, lp⟩ := LP.putAll hput .nil (fun p hp => absurd hp List.not_mem_nil) m1 pq (.nil : LP C H [] [])
      refine call_dict_pairs (knd := sKind X.prog X.w) (kvs := ms) (P (fun j => as.getD j 0) qs) hd ok ⟨by rw [e]; simp [Paired.length pq], fun i key v h => ?_⟩ hq fun h' tk dd kp => ?_
      · obtain ⟨p, g1, x1, y1, r1, r2, r3, r4⟩ := paired_at pq i (key, v) h
        have pm : p ∈ ps := List.mem_of_getElem? g1
        have h : qs[i]? = some (key, v) := h
        refine ⟨p.1.leaf, by rw [e, List.getElem?_map]; simp [List.getElem?_zip_eq_some, g1, h], ?_⟩
        rw [cx.hw]
        exact leaf_is (kok p pm).1 (m1 p pm) r2 r1
      · obtain ⟨o, es', ep, h1, h2, h3, h4, h5, h6⟩ := dd
        rw [cx.hw] at h5
        have rep : RepE C H kvs es'.toList := leaf_RepE (P := X.prog) h5 (fun en hen => by
          have := h4 en (by simpa using hen)
          rw [cx.hw] at this; exact this) lp okk.kok m2
        exact fin h' tk o es'.toList (fun b u e => kp b u (by simp) e) h1 ⟨h2, ep, by simpa using h3⟩ (by rw [rep.length]; exact hkl) rep
    | true =>
      obtain ⟨m1, m2⟩ := putAll_mode (b := true) hput (.inr ⟨p0, r0, hps0, ht⟩) (fun p hp => absurd hp List.not_mem_nil)
      obtain ⟨ms, e, g1, g2, tp⟩ := TP.putAll hput .nil m1 pq (.nil : TP C H [] [])
      refine call_dict_pairsH (knd := nestedKind X.prog X.w) (ps := ms) (P (fun j => as.getD j 0) qs) hd (by show X.A.units + 1 + 1 + 8 < cLine; have := cx.un; omega) ok ⟨e, fun i key v h => g1 i key v h⟩ (fun h' hk z hz => ?_) hq fun h' tk dd kp => ?_
      · obtain ⟨p, hp, e1, r1⟩ := g2 z hz
        rw [e1]
        have I' : Inv X pins σ H { s with heap := h' } := I.kept (t' := s.toks) fun b u e => hk b u (Nat.ne_of_lt (Heap.lt_size e)) (by simp) e
        exact ⟨Rep.nested cx.hK I' p.1 (kok p hp).1 r1 rfl, (kok p hp).2⟩
      · obtain ⟨o, es', ep, h1, h2, h3, h4, h5, h6⟩ := dd
        have rep : RepE C H kvs es'.toList := by
          rw [h4, cx.hw]
          exact tup_RepE (P := X.prog) tp
        exact fin h' tk o es'.toList (fun b u e => kp b u (by simp) e) h1 ⟨h2, ep, by simpa using h3⟩ (by rw [rep.length]; exact hkl) rep
end Ev
end

section
set_option maxHeartbeats 4000000
/-! EvE: t * n. -/
namespace Ev
open PySem PySem.Spec L2
open PyProof.Rows hiding St

theorem tuple_mul1 (l : Addr) (items : Array Value) (n : Nat) (dd : Option Addr) (sl : Array (Option Value)) (x : Int) (u : Tok) (c0 : (decide (x < -(2 ^ 63)) || decide (x ≥ 2 ^ 63)) = false) (c1 : (items.isEmpty || x == 1) = true) :
    Meets (Builtin.«tuple.__mul__» ⟨[.ref l, .int x u], []⟩) (fun _ R s => s.heap.get? l = some { cls := .type "tuple", dict := dd, data := .seq items n, slots := sl } ∧ R (.ok (.ret (Value.ref l))) s) :=
  .of_wp fun prog w A R s h => by
    obtain ⟨hp, g, d, tk, os⟩ := s
    obtain ⟨hl, h⟩ := h
    have f1 := AutoSeq1.idx_int
    wp_walk using wpAny_loadPart' hl
    repeat (first
      | (refine wpAny_ite_false (decide_eq_false (by rw [c0]; exact Bool.false_ne_true)) ?_; wp_walk using wpAny_loadPart' hl)
      | (refine wpAny_ite_true (decide_eq_true (by rw [c1])) ?_; wp_walk using wpAny_loadPart' hl))
    exact ⟨_, rfl, h⟩
theorem tuple_mul0 (l : Addr) (items : Array Value) (n : Nat) (dd : Option Addr) (sl : Array (Option Value)) (x : Int) (u : Tok) (c0 : (decide (x < -(2 ^ 63)) || decide (x ≥ 2 ^ 63)) = false) (c1 : (items.isEmpty || x == 1) = false) (c2 : (decide (x ≤ 0) || items.isEmpty) = true) :
    Meets (Builtin.«tuple.__mul__» ⟨[.ref l, .int x u], []⟩) (fun _ R s => s.heap.get? l = some { cls := .type "tuple", dict := dd, data := .seq items n, slots := sl } ∧
      R (.ok (.ret (Value.ref s.heap.objs.size))) { s with heap := s.heap.push { cls := Value.type "tuple", data := Data.seq #[] }, toks := s.toks }) :=
  .of_wp fun prog w A R s h => by
    obtain ⟨hp, g, d, tk, os⟩ := s
    obtain ⟨hl, h⟩ := h
    have f1 := AutoSeq1.idx_int
    wp_walk using wpAny_loadPart' hl
    repeat (first
      | (refine wpAny_ite_false (decide_eq_false (by rw [c0]; exact Bool.false_ne_true)) ?_; wp_walk using wpAny_loadPart' hl)
      | (refine wpAny_ite_false (decide_eq_false (by rw [c1]; exact Bool.false_ne_true)) ?_; wp_walk using wpAny_loadPart' hl)
      | (refine wpAny_ite_true (decide_eq_true (by rw [c2])) ?_; wp_walk using wpAny_loadPart' hl))
    exact ⟨_, rfl, h⟩
def rMulP (K : PySem.W.Frag) : R2 := fun x y H Q => ∃ a k xs, x = .ref a ∧ y = .int k ∧ SqT K H a xs ∧ -(2 ^ 62) ≤ k ∧ k < 2 ^ 62 ∧ xs.length * k.toNat ≤ 1000000 ∧
  ((xs = [] ∨ k = 1) → Q (.ref a) H) ∧ (¬(xs = [] ∨ k = 1) → ∀ (p : Addr) (us : List Value), H p = none → Q (.ref p) (upd H p (.frz (tupO us) (.tup (List.replicate k.toNat xs).flatten))))
theorem op_mulP {X : Cx} : OpR X (binaryOp .Mult) (rMulP X.K) := by
  intro pins s σ H x y v u Q I rx ry h
  obtain ⟨l, k, xs, rfl, rfl, hT, h1, h2, hz, q1, q2⟩ := h
  cases rx
  obtain ⟨t, rfl⟩ := ry
  obtain ⟨its, r, ⟨⟨cls, dd, data, sl⟩, ho, hc, n, hd⟩, hs⟩ := I.tuple hT
  simp only at hc hd
  subst hc hd
  have hle : its.length = xs.length := r.length.symm
  have hi : its.toArray.isEmpty = xs.isEmpty := by
    cases its with
    | nil => cases xs with
      | nil => rfl
      | cons a b => cases hle
    | cons a b => cases xs with
      | nil => cases hle
      | cons a b => rfl
  have hsz0 : its.toArray.size = xs.length := by rw [List.size_toArray, hle]
  have c0 : (decide (k < -(2 ^ 63)) || decide (k ≥ 2 ^ 63)) = false := by
    rw [decide_eq_false (by omega), decide_eq_false (by omega)] <;> rfl
  by_cases hc : xs = [] ∨ k = 1
  · have c1 : (its.toArray.isEmpty || k == 1) = true := by
      rw [hi, Bool.or_eq_true]
      rcases hc with e | e
      · exact .inl (by rw [e]; rfl)
      · exact .inr (by rw [e]; rfl)
    exact wpAny_binaryOp_repeat_ref (T := "tuple") (U := "int") (by decide) ⟨_, ho, rfl⟩ (fun s' => typeIs_int s' k t) noFill_tuple_mul F.fills_int_mul F.slot_int_rmul repeat_tuple F.slot_int_index.lookup
      (call_meets F.slot_int_rmul (typeIs_int s k t) F.entry_int_rmul (F.args_int_rmul_2 _ _) (int_rmul_tuple k t l its.toArray n dd sl)
        ⟨ho, rfl, ⟨_, ho, rfl⟩, call_meets F.slot_tuple_mul ⟨_, ho, rfl⟩ F.entry_tuple_mul (F.args_tuple_mul_2 _ _) (tuple_mul1 l its.toArray n dd sl k t c0 c1) ⟨ho, .ref l, H, I, rfl, q1 hc⟩⟩)
  · have hc' := hc
    rw [not_or] at hc'
    have c1 : (its.toArray.isEmpty || k == 1) = false := by
      rw [hi, Bool.or_eq_false_iff]
      exact ⟨by cases xs with | nil => exact absurd rfl hc'.1 | cons a b => rfl, beq_eq_false_iff_ne.mpr hc'.2⟩
    have he : its.toArray.isEmpty = false := (Bool.or_eq_false_iff.mp c1).1
    by_cases hk : k ≤ 0
    · have c2 : (decide (k ≤ 0) || its.toArray.isEmpty) = true := by rw [decide_eq_true hk]; rfl
      have e0 : (List.replicate k.toNat xs).flatten = [] := by rw [show k.toNat = 0 by omega]; rfl
      refine wpAny_binaryOp_repeat_ref (T := "tuple") (U := "int") (by decide) ⟨_, ho, rfl⟩ (fun s' => typeIs_int s' k t) noFill_tuple_mul F.fills_int_mul F.slot_int_rmul repeat_tuple F.slot_int_index.lookup
        (call_meets F.slot_int_rmul (typeIs_int s k t) F.entry_int_rmul (F.args_int_rmul_2 _ _) (int_rmul_tuple k t l its.toArray n dd sl)
          ⟨ho, rfl, ⟨_, ho, rfl⟩, call_meets F.slot_tuple_mul ⟨_, ho, rfl⟩ F.entry_tuple_mul (F.args_tuple_mul_2 _ _) (tuple_mul0 l its.toArray n dd sl k t c0 c1 c2) ⟨ho, ?_⟩⟩)
      have z := q2 hc s.heap.objs.size [] (I.hok.fresh (Nat.le_refl _))
      rw [e0] at z
      exact ⟨.ref s.heap.objs.size, _, Inv.tupNew I .nil (Nat.zero_le _), rfl, z⟩
    · have c2 : (decide (k ≤ 0) || its.toArray.isEmpty) = false := by rw [decide_eq_false hk, he]; rfl
      have hm : ((its.toArray.size : Nat) : Int) * k ≤ 1000000 := by
        rw [hsz0, show k = ((k.toNat : Nat) : Int) by omega, ← Int.natCast_mul]
        exact Int.ofNat_le.mpr hz
      have flen : (List.replicate k.toNat its).flatten.length ≤ sizeLine := by
        rw [PyProof.Rows.lm_len_rep_flat, hle, sizeLine_eq, Nat.mul_comm]
        omega
      have c4 : Builtin.Tuple.tupleTooMany (((its.toArray.size : Nat) : Int) * k) = false := by
        unfold Builtin.Tuple.tupleTooMany
        rw [sizeLine_eq]
        exact decide_eq_false (by omega)
      refine wpAny_binaryOp_repeat_ref (T := "tuple") (U := "int") (by decide) ⟨_, ho, rfl⟩ (fun s' => typeIs_int s' k t) noFill_tuple_mul F.fills_int_mul F.slot_int_rmul repeat_tuple F.slot_int_index.lookup
        (call_meets F.slot_int_rmul (typeIs_int s k t) F.entry_int_rmul (F.args_int_rmul_2 _ _) (int_rmul_tuple k t l its.toArray n dd sl)
          ⟨ho, rfl, ⟨_, ho, rfl⟩, call_meets F.slot_tuple_mul ⟨_, ho, rfl⟩ F.entry_tuple_mul (F.args_tuple_mul_2 _ _) (tuple_mulW l its.toArray n dd sl k t c0 c1 c2 (by omega) c4 (by rw [size_rep, List.size_toArray]; exact flen)) ⟨ho, ?_⟩⟩)
      rw [size_rep]
      refine ⟨.ref s.heap.objs.size, _, Inv.tupNew I (r.rep k.toNat) (by rw [PyProof.Rows.lm_len_rep_flat, sizeLine_eq, Nat.mul_comm]; omega), rfl, q2 hc _ _ (I.hok.fresh (Nat.le_refl _))⟩
theorem Reps.rep {C : Cst} {H : Hp} {ds : List D} {xs : List V} (h : Reps C H ds xs) : ∀ k, Reps C H (List.replicate k ds).flatten (List.replicate k xs).flatten
  | 0 => rfl
  | k + 1 => by
    rw [List.replicate_succ, List.replicate_succ, List.flatten_cons, List.flatten_cons]
    exact h.append (Reps.rep h k)
/-- t * n -/
def oMulT : Op2 := fun a b => match a.1, b.1 with
  | .tup l, .int k => if decide (-i62 ≤ k) && decide (k < i62) && decide (l.length * k.toNat ≤ 1000000) then some (.tup (List.replicate k.toNat l).flatten, .s) else none
  | _, _ => none
theorem oMulT_ok : OpOk (binaryOp .Mult) oMulT := by
  intro C Z T k F W N sc X cx d1 d2 x y H g res hr hx hy k0 Q hQ
  obtain ⟨a, fa⟩ := d1
  obtain ⟨b, fb⟩ := d2
  have h1 := hx.w
  have h2 := hy.w
  unfold oMulT at hr
  split at hr
  · rename_i p q e1 e2
    simp only at e1 e2 h1 h2
    subst e1 e2
    split at hr
    · rename_i hl
      cases hr
      rw [Bool.and_eq_true, Bool.and_eq_true, decide_eq_true_eq, decide_eq_true_eq, decide_eq_true_eq] at hl
      obtain ⟨⟨l1, l2⟩, l3⟩ := hl
      unfold i62 at l1 l2
      obtain ⟨a1, xs, rfl, s1, r1⟩ := h1.tup
      have hlen := r1.length
      refine wOp.of op_mulP ⟨a1, q, xs, rfl, h2.int, by rw [cx.hK]; exact s1.sq, by omega, by omega, by rw [hlen]; exact l3, fun e => ?_, fun e p us hn => ?_⟩
      · refine hQ _ H (.refl _ _) k0 ⟨a1, xs, rfl, s1, ?_⟩
        rcases e with e | e
        · subst e
          have : p = [] := r1.nil_iff.mp rfl
          subst this
          simpa using r1
        · subst e
          simpa using r1
      · exact hQ _ _ (.new hn) (k0.upd (k0.no hn)) ⟨p, _, rfl, .new, (r1.rep q.toNat).keep (.new hn)⟩
    · cases hr
  · cases hr
def oMul : Op2 := fun a b => match oMulI a b with | some r => some r | none => oMulT a b
theorem oMul_ok : OpOk (binaryOp .Mult) oMul := oMulI_ok.or oMulT_ok
end Ev
end

section
set_option maxHeartbeats 4000000
/-! EvF0: set(xs), xs a list of ints. -/
namespace Ev
open PySem PySem.Spec L2
open PyProof.Rows hiding St

/-- an empty set's object -/
abbrev seO (w : World) : Obj := ⟨.type "set", none, .set #[] 0 (.fresh 0 0 (!w.params.followText "set-order")), #[]⟩
section
variable {P : Program} {w : World} {A : Around} {E : Value → Shared → Prop} {s : Shared}
set_option maxRecDepth 100000 in
set_option maxHeartbeats 3200000 in
theorem set_of_list {x : Addr} {vs : Array Value} (ns : List Int) {Q : Value → Shared → Prop} (noH : A.handled = none) (isL : s.heap.IsList x vs) (hint : IntsAre vs.toList ns) (few : ns.length + 1 < scanBound)
    (fin : ∀ (g : Heap) (tk c : Nat), SetR w g s.heap.objs.size (fun j => decide (j ∈ ns)) c → c ≤ ns.length → (∀ b o, s.heap.get? b = some o → g.get? b = some o) → Q (.ref s.heap.objs.size) { s with heap := g, toks := tk }) :
    wpAny (model P w) A (call (.type "set") [.ref x]) Q E s := by
  have len : vs.size = ns.length := by rw [← Array.length_toList]; exact hint.length
  have hmro := F.called_set.mro
  obtain ⟨_, _, hmro⟩ := hmro
  have made := F.called_set.made
  have subs := F.called_set.sub
  have nty := F.called_set.notType
  have cc := F.called_set.canCreate
  have tc := F.typeCall_set_1 (.ref x)
  generalize hp1 : s.heap.push (seO w) = h1 at *
  apply wpAny_call
  apply codeAny_of_tree
  show wpAny _ _ (callAny (.type "set") _) _ _ _
  refine wpAny_pure ⟨Code.quiet_builtin _ (by decide +kernel), codeAny_builtin F.entry_type_call ?_⟩
  rw [Around.under_plain (weight_type_call_type "set" [.ref x] []) rfl]
  repeat any_goals (first | assumption | wp_step)
  apply codeAny_mono (code_set_led1 (.ref x) (E := E) (Q₁ := fun ob t => ob = .ref s.heap.objs.size ∧ t = { s with heap := h1 }) ⟨rfl, by rw [← hp1]⟩)
  intro r t hr
  rcases r with e | fl
  · exact hr
  cases fl with
  | ret ob =>
    obtain ⟨rfl, rfl⟩ := hr
    have at1 : h1.get? s.heap.objs.size = some (seO w) := by rw [← hp1]; exact Heap.get?_push_size _ rfl
    have ty1 : Shared.TypeIs { s with heap := h1 } (.ref s.heap.objs.size) "set" := ⟨_, at1, rfl⟩
    have ini := F.called_set.init.lookup
    have bnd := F.called_set.init.bind (.ref s.heap.objs.size)
    have old1 : ∀ b o, s.heap.get? b = some o → h1.get? b = some o := fun b o e => by rw [← hp1]; exact Heap.get?_push_of_some _ e
    have sz1 : h1.objs.size = s.heap.objs.size + 1 := by rw [← hp1]; exact Heap.size_push ..
    repeat any_goals (first | assumption | wp_step)
    apply codeAny_mono (codeAny_call_builtin (R := wants (fun r t => r = .none ∧ ∃ g tk c, t = { s with heap := g, toks := tk } ∧ SetR w g s.heap.objs.size (fun j => decide (j ∈ ns)) c ∧ c ≤ ns.length ∧ ∀ b o, s.heap.get? b = some o → g.get? b = some o) E) F.called_set.init.plain F.entry_set_init (check_set_init_1 ty1 ?body))
    case body =>
      obtain ⟨⟨k1, k2, k3, k4⟩, ho, hc, m, hd⟩ := isL
      simp only at hc hd
      subst hc hd
      have lt0 : x < s.heap.objs.size := Heap.lt_size ho
      have ho1 := old1 _ _ ho
      have isL1 : h1.IsList x vs := ⟨_, ho1, rfl, m, rfl⟩
      have no1 := F.sub_list_set
      have no2 := F.sub_list_frozenset
      have no3 : (Value.type "list" == Value.type "dict") = false := by decide
      unfold Builtin.«set.__init__» noKeywords Builtin.Frozenset.updateFrom
      generalize q : pyIter = itr
      wp_walk
      subst q
      apply wpAny_pyIter_list isL1
      apply wpAny_bind
      apply wpAny_runValue
      have noH3 : A.in1.in1.in1.handled = none := by simp [noH]
      have vals : ∀ (i : Nat) (v : Value), vs[i]? = some v → ∃ k t, ns[i]? = some k ∧ v = .int k t := fun i v hv => by
        obtain ⟨tk, e⟩ := PyProof.Rows.IntsAre.int_at hint i v (by rw [Array.getElem?_toList]; exact hv)
        have lt : i < ns.length := len ▸ (Array.getElem?_eq_some_iff.mp hv).1
        exact ⟨ns[i], tk, List.getElem?_eq_getElem lt, by rw [e, List.getD_eq_getElem?_getD, List.getElem?_eq_getElem lt]; rfl⟩
      have walk := (Walks.list (prog := P) (w := w) noH3 h1.objs.size x (by rw [sz1]; exact Nat.ne_of_lt (Nat.lt_succ_of_lt lt0)) vs).toS
      refine set_update_ints walk s.heap.objs.size (fun hm => by rw [sz1] at hm; simp only [List.mem_cons, List.not_mem_nil, or_false] at hm; exact hm.elim (Nat.ne_of_lt (Nat.lt_succ_self _)) (Nat.ne_of_gt lt0)) ns len few vals (vs.size - 0) 0 _ (by omega) (Nat.zero_le _) ⟨⟨_, Heap.get?_push_size _ rfl, rfl, rfl⟩, isL1.push _⟩ ?s0 ?s1
      case s0 => exact ⟨0, Nat.le_refl 0, setR_new_at (Heap.get?_push_of_some _ at1)⟩
      case s1 =>
        rintro ⟨g, g2, d2, t2, o2⟩ c mv hc' R
        obtain rfl : g2 = s.gens := mv.gens
        obtain rfl : d2 = s.drawn := mv.drawn
        obtain rfl : o2 = s.os := mv.os
        show wpAny _ _ _ _ _ _
        apply wpAny_pure
        show wpAny _ _ (ret Value.none) _ _ _
        refine wpAny_pure ⟨rfl, g, t2, c, rfl, R, len ▸ hc', fun b o e => ?_⟩
        have lb : b < s.heap.objs.size := Heap.lt_size e
        exact mv.heap b o (fun hm => by rw [sz1] at hm; simp only [List.mem_cons, List.not_mem_nil, or_false] at hm; exact hm.elim (Nat.ne_of_lt lb) (Nat.ne_of_lt (Nat.lt_succ_of_lt lb))) (Heap.get?_push_of_some _ (old1 b o e))
    intro r2 t2 hr2
    rcases r2 with e | fl2
    · exact hr2
    cases fl2 with
    | ret r =>
      obtain ⟨rfl, g, tk, c, rfl, R, hc', old⟩ := hr2
      repeat any_goals (first | assumption | wp_step)
      exact fin _ _ _ R hc' old
    | _ => exact hr2.elim
  | _ => exact hr.elim
end

end Ev
end

section
/-! EvF: sorted(set(..)), len(set(..)) of ints. -/
namespace Ev
open PySem PySem.Spec L2
open PyProof.Rows hiding St

/-- the unlike ones -/
def ddI : List Int → List Int
  | [] => []
  | a :: r => if a ∈ r then ddI r else a :: ddI r
theorem mem_ddI {k : Int} : ∀ {l : List Int}, k ∈ ddI l ↔ k ∈ l
  | [] => by simp [ddI]
  | a :: r => by
    unfold ddI
    split
    · rename_i h
      rw [mem_ddI, List.mem_cons]
      exact ⟨.inr, fun q => q.elim (fun e => e ▸ h) id⟩
    · rw [List.mem_cons, List.mem_cons, mem_ddI]
theorem nodup_ddI : ∀ l : List Int, (ddI l).Nodup
  | [] => List.nodup_nil
  | a :: r => by
    unfold ddI
    split
    · exact nodup_ddI r
    · rename_i h
      rw [List.nodup_cons, mem_ddI]
      exact ⟨h, nodup_ddI r⟩
theorem sub_len : ∀ {l m : List Int}, l.Nodup → (∀ a ∈ l, a ∈ m) → l.length ≤ m.length
  | [], _, _, _ => Nat.zero_le _
  | a :: l, m, nd, h => by
    rw [List.nodup_cons] at nd
    have ha := h a (List.mem_cons_self ..)
    have ih := sub_len (m := m.erase a) nd.2 fun b hb => (List.mem_erase_of_ne (fun e : b = a => nd.1 (e ▸ hb))).mpr (h b (List.mem_cons_of_mem _ hb))
    have e := List.length_erase_of_mem ha
    have p := List.length_pos_of_mem ha
    rw [List.length_cons]; omega
theorem SetR.card {w : World} {h : Heap} {a : Addr} {ns : List Int} {c : Nat} (R : SetR w h a (fun j => decide (j ∈ ns)) c) : c = (ddI ns).length := by
  obtain ⟨o, es, ep, t, _, _, _, _, nd, hm, _, _, hn, _⟩ := R
  have e : (es.toList.map keyOf).length = c := by rw [List.length_map, Array.length_toList]; exact hn
  have m : ∀ k, k ∈ es.toList.map keyOf ↔ k ∈ ns := fun k => by rw [← hm k, decide_eq_true_eq]
  have h1 := sub_len nd fun k hk => mem_ddI.mpr ((m k).mp hk)
  have h2 := sub_len (nodup_ddI ns) fun k hk => (m k).mpr (mem_ddI.mp hk)
  omega
/-- set(xs) -/
def rSetI (K : PySem.W.Frag) (w : World) : List V → Hp → VK → Prop := fun vs H Q => ∃ (a : Addr) (ns : List Int), vs = [.ref a] ∧ (SqL K H a (ns.map V.int) ∨ SqT K H a (ns.map V.int)) ∧ ns.length ≤ 1000 ∧
  ∀ p, H p = none → Q (.ref p) (upd H p (SetO w p (fun j => decide (j ∈ ns)) (ddI ns).length))
theorem cr_setI {X : Cx} (hc : X.calm = true) : CallR X (.type "set") (rSetI X.K X.w) := by
  intro pins s σ H vs us Q I r h
  obtain ⟨a, ns, rfl, hs, hl, q⟩ := h
  rw [Vals.ref1 r]
  have fin : ∀ (g : Heap) (tk c : Nat), SetR X.w g s.heap.objs.size (fun j => decide (j ∈ ns)) c → c ≤ ns.length → (∀ b o, s.heap.get? b = some o → g.get? b = some o) → EP X pins σ Q (.ref s.heap.objs.size) { s with heap := g, toks := tk } := fun g tk c R _ old => by
    have e := SetR.card R
    subst e
    exact ⟨.ref s.heap.objs.size, _, I.laid (t' := tk) (o := SetO X.w s.heap.objs.size (fun j => decide (j ∈ ns)) (ddI ns).length) old (Nat.le_refl _) (setO_new R), rfl, q _ (I.hok.fresh (Nat.le_refl _))⟩
  have room : ns.length + 1 < scanBound := by unfold scanBound; omega
  rcases hs with hs | hs
  · obtain ⟨its, rv, pl, _⟩ := I.list hs
    exact set_of_list ns (I.ok.hd hc) pl.isList (by simpa using rv.ints) room fin
  · obtain ⟨its, rv, pl, _⟩ := I.tuple hs
    exact call_set_tupI ns (I.ok.hd hc) pl (by simpa using rv.ints) room fin
/-- a list's or a tuple's items -/
def D.its : D → Option (List D)
  | .lst l => some l
  | .tup l => some l
  | _ => none
/-- the unlike ones, in order -/
def oSortS (ds : List D) : Option (D × Fl) := match ds with
  | [d] => (d.its.bind D.ints).bind fun ns => if ns.length < 64 then some (.lst ((isort (ddI ns)).map .int), .f) else none
  | _ => none
/-- how many unlike ones -/
def oLenS (ds : List D) : Option (D × Fl) := match ds with
  | [d] => (d.its.bind D.ints).bind fun ns => if ns.length ≤ 1000 then some (.int ((ddI ns).length : Nat), .s) else none
  | _ => none
theorem its_seq {C : Cst} {H : Hp} {d : D} {ns : List Int} {x : V} (h : WRep C H d x) (e : d.its.bind D.ints = some ns) : ∃ a, x = .ref a ∧ (SqL C.K H a (ns.map V.int) ∨ SqT C.K H a (ns.map V.int)) := by
  obtain ⟨l, hl, hn⟩ := Option.bind_eq_some_iff.mp e
  cases d with
  | lst l0 =>
    cases hl
    obtain ⟨a, xs, rfl, hs, r⟩ := h.lst
    rw [ints_of hn r] at hs
    exact ⟨a, rfl, .inl hs⟩
  | tup l0 =>
    cases hl
    obtain ⟨a, xs, rfl, hs, r⟩ := h.tup
    rw [ints_of hn r] at hs
    exact ⟨a, rfl, .inr hs.sq⟩
  | _ => cases hl
/-- len(set) -/
def rLenS (w : World) : List V → Hp → VK → Prop := fun vs H Q => ∃ (a : Addr) (S : Int → Bool) (n : Nat), vs = [V.ref a] ∧ H a = some (SetO w a S n) ∧ Q (.int (n : Nat)) H
theorem cr_lenS {X : Cx} : CallR X (.builtin "len") (rLenS X.w) := by
  intro pins s σ H vs us Q I r h
  obtain ⟨a, S, n, rfl, ha, q⟩ := h
  rw [Vals.ref1 r]
  obtain ⟨o, es, ep, t, ho, hex, hd, _, _, _, hb, hf, hn, _⟩ := setO_get I ha
  refine call_len_set ho hex hd hf (by unfold scanBound at hb; omega) ?_
  rw [hn]
  exact ⟨.int n, H, I.tok _, ⟨s.toks + 1, rfl⟩, q⟩
section
variable {T : Tab} {N : List Str} {sc : Scope}
theorem SE.sortS {e : Expr} {f : DenL} {p p2 q pos : Pos} (hg : gl sc "sorted") (hg2 : gl sc "set") (hs : notStar e = true) (h : SLw T N sc [e] f) : SE T N sc (.Call (.Name "sorted" p) [.Call (.Name "set" p2) [e] [] q] [] pos) (dBif oSortS f) := by
  intro C Z k F W X cx H0 ρ g σ H S Q hp
  have g1 : Gl X "sorted" := by show X.env.scope.names.lookup ("sorted" : Str) = _; rw [cx.sc]; exact hg
  have g2 : Gl X "set" := by show X.env.scope.names.lookup ("set" : Str) = _; rw [cx.sc]; exact hg2
  refine wE.of (pe_callB (cr_sortedSet cx.calm) g1 (cx.bl _ (by simp [bnames])) rfl (pa_cons (pe_callTy (cr_setI cx.calm) g2 (cx.bl _ (by simp [bnames])) rfl wA.pa (by decide) rfl (star_of hs) rfl) pa_nil rfl) (by decide) rfl rfl rfl) ?_
  refine h.then cx S rlF.sh hp fun ds g1 vs H1 e1 k1 r1 S1 p1 => ?_
  split at p1
  case h_2 => exact p1.elim
  rename_i res hr
  unfold oSortS at hr
  split at hr
  case h_2 => cases hr
  rename_i d
  obtain ⟨ns, hn, hr⟩ := Option.bind_eq_some_iff.mp hr
  split at hr
  case isFalse => cases hr
  rename_i hl
  cases hr
  obtain ⟨x, rfl, hx⟩ := r1.one
  obtain ⟨a, rfl, hq⟩ := its_seq hx hn
  refine ⟨a, ns, rfl, by rw [cx.hK]; exact hq, by omega, fun p np => ?_⟩
  have dl : (ddI ns).length ≤ ns.length := sub_len (nodup_ddI ns) fun k hk => mem_ddI.mp hk
  refine ⟨p, _, _, rfl, upd_same, by omega, fun out p2 hup hmem _ np2 => ?_⟩
  have e : out = isort (ddI ns) := by
    refine sorted_uniq ?_ (hup.imp fun h => by omega) (isort_sorted _)
    exact (List.perm_ext_iff_of_nodup (hup.imp fun h => by omega) ((isort_perm _).nodup_iff.mpr (nodup_ddI ns))).mpr fun k => by
      rw [hmem, decide_eq_true_eq, (isort_perm _).mem_iff, mem_ddI]
  rw [e]
  have ne : p2 ≠ p := fun z => by rw [z, upd_same] at np2; cases np2
  have np2' : H1 p2 = none := by rwa [upd_ne ne] at np2
  have x1 : Ext C H1 (upd H1 p (SetO X.w p (fun j => decide (j ∈ ns)) (ddI ns).length)) := .new np
  have x2 : Ext C (upd H1 p (SetO X.w p (fun j => decide (j ∈ ns)) (ddI ns).length)) (upd (upd H1 p (SetO X.w p (fun j => decide (j ∈ ns)) (ddI ns).length)) p2 (.lst ((isort (ddI ns)).map V.int))) := .new np2
  have kk := k1.upd (o := SetO X.w p (fun j => decide (j ∈ ns)) (ddI ns).length) (k1.no np)
  exact p1 _ _ (x1.trans x2) (kk.upd (k1.no np2')) ⟨_, rfl, np2', k1.no np2', _, upd_same, Reps.of_ints⟩
theorem SE.lenS {e : Expr} {f : DenL} {p p2 q pos : Pos} (hg : gl sc "len") (hg2 : gl sc "set") (hs : notStar e = true) (h : SLw T N sc [e] f) : SE T N sc (.Call (.Name "len" p) [.Call (.Name "set" p2) [e] [] q] [] pos) (dBif oLenS f) := by
  intro C Z k F W X cx H0 ρ g σ H S Q hp
  have g1 : Gl X "len" := by show X.env.scope.names.lookup ("len" : Str) = _; rw [cx.sc]; exact hg
  have g2 : Gl X "set" := by show X.env.scope.names.lookup ("set" : Str) = _; rw [cx.sc]; exact hg2
  refine wE.of (pe_callB cr_lenS g1 (cx.bl _ (by simp [bnames])) rfl (pa_cons (pe_callTy (cr_setI cx.calm) g2 (cx.bl _ (by simp [bnames])) rfl wA.pa (by decide) rfl (star_of hs) rfl) pa_nil rfl) (by decide) rfl rfl rfl) ?_
  refine h.then cx S rlF.sh hp fun ds g1 vs H1 e1 k1 r1 S1 p1 => ?_
  split at p1
  case h_2 => exact p1.elim
  rename_i res hr
  unfold oLenS at hr
  split at hr
  case h_2 => cases hr
  rename_i d
  obtain ⟨ns, hn, hr⟩ := Option.bind_eq_some_iff.mp hr
  split at hr
  case isFalse => cases hr
  rename_i hl
  cases hr
  obtain ⟨x, rfl, hx⟩ := r1.one
  obtain ⟨a, rfl, hq⟩ := its_seq hx hn
  refine ⟨a, ns, rfl, by rw [cx.hK]; exact hq, hl, fun p np => ?_⟩
  exact ⟨p, _, _, rfl, upd_same, p1 _ _ (.new np) (k1.upd (k1.no np)) rfl⟩
end
end Ev
end

section
/-! EvG: o.m(e) that only reads: count, index, join. -/
namespace Ev
open PySem PySem.Spec L2
open PyProof.Rows hiding St

/-- the built-in type whose methods a datum has -/
def D.mty : D → Option String
  | .str _ => some "str"
  | .tup _ => some "tuple"
  | .lst _ => some "list"
  | _ => none
theorem mty_base {C : Cst} {T : Tab} {Z : Xcs} {k : Nat} {F : FT} {W : WX} {N : List Str} {sc : Scope} {X : Cx} (cx : Ctx C Z T k F W N sc X) {d : D} {t : String} {x : V} {v : Value} {pins : List (Addr × Obj)} {σ : L2.St} {H : Hp} {s : Shared} (I : Inv X pins σ H s) (r : RelV x v) (h : WRep C H d x) (ht : d.mty = some t) :
    s.TypeIs v t ∧ ∀ a, v = .ref a → ∃ ob, s.heap.get? a = some ob ∧ ob.dict = none := by
  cases d with
  | str z =>
    cases ht
    obtain rfl := h.str
    obtain ⟨tk, rfl⟩ := r
    exact ⟨typeIs_str s _ tk, fun _ e => nomatch e⟩
  | tup l =>
    cases ht
    obtain ⟨a, xs, rfl, hs, _⟩ := h.tup
    obtain rfl : v = Value.ref a := r
    rw [← cx.hK] at hs
    rcases hs with ⟨o, hd, hh⟩ | ⟨o, its, n, hk, hc, hd, _⟩
    · obtain ⟨ho, _, us, _, ob, e, hc, _⟩ := I.hok a _ hh
      have e2 := ho
      refine ⟨⟨ob, e, hc⟩, fun b q => ?_⟩
      cases q
      refine ⟨o, e2, hd⟩
    · exact ⟨⟨o, I.kIn a o hk, hc⟩, fun b q => by cases q; exact ⟨o, I.kIn a o hk, hd⟩⟩
  | lst l =>
    cases ht
    obtain ⟨a, xs, rfl, hs, _⟩ := h.lst
    obtain rfl : v = Value.ref a := r
    rw [← cx.hK] at hs
    obtain ⟨its, _, pl, _⟩ := I.list hs
    refine ⟨pl.isList.typeIs, fun b q => ?_⟩
    cases q
    obtain ⟨o, n, e, c, hd, _⟩ := pl
    exact ⟨o, e, hd⟩
  | _ => cases ht

/-- a method with one argument, by the type of its object -/
structure MtD where
  name : Str
  ids : String → Option String
  o : Op2
  slot : ∀ {t id : String}, ids t = some id → PlainAttrs t ∧ Slot t name id ∧ typeOf (.builtin id) = pure (.type "method_descriptor")
  ok : ∀ {C : Cst} {Z : Xcs} {T : Tab} {k : Nat} {F : FT} {W : WX} {N : List Str} {sc : Scope} {X : Cx}, Ctx C Z T k F W N sc X → ∀ {a b res : D × Fl} {x y : V} {H : Hp} {g : G} {t id : String}, a.1.mty = some t → ids t = some id → o a b = some res → WRep C H a.1 x → WRep C H b.1 y → GOk C g H →
    ∀ Q, (∀ v H', Ext C H H' → GOk C g H' → rlF C H H' res v → Q v H') → wMt X id x [y] H Q
def mtyIn (m : MtD) (d : D) : Bool := match d.mty with
  | some t => (m.ids t).isSome
  | none => false
def dM1 (m : MtD) (f h : Den) : Den := fun F ρ g => (f F ρ g).bind fun a g1 => if mtyIn m a.1 then (h F ρ g1).bind fun b g2 => match m.o a b with
  | some r => .ok r g2
  | none => .bad
  else .bad
def tBMX (X : Cx) (ids : String → Option String) (to : TE) (t : TA) : TE := fun σ H Q => to σ H fun x H1 => ∃ (ty id : String), ids ty = some id ∧ (∀ (pins : List (Addr × Obj)) (s : Shared) (v : Value), Inv X pins σ H1 s → RelV x v → s.TypeIs v ty ∧ ∀ a, v = .ref a → ∃ ob, s.heap.get? a = some ob ∧ ob.dict = none) ∧ t σ H1 fun xs H2 => wMt X id x xs H2 Q
theorem pe_m1 {X : Cx} (m : MtD) {o e : Expr} {to : TE} {t : TA} {apos cpos : Pos} (ho : PE X o to) (ha : PA X [e] t) (hc : notCall0 o = true) (hs : notStar e = true) (hline : (apos.endLine == cpos.line) = true) : PE X (.Call (.Attribute o m.name apos) [e] [] cpos) (tBMX X m.ids to t) := by
  refine ⟨fun pins s σ H Q I h => ?_⟩
  refine wpAny_Call_method_late (base_of hc _) (few_of (by simp [hs]) (by show 1 < 30; decide)) hline rfl (thn (ho.run pins s σ H _ I h) fun v s1 ⟨x, H1, I1, r1, ty, id, hid, hty, q1⟩ => ?_)
  obtain ⟨p1, p2, p3⟩ := m.slot hid
  obtain ⟨h1, h2⟩ := hty pins s1 v I1 r1
  refine ⟨ty, id, p1, p2, p3, h1, h2, ?_⟩
  have hA := ha.run cpos pins s1 σ H1 _ I1 q1
  rw [star_of hs] at hA ⊢
  exact Calls.callWith_builtin rfl (Calls.evalArgs_plain (thn hA fun us s2 ⟨vs, H2, I2, r2, q2⟩ => q2 pins s2 σ v us I2 r1 r2))
section
variable {T : Tab} {N : List Str} {sc : Scope}
theorem SE.m1 (m : MtD) {o e : Expr} {f h : Den} {apos pos : Pos} (hc : notCall0 o = true) (hl : (apos.endLine == pos.line) = true) (hs : notStar e = true) (ho : SE T N sc o f) (he : SE T N sc e h) :
    SE T N sc (.Call (.Attribute o m.name apos) [e] [] pos) (dM1 m f h) := by
  intro C Z k F W X cx H0 ρ g σ H S Q hp
  unfold dM1 at hp
  refine wE.of (pe_m1 m wE.pe (pa_cons wE.pe pa_nil (star_of hs)) hc hs hl) ?_
  refine ho.then cx S rlF.sh hp fun a g1 x H1 e1 k1 r1 S1 p1 => ?_
  split at p1
  case isFalse => exact p1.elim
  rename_i hm
  unfold mtyIn at hm
  split at hm
  case h_2 => cases hm
  rename_i t ht
  obtain ⟨id, hid⟩ := Option.isSome_iff_exists.mp hm
  refine ⟨t, id, hid, fun pins s v I r => mty_base cx I r (FRep.w r1) ht, ?_⟩
  refine he.then cx S1 rlF.sh p1 fun b g2 y H2 e2 k2 r2 S2 p2 => ?_
  split at p2
  case h_2 => exact p2.elim
  rename_i res hr
  exact m.ok cx ht hid hr ((FRep.w r1).ext k1 e2) (FRep.w r2) k2 Q p2
end

/-! ### count -/
def rCntT (K : PySem.W.Frag) : V → List V → Hp → VK → Prop := fun x xs H Q => ∃ (p : Addr) (ns : List Int) (k : Int), x = .ref p ∧ xs = [.int k] ∧ SqT K H p (ns.map V.int) ∧ Q (.int (ns.count k : Nat)) H
theorem mt_tcount {X : Cx} : MtR X "tuple.count" (rCntT X.K) := by
  intro pins s σ H x xs v us Q I rx rxs h
  obtain ⟨p, ns, k, rfl, rfl, hs, q⟩ := h
  cases rx
  obtain ⟨u, rfl, tk, rfl⟩ := rxs.one
  obtain ⟨its, rv, ⟨⟨k1, k2, k3, k4⟩, ho, hc, n, hd⟩, _⟩ := I.tuple hs
  simp only at hc hd
  subst hc hd
  have hi := ints_of_vals rv
  refine call_meets PySem.F.slot_tuple_count ⟨_, ho, rfl⟩ PySem.F.entry_tuple_count (PySem.F.args_tuple_count_2 _ _) (SeqAt.tuple_countAt p its.toArray n k2 k4 (.int k tk) (eqk k)) ⟨ho, fun y hy => (eqk_gives hi y (by simpa using hy)).at _ _, ?_⟩
  refine ⟨.int (ns.count k : Nat), H, I.tok _, ⟨s.toks, ?_⟩, q⟩
  have ec : its.toArray.toList.countP (eqk k) = ns.count k := eqk_count hi
  rw [ec]
def oCnt : Op2 := fun a b => match b.1 with
  | .int k => (a.1.its.bind D.ints).map fun ns => (.int (ns.count k : Nat), .s)
  | _ => none
def mCount : MtD where
  name := "count"
  ids := fun t => if t = "list" then some "list.count" else if t = "tuple" then some "tuple.count" else none
  o := oCnt
  slot := fun {t id} h => by
    split at h
    · rename_i e; subst e; cases h; exact ⟨PySem.F.plainAttrs_list, PySem.F.slot_list_count, PySem.F.type_list_count⟩
    · split at h
      · rename_i e; subst e; cases h; exact ⟨PySem.F.plainAttrs_tuple, PySem.F.slot_tuple_count, PySem.F.type_tuple_count⟩
      · cases h
  ok := fun {C Z T k F W N sc X} cx {a b res x y H g t id} ht hid hr hx hy k0 Q hQ => by
    obtain ⟨a, fa⟩ := a
    obtain ⟨b, fb⟩ := b
    dsimp only at *
    unfold oCnt at hr
    split at hr
    case h_2 => cases hr
    rename_i n hb
    dsimp only at hb hr
    subst hb
    obtain ⟨ns, hn, rfl⟩ := Option.map_eq_some_iff.mp hr
    have ey := hy.int
    subst ey
    cases a with
    | lst l =>
      cases ht
      cases hid
      obtain ⟨p, xs, rfl, hs, rr⟩ := hx.lst
      rw [ints_of (show D.ints l = some ns from hn) rr, ← cx.hK] at hs
      exact wMt.of mt_lcount ⟨p, ns, n, rfl, rfl, hs, hQ _ H (.refl _ _) k0 rfl⟩
    | tup l =>
      cases ht
      cases hid
      obtain ⟨p, xs, rfl, hs, rr⟩ := hx.tup
      rw [ints_of (show D.ints l = some ns from hn) rr, ← cx.hK] at hs
      exact wMt.of mt_tcount ⟨p, ns, n, rfl, rfl, hs.sq, hQ _ H (.refl _ _) k0 rfl⟩
    | _ => cases hn
/-! ### index -/
def oInd : Op2 := fun a b => match a.1, b.1 with
  | .lst l, .int k => (D.ints l).bind fun ns => (ns.idxOf? k).map fun i => (.int (i : Nat), .s)
  | .str l, .str m => match Builtin.Str.occurrences ⟨l.toArray⟩ ⟨m.toArray⟩ 0 l.length 1 with
    | i :: _ => some (.int (i : Nat), .s)
    | [] => none
  | _, _ => none
theorem idxOf_at : ∀ {ns : List Int} {k : Int} {i : Nat}, ns.idxOf? k = some i → ns[i]? = some k ∧ ∀ m z, m < i → ns[m]? = some z → z ≠ k
  | [], k, i, h => by simp at h
  | a :: r, k, i, h => by
    rw [List.idxOf?_cons] at h
    split at h
    · rename_i e
      cases h
      exact ⟨by simpa using e, fun m z hm => absurd hm (Nat.not_lt_zero _)⟩
    · rename_i e
      obtain ⟨j, hj, rfl⟩ := Option.map_eq_some_iff.mp h
      obtain ⟨h1, h2⟩ := idxOf_at hj
      refine ⟨by simpa using h1, fun m z hm hz => ?_⟩
      cases m with
      | zero => simp at hz; subst hz; simpa using e
      | succ m => exact h2 m z (by omega) (by simpa using hz)
def mIndex : MtD where
  name := "index"
  ids := fun t => if t = "list" then some "list.index" else if t = "str" then some "str.index" else none
  o := oInd
  slot := fun {t id} h => by
    split at h
    · rename_i e; subst e; cases h; exact ⟨PySem.F.plainAttrs_list, PySem.F.slot_list_index, PySem.F.type_list_index⟩
    · split at h
      · rename_i e; subst e; cases h; exact ⟨PySem.F.plainAttrs_str, PySem.F.slot_str_index, PySem.F.type_str_index⟩
      · cases h
  ok := fun {C Z T k F W N sc X} cx {a b res x y H g t id} ht hid hr hx hy k0 Q hQ => by
    obtain ⟨a, fa⟩ := a
    obtain ⟨b, fb⟩ := b
    dsimp only at *
    unfold oInd at hr
    split at hr
    · rename_i l n ha hb
      dsimp only at ha hb
      subst ha hb
      cases ht
      cases hid
      obtain ⟨ns, hn, hr⟩ := Option.bind_eq_some_iff.mp hr
      obtain ⟨i, hi, rfl⟩ := Option.map_eq_some_iff.mp hr
      obtain ⟨i1, i2⟩ := idxOf_at hi
      have ey := hy.int
      subst ey
      obtain ⟨p, xs, rfl, hs, rr⟩ := hx.lst
      have ex := ints_of hn rr
      subst ex
      rw [← cx.hK] at hs
      refine wMt.of mt_index ⟨p, _, .int n, i, .int n, rfl, rfl, hs, rfl, by simp [flatV], by rw [List.getElem?_map, i1]; rfl, by simp [eqV], fun m z hm hz => ?_, hQ _ H (.refl _ _) k0 rfl⟩
      rw [List.getElem?_map] at hz
      obtain ⟨q, hq, rfl⟩ := Option.map_eq_some_iff.mp hz
      have := i2 m q hm hq
      simpa [eqV] using this
    · rename_i l m ha hb
      dsimp only at ha hb
      subst ha hb
      cases ht
      cases hid
      split at hr
      case h_2 => cases hr
      rename_i i rest ho
      cases hr
      have ey := hy.str
      have ex := hx.str
      subst ey ex
      refine wMt.of mt_sindex ⟨_, _, i, rest, rfl, rfl, ?_, hQ _ H (.refl _ _) k0 rfl⟩
      have e : (⟨l.toArray⟩ : Str).length = l.length := by show l.toArray.size = _; simp
      rw [e]; exact ho
    · cases hr
end Ev
end

section
/-! EvH: join; xs += e; x[::-1]. -/
namespace Ev
open PySem PySem.Spec L2
open PyProof.Rows hiding St

/-! ### join -/
def D.strs : List D → Option (List (List Nat))
  | [] => some []
  | .str s :: r => (D.strs r).map (s :: ·)
  | _ :: _ => none
def joinN (sep : List Nat) : List (List Nat) → List Nat
  | [] => []
  | [a] => a
  | a :: b :: r => a ++ (sep ++ joinN sep (b :: r))
def oJoin : Op2 := fun a b => match a.1 with
  | .str s => (b.1.its.bind D.strs).bind fun ps => if (ps.map (·.length)).sum + ps.length * s.length ≤ 16777216 then some (.str (joinN s ps), .s) else none
  | _ => none
theorem strs_rep {C : Cst} {H : Hp} : ∀ {l : List D} {ps : List (List Nat)} {xs : List V}, D.strs l = some ps → Reps C H l xs → xs = (ps.map fun p => (⟨p.toArray⟩ : Str)).map V.str
  | [], _, _, h, r => by cases h; exact r
  | d :: l, _, _, h, r => by
    cases d with
    | str s =>
      rw [D.strs] at h
      obtain ⟨qs, hq, rfl⟩ := Option.map_eq_some_iff.mp h
      obtain ⟨x, ys, rfl, hx, hr⟩ := r
      rw [show x = V.str ⟨s.toArray⟩ from hx, strs_rep hq hr]
      rfl
    | _ => cases h
theorem joinN_eq (s : List Nat) : ∀ ps : List (List Nat), Str.join ⟨s.toArray⟩ (ps.map fun p => (⟨p.toArray⟩ : Str)) = ⟨(joinN s ps).toArray⟩
  | [] => rfl
  | [a] => rfl
  | a :: b :: r => by
    have ih := joinN_eq s (b :: r)
    show (⟨a.toArray⟩ : Str) ++ ⟨s.toArray⟩ ++ Str.join ⟨s.toArray⟩ ((b :: r).map fun p => (⟨p.toArray⟩ : Str)) = _
    rw [ih, str_app, str_app, List.append_assoc]; rfl
def mJoin : MtD where
  name := "join"
  ids := fun t => if t = "str" then some "str.join" else none
  o := oJoin
  slot := fun {t id} h => by
    split at h
    · rename_i e; subst e; cases h; exact ⟨PySem.F.plainAttrs_str, PySem.F.slot_str_join, PySem.F.type_str_join⟩
    · cases h
  ok := fun {C Z T k F W N sc X} cx {a b res x y H g t id} ht hid hr hx hy k0 Q hQ => by
    obtain ⟨a, fa⟩ := a
    obtain ⟨b, fb⟩ := b
    dsimp only at *
    unfold oJoin at hr
    split at hr
    case h_2 => cases hr
    rename_i z ha
    dsimp only at ha hr
    subst ha
    cases ht
    cases hid
    obtain ⟨ps, hp, hr⟩ := Option.bind_eq_some_iff.mp hr
    split at hr
    case isFalse => cases hr
    rename_i hz
    cases hr
    obtain ⟨l, hl, hps⟩ := Option.bind_eq_some_iff.mp hp
    have ex := hx.str
    subst ex
    have seq : ∃ p, y = .ref p ∧ (SqL X.K H p ((ps.map fun p => (⟨p.toArray⟩ : Str)).map V.str) ∨ SqT X.K H p ((ps.map fun p => (⟨p.toArray⟩ : Str)).map V.str)) := by
      cases b with
      | lst l0 =>
        cases hl
        obtain ⟨p, xs, rfl, hs, rr⟩ := hy.lst
        rw [strs_rep hps rr, ← cx.hK] at hs
        exact ⟨p, rfl, .inl hs⟩
      | tup l0 =>
        cases hl
        obtain ⟨p, xs, rfl, hs, rr⟩ := hy.tup
        rw [strs_rep hps rr, ← cx.hK] at hs
        exact ⟨p, rfl, .inr hs.sq⟩
      | _ => cases hl
    obtain ⟨p, rfl, hs⟩ := seq
    refine wMt.of mt_join ⟨_, p, _, rfl, rfl, hs, ?_, ?_⟩
    · rw [List.map_map, List.length_map]
      have e1 : ((fun x : Str => x.length) ∘ fun p : List Nat => (⟨p.toArray⟩ : Str)) = fun p => p.length := by
        funext p; show p.toArray.size = _; simp
      have e2 : (⟨z.toArray⟩ : Str).length = z.length := by show z.toArray.size = _; simp
      rw [e1, e2]; exact hz
    · refine hQ _ H (.refl _ _) k0 ?_
      show _ = _
      rw [TL.join_eq, joinN_eq]

/-! ### xs += e -/
def augV (j : Nat) (a : D × Fl) (ρ : Env') (g : G) : SR := match ρ[j]? with
  | some (.o (.lst l)) => match a with
    | (.lst m, .f) => if l.length + m.length ≤ LN then .nx (ρ.set j (.o (.lst (l ++ m)))) g else .bad
    | _ => .bad
  | _ => .bad
def dAug (j : Nat) (f : Den) : DenS := fun F ρ g => match ρ[j]? with
  | some (.o (.lst _)) => (f F ρ g).sb fun a g1 => augV j a ρ g1
  | _ => .bad
theorem set_get_self {α : Type} {l : List α} {i : Nat} {a : α} (h : l[i]? = some a) : l.set i a = l := by
  obtain ⟨hi, e⟩ := List.getElem?_eq_some_iff.mp h
  subst e
  exact List.set_getElem_self hi
section
variable {T : Tab} {N : List Str} {sc : Scope}
theorem SSt.aug {x : Str} {j : Nat} {e : Expr} {px spos : Pos} {f : Den} (hi : N[j]? = some x) (hx : locOk sc x = true) (h : SE T N sc e f) : SSt T N sc (.AugAssign (.Name x px) .Add e spos) (dAug j f) := by
  intro C Z k F W X cx H0 ρ g σ H S E hp
  refine wS.of (ps_aug (by rw [cx.hN]; exact cx.nd) (by rw [cx.hN]; exact hi) (by rw [cx.sc]; exact locOk.loc hx) wE.pe iop_ext (.inl (cx.fnc x))) ?_
  unfold dAug at hp
  split at hp
  case h_2 => exact hp.elim
  rename_i l q
  obtain ⟨a, h1, h2, h3, xs, h4, h5⟩ := S.own q
  refine ⟨_, h1, h C Z k F W X cx.toCtx H0 ρ g σ H S _ (PostS.sb S hp fun v g1 y H1 qa e1 k1 r1 S1 hp1 => ?_)⟩
  obtain ⟨d, fl⟩ := v
  unfold augV at hp1
  rw [q] at hp1
  dsimp only at hp1
  split at hp1
  case h_2 => exact hp1.elim
  rename_i m hm
  cases hm
  split at hp1
  case isFalse => exact hp1.elim
  rename_i hl
  obtain ⟨b, rfl, b1, b2, zs, b3, b4⟩ := r1
  obtain ⟨a', h1', h2', h3', xs', h4', h5'⟩ := S1.own q
  rw [h1] at h1'
  cases h1'
  have kp : Keep H1 (L2.upd H1 a (.lst (xs' ++ zs))) := keep_upd h4'
  have hn : σ.set j (some (.ref a)) = σ := set_get_self h1
  refine ⟨a, b, xs', zs, rfl, rfl, h4', b3, by rw [h5'.length, b4.length, LN_eq]; exact hl, ?_⟩
  show E.nx (σ.set j (some (.ref a))) _
  rw [hn]
  exact hp1 σ _ kp (S1.upd (s := .o _) q h1 kp ⟨a, rfl, h2, h3, _, upd_same, (h5'.keep kp).append (b4.keep kp)⟩ fun _ _ => trivial)
end
end Ev
end

section
/-! EvI: x[::-1]. -/
namespace Ev
open PySem PySem.Spec L2
open PyProof.Rows hiding St

section
variable {P : Program} {w : World} {A : Around} {E : Value → Shared → Prop} {s : Shared}
theorem applied_rev {sl : Addr} {tk : Tok} {n : Nat} {Q : Int × Int × Nat → Shared → Prop} (hs : s.heap.IsSliceOf sl .none .none (.int (-1) tk)) (h : Q ((n : Int) - 1, -1, n) s) : wpAny (model P w) A (Builtin.Slice.sliceApplied (.ref sl) (pure (n : Int))) Q E s := by
  obtain ⟨o, ho, hc, hd⟩ := id hs
  unfold Builtin.Slice.sliceApplied Builtin.Slice.sliceFields
  apply wpAny_bind
  refine wpAny_bind (wpAny_field ho hd (x := .none) rfl (wpAny_bind (wpAny_field ho hd (x := .none) rfl (wpAny_bind (wpAny_field ho hd (x := .int (-1) tk) rfl (wpAny_pure ?_))))))
  apply wpAny_bind
  apply HT.slicePart_ (.int (-1) tk)
  show wpAny _ _ (if ((-1 : Int) == 0) = true then _ else _) _ _ s
  rw [if_neg (by decide)]
  refine wpAny_bind (HT.slicePart_ .none (wpAny_bind (HT.slicePart_ .none (wpAny_bind (wpAny_pure ?_)))))
  show wpAny _ _ (pure ((n : Int) - 1, (-1 : Int), Builtin.Slice.slicePlaces ((n : Int) - 1) (-1) (-1))) _ _ s
  have e : Builtin.Slice.slicePlaces ((n : Int) - 1) (-1) (-1) = n := by
    unfold Builtin.Slice.slicePlaces
    rw [if_neg (by decide), show (-(-1) : Int) = 1 from rfl, Int.ediv_one]
    split <;> omega
  rw [e]
  exact wpAny_pure h
theorem fm_congr {α β : Type} {f g : α → Option β} : ∀ {l : List α}, (∀ a ∈ l, f a = g a) → l.filterMap f = l.filterMap g
  | [], _ => rfl
  | a :: r, h => by rw [List.filterMap_cons, List.filterMap_cons, h a (List.mem_cons_self ..), fm_congr fun b hb => h b (List.mem_cons_of_mem _ hb)]
theorem pick_rev (xs : Array Value) : ((List.range xs.size).filterMap fun (k : Nat) => xs[((xs.size : Int) - 1 + (k : Int) * (-1)).toNat]?).toArray = xs.toList.reverse.toArray := by
  have e : (List.range xs.size).filterMap (fun (k : Nat) => xs[((xs.size : Int) - 1 + (k : Int) * (-1)).toNat]?) = ((List.range xs.size).map fun k => xs.size - 1 - k).filterMap (xs[·]?) := by
    rw [List.filterMap_map]
    refine fm_congr fun k hk => ?_
    rw [List.mem_range] at hk
    show xs[((xs.size : Int) - 1 + (k : Int) * (-1)).toNat]? = xs[xs.size - 1 - k]?
    rw [show ((xs.size : Int) - 1 + (k : Int) * (-1)).toNat = xs.size - 1 - k by omega]
  rw [e, PySem.W.krv_range, List.filterMap_reverse, PySem.W.krv_all]
theorem tuple_rev {t sl : Addr} {tk : Tok} {items : Array Value} {Q : Value → Shared → Prop} (ht : IsTup s.heap t items) (hs : s.heap.IsSliceOf sl .none .none (.int (-1) tk))
    (h : Q (.ref s.heap.objs.size) { s with heap := s.heap.push { cls := .type "tuple", data := .seq items.toList.reverse.toArray } }) (hz : items.size ≤ sizeLine) : wpAny (model P w) A (getItem (.ref t) (.ref sl)) Q E s := by
  obtain ⟨o, ho, hc, hd⟩ := id hs
  have hT : s.TypeIs (.ref sl) "slice" := ⟨o, ho, hc⟩
  have hz' : sizeOk (.seq items.toList.reverse.toArray) := by
    show items.toList.reverse.toArray.size ≤ sizeLine
    rw [List.size_toArray, List.length_reverse, Array.length_toList]; exact hz
  unfold getItem
  try with_reducible refine wpAny_holding ?_
  first | refine wpAny_bind (wpAny_pure ?_) | skip
  apply wpAny_bind
  refine wpAny_sequenceKey ht.typeIs (by decide) ?_
  apply wpAny_bind
  refine wpAny_callSpecial?_slot (name := Str.ofString "__getitem__") ht.typeIs PyProof.Rows.slot_tuple_getitem (wpAny_call_entry PyProof.Rows.slot_tuple_getitem ht.typeIs entry_tuple_getitem ?_ (args_tuple_getitem _ _))
  show wpAny _ _ (Builtin.Tuple.tupleItemsOf (.ref t) >>= _) _ _ s
  apply wpAny_bind
  refine tupleItemsOf_ ht ?_
  apply wpAny_bind
  refine wpAny_typeOf hT ?_
  rw [if_pos (by decide)]
  apply wpAny_bind
  refine applied_rev hs ?_
  have hno : ¬ ((((items.size : Int) - 1) == 0 && (-1 : Int) == 1 && items.size == items.size) = true) := by simp
  show wpAny _ _ (if (((items.size : Int) - 1) == 0 && (-1 : Int) == 1 && items.size == items.size) = true then _ else _) _ _ s
  rw [if_neg hno, pick_rev]
  first
    | exact wpAny_bind (m := Builtin.Tuple.tupleExact _) (wpAny_newObj_type (wpAny_pure ⟨_, rfl, wpAny_pure h⟩) hz')
    | exact wpAny_bind (wpAny_bind (m := Builtin.Tuple.tupleExact _) (wpAny_newObj_type (wpAny_pure (wpAny_pure ⟨_, rfl, wpAny_pure h⟩)) hz'))
end

/-- x[::-1] -/
def wRev (X : Cx) : V → Hp → VK → Prop := fun x H Q => ∀ (pins : List (Addr × Obj)) (s : Shared) (σ : L2.St) (v : Value) (sl : Addr) (tk : Tok), Inv X pins σ H s → RelV x v → s.heap.IsSliceOf sl .none .none (.int (-1) tk) →
  ∃ T id, typeLookup (.type T) "__getitem__" = pure (some (.builtin id)) ∧ s.TypeIs v T ∧ wpAny (model X.prog X.w) X.A (getItem v (.ref sl)) (EP X pins σ Q) X.xe s
theorem pe_rev {X : Cx} {e : Expr} {te : TE} {k : Nat} {p1 p2 p3 pos : Pos} (he : PE X e te) : PE X (.Subscript e (.Slice none none (some (.UnaryOp .USub (.Constant (.int 1) k p1) p2)) p3) pos) (fun σ H Q => te σ H fun x H1 => wRev X x H1 Q) := by
  constructor
  intro pins s σ H Q I h
  apply Subscript_
  refine thn (he.run pins s σ H _ I h) fun v s1 ⟨x, H1, I1, r1, q1⟩ => ?_
  have step : PO X (some (.UnaryOp .USub (.Constant (.int 1) k p1) p2)) (tPart (tUn (rU fun i => .int (-i)) (tC (.int 1)))) := po_some (pe_un un_neg pe_int)
  apply wpAny_Slice
  refine thn (po_none.run pins s1 σ H1 (fun o H2 => o = none ∧ H2 = H1) I1 ⟨rfl, rfl⟩) fun a s2 ⟨o2, H2, I2, pa, ea, e2⟩ => ?_
  subst ea e2
  refine thn (po_none.run pins s2 σ H2 (fun o H3 => o = none ∧ H3 = H2) I2 ⟨rfl, rfl⟩) fun b s3 ⟨o3, H3, I3, pb, eb, e3⟩ => ?_
  subst eb e3
  refine thn (step.run pins s3 σ H3 (fun o H4 => o = some (-1) ∧ H4 = H3) I3 ⟨1, rfl, -1, rfl, rfl, rfl⟩) fun c s4 ⟨o4, H4, I4, pc, ec, e4⟩ => ?_
  subst ec e4
  cases pa
  cases pb
  obtain ⟨tk, rfl⟩ : ∃ tk, c = .int (-1) tk := by cases pc; exact ⟨_, rfl⟩
  have I5 : Inv X pins σ H4 { s4 with heap := s4.heap.push { cls := .type "slice", data := .fields #[.none, .none, .int (-1) tk] } } := I4.kept (t' := s4.toks) fun b ob q => Heap.get?_push_of_some _ q
  obtain ⟨T, id, t1, t2, q⟩ := q1 pins _ σ v s4.heap.objs.size tk I5 r1 (Heap.IsSliceOf.new _ .none .none (.int (-1) tk))
  show wpAny (model X.prog X.w) X.A (subscriptTail e (.Slice none none (some (.UnaryOp .USub (.Constant (.int 1) k p1) p2)) p3) v (.ref s4.heap.objs.size)) (EP X pins σ Q) X.xe { s4 with heap := s4.heap.push { cls := .type "slice", data := .fields #[.none, .none, .int (-1) tk] } }
  exact tail_any (ops := [v, .ref s4.heap.objs.size]) t2 t1 q (by with_unfolding_all rfl)
def oRev (a : D × Fl) : Option (D × Fl) := match a.1 with
  | .lst l => some (.lst l.reverse, .f)
  | .tup l => if l.length ≤ LN then some (.tup l.reverse, .s) else none
  | .str l => if l.length ≤ LN then some (.str l.reverse, .s) else none
  | _ => none
def dRev (f : Den) : Den := fun F ρ g => (f F ρ g).bind fun a g1 => match oRev a with
  | some r => .ok r g1
  | none => .bad
theorem rev_ok {C : Cst} {Z : Xcs} {T : Tab} {k : Nat} {F : FT} {W : WX} {N : List Str} {sc : Scope} {X : Cx} (cx : Ctx C Z T k F W N sc X) {a res : D × Fl} {x : V} {H : Hp} {g : G} (hr : oRev a = some res) (hx : WRep C H a.1 x) (k0 : GOk C g H) (Q : VK) (hQ : ∀ v H', Ext C H H' → GOk C g H' → rlF C H H' res v → Q v H') : wRev X x H Q := by
  intro pins s σ v sl tk I r hs
  obtain ⟨d, fl⟩ := a
  dsimp only at hx
  unfold oRev at hr
  dsimp only at hr
  cases d with
  | lst l =>
    cases hr
    obtain ⟨p, xs, rfl, hq, rr⟩ := hx.lst
    rw [← cx.hK] at hq
    obtain rfl : v = Value.ref p := r
    obtain ⟨its, rv, ht, hz⟩ := I.list hq
    have hlen := rv.length
    refine ⟨"list", _, PySem.slot_list_getitem.lookup, ht.isList.typeIs, ?_⟩
    refine wpAny_getItem_list_slice ht.isList hs .none .none (.int (-1) tk) (by decide) ?_ (by rw [List.size_toArray]; omega)
    rw [PySem.W.krv_pick]
    have nw := I.hok.fresh (Nat.le_refl s.heap.objs.size)
    refine ⟨.ref _, _, I.laid (t' := s.toks) (o := .lst xs.reverse) (fun b ob q => Heap.get?_push_of_some _ q) (Nat.le_refl _) ⟨by rw [List.length_reverse]; exact hz, _, 0, rv.reverse, Heap.get?_push_size _ rfl⟩, rfl, hQ _ _ (.new nw) (k0.upd (k0.no nw)) ⟨_, rfl, nw, k0.no nw, _, upd_same, rr.reverse.keep (.new nw)⟩⟩
  | tup l =>
    dsimp only at hr
    split at hr
    case isFalse => cases hr
    cases hr
    obtain ⟨p, xs, rfl, hq, rr⟩ := hx.tup
    rw [← cx.hK] at hq
    obtain rfl : v = Value.ref p := r
    obtain ⟨its, rv, ht, hz⟩ := I.tuple hq.sq
    have hlen := rv.length
    refine ⟨"tuple", _, PyProof.Rows.slot_tuple_getitem.lookup, ht.typeIs, ?_⟩
    refine tuple_rev ht hs ?_ (by rw [List.size_toArray]; omega)
    have nw := I.hok.fresh (Nat.le_refl s.heap.objs.size)
    exact ⟨.ref s.heap.objs.size, _, Inv.tupNew I rv.reverse (by rw [List.length_reverse]; exact hz), rfl, hQ _ _ (.new nw) (k0.upd (k0.no nw)) ⟨_, _, rfl, .new, rr.reverse.keep (.new nw)⟩⟩
  | str l =>
    dsimp only at hr
    split at hr
    case isFalse => cases hr
    rename_i hl
    cases hr
    obtain rfl := hx.str
    obtain ⟨t, rfl⟩ := r
    refine ⟨"str", _, PySem.F.slot_str_getitem.lookup, typeIs_str s _ t, ?_⟩
    refine wpAny_getItem_str_slice (l := none) (u := none) (st := some (-1, tk)) hs rfl ?_
    have e : (slicePicked ⟨l.toArray⟩ none none (some (-1, tk))).filterMap (l.toArray[·]?) = l.reverse := by
      show ((sliceRange (((⟨l.toArray⟩ : Str).length : Int) - 1) (-1) (-1)).filterMap (l.toArray[·]?)) = l.reverse
      rw [PySem.W.krv_sliceRange, PySem.W.krv_range]
      have := PySem.W.krv_all l.toArray
      rw [show (⟨l.toArray⟩ : Str).length = l.toArray.size from rfl, List.filterMap_reverse, this]
    have e2 : sliceMade ⟨l.toArray⟩ t none none (some (-1, tk)) = .str ⟨l.reverse.toArray⟩ := by
      unfold sliceMade
      rw [if_neg (by simp)]
      rw [← e]
    rw [e2]
    refine ⟨by show l.reverse.toArray.size ≤ sizeLine; rw [List.size_toArray, List.length_reverse, LN_eq]; exact hl, ?_⟩
    exact ⟨.str ⟨l.reverse.toArray⟩, H, I.tok _, ⟨s.toks, rfl⟩, hQ _ H (.refl _ _) k0 rfl⟩
  | _ => cases hr
section
variable {T : Tab} {N : List Str} {sc : Scope}
theorem SE.rev {e : Expr} {f : Den} {k : Nat} {p1 p2 p3 pos : Pos} (h : SE T N sc e f) : SE T N sc (.Subscript e (.Slice none none (some (.UnaryOp .USub (.Constant (.int 1) k p1) p2)) p3) pos) (dRev f) := by
  intro C Z k F W X cx H0 ρ g σ H S Q hp
  refine wE.of (pe_rev wE.pe) (h.then cx S rlF.sh hp fun a g1 x H1 e1 k1 r1 S1 p1 => ?_)
  split at p1
  case h_2 => exact p1.elim
  rename_i res hr
  exact rev_ok cx hr (FRep.w r1) k1 Q p1
end
end Ev
end

section
/-! EvJ: list(range(..)). -/
namespace Ev
open PySem PySem.Spec L2
open PyProof.Rows hiding St

def lrOf (i j : Int) : Option (D × Fl) := if smallI i && smallI j && decide ((j - i).toNat ≤ LN) then some (.lst (rngItems i 1 (j - i).toNat), .f) else none
def oLR : Op2 := fun a b => match a.1, b.1 with
  | .int i, .int j => lrOf i j
  | _, _ => none
def dLR1 (f : Den) : Den := fun F ρ g => (f F ρ g).bind fun a g1 => match oLR (.int 0, .s) a with
  | some r => .ok r g1
  | none => .bad
def dLR2 (f h : Den) : Den := fun F ρ g => (f F ρ g).bind fun a g1 => (h F ρ g1).bind fun b g2 => match oLR a b with
  | some r => .ok r g2
  | none => .bad
theorem rgV_eq (i j : Int) : rgV i j = ((List.range (j - i).toNat).map fun k : Nat => i + (k : Nat) * 1).map V.int := by
  unfold rgV
  rw [List.map_map]
  refine List.map_congr_left fun k _ => ?_
  show V.int (i + (k : Nat)) = V.int (i + (k : Nat) * 1)
  rw [Int.mul_one]
theorem rngItems_ints (i : Int) (n : Nat) : rngItems i 1 n = ((List.range n).map fun k : Nat => i + (k : Nat) * 1).map D.int := by
  unfold rngItems
  rw [List.map_map]; rfl
theorem lr_ok {C : Cst} {i j : Int} {res : D × Fl} {H : Hp} {g : G} (hr : lrOf i j = some res) (k0 : GOk C g H) (Q : VK) (hQ : ∀ v H', Ext C H H' → GOk C g H' → rlF C H H' res v → Q v H') : RgOk i j ∧ ∀ q, H q = none → Q (.ref q) (upd H q (.lst (rgV i j))) := by
  unfold lrOf at hr
  split at hr
  case isFalse => cases hr
  rename_i c
  cases hr
  rw [Bool.and_eq_true, Bool.and_eq_true, decide_eq_true_eq] at c
  obtain ⟨⟨c1, c2⟩, c3⟩ := c
  obtain ⟨a1, a2⟩ := smallI_ok c1
  obtain ⟨a3, a4⟩ := smallI_ok c2
  rw [← LN_eq, sizeLine_eq] at c3
  refine ⟨⟨a1, a2, a3, a4, by omega⟩, fun q hn => hQ _ _ (.new hn) (k0.upd (k0.no hn)) ⟨q, rfl, hn, k0.no hn, _, upd_same, ?_⟩⟩
  rw [rgV_eq, rngItems_ints]
  exact Reps.of_ints
section
variable {T : Tab} {N : List Str} {sc : Scope}
theorem SE.lr1 {e : Expr} {f : Den} {p p2 q pos : Pos} (hg : gl sc "list") (hg2 : gl sc "range") (hs : notStar e = true) (h : SE T N sc e f) : SE T N sc (.Call (.Name "list" p) [.Call (.Name "range" p2) [e] [] q] [] pos) (dLR1 f) := by
  intro C Z k F W X cx H0 ρ g σ H S Q hp
  refine wE.of (pe_listRg cx.calm (hg.at cx) (cx.bl _ (by simp [bnames])) (prg_1 (hg2.at cx) (cx.bl _ (by simp [bnames])) (wE.pe (X := X) (e := e)) (star_of hs)) rfl) ?_
  unfold dLR1 at hp
  refine h.then cx S rlF.sh hp fun a g1 x H1 e1 k1 r1 S1 p1 => ?_
  split at p1
  case h_2 => exact p1.elim
  rename_i res hr
  unfold oLR at hr
  split at hr
  case h_2 => cases hr
  rename_i i j ei ej
  cases ei
  have w := FRep.w r1
  rw [ej] at w
  obtain ⟨b1, b2⟩ := lr_ok hr k1 Q p1
  exact ⟨j, w.int, b1, b2⟩
theorem SE.lr2 {e e' : Expr} {f h' : Den} {p p2 q pos : Pos} (hg : gl sc "list") (hg2 : gl sc "range") (hs : notStar e = true) (hs2 : notStar e' = true) (h : SE T N sc e f) (hh : SE T N sc e' h') : SE T N sc (.Call (.Name "list" p) [.Call (.Name "range" p2) [e, e'] [] q] [] pos) (dLR2 f h') := by
  intro C Z k F W X cx H0 ρ g σ H S Q hp
  refine wE.of (pe_listRg cx.calm (hg.at cx) (cx.bl _ (by simp [bnames])) (prg_2 (hg2.at cx) (cx.bl _ (by simp [bnames])) (wE.pe (X := X) (e := e)) (wE.pe (X := X) (e := e')) (star_of hs) (star_of hs2) (by rw [star_of hs2]; rfl)) rfl) ?_
  unfold dLR2 at hp
  refine h.then cx S rlF.sh hp fun a g1 x H1 e1 k1 r1 S1 p1 => ?_
  refine hh.then cx S1 rlF.sh p1 fun b g2 y H2 e2 k2 r2 S2 p2 => ?_
  split at p2
  case h_2 => exact p2.elim
  rename_i res hr
  unfold oLR at hr
  split at hr
  case h_2 => cases hr
  rename_i i j ei ej
  have w := FRep.w r1
  rw [ei] at w
  have w2 := FRep.w r2
  rw [ej] at w2
  obtain ⟨b1, b2⟩ := lr_ok hr k2 Q p2
  exact ⟨i, j, w.int, w2.int, b1, b2⟩
end
end Ev
end

section
/-! EvK: try: .. except C: return .. -/
namespace Ev
open PySem PySem.Spec L2
open PyProof.Rows hiding St

/-- what a clause answers -/
def hdC : Const → Option D
  | .none => some .non
  | .bool b => some (.bl b)
  | _ => none
def dTry (tb : List Bool) (d : D) (f : DenS) : DenS := fun F ρ g => match f F ρ g with
  | .exc c xs g' => match tb[c]? with
    | some true => .rt d false g'
    | some false => .exc c xs g'
    | none => .bad
  | r => r
def dBadS : DenS := fun _ _ _ => .bad
section
variable {T : Tab} {N : List Str} {sc : Scope}
theorem SSt.bad {s : Stmt} : SSt T N sc s dBadS := fun C Z k F W X cx H0 ρ g σ H S E hp => hp.elim
theorem CtxS.tr {C : Cst} {Z : Xcs} {k : Nat} {F : FT} {W W' : WX} {X : Cx} (cx : CtxS C Z T k F W N sc X) {pn : List (Addr × Obj)} {xe : Value → Shared → Prop} (tk : Takes (X.tr pn xe) W') (po : PassesOwn (model X.prog X.w) X.A X.env xe) : CtxS C Z T k F W' N sc (X.tr pn xe) where
  hK := cx.hK
  hw := cx.hw
  calm := cx.calm
  hN := cx.hN
  nd := cx.nd
  sc := cx.sc
  room := cx.room
  fns := fun i x n h => let ⟨a, h1, h2, h3⟩ := cx.fns i x n h; ⟨a, h1, h2, ⟨h3.ok, h3.kp⟩⟩
  cons := cx.cons
  bl := cx.bl
  xcs := cx.xcs
  tk := tk
  fnc := cx.fnc
  stk := cx.stk
  frm := cx.frm
  exm := cx.exm
  po := po
theorem SSt.tryC {body : List Stmt} {x : Str} {j : Nat} {tb : List Bool} {f : DenS} {c : Const} {d : D} {jj : Nat} {np p3 p4 pos pos' : Pos} (hx : T.excs[j]? = some x) (hg : gl sc x) (hd : (x == ("__debug__" : Str)) = false) (hs : (j, tb) ∈ T.sub) (hc : hdC c = some d) (h : SSts T N sc body f) :
    SSt T N sc (.Try body [.ExceptHandler (some (.Name x np)) none [.Return (some (.Constant c jj p3)) p4] pos'] [] [] pos) (dTry tb d f) := by
  intro C Z k F W X cx H0 ρ g σ H S E hp
  obtain ⟨cj, h1, h2, h3⟩ := cx.xcs j x hx
  have tail : ∃ v, (∀ H, Rep C H d v) ∧ ∀ X' : Cx, PSs X' [.Return (some (.Constant c jj p3)) p4] (fun D _ H => D.rt v H) := by
    cases c with
    | none => cases hc; exact ⟨.non, fun _ => rfl, fun X' => pss_one (ps_ret pe_non)⟩
    | bool b => cases hc; exact ⟨.bl b, fun _ => rfl, fun X' => pss_one (ps_ret pe_bl)⟩
    | _ => cases hc
  obtain ⟨v, rv, tl⟩ := tail
  refine wS.of (ps_try_only cx.stk cx.frm ⟨hg.at cx.toCtx, hd, .inl h1⟩ cx.tk (fun W' pn xe tk po => ⟨fun pins s σ' H' D I q => q pn xe tk po pins s I⟩) (tb := fun W' D σ' H' => ∀ pn xe, Takes (X.tr pn xe) W' → PassesOwn (model X.prog X.w) X.A X.env xe → wSs (X.tr pn xe) body D σ' H') (fun a oe cls dd pn _ _ => tl _)) ?_
  intro pn xe tk po
  refine h C Z k F _ (X.tr pn xe) (cx.tr tk po) H0 ρ g σ H S E ?_
  unfold dTry at hp
  cases q : f F ρ g with
  | exc i xs g' =>
    rw [q] at hp
    dsimp only at hp
    intro cv od σ' H' e k' xr
    obtain ⟨⟨ci, z1, rfl⟩, _⟩ := id xr
    cases qt : tb[i]? with
    | none => rw [qt] at hp; exact hp.elim
    | some b =>
      rw [qt] at hp
      refine ⟨b, cx.exm j tb i b ci cj hs qt z1 h2, fun hb a _ => ?_, fun hb => ?_⟩
      · subst hb
        exact hp v H' e k' (rv H')
      · subst hb
        exact hp _ od σ' H' e k' xr
  | nx => rw [q] at hp; exact hp
  | bk => rw [q] at hp; exact hp
  | ct => rw [q] at hp; exact hp
  | rt => rw [q] at hp; exact hp
  | bad => rw [q] at hp; exact hp
end
end Ev
end

section
/-! EvL: sorted(..) of any alike data; l * n. -/
namespace PySem.W
open PySem PySem.Calls PyProof.Rows PySem.SeqAt
section
variable {prog : Program} {w : World} {A : Around} {s : Shared}
/-- one tuple against another, as a key of one type -/
theorem oneLt_tuples {xs ys : List PyData} {a b : Value} {as bs : List Addr} {E : Value → Shared → Prop} {Q : Bool → Shared → Prop} (ra : Reads s.heap a (.tuple xs) as) (rb : Reads s.heap b (.tuple ys) bs) (h : alike (.tuple xs) (.tuple ys) = true)
    (hu : A.units + min (PyData.tuple xs).depth (PyData.tuple ys).depth < cLine) (hq : Q (dataLt (.tuple xs) (.tuple ys)) s) : wpAny (model prog w) A (oneLt' true a b) Q E s := by
  have hal : alikeAll xs ys = true := by simpa [alike] using h
  cases ra with
  | @tuple l o vs n _ as₁ h1 h2 h3 h4 =>
    cases rb with
    | @tuple l' o' vs' n' _ bs₁ k1 k2 k3 k4 =>
      have n1 : vs.size = xs.length := by simpa using SeqAt.ReadsAll.length _ _ _ h4
      have n2 : vs'.size = ys.length := by simpa using SeqAt.ReadsAll.length _ _ _ k4
      rw [dataLt_tuple, ← firstLt_toks xs ys hal, ← n1, ← n2] at hq
      obtain ⟨cls, dd, data, sl⟩ := o
      obtain ⟨cls2, dd2, data2, sl2⟩ := o'
      simp only at h2 h3 k2 k3
      subst h2 h3 k2 k3
      rw [oneLt'_eq]
      simp only [if_true]
      refine wpAny_bind (wpAny_cRoomFor (SeqAt.room_here hu) ?_)
      refine wpAny_bind (wpAny_callSpecialIfBound?_slot (T := "tuple") ⟨_, h1, rfl⟩ F.slot_tuple_lt (call_meets F.slot_tuple_lt ⟨_, h1, rfl⟩ F.entry_tuple_lt (F.args_tuple_lt_2 _ _)
        (SeqAt.tuple_ltAt l l' vs vs' n n' dd dd2 sl sl2 (pairEq xs ys) (fun j => dataLt (xs.getD j .none) (ys.getD j .none))) ⟨h1, k1, fun j j1 j2 => ?_, fun j j1 j2 hj => ?_, ?_⟩))
      · have := eqAt_alikeAll xs ys A.in1 s vs.toList vs'.toList _ _ h4 k4 hal (SeqAt.room_in hu) j (by simpa using j1) (by simpa using j2)
        simpa using this
      · have := rcLt_alikeAll xs ys A.in1 s vs.toList vs'.toList _ _ h4 k4 hal (SeqAt.room_in hu) j (by simpa using j1) (by simpa using j2) hj
        simpa using this
      · exact wpAny_truthy_bool hq
theorem firsts0 {M : Model} {E : Value → Shared → Prop} : ∀ (vs : List Value) (ds : List PyData) {Q : List (Option Value) → Shared → Prop}, EachIs (fun v d => ∃ as, Reads s.heap v d as) vs ds → (∀ d ∈ ds, ∃ xs, d = .tuple xs) →
    (∀ os : List (Option Value), (∀ r, ds = .tuple [] :: r → os[0]? = some none) → os.length = vs.length → Q os s) → wpAny M A (vs.mapM firstOfTuple') Q E s
  | [], _, _, _, _, h => by rw [List.mapM_nil]; exact wpAny_pure (h [] (fun r e => by rename_i e0 _; subst e; cases e0) rfl)
  | v :: vs, ds, Q, e, ht, h => by
    cases e with
    | @cons _ d _ ds' hv t =>
      obtain ⟨as, r⟩ := hv
      obtain ⟨xs, rfl⟩ := ht d (List.mem_cons_self ..)
      rw [List.mapM_cons]
      refine wpAny_bind ?_
      rw [kas_first_eq]
      cases r with
      | @tuple a o its n _ _ ho hc hd hr =>
        refine wpAny_bind (Looks.here (show Looks M s.heap (typeOf (.ref a)) o.cls from (Looks.ld ho).andThen .now) ?_)
        rw [hc, if_neg (by first | decide | simp)]
        refine wpAny_bind (listItems_at ho hd (wpAny_pure ?_))
        refine wpAny_bind (firsts0 vs ds' t (fun d hd => ht d (List.mem_cons_of_mem _ hd)) fun os _ hl => wpAny_pure (h _ (fun r' e' => ?_) (by simp [hl])))
        cases e'
        have : its.toList = [] := by cases hr' : its.toList with | nil => rfl | cons a b => rw [hr'] at hr; cases hr
        have : its = #[] := by simpa using this
        subst this
        rfl
theorem SortsAt.data0 {vs : List Value} {ds r : List PyData} (e : EachIs (fun v d => ∃ as, Reads s.heap v d as) vs ds) (hal : AllAlike ds) (hk : ds = .tuple [] :: r) (ht : ∀ d ∈ ds, ∃ xs, d = .tuple xs) (hu : ∀ d, d ∈ ds → A.units + d.depth < cLine) : SortsAt prog w A s (dataKind s.heap ds) vs := by
  have room : ∀ {d d' : PyData}, d ∈ ds → A.units + min d.depth d'.depth < cLine := fun {d d'} hd => Nat.lt_of_le_of_lt (Nat.add_le_add_left (Nat.min_le_left _ _) _) (hu d hd)
  refine ⟨fun v hv => ?_, oneType', ?_, fun h2 E Q hq => ?_⟩
  · obtain ⟨d, hd, as, r⟩ := e.left v hv
    exact ⟨_, dataKind_some hal hd r⟩
  · intro E x y a b Q ha hb hq
    obtain ⟨d, as, hd, ra, rfl⟩ := dataKind_inv ha
    obtain ⟨d', as', hd', rb, rfl⟩ := dataKind_inv hb
    obtain ⟨xs, rfl⟩ := ht d hd
    obtain ⟨ys, rfl⟩ := ht d' hd'
    rw [keyLt'_oneType]
    exact oneLt_tuples ra rb (hal _ hd _ hd') (room hd) hq
  · rw [keyKind'_eq, List.mapM_toArray, map_eq_pure_bind]
    refine wpAny_bind (wpAny_bind (firsts0 vs ds e ht fun os h0 hl => wpAny_pure ?_))
    have h0 := h0 r hk
    rw [if_neg (by
      intro q
      have q' := (List.all_eq_true.mp (by simpa using q)) none (List.mem_of_getElem? h0)
      cases q'), if_neg (by
      have : os.toArray[0]? = some none := by simpa using h0
      rw [this]; simp)]
    rw [oneTypeOnly'_eq, List.mapM_toArray, map_eq_pure_bind]
    refine wpAny_bind (wpAny_bind (wpAny_bind (kas_mapM (r := Value.type "tuple") _ (fun v hv Q' hq => ?_) (wpAny_pure ?_))))
    · obtain ⟨d, hd, as, r⟩ := e.left v hv
      obtain ⟨xs, rfl⟩ := ht d hd
      exact (looks_reads r).here hq
    · obtain ⟨v1, rest, rfl⟩ : ∃ v1 rest, vs = v1 :: rest := by
        cases vs with
        | nil => simp at h2
        | cons a b => exact ⟨a, b, rfl⟩
      have hall : ((List.map (fun _ => Value.type "tuple") (v1 :: rest)).toArray.all fun x => x == Value.type "tuple") = true := by
        simp only [List.all_toArray, List.all_map, List.all_eq_true]
        intro _ _
        rfl
      have h0 : (List.map (fun _ => Value.type "tuple") (v1 :: rest)).toArray[0]? = some (Value.type "tuple") := by simp
      rw [h0]
      simp only [hall, if_true]
      exact wpAny_pure (wpAny_pure hq)
end
end PySem.W
namespace Ev
open PySem PySem.Spec L2
open PyProof.Rows hiding St

/-! ### an order on data; sorting -/
section
variable {α : Type}
def insG (le : α → α → Bool) (x : α) : List α → List α
  | [] => [x]
  | y :: r => if le x y then x :: y :: r else y :: insG le x r
def sortG (le : α → α → Bool) : List α → List α
  | [] => []
  | x :: r => insG le x (sortG le r)
theorem insG_perm (le : α → α → Bool) (x : α) : ∀ l, (insG le x l).Perm (x :: l)
  | [] => List.Perm.refl _
  | y :: r => by
    unfold insG
    split
    · exact List.Perm.refl _
    · exact ((insG_perm le x r).cons y).trans (List.Perm.swap x y r)
theorem sortG_perm (le : α → α → Bool) : ∀ l, (sortG le l).Perm l
  | [] => List.Perm.refl _
  | x :: r => (insG_perm le x _).trans ((sortG_perm le r).cons x)
variable {le : α → α → Bool} (T : PySem.W.TotalLe le)
include T
theorem insG_srt (x : α) : ∀ {l : List α}, l.Pairwise (fun a b => le a b = true) → (insG le x l).Pairwise (fun a b => le a b = true)
  | [], _ => List.pairwise_singleton _ _
  | y :: r, h => by
    obtain ⟨h1, h2⟩ := List.pairwise_cons.mp h
    unfold insG
    split
    · rename_i c
      refine List.pairwise_cons.mpr ⟨fun a ha => ?_, h⟩
      rcases List.mem_cons.mp ha with rfl | ha
      · exact c
      · exact T.trans _ _ _ c (h1 a ha)
    · rename_i c
      refine List.pairwise_cons.mpr ⟨fun a ha => ?_, insG_srt x h2⟩
      rcases List.mem_cons.mp ((insG_perm le x r).mem_iff.mp ha) with rfl | ha
      · exact (T.total a y).resolve_left c
      · exact h1 a ha
theorem sortG_srt : ∀ l : List α, (sortG le l).Pairwise (fun a b => le a b = true)
  | [] => List.Pairwise.nil
  | x :: r => insG_srt T x (sortG_srt r)
theorem insG_rank (c x : α) : ∀ l : List α, (insG le x l).filter (PySem.W.sameRank le c) = (x :: l).filter (PySem.W.sameRank le c)
  | [] => rfl
  | y :: r => by
    unfold insG
    split
    · rfl
    · rename_i h
      rw [List.filter_cons, insG_rank c x r]
      cases e1 : PySem.W.sameRank le c x with
      | false =>
        rw [List.filter_cons, e1, List.filter_cons, e1, List.filter_cons]
        simp
      | true =>
        have e2 : PySem.W.sameRank le c y = false := by
          cases q : PySem.W.sameRank le c y with
          | false => rfl
          | true =>
            unfold PySem.W.sameRank at e1 q
            rw [Bool.and_eq_true] at e1 q
            exact absurd (T.trans _ _ _ e1.2 q.1) h
        rw [List.filter_cons, List.filter_cons, e1, e2, List.filter_cons, e2]
        simp
theorem sortG_rank (c : α) : ∀ l : List α, (sortG le l).filter (PySem.W.sameRank le c) = l.filter (PySem.W.sameRank le c)
  | [] => rfl
  | x :: r => by
    show (insG le x (sortG le r)).filter _ = _
    rw [insG_rank T c x, List.filter_cons, sortG_rank c r, ← List.filter_cons]
theorem sortG_eq (l : List α) : sortG le l = l.mergeSort le := PySem.W.sort_unique T (sortG_srt T l) fun c => sortG_rank T c l
end
def dlt (a b : D) : Bool := PySem.W.dataLt a.py b.py
def dle (a b : D) : Bool := !dlt b a
def dsort (l : List D) : List D := sortG dle l
theorem dle_eq : dle = PySem.W.sortLe (listOrd itemOrd) false (fun d : D => PySem.W.keyToks d.py) := rfl
theorem dle_total : PySem.W.TotalLe dle := by rw [dle_eq]; exact PySem.W.sortLe_total _ _ _
def alkAll (ds : List D) : Bool := ds.all fun a => ds.all fun b => PySem.W.alike a.py b.py
def tupNe : D → Bool
  | .tup (_ :: _) => true
  | _ => false
def tupD : D → Bool
  | .tup _ => true
  | _ => false
def srtKey : D → Bool
  | .tup _ => false
  | .non => false
  | _ => true
def srtB (ds : List D) : Bool := ds.all D.shp && alkAll ds && (ds.all tupNe || ds.all srtKey || (match ds with | .tup [] :: _ => ds.all tupD | _ => false))
def oSortD (ds : List D) : Option (D × Fl) := match ds with
  | [d] => d.items.bind fun l => if srtB l then some (.lst (dsort l), .f) else none
  | _ => none
def oSort (ds : List D) : Option (D × Fl) := match oSortI ds with
  | some r => some r
  | none => oSortD ds
theorem pys_map0 : ∀ l : List D, D.pys l = l.map D.py
  | [] => rfl
  | d :: r => by show d.py :: D.pys r = _; rw [pys_map0 r]; rfl
theorem reads_each {C : Cst} {Z : Xcs} {T : Tab} {k : Nat} {F : FT} {W : WX} {N : List Str} {sc : Scope} {X : Cx} (cx : Ctx C Z T k F W N sc X) {pins : List (Addr × Obj)} {σ : L2.St} {H : Hp} {s : Shared} (I : Inv X pins σ H s) : ∀ {l : List D} {xs : List V} {vs : List Value}, Vals xs vs → Reps C H l xs → l.all D.shp = true →
    PySem.W.EachIs (fun v d => (∃ x, RelV x v ∧ Rep C H d x) ∧ ∃ as, Reads s.heap v d.py as) vs l
  | [], xs, vs, rv, rr, _ => by
    rw [show xs = [] from rr] at rv
    cases rv
    exact .nil
  | d :: l, xs, vs, rv, rr, hs => by
    obtain ⟨x, ys, rfl, r, rs⟩ := rr
    cases rv with
    | cons r1 r2 =>
      rw [List.all_cons, Bool.and_eq_true] at hs
      refine .cons ⟨⟨x, r1, r⟩, ?_⟩ (reads_each cx I r2 rs hs.2)
      have dp := Rep.dp d r (SeqAt.canLay_of_shaped hs.1)
      rw [← cx.hK] at dp
      exact Dp.reads I _ _ _ dp r1
theorem each_map {α β γ : Type} {R : α → γ → Prop} {f : β → γ} : ∀ {as : List α} {bs : List β}, PySem.W.EachIs (fun a b => R a (f b)) as bs → PySem.W.EachIs R as (bs.map f)
  | _, _, .nil => .nil
  | _, _, .cons h t => .cons h (each_map t)
theorem each_vals {C : Cst} {H : Hp} : ∀ {vs : List Value} {l : List D}, PySem.W.EachIs (fun v d => ∃ x, RelV x v ∧ Rep C H d x) vs l → ∃ xs, Vals xs vs ∧ Reps C H l xs
  | _, _, .nil => ⟨[], .nil, rfl⟩
  | _, _, .cons ⟨x, r1, r2⟩ t => by
    obtain ⟨xs, a, b⟩ := each_vals t
    exact ⟨x :: xs, .cons r1 a, Reps.cons r2 b⟩
theorem srtKey_ok {d : D} (h : srtKey d = true) : d.py ≠ .none ∧ ∀ xs, d.py ≠ .tuple xs := by
  cases d <;> first | exact Bool.noConfusion h | exact ⟨fun e => (nomatch e), fun _ e => (nomatch e)⟩
theorem oSortD_ok : CallOk (.builtin "sorted") oSortD := by
  intro C Z T k F W N sc X cx ds vs H g res hr hx k0 Q hQ
  unfold oSortD at hr
  split at hr
  case h_2 => cases hr
  rename_i d
  obtain ⟨x, _, rfl, h, rfl⟩ := hx
  obtain ⟨l, hl, hr⟩ := Option.bind_eq_some_iff.mp hr
  split at hr
  case isFalse => cases hr
  rename_i hb
  cases hr
  intro pins s σ us I r
  obtain ⟨u, rfl, ru⟩ := vals1 r
  obtain ⟨vs, xs, rv, rr, hz, col⟩ := collectD cx I h ru hl
  unfold srtB at hb
  rw [Bool.and_eq_true, Bool.and_eq_true] at hb
  obtain ⟨⟨hb1, hb2⟩, hb3⟩ := hb
  have hal : PySem.W.AllAlike (l.map D.py) := fun a ha b hb => by
    obtain ⟨a', ha', rfl⟩ := List.mem_map.mp ha
    obtain ⟨b', hb', rfl⟩ := List.mem_map.mp hb
    exact List.all_eq_true.mp (List.all_eq_true.mp hb2 a' ha') b' hb'
  have hu : ∀ d, d ∈ l.map D.py → X.A.in1.in1.units + d.depth < cLine := fun d hd => by
    obtain ⟨d', hd', rfl⟩ := List.mem_map.mp hd
    have h1 := SeqAt.depth_of_shaped (List.all_eq_true.mp hb1 d' hd')
    have h2 := cx.room.un
    show X.A.units + 1 + 1 + _ < _
    omega
  have E0 := reads_each cx I rv rr hb1
  have S0 : ∀ h2 : Heap, (∀ b o, s.heap.get? b = some o → h2.get? b = some o) → ∀ tk, PySem.W.SortsAt X.prog X.w X.A.in1.in1 { s with heap := h2, toks := tk } (PySem.W.dataKind h2 (l.map D.py)) vs ∧
      PySem.W.EachIs (fun v d => (PySem.W.dataKind h2 (l.map D.py)).keyOf v = some (PySem.W.keyToks d.py)) vs l := fun h2 kp tk => by
    have E1 : PySem.W.EachIs (fun v d => ∃ as, Reads h2 v d as) vs (l.map D.py) := each_map (E0.mono fun v d hh => by
      obtain ⟨as, hr⟩ := hh.2
      exact ⟨as, PySem.W.reads_keeps kp hr⟩)
    refine ⟨?_, (PySem.W.each_mem (E0.mono fun v d hh => hh.2)).mono fun v d hh => ?_⟩
    · rw [Bool.or_eq_true, Bool.or_eq_true] at hb3
      rcases hb3 with (hb3 | hb3) | hb3
      · refine PySem.W.SortsAt.data (s := { s with heap := h2, toks := tk }) E1 hal (.inl fun d hd => ?_) hu
        obtain ⟨d', hd', rfl⟩ := List.mem_map.mp hd
        have := List.all_eq_true.mp hb3 d' hd'
        cases d' with
        | tup l' => cases l' with
          | nil => cases this
          | cons a b => exact ⟨_, _, rfl⟩
        | _ => cases this
      · refine PySem.W.SortsAt.data (s := { s with heap := h2, toks := tk }) E1 hal (.inr fun d hd => ?_) hu
        obtain ⟨d', hd', rfl⟩ := List.mem_map.mp hd
        have := List.all_eq_true.mp hb3 d' hd'
        exact srtKey_ok this
      · split at hb3
        case h_2 => cases hb3
        rename_i r0
        refine PySem.W.SortsAt.data0 (s := { s with heap := h2, toks := tk }) (r := r0.map D.py) E1 hal rfl (fun d hd => ?_) hu
        obtain ⟨d', hd', rfl⟩ := List.mem_map.mp hd
        have := List.all_eq_true.mp hb3 d' hd'
        cases d' with
        | tup l' => exact ⟨_, rfl⟩
        | _ => cases this
    · obtain ⟨⟨as, hr⟩, hm⟩ := hh
      exact PySem.W.dataKind_some hal (List.mem_map.mpr ⟨d, hm, rfl⟩) (PySem.W.reads_keeps kp hr)
  refine PySem.Calls.call_function_entry kind_sorted plain_sorted entry_sorted (args_sorted1 _) ?_
  unfold Builtin.«sorted»
  refine wpAny_bind (m := checkCount "sorted" 1 1 _) (wpAny_pure ?_)
  refine wpAny_bind (col X.A.in1 X.xe (I.ok.hd cx.calm) _ fun h1 tk kp => ?_)
  refine wpAny_bind (wpAny_newList ?_ hz)
  have at1 : (h1.push (seqObj "list" vs.toArray 0)).get? h1.objs.size = some (seqObj "list" vs.toArray 0) := Heap.get?_push_size _ rfl
  have kp2 : ∀ b o, s.heap.get? b = some o → (PySem.W.sortingHeap (h1.push (seqObj "list" vs.toArray 0)) h1.objs.size vs).get? b = some o := fun b o q =>
    PySem.W.sortingHeap_old (Nat.ne_of_lt (Heap.lt_size (kp b o q))) (Heap.get?_push_of_some _ (kp b o q))
  obtain ⟨SA, EK⟩ := S0 _ kp2 tk
  have out := PySem.W.sortVals_each (κ := PySem.W.dataKind (PySem.W.sortingHeap (h1.push (seqObj "list" vs.toArray 0)) h1.objs.size vs) (l.map D.py)) (rev := false) (fun d : D => (PySem.W.keyToks d.py : List (Int ⊕ List Nat))) (E0.mono fun v d hh => hh.1) EK
  have eo : l.mergeSort (PySem.W.sortLe (PySem.W.dataKind (PySem.W.sortingHeap (h1.push (seqObj "list" vs.toArray 0)) h1.objs.size vs) (l.map D.py)).toKeyOrd false fun d : D => PySem.W.keyToks d.py) = dsort l := (sortG_eq dle_total l).symm
  rw [eo] at out
  obtain ⟨ys, ov, or_⟩ := each_vals out
  show wpAny _ _ _ _ _ { s with heap := h1.push (seqObj "list" vs.toArray 0), toks := tk }
  refine wpAny_bind (wpAny_holding (wpAny_call_entry slot_list_sort ⟨_, at1, rfl⟩ entry_list_sort (PySem.W.list_sort_vals at1 SA hz ⟨_, rfl, ?_⟩) (args_list_sort _)))
  have I1 : Inv X pins σ H { s with heap := h1, toks := tk } := I.kept (t' := tk) kp
  have hlen : ys.length ≤ sizeLine := by
    rw [ov.length, PySem.W.sortVals_length false rfl]
    exact hz
  obtain ⟨n, at_⟩ := sortedHeap_at at1 (out := (PySem.W.sortVals (PySem.W.dataKind (PySem.W.sortingHeap (h1.push (seqObj "list" vs.toArray 0)) h1.objs.size vs) (l.map D.py)) false vs vs).toArray)
  have nw := I1.hok.fresh (Nat.le_refl _)
  refine wpAny_pure ⟨_, rfl, ?_⟩
  have I2 := I1.laid (o := .lst ys) (t' := tk) (h' := sortedHeap (h1.push (seqObj "list" vs.toArray 0)) h1.objs.size vs (PySem.W.sortVals (PySem.W.dataKind (PySem.W.sortingHeap (h1.push (seqObj "list" vs.toArray 0)) h1.objs.size vs) (l.map D.py)) false vs vs).toArray) (fun b o q => ?_) (Nat.le_refl _) ⟨hlen, _, n, ov, at_⟩
  · exact ⟨.ref _, _, I2, rfl, hQ _ _ (Ext.new nw) (k0.upd (k0.no nw)) ⟨_, rfl, nw, k0.no nw, _, upd_same, or_.keep (.new nw)⟩⟩
  · have n1 : b ≠ h1.objs.size := Nat.ne_of_lt (Heap.lt_size q)
    have q1 : (h1.push (seqObj "list" vs.toArray 0)).get? b = some o := Heap.get?_push_of_some _ q
    rw [sortedHeap_old n1 (Heap.lt_size q1)]
    exact q1
theorem oSort_ok : CallOk (.builtin "sorted") oSort := by
  intro C Z T k F W N sc X cx ds vs H g res hr
  unfold oSort at hr
  split at hr
  · rename_i q
    cases hr
    exact oSortI_ok cx q
  · exact oSortD_ok cx hr
end Ev
end

section
/-! EvM: l * n, a < b of alike data. -/
namespace Ev
open PySem PySem.Spec L2
open PyProof.Rows hiding St

def oMulL : Op2 := fun a b => match a, b.1 with
  | (.lst l, .f), .int k => if decide (-i62 ≤ k) && decide (k < i62) && decide (l.length * k.toNat ≤ LN) then some (.lst (List.replicate k.toNat l).flatten, .f) else none
  | _, _ => none
theorem oMulL_ok : OpOk (binaryOp .Mult) oMulL := by
  intro C Z T k F W N sc X cx d1 d2 x y H g res hr hx hy k0 Q hQ
  have h2 := hy.w
  unfold oMulL at hr
  split at hr
  case h_2 => cases hr
  rename_i l n e2
  rw [e2] at h2
  split at hr
  case isFalse => cases hr
  rename_i hl
  cases hr
  rw [Bool.and_eq_true, Bool.and_eq_true, decide_eq_true_eq, decide_eq_true_eq, decide_eq_true_eq] at hl
  obtain ⟨⟨l1, l2⟩, l3⟩ := hl
  unfold i62 at l1 l2
  obtain ⟨a, rfl, na, xs, h3, h4⟩ := hx
  have hlen := h4.length
  refine wOp.of op_rep ⟨a, n, xs, rfl, h2.int, h3, by omega, by omega, by rw [hlen, LN_eq]; exact l3, fun p hp => ?_⟩
  exact hQ _ _ (.new hp) (k0.upd (k0.no hp)) ⟨p, rfl, hp, k0.no hp, _, upd_same, (h4.rep n.toNat).keep (.new hp)⟩
def oMulA0 : Op2 := fun a b => match oMul a b with | some r => some r | none => oMulL a b
theorem oMulA0_ok : OpOk (binaryOp .Mult) oMulA0 := oMul_ok.or oMulL_ok

def oLtD : Op2 := fun a b => if a.1.shp && b.1.shp && PySem.W.alike a.1.py b.1.py && srtNN a.1 then some (.bl (dlt a.1 b.1), .s) else none
where srtNN : D → Bool
  | .non => false
  | _ => true
theorem py_nn {d : D} (h : oLtD.srtNN d = true) : d.py ≠ .none := by
  cases d <;> first | exact Bool.noConfusion h | exact fun e => (nomatch e)
theorem oLtD_ok : OpOk (compareOp .Lt) oLtD := by
  intro C Z T k F W N sc X cx d1 d2 x y H g res hr hx hy k0 Q hQ
  unfold oLtD at hr
  split at hr
  case isFalse => cases hr
  rename_i hl
  cases hr
  rw [Bool.and_eq_true, Bool.and_eq_true, Bool.and_eq_true] at hl
  obtain ⟨⟨⟨s1, s2⟩, al⟩, nn⟩ := hl
  intro pins s σ v u I rx ry
  obtain ⟨as, r1⟩ := Dp.reads I _ _ _ (by rw [cx.hK]; exact hx.w.dp (SeqAt.canLay_of_shaped s1)) rx
  obtain ⟨bs, r2⟩ := Dp.reads I _ _ _ (by rw [cx.hK]; exact hy.w.dp (SeqAt.canLay_of_shaped s2)) ry
  have q := PySem.W.rcLt_alike _ _ X.A s v u as bs r1 r2 al (py_nn nn) (SeqAt.room_of_shaped s1 (by have := cx.un; omega)) X.prog X.w X.xe (EP X pins σ Q)
  exact q ⟨.bl (dlt d1.1 d2.1), H, I, rfl, hQ _ H (.refl _ _) k0 rfl⟩
def oLtA : Op2 := fun a b => match oLt a b with | some r => some r | none => oLtD a b
theorem oLtA_ok : OpOk (compareOp .Lt) oLtA := oLt_ok.or oLtD_ok
end Ev
namespace Ev
open PySem PySem.Spec L2
open PyProof.Rows hiding St
/-- list(d): the keys -/
def oListD (ds : List D) : Option (D × Fl) := match ds with
  | [.dct kvs] => some (.lst (kvs.map (·.1)), .f)
  | _ => none
theorem oListD_ok : CallOk (.type "list") oListD := by
  intro C Z T k F W N sc X cx ds vs H g res hr hx k0 Q hQ
  unfold oListD at hr
  split at hr
  case h_2 => cases hr
  rename_i kvs
  cases hr
  obtain ⟨x, _, rfl, h, rfl⟩ := hx
  intro pins s σ us I r
  obtain ⟨u, rfl, rx⟩ := vals1 r
  obtain ⟨a, es, rfl, ⟨o, d, dt⟩, n, hz, _, re⟩ := WRep.dct h
  obtain rfl : u = Value.ref a := rx
  obtain ⟨hxd, ep, hdt⟩ := dt
  have raw : s.heap.DictRaw a es.toArray ep := ⟨o, d.at cx.hK I, hxd, hdt⟩
  obtain ⟨xs, rv, r⟩ := keysOf re
  have hlen : xs.length = es.length := by rw [rv.length, List.length_map]
  refine PySem.W.kdl_call (PySem.KdlSrc.rawDict n) (I.ok.hd cx.calm) raw (by simpa using hz) fun h' tk acc c' kp hS it => ?_
  have e : acc.toList = es.map (·.key) := by
    apply List.ext_getElem?
    intro j
    rw [Array.getElem?_toList]
    cases q1 : acc[j]? with
    | none =>
      rw [Array.getElem?_eq_none_iff] at q1
      rw [List.getElem?_eq_none]
      have := it.1
      simp at this ⊢
      omega
    | some v =>
      obtain ⟨hi, rfl⟩ := it.2 j v q1
      have hi' : j < es.length := by simpa using hi
      rw [List.getElem?_map, List.getElem?_eq_getElem hi']
      simp
  have nw := I.hok.fresh (Nat.le_refl s.heap.objs.size)
  have I2 := I.laid (o := .lst xs) (t' := tk) kp (Nat.le_refl _) ⟨by rw [hlen]; exact hz, acc.toList, c', by rw [e]; exact rv, by rw [Array.toArray_toList]; exact hS⟩
  exact ⟨.ref s.heap.objs.size, _, I2, rfl, hQ _ _ (Ext.new nw) (k0.upd (k0.no nw)) ⟨_, rfl, nw, k0.no nw, _, upd_same, r.keep (.new nw)⟩⟩
def oListA (ds : List D) : Option (D × Fl) := match oList ds with
  | some r => some r
  | none => oListD ds
theorem oListA_ok : CallOk (.type "list") oListA := by
  intro C Z T k F W N sc X cx ds vs H g res hr
  unfold oListA at hr
  split at hr
  · rename_i q
    cases hr
    exact oList_ok cx q
  · exact oListD_ok cx hr
end Ev
end

section
/-! EvO: d.update(e). -/
namespace Ev
open PySem PySem.Spec L2
open PyProof.Rows hiding St

def D.puts (kvs more : List (D × D)) : List (D × D) := more.foldl (fun acc p => D.put acc p.1 p.2) kvs
/-- all of more may be put behind kvs -/
def updOk (kvs more : List (D × D)) : Bool := match kvs with
  | [] => false
  | p :: _ => D.fit more p.1 && decide (kvs.length + more.length ≤ LN)
/-- an entry suits a dict of this mode -/
structure Md (t : Bool) (kvs : List (D × D)) : Prop where
  ok : DOk kvs
  all : ∀ p ∈ kvs, p.1.isTup = t
theorem Md.fit {t : Bool} {kvs : List (D × D)} (m : Md t kvs) {k : D} (h1 : k.kok = true) (h2 : k.key.depth ≤ 8) (h3 : k.isTup = t) : D.fit kvs k = true := by
  unfold D.fit
  simp only [Bool.and_eq_true, decide_eq_true_eq]
  refine ⟨⟨h1, h2⟩, ?_⟩
  cases kvs with
  | nil => rfl
  | cons p r => rw [beq_iff_eq, m.all p List.mem_cons_self, h3]
theorem Md.put {t : Bool} {kvs : List (D × D)} (m : Md t kvs) {k v : D} (h1 : k.kok = true) (h2 : k.key.depth ≤ 8) (h3 : k.isTup = t) : Md t (D.put kvs k v) := by
  refine ⟨m.ok.put (m.fit h1 h2 h3), fun p hp => ?_⟩
  unfold D.put at hp
  split at hp
  · obtain ⟨q, hq, rfl⟩ := List.mem_map.mp hp
    have := m.all q hq
    split <;> exact this
  · rcases List.mem_append.mp hp with hp | hp
    · exact m.all p hp
    · rw [List.mem_singleton] at hp; subst hp; exact h3
theorem Md.puts {t : Bool} : ∀ {more kvs : List (D × D)}, Md t kvs → (∀ p ∈ more, p.1.kok = true ∧ p.1.key.depth ≤ 8) → (∀ p ∈ more, p.1.isTup = t) → Md t (D.puts kvs more)
  | [], _, m, _, _ => m
  | p :: r, kvs, m, g, h => Md.puts (more := r) (m.put (g p List.mem_cons_self).1 (g p List.mem_cons_self).2 (h p List.mem_cons_self)) (fun q hq => g q (List.mem_cons_of_mem _ hq)) fun q hq => h q (List.mem_cons_of_mem _ hq)
theorem puts_length : ∀ (more kvs : List (D × D)), (D.puts kvs more).length ≤ kvs.length + more.length
  | [], kvs => Nat.le_refl _
  | p :: r, kvs => by
    have h1 := puts_length r (D.put kvs p.1 p.2)
    have h2 := put_length kvs p.1 p.2
    show (D.puts (D.put kvs p.1 p.2) r).length ≤ _
    rw [List.length_cons]
    omega
section
variable {C : Cst} {H : Hp}
theorem LP.puts : ∀ {more kvs : List (D × D)} {ls2 ls : List (Leaf × Value)}, LP C H more ls2 → LP C H kvs ls → Md false kvs → (∀ p ∈ more, p.1.kok = true ∧ p.1.key.depth ≤ 8) → (∀ p ∈ more, p.1.isTup = false) → LP C H (D.puts kvs more) (merged ls ls2)
  | _, _, _, _, .nil, l, _, _, _ => l
  | p :: r, kvs, q :: qs, ls, .cons h t, l, m, g, f => by
    obtain ⟨e1, y, ry, rp⟩ := h
    have g1 := g p List.mem_cons_self
    have f1 := f p List.mem_cons_self
    show LP C H (D.puts (D.put kvs p.1 p.2) r) (merged (stored ls q.1 q.2) qs)
    rw [e1]
    exact LP.puts t (l.put g1.1 f1 ry rp m.ok.kok m.all) (m.put g1.1 g1.2 f1) (fun q hq => g q (List.mem_cons_of_mem _ hq)) fun q hq => f q (List.mem_cons_of_mem _ hq)
theorem TP.puts : ∀ {more kvs : List (D × D)} {ls2 ls : List (NestedKey × Addr × Value)}, TP C H more ls2 → TP C H kvs ls → Md true kvs → (∀ p ∈ more, p.1.kok = true ∧ p.1.key.depth ≤ 8) → (∀ p ∈ more, p.1.isTup = true) → TP C H (D.puts kvs more) (storedAllH ls ls2)
  | _, _, _, _, .nil, l, _, _, _ => l
  | p :: r, kvs, q :: qs, ls, .cons h t, l, m, g, f => by
    obtain ⟨e1, rk, y, ry, rp⟩ := h
    have g1 := g p List.mem_cons_self
    have f1 := f p List.mem_cons_self
    show TP C H (D.puts (D.put kvs p.1 p.2) r) (storedAllH (storedH ls q.1 q.2.1 q.2.2) qs)
    rw [e1]
    exact TP.puts t (l.put g1.1 rk ry rp m.ok.kok) (m.put g1.1 g1.2 f1) (fun q hq => g q (List.mem_cons_of_mem _ hq)) fun q hq => f q (List.mem_cons_of_mem _ hq)
end
section
variable {C : Cst} {X : Cx} {pins : List (Addr × Obj)} {σ : L2.St} {H : Hp} {s : Shared} {a b : Addr} {es es2 : List DictEntry} {kvs more : List (D × D)} {A : Around} {E : Value → Shared → Prop}
theorem dd_update {Q : Value → Shared → Prop} (hu : A.units + 9 < cLine) (hK : X.K = C.K) (hw : X.w = C.w) (I : Inv X pins σ H s) {o0 : Obj} (e : H a = some (rawD a o0)) (dt : Dat o0 es) (ok : DOk kvs) (r : RepE C H kvs es)
    (ne : a ≠ b) (hb : (b == sysModules) = false) (d2 : DRd C H b es2) (ok2 : DOk more) (r2 : RepE C H more es2) (f : updOk kvs more = true)
    (h : ∀ es' o' s', Inv X pins σ (upd H a (rawD a o')) s' → Dat o' es' → es'.length ≤ sizeLine → DOk (D.puts kvs more) → RepE C (upd H a (rawD a o')) (D.puts kvs more) es' → Q .none s') : wpAny (model X.prog X.w) A (call (.builtin "dict.update") [.ref a, .ref b]) Q E s := by
  cases kvs with
  | nil => cases f
  | cons p0 rest =>
  unfold updOk at f
  rw [Bool.and_eq_true, decide_eq_true_eq, ← LN_eq] at f
  obtain ⟨f2, hz⟩ := f
  obtain ⟨kk, kd⟩ := fit_kok f2
  have f1 : D.fit (p0 :: rest) p0.1 = true := by
    unfold D.fit
    simp only [Bool.and_eq_true, decide_eq_true_eq]
    exact ⟨⟨kk, kd⟩, beq_self_eq_true _⟩
  have hpl := puts_length more (p0 :: rest)
  rcases dmode hK hw I ⟨_, .inl e, dt⟩ ok r f1 with ⟨ls, t, g, dd, l⟩ | ⟨xs, t, g, dd, l⟩
  · rcases dmode hK hw I d2 ok2 r2 f2 with ⟨ls2, _, g2, dd2, l2⟩ | ⟨_, t2, _, _, _⟩
    · have m : Md false (p0 :: rest) := ⟨ok, g⟩
      have mp := m.puts ok2.kok g2
      have lp := LP.puts l2 l m ok2.kok g2
      refine call_meetsIn PySem.F.slot_dict_update dd.typeIs PySem.F.entry_dict_update (PySem.F.args_dict_update_2 _ _) (meets_dict_update (sKind X.prog X.w) a b ne hb)
        ⟨ls, ls2, by rw [hw]; exact dd, by rw [hw]; exact dd2, by rw [← Paired.length l, ← Paired.length l2]; exact hz, fun h' hmm _ hs => ?_⟩
      obtain ⟨o, es', ep, h1, h2, h3, h4, h5, h6⟩ := hmm
      rw [hw] at h5
      have rep : RepE C H (D.puts (p0 :: rest) more) es'.toList := leaf_RepE (P := X.prog) h5 (fun en hen => by
        have := h4 en (by simpa using hen)
        rw [hw] at this; exact this) lp mp.ok.kok mp.all
      have hn := rep.length
      exact h es'.toList o _ (raw_write (t' := s.toks) I e hs h1) ⟨h2, ep, by simpa using h3⟩ (by omega) mp.ok (RepE.keep (raw_keep e) _ rep)
    · rw [t] at t2; cases t2
  · rcases dmode hK hw I d2 ok2 r2 f2 with ⟨_, t2, _, _, _⟩ | ⟨xs2, _, g2, dd2, l2⟩
    · rw [t] at t2; cases t2
    · have m : Md true (p0 :: rest) := ⟨ok, g⟩
      have mp := m.puts ok2.kok g2
      have lp := TP.puts l2 l m ok2.kok g2
      refine call_update_dictH (knd := nestedKind X.prog X.w) (by show A.units + 1 + 8 < cLine; omega) ne hb (by rw [hw]; exact dd) (by rw [hw]; exact dd2) (.inl fun z => ?_) (by rw [← Paired.length l, ← Paired.length l2]; exact hz) fun h' hmm _ hs => ?_
      · have := Paired.length l
        rw [z] at this
        simp at this
      obtain ⟨o, es', ep, h1, h2, h3, h4, h5, h6⟩ := hmm
      have rep : RepE C H (D.puts (p0 :: rest) more) es'.toList := by
        rw [h4, hw]
        exact tup_RepE (P := X.prog) lp
      have hn := rep.length
      exact h es'.toList o _ (raw_write (t' := s.toks) I e hs h1) ⟨h2, ep, by simpa using h3⟩ (by omega) mp.ok (RepE.keep (raw_keep e) _ rep)
end
/-- d.update(e): e another own dict, or a new one -/
def dUpdV (j i : Nat) : DenS := fun F ρ g => match ρ[j]?, ρ[i]? with
  | some (.o (.dct kvs)), some (.o (.dct more)) => if decide (j ≠ i) && updOk kvs more then .nx (ρ.set j (.o (.dct (D.puts kvs more)))) g else .bad
  | _, _ => .bad
def dUpdN (j : Nat) (f : Den) : DenS := fun F ρ g => match ρ[j]? with
  | some (.o (.dct _)) => (f F ρ g).sb fun v g1 => match v, ρ[j]? with
    | (.dct more, .f), some (.o (.dct kvs)) => if updOk kvs more then .nx (ρ.set j (.o (.dct (D.puts kvs more)))) g1 else .bad
    | _, _ => .bad
  | _ => .bad
section
variable {T : Tab} {N : List Str} {sc : Scope}
theorem type_dict_update : typeOf (.builtin "dict.update") = pure (.type "method_descriptor") := PySem.F.type_dict_update
theorem upd_fin {C : Cst} {Z : Xcs} {k : Nat} {F : FT} {W : WX} {X : Cx} (cx : CtxS C Z T k F W N sc X) {H0 H : Hp} {ρ : Env'} {g : G} {σ : L2.St} (S : Sta C H0 ρ g σ H) {E : Ends} {j : Nat} {kvs more : List (D × D)} {a b : Addr} {es2 : List DictEntry}
    (q : ρ[j]? = some (.o (.dct kvs))) (h1 : σ[j]? = some (some (.ref a))) (ne : a ≠ b) (hb : (b == sysModules) = false) (d2 : DRd C H b es2) (ok2 : DOk more) (r2 : RepE C H more es2) (f : updOk kvs more = true)
    (hp : PostS C Z W H0 H (.nx (ρ.set j (.o (.dct (D.puts kvs more)))) g) E) : wMt X "dict.update" (.ref a) [.ref b] H fun _ H2 => E.nx σ H2 := by
  obtain ⟨a', h1', h2, h3, es, o, h4, h5, h6, h7, h8, h9⟩ := S.own q
  rw [h1] at h1'
  cases h1'
  intro pins s σ' v us I rx rus
  obtain rfl : v = Value.ref a := rx
  obtain ⟨u, rfl, ru⟩ := rus.one
  obtain rfl : u = Value.ref b := ru
  refine dd_update cx.un9 cx.hK cx.hw I h4 h5 h8 h9 ne hb d2 ok2 r2 f fun es' o' s' I' d' hz' okp re' => ⟨.non, _, I', rfl, ?_⟩
  have kp : Keep H (L2.upd H a (rawD a o')) := raw_keep h4
  exact hp σ _ kp (S.upd (s := .o _) q h1 kp ⟨a, rfl, h2, h3, es', o', upd_same, d', h6, hz', okp, re'⟩ fun _ _ => trivial)
theorem SSt.updV {x y : Str} {j i : Nat} {px py apos cpos spos : Pos} (hi : N[j]? = some x) (hv : Vis sc x) (hd : (x == ("__debug__" : Str)) = false) (hcd : (x == ("__classdict__" : Str)) = false)
    (hi' : N[i]? = some y) (hv' : Vis sc y) (hd' : (y == ("__debug__" : Str)) = false) (hcd' : (y == ("__classdict__" : Str)) = false) (hline : (apos.endLine == cpos.line) = true) :
    SSt T N sc (.Expr (.Call (.Attribute (.Name x px) "update" apos) [.Name y py] [] cpos) spos) (dUpdV j i) := by
  intro C Z k F W X cx H0 ρ g σ H S E hp
  refine wS.of (ps_expr (pe_bmD cx.hK PySem.F.slot_dict_update type_dict_update wE.pe (pa_cons wE.pe pa_nil (star_of rfl)) rfl (by simp [notStar]) (by show 1 < 30; decide) hline) rfl) ?_
  unfold dUpdV at hp
  split at hp
  case h_2 => exact hp.elim
  rename_i kvs more q q2
  split at hp
  case isFalse => exact hp.elim
  rename_i hh
  rw [Bool.and_eq_true, decide_eq_true_eq] at hh
  obtain ⟨a, h1, h2, h3, es, o, h4, h5, h6, h7, h8, h9⟩ := S.own q
  obtain ⟨b, b1, b2, b3, es2, o2, b4, b5, b6, b7, b8, b9⟩ := S.own q2
  have ne : a ≠ b := fun z => hh.1 (S.ap _ _ _ _ a q q2 h1 (by rw [z]; exact b1))
  refine wE.var cx.toCtx hi hv hd hcd h1 ⟨a, es, rfl, ⟨o, .inl h4, h5⟩, ?_⟩
  refine wE.var cx.toCtx hi' hv' hd' hcd' b1 ?_
  exact upd_fin cx S q h1 ne b6 ⟨o2, .inl b4, b5⟩ b8 b9 hh.2 hp
theorem SSt.updN {x : Str} {j : Nat} {e : Expr} {px apos cpos spos : Pos} {f : Den} (hi : N[j]? = some x) (hv : Vis sc x) (hd : (x == ("__debug__" : Str)) = false) (hcd : (x == ("__classdict__" : Str)) = false)
    (hs : notStar e = true) (hline : (apos.endLine == cpos.line) = true) (h : SE T N sc e f) :
    SSt T N sc (.Expr (.Call (.Attribute (.Name x px) "update" apos) [e] [] cpos) spos) (dUpdN j f) := by
  intro C Z k F W X cx H0 ρ g σ H S E hp
  refine wS.of (ps_expr (pe_bmD cx.hK PySem.F.slot_dict_update type_dict_update wE.pe (pa_cons wE.pe pa_nil (star_of hs)) rfl (by simp [hs]) (by show 1 < 30; decide) hline) rfl) ?_
  unfold dUpdN at hp
  split at hp
  case h_2 => exact hp.elim
  rename_i kvs0 q0
  obtain ⟨a, h1, h2, h3, es, o, h4, h5, h6, h7, h8, h9⟩ := S.own q0
  refine wE.var cx.toCtx hi hv hd hcd h1 ⟨a, es, rfl, ⟨o, .inl h4, h5⟩, ?_⟩
  refine h C Z k F W X cx.toCtx H0 ρ g σ H S _ (PostS.sb S hp fun v g1 y H1 qa e1 k1 r1 S1 hp1 => ?_)
  split at hp1
  case h_2 => exact hp1.elim
  rename_i v' _ more kvs q
  split at hp1
  case isFalse => exact hp1.elim
  rename_i hh
  obtain ⟨b, rfl, b2, b3, es2, o2, b4, b5, b6, b7, b8, b9⟩ := r1
  have ne : a ≠ b := fun z => by rw [z, b2] at h4; cases h4
  exact upd_fin cx S1 q h1 ne b6 ⟨o2, .inl b4, b5⟩ b8 b9 hh hp1
end
end Ev
end

section
/-! EvP: x in l for deep data; min(a, b), max(a, b) of alike data. -/
namespace Ev
open PySem PySem.Spec L2
open PyProof.Rows hiding St

/-! ### x in l -/
def oInP (neg : Bool) : Op2 := fun a b => match b.1 with
  | .lst l => if a.1.shp = true ∧ (D.lst l).shp = true then some (.bl (if neg then !((D.pys l).any fun z => PyData.eqv z a.1.py) else (D.pys l).any fun z => PyData.eqv z a.1.py), .s) else none
  | .tup l => if a.1.shp = true ∧ (D.tup l).shp = true then some (.bl (if neg then !((D.pys l).any fun z => PyData.eqv z a.1.py) else (D.pys l).any fun z => PyData.eqv z a.1.py), .s) else none
  | _ => none
theorem oInP_ok (neg : Bool) : OpOk (compareOp (if neg then .NotIn else .In)) (oInP neg) := by
  intro C Z T k F W N sc X cx d1 d2 x y H g res hr hx hy k0 Q hQ
  obtain ⟨b, fb⟩ := d2
  unfold oInP at hr
  dsimp only at hr
  split at hr
  · rename_i l
    split at hr
    case isFalse => cases hr
    rename_i hh
    cases hr
    intro pins s σ v u I rx ry
    obtain ⟨as, r1⟩ := Dp.reads I _ x v (by rw [cx.hK]; exact hx.w.dp (SeqAt.canLay_of_shaped hh.1)) rx
    obtain ⟨bs, r2⟩ := Dp.reads I (.list (D.pys l)) y u (by rw [cx.hK]; exact hy.w.dp (SeqAt.canLay_of_shaped hh.2)) ry
    have q : ∀ b, b = (if neg then !((D.pys l).any fun z => PyData.eqv z d1.1.py) else (D.pys l).any fun z => PyData.eqv z d1.1.py) → EP X pins σ Q (.bool b) s := fun b e => ⟨.bl _, H, I, rfl, by rw [e]; exact hQ _ H (.refl _ _) k0 rfl⟩
    cases neg with
    | false => exact SeqAt.in_list_reads r2 r1 (SeqAt.canLay_of_shaped hh.2) (SeqAt.canLay_of_shaped hh.1) (room_in_shaped hh.1 cx.un) (q _ rfl)
    | true => exact SeqAt.notIn_list_reads r2 r1 (SeqAt.canLay_of_shaped hh.2) (SeqAt.canLay_of_shaped hh.1) (room_in_shaped hh.1 cx.un) (q _ rfl)
  · rename_i l
    split at hr
    case isFalse => cases hr
    rename_i hh
    cases hr
    intro pins s σ v u I rx ry
    obtain ⟨as, r1⟩ := Dp.reads I _ x v (by rw [cx.hK]; exact hx.w.dp (SeqAt.canLay_of_shaped hh.1)) rx
    obtain ⟨bs, r2⟩ := Dp.reads I (.tuple (D.pys l)) y u (by rw [cx.hK]; exact hy.w.dp (SeqAt.canLay_of_shaped hh.2)) ry
    have q : ∀ b, b = (if neg then !((D.pys l).any fun z => PyData.eqv z d1.1.py) else (D.pys l).any fun z => PyData.eqv z d1.1.py) → EP X pins σ Q (.bool b) s := fun b e => ⟨.bl _, H, I, rfl, by rw [e]; exact hQ _ H (.refl _ _) k0 rfl⟩
    cases neg with
    | false => exact SeqAt.in_tuple_reads r2 r1 (SeqAt.canLay_of_shaped hh.2) (SeqAt.canLay_of_shaped hh.1) (room_in_shaped hh.1 cx.un) (q _ rfl)
    | true => exact SeqAt.notIn_tuple_reads r2 r1 (SeqAt.canLay_of_shaped hh.2) (SeqAt.canLay_of_shaped hh.1) (room_in_shaped hh.1 cx.un) (q _ rfl)
  · cases hr
def oIn : Op2 := fun a b => match oIn0 a b with | some r => some r | none => oInP false a b
def oNi : Op2 := fun a b => match oNi0 a b with | some r => some r | none => oInP true a b
theorem oIn_ok : OpOk (compareOp .In) oIn := OpOk.or oIn0_ok (oInP_ok false)
theorem oNi_ok : OpOk (compareOp .NotIn) oNi := OpOk.or oNi0_ok (oInP_ok true)

/-! ### min(a, b), max(a, b) -/
section
variable {prog : Program} {w : World} {A : Around} {E : Value → Shared → Prop} {s : Shared} {a b : Value} {da db : PyData} {as bs : List Addr} {Q : Value → Shared → Prop}
open PySem.W
theorem alk2 (h1 : alike da da = true) (h2 : alike da db = true) (h3 : alike db da = true) (h4 : alike db db = true) (n1 : da ≠ .none) (n2 : db ≠ .none) : AlikeAll [da, db] := by
  refine ⟨fun x hx y hy => ?_, fun x hx => ?_⟩
  · simp only [List.mem_cons, List.not_mem_nil, or_false] at hx hy
    rcases hx with rfl | rfl <;> rcases hy with rfl | rfl <;> assumption
  · simp only [List.mem_cons, List.not_mem_nil, or_false] at hx
    rcases hx with rfl | rfl <;> assumption
theorem min_two_data (hh : A.handled = none) (ra : Reads s.heap a da as) (rb : Reads s.heap b db bs) (ha : AlikeAll [da, db]) (hu : A.units + 1 + PyData.depthAll [da, db] < cLine)
    (h : ∀ h' tk, (∀ b o, s.heap.get? b = some o → h'.get? b = some o) → Q (if dataLt db da then b else a) { s with heap := h', toks := tk }) :
    wpAny (model prog w) A (call (.builtin "min") [a, b]) Q E s := by
  have hname : (toString "min" ++ toString ".loop" : String) = "min.loop" := by decide
  refine call_function_tree F.kind_min F.plain_min F.entry_min (F.args_min2 _ _) ?_
  show wpAny _ A.in1 (Builtin.Builtins.bindParams "min" ["key", "default"] 0 ⟨[], []⟩ >>= _) _ _ s
  refine wpAny_bind (wpAny_of_eq (show Builtin.Builtins.bindParams "min" ["key", "default"] 0 ⟨[], []⟩ = pure [none, none] from rfl) ?_)
  show wpAny _ A.in1 (newTuple [a, b] >>= _) _ _ s
  refine wpAny_bind (wpAny_newObj_type ?_)
  have k0 : ∀ c o, s.heap.get? c = some o → (s.heap.push { cls := .type "tuple", data := .seq #[a, b] }).get? c = some o := fun c o e => Heap.get?_push_of_some _ e
  have hl : (s.heap.push { cls := .type "tuple", data := .seq #[a, b] }).IsTuple s.heap.objs.size #[a, b] := PyProof.Rows.IsTup.new _ _
  have hr : ReadsAll (s.heap.push { cls := .type "tuple", data := .seq #[a, b] }) (#[a, b] : Array Value).toList [da, db] (as ++ (bs ++ [])) := .cons (reads_keeps k0 ra) (.cons (reads_keeps k0 rb) .nil)
  refine wpAny_bind (iter_tupleW (A := A.in1) hh hl fun s₂ e W st hfp hw hk => ?_)
  refine wpAny_bind (wpAny_newObj_type ?_)
  have hSf : s₂.heap.objs.size ∉ _ := fun hm => Nat.lt_irrefl _ (hfp _ hm)
  rw [hname]
  have hst' := W.frame 0 s₂ (s₂.heap.push { cls := .type "list", data := .seq #[] 0 }) s₂.toks st (Nat.le_refl _) fun b _ o e => Heap.get?_push_of_some _ e
  refine wpAny_pure ⟨plainId_quiet F.plain_min_loop _, codeAny_min_loop_firstH W _ hw _ (cmpIn_lt (A := A.in1) hr ha (by show A.units + 1 + _ < _; exact hu)) s₂.heap.objs.size hSf (fresh_in hk) _ (by show 0 < 2; decide) (fun b o e => Heap.get?_push_of_some _ (hk b o e)) hst' (Heap.get?_push_size _ rfl) fun v s' hP hm => ?_⟩
  have m := Moved.drop_new (tk := s₂.toks) hm (Nat.le_refl _)
  obtain ⟨h', tk, rfl, hk'⟩ := moved_old e rfl m
  have ev : v = if dataLt db da then b else a := by
    have hP : (#[a, b] : Array Value)[argBest (fun i j => dataLt ([da, db].getD i .none) ([da, db].getD j .none)) 1]? = some v := hP
    unfold argBest at hP
    unfold argBest at hP
    cases q : dataLt db da with
    | true => rw [show dataLt ([da, db].getD (0 + 1) .none) ([da, db].getD 0 .none) = true from q] at hP; simpa using hP.symm
    | false => rw [show dataLt ([da, db].getD (0 + 1) .none) ([da, db].getD 0 .none) = false from q] at hP; simpa using hP.symm
  rw [ev]
  exact h h' tk fun c o e => hk' c o (k0 c o e)
theorem max_two_data (hh : A.handled = none) (ra : Reads s.heap a da as) (rb : Reads s.heap b db bs) (ha : AlikeAll [da, db]) (hu : A.units + 1 + PyData.depthAll [da, db] < cLine)
    (h : ∀ h' tk, (∀ b o, s.heap.get? b = some o → h'.get? b = some o) → Q (if dataLt da db then b else a) { s with heap := h', toks := tk }) :
    wpAny (model prog w) A (call (.builtin "max") [a, b]) Q E s := by
  have hname : (toString "max" ++ toString ".loop" : String) = "max.loop" := by decide
  refine call_function_tree F.kind_max F.plain_max F.entry_max (F.args_max2 _ _) ?_
  show wpAny _ A.in1 (Builtin.Builtins.bindParams "max" ["key", "default"] 0 ⟨[], []⟩ >>= _) _ _ s
  refine wpAny_bind (wpAny_of_eq (show Builtin.Builtins.bindParams "max" ["key", "default"] 0 ⟨[], []⟩ = pure [none, none] from rfl) ?_)
  show wpAny _ A.in1 (newTuple [a, b] >>= _) _ _ s
  refine wpAny_bind (wpAny_newObj_type ?_)
  have k0 : ∀ c o, s.heap.get? c = some o → (s.heap.push { cls := .type "tuple", data := .seq #[a, b] }).get? c = some o := fun c o e => Heap.get?_push_of_some _ e
  have hl : (s.heap.push { cls := .type "tuple", data := .seq #[a, b] }).IsTuple s.heap.objs.size #[a, b] := PyProof.Rows.IsTup.new _ _
  have hr : ReadsAll (s.heap.push { cls := .type "tuple", data := .seq #[a, b] }) (#[a, b] : Array Value).toList [da, db] (as ++ (bs ++ [])) := .cons (reads_keeps k0 ra) (.cons (reads_keeps k0 rb) .nil)
  refine wpAny_bind (iter_tupleW (A := A.in1) hh hl fun s₂ e W st hfp hw hk => ?_)
  refine wpAny_bind (wpAny_newObj_type ?_)
  have hSf : s₂.heap.objs.size ∉ _ := fun hm => Nat.lt_irrefl _ (hfp _ hm)
  rw [hname]
  have hst' := W.frame 0 s₂ (s₂.heap.push { cls := .type "list", data := .seq #[] 0 }) s₂.toks st (Nat.le_refl _) fun b _ o e => Heap.get?_push_of_some _ e
  refine wpAny_pure ⟨plainId_quiet F.plain_max_loop _, codeAny_max_loop_firstH W _ hw _ (cmpIn_gt (A := A.in1) hr ha (by show A.units + 1 + _ < _; exact hu)) s₂.heap.objs.size hSf (fresh_in hk) _ (by show 0 < 2; decide) (fun b o e => Heap.get?_push_of_some _ (hk b o e)) hst' (Heap.get?_push_size _ rfl) fun v s' hP hm => ?_⟩
  have m := Moved.drop_new (tk := s₂.toks) hm (Nat.le_refl _)
  obtain ⟨h', tk, rfl, hk'⟩ := moved_old e rfl m
  have ev : v = if dataLt da db then b else a := by
    have hP : (#[a, b] : Array Value)[argBest (fun i j => dataLt ([da, db].getD j .none) ([da, db].getD i .none)) 1]? = some v := hP
    unfold argBest at hP
    unfold argBest at hP
    cases q : dataLt da db with
    | true => rw [show dataLt ([da, db].getD 0 .none) ([da, db].getD (0 + 1) .none) = true from q] at hP; simpa using hP.symm
    | false => rw [show dataLt ([da, db].getD 0 .none) ([da, db].getD (0 + 1) .none) = false from q] at hP; simpa using hP.symm
  rw [ev]
  exact h h' tk fun c o e => hk' c o (k0 c o e)
end
/-- texts, tuples -/
def D.ord : D → Bool
  | .str _ => true
  | .tup _ => true
  | _ => false
theorem WRep.ord {C : Cst} {H : Hp} {d : D} {v : V} (h : WRep C H d v) (q : d.ord = true) : Rep C H d v := by
  rcases h with h | ⟨a, _, _, h⟩
  · exact h
  · cases d <;> first | exact h.elim | exact Bool.noConfusion q
def ord2 (a b : D) : Bool := a.ord && b.ord && a.shp && b.shp && PySem.W.alike a.py a.py && PySem.W.alike a.py b.py && PySem.W.alike b.py a.py && PySem.W.alike b.py b.py
theorem ord_ne {d : D} (h : d.ord = true) : d.py ≠ .none := by cases d <;> first | exact Bool.noConfusion h | exact fun e => nomatch e
structure Ord2 (a b : D) : Prop where
  o1 : a.ord = true
  o2 : b.ord = true
  s1 : a.shp = true
  s2 : b.shp = true
  al : PySem.W.AlikeAll [a.py, b.py]
theorem ord2_ok {a b : D} (h : ord2 a b = true) : Ord2 a b := by
  unfold ord2 at h
  simp only [Bool.and_eq_true] at h
  obtain ⟨⟨⟨⟨⟨⟨⟨h1, h2⟩, h3⟩, h4⟩, h5⟩, h6⟩, h7⟩, h8⟩ := h
  exact ⟨h1, h2, h3, h4, alk2 h5 h6 h7 h8 (ord_ne h1) (ord_ne h2)⟩
def oMin2P (ds : List D) : Option (D × Fl) := match ds with
  | [a, b] => if ord2 a b = true then some (if dlt b a then b else a, .s) else none
  | _ => none
def oMax2P (ds : List D) : Option (D × Fl) := match ds with
  | [a, b] => if ord2 a b = true then some (if dlt a b then b else a, .s) else none
  | _ => none
theorem depth_two {a b : PyData} (h1 : SeqAt.shaped a = true) (h2 : SeqAt.shaped b = true) {n : Nat} (hn : n + 100 < cLine) : n + 1 + PyData.depthAll [a, b] < cLine := by
  have e1 := SeqAt.depth_of_shaped h1
  have e2 := SeqAt.depth_of_shaped h2
  have : PyData.depthAll [a, b] ≤ max a.depth b.depth := by simp [PyData.depthAll]
  omega
theorem oMin2P_ok : CallOk (.builtin "min") oMin2P := by
  intro C Z T k F W N sc X cx ds vs H g res hr hw k0 Q hQ
  unfold oMin2P at hr
  split at hr
  case h_2 => cases hr
  rename_i a b
  split at hr
  case isFalse => cases hr
  rename_i hh
  cases hr
  have o := ord2_ok hh
  obtain ⟨x, y, rfl, w1, w2⟩ := hw.two
  intro pins s σ us I r
  obtain ⟨u1, u2, rfl, ru1, ru2⟩ := vals2 r
  obtain ⟨as, r1⟩ := Dp.reads I _ x u1 (by rw [cx.hK]; exact w1.dp (SeqAt.canLay_of_shaped o.s1)) ru1
  obtain ⟨bs, r2⟩ := Dp.reads I _ y u2 (by rw [cx.hK]; exact w2.dp (SeqAt.canLay_of_shaped o.s2)) ru2
  have hu := cx.room.un
  refine min_two_data (I.ok.hd cx.calm) r1 r2 o.al (depth_two o.s1 o.s2 (by omega)) fun h' tk kp => ?_
  cases q : PySem.W.dataLt b.py a.py with
  | true =>
    rw [show dlt b a = true from q] at hQ
    exact ⟨y, H, I.kept (t' := tk) kp, ru2, hQ _ H (.refl _ _) k0 (w2.ord o.o2)⟩
  | false =>
    rw [show dlt b a = false from q] at hQ
    exact ⟨x, H, I.kept (t' := tk) kp, ru1, hQ _ H (.refl _ _) k0 (w1.ord o.o1)⟩
theorem oMax2P_ok : CallOk (.builtin "max") oMax2P := by
  intro C Z T k F W N sc X cx ds vs H g res hr hw k0 Q hQ
  unfold oMax2P at hr
  split at hr
  case h_2 => cases hr
  rename_i a b
  split at hr
  case isFalse => cases hr
  rename_i hh
  cases hr
  have o := ord2_ok hh
  obtain ⟨x, y, rfl, w1, w2⟩ := hw.two
  intro pins s σ us I r
  obtain ⟨u1, u2, rfl, ru1, ru2⟩ := vals2 r
  obtain ⟨as, r1⟩ := Dp.reads I _ x u1 (by rw [cx.hK]; exact w1.dp (SeqAt.canLay_of_shaped o.s1)) ru1
  obtain ⟨bs, r2⟩ := Dp.reads I _ y u2 (by rw [cx.hK]; exact w2.dp (SeqAt.canLay_of_shaped o.s2)) ru2
  have hu := cx.room.un
  refine max_two_data (I.ok.hd cx.calm) r1 r2 o.al (depth_two o.s1 o.s2 (by omega)) fun h' tk kp => ?_
  cases q : PySem.W.dataLt a.py b.py with
  | true =>
    rw [show dlt a b = true from q] at hQ
    exact ⟨y, H, I.kept (t' := tk) kp, ru2, hQ _ H (.refl _ _) k0 (w2.ord o.o2)⟩
  | false =>
    rw [show dlt a b = false from q] at hQ
    exact ⟨x, H, I.kept (t' := tk) kp, ru1, hQ _ H (.refl _ _) k0 (w1.ord o.o1)⟩
def oMinI (ds : List D) : Option (D × Fl) := match oMinI0 ds with
  | some r => some r
  | none => oMin2P ds
def oMax (ds : List D) : Option (D × Fl) := match oMax0 ds with
  | some r => some r
  | none => oMax2P ds
theorem oMinI_ok : CallOk (.builtin "min") oMinI := by
  intro C Z T k F W N sc X cx ds vs H g res hr
  unfold oMinI at hr
  split at hr
  · rename_i q
    cases hr
    exact oMinI0_ok cx q
  · exact oMin2P_ok cx hr
theorem oMax_ok : CallOk (.builtin "max") oMax := by
  intro C Z T k F W N sc X cx ds vs H g res hr
  unfold oMax at hr
  split at hr
  · rename_i q
    cases hr
    exact oMax0_ok cx q
  · exact oMax2P_ok cx hr
end Ev
end

section
/-! EvQ: s * n. -/
namespace Ev
open PySem PySem.Spec L2
open PyProof.Rows hiding St

def repS (s : List Nat) (n : Nat) : List Nat := (List.replicate n s).flatten
theorem foldl_app (l : List (Array Nat)) (a : Array Nat) : (l.foldl (· ++ ·) a).toList = a.toList ++ (l.map Array.toList).flatten := by
  induction l generalizing a with
  | nil => simp
  | cons x r ih => rw [List.foldl_cons, ih]; simp
theorem mul_rep (s : List Nat) (n : Int) : Txt.mul ⟨s.toArray⟩ n = ⟨(repS s n.toNat).toArray⟩ := by
  unfold Txt.mul
  split
  · rename_i h
    have : n.toNat = 0 := by omega
    rw [this]; rfl
  · rename_i h
    split
    · rename_i h2
      rw [Bool.or_eq_true, beq_iff_eq, beq_iff_eq] at h2
      rcases h2 with h2 | h2
      · subst h2
        show _ = (⟨((List.replicate 1 s).flatten).toArray⟩ : Str)
        simp
      · have : s = [] := by
          have h3 : s.toArray.size = 0 := h2
          simpa using h3
        subst this
        unfold repS
        have : ∀ k, (List.replicate k ([] : List Nat)).flatten = [] := fun k => by induction k with
          | zero => rfl
          | succ k ih => rw [List.replicate_succ, List.flatten_cons, ih]; rfl
        rw [this]
    · congr 1
      apply Array.toList_inj.mp
      rw [foldl_app]
      simp [repS]
/-- s * n -/
def oMulS : Op2 := fun a b => match a.1, b.1 with
  | .str s, .int n => if decide (-i62 ≤ n) && decide (n < i62) && decide (s.length * n.toNat ≤ 1000000) then some (.str (repS s n.toNat), .s) else none
  | _, _ => none
theorem oMulS_ok : OpOk (binaryOp .Mult) oMulS := by
  intro C Z T k F W N sc X cx d1 d2 x y H g res hr hx hy k0 Q hQ
  obtain ⟨a, fa⟩ := d1
  obtain ⟨b, fb⟩ := d2
  have h1 := hx.w
  have h2 := hy.w
  unfold oMulS at hr
  split at hr
  · rename_i p q e1 e2
    simp only at e1 e2 h1 h2
    subst e1 e2
    split at hr
    · rename_i hl
      cases hr
      rw [Bool.and_eq_true, Bool.and_eq_true, decide_eq_true_eq, decide_eq_true_eq, decide_eq_true_eq] at hl
      obtain ⟨⟨l1, l2⟩, l3⟩ := hl
      unfold i62 at l1 l2
      intro pins s σ v u I rx ry
      rw [h1.str] at rx
      rw [h2.int] at ry
      obtain ⟨t, rfl⟩ := rx
      obtain ⟨t', rfl⟩ := ry
      have hlen : (⟨p.toArray⟩ : Str).length = p.length := by show p.toArray.size = _; simp
      refine SB.mul ⟨by rw [decide_eq_false (by omega), decide_eq_false (by omega)]; rfl, fun h3 _ => ?_, fun _ _ => ?_⟩ fun t' k => ⟨.str (Txt.mul ⟨p.toArray⟩ q), H, I.tok _, ⟨_, rfl⟩, ?_⟩
      · rw [hlen]
        have h4 : (p.length : Int) * q ≤ 1000000 := by
          have : ((p.length * q.toNat : Nat) : Int) ≤ 1000000 := by omega
          rw [Int.natCast_mul, Int.toNat_of_nonneg (by omega)] at this
          exact this
        have h5 : (p.length : Int) ≤ (2 ^ 63 - 1) / q := by
          rw [Int.le_ediv_iff_mul_le (by omega)]
          omega
        omega
      · rw [hlen]
        unfold Builtin.Str.tooLong
        rw [sizeLine_eq]
        exact decide_eq_false (by omega)
      · rw [mul_rep]
        exact hQ _ H (.refl _ _) k0 rfl
    · cases hr
  · cases hr
def oMulA : Op2 := fun a b => match oMulA0 a b with | some r => some r | none => oMulS a b
theorem oMulA_ok : OpOk (binaryOp .Mult) oMulA := oMulA0_ok.or oMulS_ok

/-! ### s.upper() -/
theorem mt_upper {X : Cx} : MtR X "str.upper" (fun x xs H Q => ∃ a : List Nat, x = .str ⟨a.toArray⟩ ∧ xs = [] ∧ a.all (· < 128) = true ∧ a.length ≤ 1000000 ∧ Q (.str ⟨(a.map PyProof.Rows.up1).toArray⟩) H) := by
  intro pins s σ H x xs v us Q I rx rv h
  obtain ⟨a, rfl, rfl, ha, hl, q⟩ := h
  cases rv
  obtain ⟨t, rfl⟩ := rx
  have e : Txt.upper ⟨a.toArray⟩ = ⟨(a.map PyProof.Rows.up1).toArray⟩ := by
    rw [PyProof.Rows.upper_ascii (x := ⟨a.toArray⟩) (fun c hc => of_decide_eq_true (List.all_eq_true.mp ha c (by simpa using hc)))]
    simp
  refine PySem.SC.upper ?_ ⟨.str (Txt.upper ⟨a.toArray⟩), H, I.tok _, ⟨_, rfl⟩, by rw [e]; exact q⟩
  rw [e]
  unfold Builtin.Str.tooLong
  rw [sizeLine_eq]
  refine decide_eq_false ?_
  show ¬ (a.map PyProof.Rows.up1).toArray.size > _
  simp
  omega
def dUpper (f : Den) : Den := fun F ρ g => (f F ρ g).bind fun a g1 => match a.1 with
  | .str s => if s.all (· < 128) && decide (s.length ≤ 1000000) then .ok (.str (s.map PyProof.Rows.up1), .s) g1 else .bad
  | _ => .bad
section
variable {T : Tab} {N : List Str} {sc : Scope}
theorem SE.upper {o : Expr} {f : Den} {apos pos : Pos} (hc : notCall0 o = true) (hl : (apos.endLine == pos.line) = true) (ho : SE T N sc o f) : SE T N sc (.Call (.Attribute o "upper" apos) [] [] pos) (dUpper f) := by
  intro C Z k F W X cx H0 ρ g σ H S Q hp
  refine wE.of (pe_bm0 (T := "str") PySem.F.plainAttrs_str PySem.F.slot_str_upper PySem.F.type_str_upper mt_upper wE.pe (base_of hc _) hl) ?_
  unfold dUpper at hp
  refine ho.then cx S rlF.sh hp fun a g1 x H1 e1 k1 r1 S1 p1 => ?_
  obtain ⟨d, fl⟩ := a
  cases d with
  | str s =>
    dsimp only at p1
    split at p1
    case isFalse => exact p1.elim
    rename_i hh
    rw [Bool.and_eq_true, decide_eq_true_eq] at hh
    have hx := (FRep.w r1).str
    subst hx
    exact ⟨rfl, s, rfl, rfl, hh.1, hh.2, p1 _ H1 (.refl _ _) k1 rfl⟩
  | _ => exact p1.elim
end
end Ev
end

section
/-! Ev18: from the text to its meaning, expressions. -/
namespace Ev
open PySem PySem.Spec L2
open PyProof.Rows hiding St

/-! ### operators -/
def trBin : (op : Operator) → Option {o : Op2 // OpOk (binaryOp op) o}
  | .Add => some ⟨oAdd, oAdd_ok⟩
  | .Sub => some ⟨oSub, oSub_ok⟩
  | .Mult => some ⟨oMulA, oMulA_ok⟩
  | .FloorDiv => some ⟨oDiv, oDiv_ok⟩
  | .Mod => some ⟨oMod, oMod_ok⟩
  | .Pow => some ⟨oPow, oPow_ok⟩
  | _ => none
def trCmp : (op : CmpOp) → Option {o : Op2 // OpOk (compareOp op) o}
  | .Lt => some ⟨oLtA, oLtA_ok⟩
  | .LtE => some ⟨oLe, oLe_ok⟩
  | .Gt => some ⟨oGt, oGt_ok⟩
  | .GtE => some ⟨oGe, oGe_ok⟩
  | .Eq => some ⟨oEq, oEq_ok⟩
  | .NotEq => some ⟨oNe, oNe_ok⟩
  | .Is => some ⟨oIs, oIs_ok⟩
  | .IsNot => some ⟨oIsN, oIsN_ok⟩
  | .In => some ⟨oIn, oIn_ok⟩
  | .NotIn => some ⟨oNi, oNi_ok⟩

structure Rec (T : Tab) (N : List Str) where
  e : (sc : Scope) → (e : Expr) → Option {f : Den // SE T N sc e f}
  t : (sc : Scope) → (e : Expr) → Option {f : DenT // STt T N sc e f}
section
variable {T : Tab} {N : List Str} (r : Rec T N) (sc : Scope)
def trSL : (es : List Expr) → Option {f : DenL // SL T N sc es f ∧ DenL.len es.length f}
  | [] => some ⟨dNil, SL.nil, dNil_len⟩
  | e :: es => if h : notStar e = true then (r.e sc e).bind fun f => (trSL es).bind fun g => some ⟨dCons (dFz f.1) g.1, SL.cons h f.2 g.2.1, dCons_len g.2.2⟩ else none
def trSLw : (es : List Expr) → Option {f : DenL // SLw T N sc es f}
  | [] => some ⟨dNil, SLw.nil⟩
  | e :: es => if h : notStar e = true then (r.e sc e).bind fun f => (trSLw es).bind fun g => some ⟨dCons f.1 g.1, SLw.cons h f.2 g.2⟩ else none
def trSLx : (es : List Expr) → Option {f : FT → Env' → G → R (List (D × Fl)) // SLx T N sc es f}
  | [] => some ⟨xNil, SLx.nil⟩
  | e :: es => if h : notStar e = true then (r.e sc e).bind fun f => (trSLx es).bind fun g => some ⟨xCons f.1 g.1, SLx.cons h f.2 g.2⟩ else none
def trAnd (pos : Pos) : (es : List Expr) → Option {f : Den // SE T N sc (.BoolOp .And es pos) f}
  | [] => none
  | [a] => (r.e sc a).bind fun f => some ⟨f.1, SE.one f.2⟩
  | a :: b :: rest => (r.e sc a).bind fun f => (trAnd pos (b :: rest)).bind fun g => some ⟨dAnd f.1 g.1, SE.and f.2 g.2⟩
def trOr (pos : Pos) : (es : List Expr) → Option {f : Den // SE T N sc (.BoolOp .Or es pos) f}
  | [] => none
  | [a] => (r.e sc a).bind fun f => some ⟨f.1, SE.one f.2⟩
  | a :: b :: rest => (r.e sc a).bind fun f => (trOr pos (b :: rest)).bind fun g => some ⟨dOr f.1 g.1, SE.or f.2 g.2⟩
def trAndT (pos : Pos) : (es : List Expr) → Option {f : DenT // SW T N sc (.BoolOp .And es pos) f}
  | [] => none
  | [a] => (r.t sc a).bind fun f => some ⟨f.1, SW.one f.2⟩
  | a :: b :: rest => (r.t sc a).bind fun f => (trAndT pos (b :: rest)).bind fun g => some ⟨tAnd' f.1 g.1, SW.and f.2 g.2⟩
def trOrT (pos : Pos) : (es : List Expr) → Option {f : DenT // SW T N sc (.BoolOp .Or es pos) f}
  | [] => none
  | [a] => (r.t sc a).bind fun f => some ⟨f.1, SW.one f.2⟩
  | a :: b :: rest => (r.t sc a).bind fun f => (trOrT pos (b :: rest)).bind fun g => some ⟨tOr' f.1 g.1, SW.or f.2 g.2⟩
def trO : (e : Option Expr) → Option {f : DenO // SO T N sc e f}
  | none => some ⟨dNoP, SO.none⟩
  | some e => (r.e sc e).bind fun f => some ⟨dP f.1, SO.some f.2⟩

/-! ### names -/
def trIx (N : List Str) (x : Str) : Option {i : Nat // N[i]? = some x} := match N.idxOf? x with
  | none => none
  | some i => if h : N[i]? = some x then some ⟨i, h⟩ else none
def okName (x : Str) : Bool := !(x == ("__debug__" : Str)) && !(x == ("__classdict__" : Str))
theorem okName.d {x : Str} (h : okName x = true) : (x == ("__debug__" : Str)) = false ∧ (x == ("__classdict__" : Str)) = false := by
  unfold okName at h
  rw [Bool.and_eq_true] at h
  simpa using h
def visB (sc : Scope) (x : Str) : Bool := match sc.names.lookup x with
  | some .local => true
  | some .cell => true
  | some .free => true
  | _ => false
theorem visB.ok {sc : Scope} {x : Str} (h : visB sc x = true) : Vis sc x := by
  unfold visB at h
  split at h
  · rename_i q; exact .inl q
  · rename_i q; exact .inr (.inl q)
  · rename_i q; exact .inr (.inr q)
  · cases h
def glB (sc : Scope) (x : Str) : Bool := match sc.names.lookup x with
  | some .globalImplicit => true
  | _ => false
theorem glB.ok {sc : Scope} {x : Str} (h : glB sc x = true) : gl sc x := by
  unfold glB at h
  split at h
  · rename_i q; exact q
  · cases h
def fnIx (T : Tab) (x : Str) : Option {p : Nat × Nat // T.fns[p.1]? = some (x, p.2)} := match T.fns.findIdx? (fun q => q.1 == x) with
  | none => none
  | some i => match h : T.fns[i]? with
    | some (y, n) => if e : y = x then some ⟨(i, n), by rw [h, e]⟩ else none
    | none => none
def trName (x : Str) (pos : Pos) : Option {f : Den // SE T N sc (.Name x pos) f} :=
  if hn : okName x = true then
    if hv : visB sc x = true then (trIx N x).bind fun i => some ⟨dVar i.1, SE.var i.2 (visB.ok hv) (okName.d hn).1 (okName.d hn).2⟩
    else if hg : glB sc x = true then match h : T.cons.lookup x with
      | some d => some ⟨dC d, SE.glob (glB.ok hg) (PySem.mem_of_lookup h) (okName.d hn).1⟩
      | none => (fnIx T x).bind fun i => some ⟨dC (.fn i.1.1), SE.fnv (glB.ok hg) i.2 (okName.d hn).1⟩
    else none
  else none

/-! ### built-in calls that only read -/
structure Bif where
  x : Str
  id : String
  ty : Bool
  o : List D → Option (D × Fl)
  mem : x ∈ bnames
  boot : bootBuiltins x = some (if ty then .type id else .builtin id)
  nn : x ≠ "__name__"
  ok : CallOk (if ty then .type id else .builtin id) o
def bifs : List Bif := [⟨"all", "all", false, oAll, by simp [bnames], rfl, by decide, oAll_ok⟩, ⟨"any", "any", false, oAny, by simp [bnames], rfl, by decide, oAny_ok⟩, ⟨"sum", "sum", false, oSum, by simp [bnames], rfl, by decide, oSum_ok⟩,
  ⟨"max", "max", false, oMax, by simp [bnames], rfl, by decide, oMax_ok⟩, ⟨"min", "min", false, oMinI, by simp [bnames], rfl, by decide, oMinI_ok⟩, ⟨"abs", "abs", false, oAbs, by simp [bnames], rfl, by decide, oAbs_ok⟩,
  ⟨"int", "int", true, oInt, by simp [bnames], rfl, by decide, oInt_ok⟩, ⟨"tuple", "tuple", true, oTuple, by simp [bnames], rfl, by decide, oTuple_ok⟩, ⟨"list", "list", true, oListA, by simp [bnames], rfl, by decide, oListA_ok⟩,
  ⟨"len", "len", false, oLen, by simp [bnames], rfl, by decide, oLen_ok⟩,
  ⟨"sorted", "sorted", false, oSort, by simp [bnames], rfl, by decide, oSort_ok⟩, ⟨"dict", "dict", true, oDictP, by simp [bnames], rfl, by decide, oDictP_ok⟩, ⟨"str", "str", true, oStr, by simp [bnames], rfl, by decide, oStr_ok⟩]
theorem SE.bif' (b : Bif) {x : Str} (hx : b.x = x) {e : Expr} {es : List Expr} {fs : DenL} {p pos : Pos} (hg : gl sc x) (hd : (x == ("__debug__" : Str)) = false) (hs : (e :: es).all notStar = true) (ha : SLw T N sc (e :: es) fs) : SE T N sc (.Call (.Name x p) (e :: es) [] pos) (dBif b.o fs) := by
  subst hx
  obtain ⟨x, id, ty, o, mem, boot, nn, ok⟩ := b
  cases ty with
  | true => exact SE.bty hg mem boot nn hd hs ok ha
  | false => exact SE.bif hg mem boot nn hd hs ok ha
def trBif (x : Str) (p : Pos) (es : List Expr) (pos : Pos) : Option {f : Den // SE T N sc (.Call (.Name x p) es [] pos) f} := match es with
  | [] => none
  | e :: es => match h : bifs.find? (fun b => b.x == x) with
    | none => none
    | some b => if hg : glB sc x = true then if hd : okName x = true then if hs : (e :: es).all notStar = true then
        if hx : b.x = x then (trSLw r sc (e :: es)).bind fun fs => some ⟨dBif b.o fs.1, SE.bif' sc b hx (glB.ok hg) (okName.d hd).1 hs fs.2⟩ else none
      else none else none else none

/-! ### sorted(set(..)), len(set(..)) -/
def trSetB (x : Str) (p : Pos) (es : List Expr) (pos : Pos) : Option {f : Den // SE T N sc (.Call (.Name x p) es [] pos) f} := match es with
  | [.Call (.Name y p2) [e] [] q] => if hy : y = "set" then if hg2 : glB sc "set" = true then if hs : notStar e = true then
      if hx : x = "sorted" then if hg : glB sc "sorted" = true then (trSLw r sc [e]).bind fun fs => some ⟨dBif oSortS fs.1, by subst hx hy; exact SE.sortS (glB.ok hg) (glB.ok hg2) hs fs.2⟩ else none
      else if hx : x = "len" then if hg : glB sc "len" = true then (trSLw r sc [e]).bind fun fs => some ⟨dBif oLenS fs.1, by subst hx hy; exact SE.lenS (glB.ok hg) (glB.ok hg2) hs fs.2⟩ else none
      else none
    else none else none else none
  | _ => none
/-! ### list(range(..)) -/
def trLr (x : Str) (p : Pos) (es : List Expr) (pos : Pos) : Option {f : Den // SE T N sc (.Call (.Name x p) es [] pos) f} := match es with
  | [.Call (.Name y p2) [e] [] q] => if hy : y = "range" then if hx : x = "list" then if hg : glB sc "list" = true then if hg2 : glB sc "range" = true then if hs : notStar e = true then
      (r.e sc e).bind fun f => some ⟨dLR1 f.1, by subst hx hy; exact SE.lr1 (glB.ok hg) (glB.ok hg2) hs f.2⟩ else none else none else none else none else none
  | [.Call (.Name y p2) [e, e'] [] q] => if hy : y = "range" then if hx : x = "list" then if hg : glB sc "list" = true then if hg2 : glB sc "range" = true then if hs : notStar e = true then if hs2 : notStar e' = true then
      (r.e sc e).bind fun f => (r.e sc e').bind fun f' => some ⟨dLR2 f.1 f'.1, by subst hx hy; exact SE.lr2 (glB.ok hg) (glB.ok hg2) hs hs2 f.2 f'.2⟩ else none else none else none else none else none else none
  | _ => none
/-! ### methods of one argument -/
def mtds : List MtD := [mCount, mIndex, mJoin]
def trM1 (o : Expr) (m : Str) (apos : Pos) (e : Expr) (pos : Pos) : Option {f : Den // SE T N sc (.Call (.Attribute o m apos) [e] [] pos) f} :=
  match mtds.find? (fun b => b.name == m) with
  | none => none
  | some b => if hm : b.name = m then if hc : notCall0 o = true then if hl : (apos.endLine == pos.line) = true then if hs : notStar e = true then
      (r.e sc o).bind fun f => (r.e sc e).bind fun h => some ⟨dM1 b f.1 h.1, by subst hm; exact SE.m1 b hc hl hs f.2 h.2⟩
    else none else none else none else none

/-! ### isinstance -/
structure TyP where
  x : Str
  t : String
  mem : x ∈ bnames
  boot : bootBuiltins x = some (.type t)
  nn : x ≠ "__name__"
  ht : t ∈ tyNames
def tyPs : List TyP := [⟨"int", "int", by simp [bnames], rfl, by decide, by simp [tyNames]⟩, ⟨"bool", "bool", by simp [bnames], rfl, by decide, by simp [tyNames]⟩, ⟨"tuple", "tuple", by simp [bnames], rfl, by decide, by simp [tyNames]⟩,
  ⟨"list", "list", by simp [bnames], rfl, by decide, by simp [tyNames]⟩, ⟨"str", "str", by simp [bnames], rfl, by decide, by simp [tyNames]⟩, ⟨"dict", "dict", by simp [bnames], rfl, by decide, by simp [tyNames]⟩]
theorem SE.isa' (b : TyP) {x : Str} (hx : b.x = x) {e : Expr} {f : Den} {p p2 pos : Pos} (hg : gl sc "isinstance") (hgx : gl sc x) (hd : (x == ("__debug__" : Str)) = false) (hs : notStar e = true) (h : SE T N sc e f) : SE T N sc (.Call (.Name "isinstance" p) [e, .Name x p2] [] pos) (dIsa b.t f) := by
  subst hx
  exact SE.isa hg hgx b.mem b.boot b.nn hd b.ht hs h
def trIsa (f : Str) (p : Pos) (es : List Expr) (pos : Pos) : Option {d : Den // SE T N sc (.Call (.Name f p) es [] pos) d} := match es with
  | [e, .Name x p2] => if hf : f = "isinstance" then match tyPs.find? (fun b => b.x == x) with
    | none => none
    | some b => if hx : b.x = x then if hg : glB sc "isinstance" = true then if hgx : glB sc x = true then if hd : okName x = true then if hs : notStar e = true then
      (r.e sc e).bind fun d => some ⟨dIsa b.t d.1, by subst hf; exact SE.isa' sc b hx (glB.ok hg) (glB.ok hgx) (okName.d hd).1 hs d.2⟩ else none else none else none else none else none
    else none
  | _ => none

/-! ### calls of the text's defs -/
def trCall (x : Str) (p : Pos) (es : List Expr) (pos : Pos) : Option {f : Den // SE T N sc (.Call (.Name x p) es [] pos) f} := match es with
  | [] => none
  | e :: es => if hg : glB sc x = true then if hd : okName x = true then if hs : (e :: es).all notStar = true then
      (fnIx T x).bind fun i => (trSL r sc (e :: es)).bind fun fs => if hl : (e :: es).length = i.1.2 then
        some ⟨dCall i.1.1 fs.1, SE.call (glB.ok hg) (okName.d hd).1 i.2 hs fs.2.1 (hl ▸ fs.2.2)⟩ else none
    else none else none else none

/-! ### dict displays -/
def trSP (pos : Pos) : (ks : List (Option Expr)) → (vs : List Expr) → Option {f : FT → Env' → G → R (List (D × D)) // SP T N sc ks vs pos f ∧ ∀ F ρ g l g', f F ρ g = .ok l g' → l.length = ks.length}
  | [], [] => some ⟨pNil, SP.nil, fun F ρ g l g' h => by cases h; rfl⟩
  | some k :: ks, v :: vs => (r.e sc k).bind fun fk => (r.e sc v).bind fun fv => (trSP pos ks vs).bind fun g => some ⟨pCons fk.1 fv.1 g.1, SP.cons fk.2 fv.2 g.2.1, fun F ρ g0 l g' h => by
      unfold pCons at h
      cases q1 : dFz fk.1 F ρ g0 with
      | bad => rw [q1] at h; cases h
      | exc => rw [q1] at h; cases h
      | ok a g1 =>
        rw [q1] at h
        dsimp only [R.bind] at h
        cases q2 : dFz fv.1 F ρ g1 with
        | bad => rw [q2] at h; cases h
        | exc => rw [q2] at h; cases h
        | ok b g2 =>
          rw [q2] at h
          dsimp only at h
          cases q3 : g.1 F ρ g2 with
          | bad => rw [q3] at h; cases h
          | exc => rw [q3] at h; cases h
          | ok c g3 =>
            rw [q3] at h
            cases h
            simp [g.2.2 F ρ g2 c _ q3]⟩
  | _, _ => none
def trDct (ks : List (Option Expr)) (vs : List Expr) (pos : Pos) : Option {f : Den // SE T N sc (.Dict ks vs pos) f} :=
  if h1 : ks.all (·.isSome) = true then if h2 : ks.length = vs.length then if h3 : ks ≠ [] then if h4 : ks.length ≤ 15 then
    (trSP r sc pos ks vs).bind fun f => some ⟨dDct f.1, SE.dct h1 h2 h3 h4 (fun F ρ g l g' h => by rw [f.2.2 F ρ g l g' h]; exact h4) f.2.1⟩
  else none else none else none else none

/-! ### what is walked -/
def noSetB (e : Expr) : Bool := notSet e
theorem fold_of {e : Expr} (h : notSet e = true) (env : Env) (x : Value) : foldedSetIterable e env x = pure x := by
  cases e <;> first | rfl | exact Bool.noConfusion h
def isTup : (e : Expr) → Bool
  | .Tuple _ _ _ => true
  | _ => false
def trIt0 (tg : Expr) (e : Expr) : Option {f : DenL // SIk T N sc tg e f} := match e with
  | .Call (.Name x p) es [] pos =>
    if hg : glB sc x = true then
      if hx : x = "range" then match es with
        | [a] => if hs : notStar a = true then (trSL r sc [a]).bind fun fs => some ⟨dRng1 fs.1, by subst hx; exact SIk.rng1 (glB.ok hg) hs fs.2.1⟩ else none
        | [a, b] => if hs : notStar a = true then if hs2 : notStar b = true then (trSL r sc [a, b]).bind fun fs => some ⟨dRng2 fs.1, by subst hx; exact SIk.rng2 (glB.ok hg) hs hs2 fs.2.1⟩ else none else none
        | [a, b, c] => if hs : notStar a = true then if hs2 : [b, c].all notStar = true then (trSL r sc [a, b, c]).bind fun fs => some ⟨dRng3 fs.1, by subst hx; exact SIk.rng3 (glB.ok hg) hs hs2 fs.2.1⟩ else none else none
        | _ => none
      else if hx : x = "zip" then match tg, es with
        | .Tuple elts kk tpos, [a, b] => if hs : notStar a = true then if hs2 : [b].all notStar = true then (trSL r sc [a, b]).bind fun fs => some ⟨dZip fs.1, by subst hx; exact SIk.zip (glB.ok hg) hs hs2 fs.2.1⟩ else none else none
        | _, _ => none
      else if hx : x = "enumerate" then match tg, es with
        | .Tuple elts kk tpos, [a] => if hs : notStar a = true then (trSL r sc [a]).bind fun fs => some ⟨dEnum fs.1, by subst hx; exact SIk.enum (glB.ok hg) hs fs.2.1⟩ else none
        | _, _ => none
      else none
    else none
  | _ => none
/-- for a loop: the container does not change -/
def trItK (tg e : Expr) : Option {f : DenL // SIk T N sc tg e f} := match trIt0 r sc tg e with
  | some f => some f
  | none => (r.e sc e).bind fun f => some ⟨dIt (dFz f.1), SIk.val f.2⟩
/-- for a comprehension -/
def trItE (tg e : Expr) : Option {f : DenL // SIe T N sc tg e f} := match trIt0 r sc tg e with
  | some f => some ⟨f.1, f.2.e⟩
  | none => (r.e sc e).bind fun f => some ⟨dIt f.1, SIe.val f.2⟩

/-! ### targets -/
def trTgs' (ok : Str → Bool) (rec_ : (e : Expr) → Option {t : Tgt // IsTg N ok e t}) : (es : List Expr) → Option {t : List Tgt // IsTgs N ok es t}
  | [] => some ⟨[], .nil⟩
  | e :: es => if h : notStar e = true then (rec_ e).bind fun t => (trTgs' ok rec_ es).bind fun ts => some ⟨t.1 :: ts.1, .cons h t.2 ts.2⟩ else none
def trTg (ok : Str → Bool) : Nat → (e : Expr) → Option {t : Tgt // IsTg N ok e t}
  | 0, _ => none
  | n + 1, e => match e with
    | .Name x pos => if h : ok x = true then (trIx N x).bind fun i => some ⟨.nm i.1, .nm i.2 h⟩ else none
    | .Tuple es k pos => (trTgs' ok (trTg ok n) es).bind fun ts => some ⟨.tp ts.1, .tp ts.2⟩
    | _ => none
def subB (is vs : List Nat) : Bool := is.all fun i => vs.contains i
theorem subB.ok {is vs : List Nat} (h : subB is vs = true) : ∀ i ∈ is, i ∈ vs := fun i hi => by
  have := List.all_eq_true.mp h i hi
  simpa using this

/-! ### comprehensions -/
def ownOf (N : List Str) (scope : Scope) : List (Str × Nat) := scope.names.filterMap fun y => if y.2 == .local || y.2 == .cell then (N.idxOf? y.1).map fun i => (y.1, i) else none
def trTs (ifs : List Expr) : Option {f : DenT // STs T N sc ifs f} := match ifs with
  | [] => some ⟨dYes, STs.nil⟩
  | [c] => (r.t sc c).bind fun f => some ⟨f.1, STs.one f.2⟩
  | _ => none
structure LcP (T : Tab) (N : List Str) (sc : Scope) (elt tg iter : Expr) (ifs : List Expr) (scope : Scope) where
  t : Tgt
  fi : DenL
  ft : DenT
  fe : Den
  ok : blkOk N sc scope (ownOf N scope) = true
  hi : SIe T N sc tg iter fi
  ht : STs T N (relS scope sc) ifs ft
  he : SE T N (relS scope sc) elt fe
  htg : IsTg N (ownOk scope) tg t
  htv : ∀ i ∈ t.ixs, i ∈ (ownOf N scope).map (·.2)
  hs : ∀ env x, foldedSetIterable iter env x = pure x
def trLc (elt tg iter : Expr) (ifs : List Expr) (scope : Scope) : Option (LcP T N sc elt tg iter ifs scope) :=
  if ok : blkOk N sc scope (ownOf N scope) = true then if hs : notSet iter = true then
    (trItE r sc tg iter).bind fun fi => (trTs r (relS scope sc) ifs).bind fun ft => (r.e (relS scope sc) elt).bind fun fe => (trTg (ownOk scope) 5 tg).bind fun t =>
      if hv : subB t.1.ixs ((ownOf N scope).map (·.2)) = true then some ⟨t.1, fi.1, ft.1, fe.1, ok, fi.2, ft.2, fe.2, t.2, subB.ok hv, fold_of hs⟩ else none
  else none else none
structure LcP2 (T : Tab) (N : List Str) (sc : Scope) (elt tg iter : Expr) (ifs : List Expr) (tg1 iter1 : Expr) (ifs1 : List Expr) (scope : Scope) where
  t : Tgt
  fi : DenL
  ft : DenT
  t1 : Tgt
  fi1 : DenL
  ft1 : DenT
  fe : Den
  ok : blkOk N sc scope (ownOf N scope) = true
  hi : SIe T N sc tg iter fi
  ht : STs T N (relS scope sc) ifs ft
  hi1 : SIk T N (relS scope sc) tg1 iter1 fi1
  ht1 : STs T N (relS scope sc) ifs1 ft1
  he : SE T N (relS scope sc) elt fe
  htg : IsTg N (ownOk scope) tg t
  htv : ∀ i ∈ t.ixs, i ∈ (ownOf N scope).map (·.2)
  htg1 : IsTg N (ownOk scope) tg1 t1
  htv1 : ∀ i ∈ t1.ixs, i ∈ t1.ixs
  hv1 : ∀ i ∈ t1.ixs, i ∈ (ownOf N scope).map (·.2)
  hs : ∀ env x, foldedSetIterable iter env x = pure x
  hs1 : ∀ env x, foldedSetIterable iter1 env x = pure x
def trLc2 (elt tg iter : Expr) (ifs : List Expr) (tg1 iter1 : Expr) (ifs1 : List Expr) (scope : Scope) : Option (LcP2 T N sc elt tg iter ifs tg1 iter1 ifs1 scope) :=
  if ok : blkOk N sc scope (ownOf N scope) = true then if hs : notSet iter = true then if hs1 : notSet iter1 = true then
    (trItE r sc tg iter).bind fun fi => (trTs r (relS scope sc) ifs).bind fun ft => (trItK r (relS scope sc) tg1 iter1).bind fun fi1 => (trTs r (relS scope sc) ifs1).bind fun ft1 => (r.e (relS scope sc) elt).bind fun fe =>
      (trTg (ownOk scope) 5 tg).bind fun t => (trTg (ownOk scope) 5 tg1).bind fun t1 =>
        if hv : subB t.1.ixs ((ownOf N scope).map (·.2)) = true then if hv1 : subB t1.1.ixs ((ownOf N scope).map (·.2)) = true then
          some ⟨t.1, fi.1, ft.1, t1.1, fi1.1, ft1.1, fe.1, ok, fi.2, ft.2, fi1.2, ft1.2, fe.2, t.2, subB.ok hv, t1.2, fun _ h => h, subB.ok hv1, fold_of hs, fold_of hs1⟩ else none else none
  else none else none else none

/-! ### one step -/
def stepE : (e : Expr) → Option {f : Den // SE T N sc e f}
  | .Name x pos => trName sc x pos
  | .Constant c j pos => match c with
    | .int i => some ⟨_, SE.int (i := i)⟩
    | .bool b => some ⟨_, SE.bl (b := b)⟩
    | .none => some ⟨_, SE.non⟩
    | .str x => some ⟨_, SE.str (x := x)⟩
    | _ => none
  | .Tuple es k pos => (trSL r sc es).bind fun f => some ⟨dTup f.1, SE.tup f.2.1⟩
  | .List es pos => (trSL r sc es).bind fun f => some ⟨dLst f.1, SE.lst f.2.1⟩
  | .Dict [] [] pos => some ⟨dDct0, SE.dct0⟩
  | .Dict ks vs pos => trDct r sc ks vs pos
  | .BinOp a op b pos => (trBin op).bind fun o => (r.e sc a).bind fun f => (r.e sc b).bind fun h => some ⟨dBin o.1 f.1 h.1, SE.bin o.2 f.2 h.2⟩
  | .Compare a [op] [b] pos => if hs : notSet b = true then (trCmp op).bind fun o => (r.e sc a).bind fun f => (r.e sc b).bind fun h => some ⟨dBin o.1 f.1 h.1, SE.cmp hs o.2 f.2 h.2⟩ else none
  | .Compare a [op, op'] [b, c] pos => if hs : notSet c = true then (trCmp op).bind fun o => (trCmp op').bind fun o' => (r.e sc a).bind fun f => (r.e sc b).bind fun h => (r.e sc c).bind fun u => some ⟨dChain o.1 o'.1 f.1 h.1 u.1, SE.chain hs o.2 o'.2 f.2 h.2 u.2⟩ else none
  | .UnaryOp .Not e pos => (r.e sc e).bind fun f => some ⟨dNot f.1, SE.not f.2⟩
  | .UnaryOp .USub e pos => (r.e sc e).bind fun f => some ⟨dNeg f.1, SE.neg f.2⟩
  | .BoolOp .And es pos => trAnd r sc pos es
  | .BoolOp .Or es pos => trOr r sc pos es
  | .IfExp c a b pos => (r.t sc c).bind fun t => (r.e sc a).bind fun f => (r.e sc b).bind fun h => some ⟨dIf t.1 f.1 h.1, SE.ife t.2 f.2 h.2⟩
  | .Subscript a (.Slice none none (some (.UnaryOp .USub (.Constant (.int 1) k p1) p2)) p3) pos => (r.e sc a).bind fun f => some ⟨dRev f.1, SE.rev f.2⟩
  | .Subscript a (.Slice lo hi none p2) pos => (r.e sc a).bind fun f => (trO r sc lo).bind fun l => (trO r sc hi).bind fun h => some ⟨dSl f.1 l.1 h.1, SE.slice f.2 l.2 h.2⟩
  | .Subscript a b pos => if hs : notSlice b = true then (r.e sc a).bind fun f => (r.e sc b).bind fun h => some ⟨dIxBy oIx f.1 h.1, SE.ixBy hs oIx_ok f.2 h.2⟩ else none
  | .Call (.Name x p) es [] pos => match trSetB r sc x p es pos with
   | some f => some f
   | none => match trLr r sc x p es pos with
    | some f => some f
    | none => match trBif r sc x p es pos with
    | some f => some f
    | none => match trIsa r sc x p es pos with
      | some f => some f
      | none => trCall r sc x p es pos
  | .Call (.Attribute o m apos) [e1, e2] [] pos => if hm : m = "get" then if hc : notCall0 o = true then if hl : (apos.endLine == pos.line) = true then if n1 : notStar e1 = true then if n2 : notStar e2 = true then
      (r.e sc o).bind fun f => (r.e sc e1).bind fun h => (r.e sc e2).bind fun u => some ⟨dGet2 f.1 h.1 u.1, by subst hm; exact SE.get2 hc hl n1 n2 f.2 h.2 u.2⟩
    else none else none else none else none else none
  | .Call (.Attribute o m apos) [] [] pos => if hm : m = "upper" then if hc : notCall0 o = true then if hl : (apos.endLine == pos.line) = true then
      (r.e sc o).bind fun f => some ⟨dUpper f.1, by subst hm; exact SE.upper hc hl f.2⟩ else none else none else none
  | .Call (.Attribute o m apos) [e1] [] pos => if hm : m = "get" then if hc : notCall0 o = true then if hl : (apos.endLine == pos.line) = true then if n1 : notStar e1 = true then
      (r.e sc o).bind fun f => (r.e sc e1).bind fun h => some ⟨dGet1 f.1 h.1, by subst hm; exact SE.get1 hc hl n1 f.2 h.2⟩
    else none else none else none else trM1 r sc o m apos e1 pos
  | .ListComp elt [⟨tg, iter, ifs, 0⟩] scope pos => (trLc r sc elt tg iter ifs scope).bind fun p => some ⟨_, SE.lc p.ok p.hi p.ht p.he p.htg p.htv p.hs⟩
  | .ListComp elt [⟨tg, iter, ifs, 0⟩, ⟨tg1, iter1, ifs1, 0⟩] scope pos => (trLc2 r sc elt tg iter ifs tg1 iter1 ifs1 scope).bind fun p => some ⟨_, SE.lc2 p.ok p.hi p.ht p.hi1 p.ht1 p.he p.htg p.htv p.htg1 p.htv1 p.hv1 p.hs p.hs1⟩
  | _ => none
def stepT : (e : Expr) → Option {f : DenT // STt T N sc e f}
  | .Compare a [op] [b] pos => if hs : notSet b = true then (trCmp op).bind fun o => (r.e sc a).bind fun f => (r.e sc b).bind fun h => some ⟨dT (dBin o.1 f.1 h.1), STt.cmp hs o.2 f.2 h.2⟩ else none
  | .Compare a [op, op'] [b, c] pos => if hs : notSet c = true then (trCmp op).bind fun o => (trCmp op').bind fun o' => (r.e sc a).bind fun f => (r.e sc b).bind fun h => (r.e sc c).bind fun u => some ⟨dT (dChain o.1 o'.1 f.1 h.1 u.1), STt.chain hs o.2 o'.2 f.2 h.2 u.2⟩ else none
  | .UnaryOp .Not e pos => (r.t sc e).bind fun f => some ⟨tNot' f.1, STt.not f.2⟩
  | .BoolOp .And es pos => (trAndT r sc pos es).bind fun f => some ⟨f.1, f.2.t⟩
  | .BoolOp .Or es pos => (trOrT r sc pos es).bind fun f => some ⟨f.1, f.2.t⟩
  | e => if h : plainTest e = true then (r.e sc e).bind fun f => some ⟨dT f.1, STt.val h f.2⟩ else none
end
def rec0 {T : Tab} {N : List Str} : Nat → Rec T N
  | 0 => ⟨fun _ _ => none, fun _ _ => none⟩
  | n + 1 => ⟨stepE (rec0 n), stepT (rec0 n)⟩
end Ev
end

section
/-! Ev19: from the text to its meaning, statements. -/
namespace Ev
open PySem PySem.Spec L2
open PyProof.Rows hiding St

/-! ### which names are handed on -/
def readOnly : List Str := ["abs", "all", "any", "int", "isinstance", "len", "list", "max", "min", "set", "sorted", "str", "sum", "tuple", "dict"]
mutual
/-- the value itself is handed on -/
def escV : Nat → Expr → List Str
  | 0, _ => []
  | n + 1, e => match e with
    | .Name x _ => [x]
    | .IfExp c a b _ => esc n c ++ escV n a ++ escV n b
    | .BoolOp _ es _ => es.flatMap (escV n)
    | e => esc n e
/-- names that are handed on within -/
def esc : Nat → Expr → List Str
  | 0, _ => []
  | n + 1, e => match e with
    | .Name _ _ => []
    | .Constant _ _ _ => []
    | .Tuple es _ _ => es.flatMap (escV n)
    | .List es _ => es.flatMap (escV n)
    | .Dict ks vs _ => (ks.filterMap id).flatMap (escV n) ++ vs.flatMap (escV n)
    | .BinOp a _ b _ => esc n a ++ esc n b
    | .UnaryOp _ a _ => esc n a
    | .Compare a _ bs _ => esc n a ++ bs.flatMap (esc n)
    | .BoolOp _ es _ => es.flatMap (esc n)
    | .IfExp c a b _ => esc n c ++ esc n a ++ esc n b
    | .Subscript a b _ => esc n a ++ esc n b
    | .Slice a b c _ => (a.toList ++ b.toList ++ c.toList).flatMap (esc n)
    | .Call (.Name x _) es _ _ => if readOnly.contains x then es.flatMap (esc n) else es.flatMap (escV n)
    | .Call (.Attribute o m _) es _ _ => if m == "update" then esc n o ++ es.flatMap (esc n) else esc n o ++ es.flatMap (escV n)
    | .Call o es _ _ => esc n o ++ es.flatMap (escV n)
    | .Attribute o _ _ => esc n o
    | .ListComp e [g] _ _ => escV n e ++ esc n g.iter ++ g.ifs.flatMap (esc n)
    | .ListComp e gs _ _ => allN n e ++ gs.flatMap fun g => allN n g.iter ++ g.ifs.flatMap (allN n)
    | .DictComp k v gs _ _ => allN n k ++ allN n v ++ gs.flatMap fun g => allN n g.iter ++ g.ifs.flatMap (allN n)
    | .Lambda _ b _ _ => allN n b
    | _ => []
/-- all names -/
def allN : Nat → Expr → List Str
  | 0, _ => []
  | n + 1, e => match e with
    | .Name x _ => [x]
    | .Constant _ _ _ => []
    | .Tuple es _ _ => es.flatMap (allN n)
    | .List es _ => es.flatMap (allN n)
    | .Dict ks vs _ => (ks.filterMap id).flatMap (allN n) ++ vs.flatMap (allN n)
    | .BinOp a _ b _ => allN n a ++ allN n b
    | .UnaryOp _ a _ => allN n a
    | .Compare a _ bs _ => allN n a ++ bs.flatMap (allN n)
    | .BoolOp _ es _ => es.flatMap (allN n)
    | .IfExp c a b _ => allN n c ++ allN n a ++ allN n b
    | .Subscript a b _ => allN n a ++ allN n b
    | .Slice a b c _ => (a.toList ++ b.toList ++ c.toList).flatMap (allN n)
    | .Call o es _ _ => allN n o ++ es.flatMap (allN n)
    | .Attribute o _ _ => allN n o
    | .ListComp e gs _ _ => allN n e ++ gs.flatMap fun g => allN n g.iter ++ g.ifs.flatMap (allN n)
    | .DictComp k v gs _ _ => allN n k ++ allN n v ++ gs.flatMap fun g => allN n g.iter ++ g.ifs.flatMap (allN n)
    | .Lambda _ b _ _ => allN n b
    | _ => []
end
def ED : Nat := 30
/-- names that a statement's own expressions hand on -/
def escS : Stmt → List Str
  | .Return (some (.Name _ _)) _ => []
  | .Return (some e) _ => escV ED e
  | .Assign [.Subscript _ i _] e _ => escV ED e ++ escV ED i
  | .Assign _ e _ => escV ED e
  | .AugAssign _ _ e _ => escV ED e
  | .For _ it _ _ _ => escV ED it
  | .If c _ _ _ => esc ED c
  | .While c _ _ _ => esc ED c
  | .Expr e _ => esc ED e
  | _ => []
section
variable {T : Tab} {N : List Str} {sc : Scope}
/-- .. before the statement runs -/
def fzAll : (is : List Nat) → {st : Stmt} → {f : DenS // SSt T N sc st f} → {f : DenS // SSt T N sc st f}
  | [], _, f => f
  | i :: is, _, f => ⟨_, SSt.fzV i (fzAll is f).2⟩
/-- a slot handed on, then -/
def fz (i : Nat) (f : DenS) : DenS := fun F ρ g => f F (fzE i ρ) g
def fzIx (N : List Str) (sc : Scope) (xs : List Str) : List Nat := (xs.eraseDups.filter fun x => visB sc x).filterMap fun x => N.idxOf? x

/-! ### x = [..] on one line -/
def swB (sc scope : Scope) (x : Str) (p vp : Pos) : Bool := (sc.kind == .function) && sc.names.lookup x == some .local && p.line == vp.line && !(scope.names.any fun y => y.1 == x && (y.2 == .local || y.2 == .cell))
theorem swaps_lc {elt : Expr} {gens : List Comprehension} {scope : Scope} {vp p : Pos} {x : Str} {n : Nat} {env : Env} (hk : sc.kind = .function) (h : env.scope = sc) : swapsWith (.ListComp elt gens scope vp) (some (.Name x p)) n env = pure (swB sc scope x p vp) := by
  have e1 : env.blockKind = .function := by
    unfold Env.blockKind
    rw [h, hk]; rfl
  unfold swapsWith swB
  show (pure _ : Sem Bool) = _
  rw [e1, hk]
  unfold Env.kindOf
  rw [h]
  rfl
/-! ### a, b = x, y -/
def isStar : Expr → Bool
  | .Starred _ _ => true
  | _ => false
def swSt (sc : Scope) (ts vs : List Expr) : Option (Option (List Str)) :=
  if !(ts.length == 2 || ts.length == 3) || vs.length != ts.length then some none
  else if vs.any isStar then some none
  else
    let names := ts.filterMap fun t => match t with
      | .Name id pos => if sc.names.lookup id == some .local && pos.line == (ts.head?.map (·.pos.line)).getD 0 then some id else none
      | _ => none
    if names.length != ts.length || names.eraseDups.length != names.length then some none
    else if vs.all (foldedForSure 8) then some none
    else if vs.all (constantsAlone 8) then none else some (some names)
theorem stores_of {ts vs : List Expr} {k k2 : Nat} {p p2 : Pos} {env : Env} {res : Option (List Str)} (hk : sc.kind = .function) (h : env.scope = sc) (q : swSt sc ts vs = some res) : swappedStores [.Tuple ts k p] (.Tuple vs k2 p2) env = pure res := by
  have e1 : env.blockKind = .function := by
    unfold Env.blockKind
    rw [h, hk]; rfl
  unfold swSt at q
  unfold swappedStores
  dsimp only
  rw [e1]
  unfold Env.kindOf
  rw [h]
  rw [show (ScopeKind.function != ScopeKind.function) = false from rfl, Bool.or_false]
  split at q
  · rename_i c; rw [if_pos c]; cases q; rfl
  rename_i c1
  rw [if_neg c1]
  generalize hA : List.any vs _ = A at ⊢
  have eA : A = vs.any isStar := by
    rw [← hA]
    congr 1
  clear hA
  subst eA
  generalize hB : List.filterMap _ ts = B at ⊢
  generalize hB2 : List.filterMap _ ts = B2 at q
  have eB : B = B2 := by
    rw [← hB, ← hB2]
    congr 1
  clear hB hB2
  subst eB
  split at q
  · rename_i c; rw [if_pos c]; cases q; rfl
  rename_i c2
  rw [if_neg c2]
  dsimp only at q
  split at q
  · rename_i c; rw [if_pos c]; cases q; rfl
  rename_i c3
  rw [if_neg c3]
  split at q
  · rename_i c; rw [if_pos c]; cases q; rfl
  rename_i c4
  rw [if_neg c4]
  split at q
  · cases q
  rename_i c5
  rw [if_neg c5]
  cases q
  rfl

/-! ### one statement -/
structure RecS (T : Tab) (N : List Str) (sc : Scope) where
  s : (st : Stmt) → Option {f : DenS // SSt T N sc st f}
def trSs (rs : (st : Stmt) → Option {f : DenS // SSt T N sc st f}) : (sts : List Stmt) → Option {f : DenS // SSts T N sc sts f}
  | [] => some ⟨dNop, SSts.nil⟩
  | [s] => (rs s).bind fun f => some ⟨f.1, SSts.one f.2⟩
  | s :: r => (rs s).bind fun f => (trSs rs r).bind fun g => some ⟨dSeq f.1 g.1, SSts.cons f.2 g.2⟩
def locB (sc : Scope) (x : Str) : Bool := match sc.names.lookup x with
  | some .local => true
  | _ => false
theorem locB.ok {sc : Scope} {x : Str} (h : locB sc x = true) : sc.names.lookup x = some .local := by
  unfold locB at h
  split at h
  · rename_i q; exact q
  · cases h
def trNs : (es : List Expr) → Option {is : List Nat // IsNs N sc es is}
  | [] => some ⟨[], .nil⟩
  | .Name x pos :: es => if hx : locOk sc x = true then (trIx N x).bind fun i => (trNs es).bind fun is => some ⟨i.1 :: is.1, .cons i.2 hx is.2⟩ else none
  | _ => none
def notTup : Expr → Bool
  | .Tuple _ _ _ => false
  | .List _ _ => false
  | _ => true
theorem stores_no {tg e : Expr} {env : Env} (h : notTup tg = true ∨ isTup e = false) : swappedStores [tg] e env = pure none := by
  unfold swappedStores
  cases tg <;> first | rfl | (rcases h with h | h <;> first | exact Bool.noConfusion h | (cases e <;> first | rfl | exact Bool.noConfusion h))
theorem fnKind {sc : Scope} (h : (sc.kind == .function) = true) : sc.kind = .function := by simpa using h
/-- how many turns a while may take -/
def WF : Nat := 100000
variable (r : Rec T N)
def trAsgName (x : Str) (px : Pos) (e : Expr) (pos : Pos) : Option {f : DenS // SSt T N sc (.Assign [.Name x px] e pos) f} :=
  (trIx N x).bind fun i => if hx : locOk sc x = true then
    if hn : notLc e = true then (r.e sc e).bind fun f => some ⟨dSet i.1 f.1, SSt.set i.2 hx (fun env h => swaps_no hn) f.2⟩
    else if hk : (sc.kind == .function) = true then match e with
      | .ListComp elt gens scope vp =>
        if hsw : swB sc scope x px vp = true then match gens with
          | [⟨tg, iter, ifs, 0⟩] => if hl : locB sc x = true then (trLc r sc elt tg iter ifs scope).bind fun p => some ⟨dSet i.1 _, SSt.setLc i.2 (locB.ok hl) (fun env h => by rw [swaps_lc (fnKind hk) h, hsw]) p.ok p.hi p.ht p.he p.htg p.htv p.hs⟩ else none
          | [⟨tg, iter, ifs, 0⟩, ⟨tg1, iter1, ifs1, 0⟩] => if hl : locB sc x = true then (trLc2 r sc elt tg iter ifs tg1 iter1 ifs1 scope).bind fun p => some ⟨dSet i.1 _, SSt.setLc2 i.2 (locB.ok hl) (fun env h => by rw [swaps_lc (fnKind hk) h, hsw]) p.ok p.hi p.ht p.hi1 p.ht1 p.he p.htg p.htv p.htg1 p.htv1 p.hv1 p.hs p.hs1⟩ else none
          | _ => none
        else (r.e sc (.ListComp elt gens scope vp)).bind fun f => some ⟨dSet i.1 f.1, SSt.set i.2 hx (fun env h => by rw [swaps_lc (fnKind hk) h]; rw [Bool.not_eq_true] at hsw; rw [hsw]) f.2⟩
      | _ => none
    else none
  else none
def trAsg (tg e : Expr) (pos : Pos) : Option {f : DenS // SSt T N sc (.Assign [tg] e pos) f} := match tg with
  | .Name x px => trAsgName r x px e pos
  | .Subscript (.Name x px) i tpos => (trIx N x).bind fun j => if hv : visB sc x = true then if hd : okName x = true then if hn : notLc e = true then if hs : notSlice i = true then
      (r.e sc e).bind fun f => (r.e sc i).bind fun fi => some ⟨dPut j.1 fi.1 f.1, SSt.put j.2 (visB.ok hv) (okName.d hd).1 (okName.d hd).2 hn hs f.2 fi.2⟩
    else none else none else none else none
  | .Tuple ts kt pt => if hk : (sc.kind == .function) = true then match e with
    | .Tuple es k2 pt2 => match hw : swSt sc ts es with
      | some none => (trNs ts).bind fun is => if h20 : is.1.length ≤ 20 then (trSLx r sc es).bind fun fs => some ⟨dPar is.1 fs.1, SSt.parT is.2 h20 (fun env h => stores_of (fnKind hk) h hw) fs.2⟩ else none
      | some (some nms) => match ts, es, nms, hw with
        | [.Name x px, .Name y py], [a, b], [x', y'], hw => if hxy : x' = x ∧ y' = y then if hl : locB sc x = true ∧ locB sc y = true then (trIx N x).bind fun i => (trIx N y).bind fun j => if hij : i.1 ≠ j.1 then (trSLx r sc [a, b]).bind fun fs =>
            some ⟨dPar [i.1, j.1] fs.1, SSt.par2 i.2 j.2 hij (locB.ok hl.1) (locB.ok hl.2) (fun env h => by rw [stores_of (fnKind hk) h hw, hxy.1, hxy.2]) fs.2⟩ else none else none else none
        | [.Name x px, .Name y py, .Name z pz], [a, b, c], [x', y', z'], hw => if hxy : x' = x ∧ y' = y ∧ z' = z then if hl : locB sc x = true ∧ locB sc y = true ∧ locB sc z = true then (trIx N x).bind fun i => (trIx N y).bind fun j => (trIx N z).bind fun l => if hij : i.1 ≠ j.1 ∧ i.1 ≠ l.1 ∧ j.1 ≠ l.1 then (trSLx r sc [a, b, c]).bind fun fs =>
            some ⟨dPar [i.1, j.1, l.1] fs.1, SSt.par3 i.2 j.2 l.2 hij.1 hij.2.1 hij.2.2 (locB.ok hl.1) (locB.ok hl.2.1) (locB.ok hl.2.2) (fun env h => by rw [stores_of (fnKind hk) h hw, hxy.1, hxy.2.1, hxy.2.2]) fs.2⟩ else none else none else none
        | _, _, _, _ => none
      | none => none
    | e => if hn : isTup e = false then (trTg (locOk sc) 5 (.Tuple ts kt pt)).bind fun t => (r.e sc e).bind fun f =>
        some ⟨dTgt t.1 f.1, SSt.tgt t.2 (fun env h => by cases e <;> rfl) (fun env h => stores_no (.inr hn)) rfl f.2⟩ else none
    else none
  | _ => none
def stepS (rs : (st : Stmt) → Option {f : DenS // SSt T N sc st f}) : (st : Stmt) → Option {f : DenS // SSt T N sc st f}
  | .Pass pos => some ⟨dNop, SSt.pass⟩
  | .Break pos => some ⟨dBreak, SSt.brk⟩
  | .Continue pos => some ⟨dCont, SSt.cont⟩
  | .Return none pos => some ⟨dRetN, SSt.retN⟩
  | .Return (some (.Name x p)) pos => if hn : okName x = true then
      if hv : visB sc x = true then (trIx N x).bind fun i => some ⟨dRetV i.1, SSt.retV i.2 (visB.ok hv) (okName.d hn).1 (okName.d hn).2⟩
      else (r.e sc (.Name x p)).bind fun f => some ⟨dRet f.1, SSt.ret f.2⟩ else none
  | .Return (some e) pos => (r.e sc e).bind fun f => some ⟨dRet f.1, SSt.ret f.2⟩
  | .If c a b pos => (r.t sc c).bind fun f => (trSs rs a).bind fun fa => (trSs rs b).bind fun fb => some ⟨dIfS f.1 fa.1 fb.1, SSt.ife f.2 fa.2 fb.2⟩
  | .While c body [] pos => (r.t sc c).bind fun f => (trSs rs body).bind fun fb => some ⟨dWhile WF f.1 fb.1, SSt.whl f.2 fb.2⟩
  | .For tg iter body [] pos => if hs : notSet iter = true then (trItK r sc tg iter).bind fun fi => (trTg (locOk sc) 5 tg).bind fun t => (trSs rs body).bind fun fb => some ⟨dFor fi.1 t.1 fb.1, SSt.for fi.2 t.2 fb.2 (fold_of hs)⟩ else none
  | .Assign [tg] e pos => trAsg r tg e pos
  | .AugAssign (.Name x px) .Add e pos => (trIx N x).bind fun j => if hx : locOk sc x = true then (r.e sc e).bind fun f => some ⟨dAug j.1 f.1, SSt.aug j.2 hx f.2⟩ else none
  | .Expr (.Constant (.str x) j p) pos => some ⟨dNop, SSt.doc⟩
  | .Expr (.Call (.Attribute (.Name x px) m apos) [e] [] cpos) pos => if hm : m = "append" then
      (trIx N x).bind fun j => if hv : visB sc x = true then if hd : okName x = true then if hs : notStar e = true then if hl : (apos.endLine == cpos.line) = true then (r.e sc e).bind fun f =>
        some ⟨dApp j.1 f.1, by subst hm; exact SSt.app j.2 (visB.ok hv) (okName.d hd).1 (okName.d hd).2 hs hl f.2⟩ else none else none else none else none
      else if hm : m = "update" then
        (trIx N x).bind fun j => if hv : visB sc x = true then if hd : okName x = true then if hs : notStar e = true then if hl : (apos.endLine == cpos.line) = true then match e with
          | .Name y py => (trIx N y).bind fun i => if hv' : visB sc y = true then if hd' : okName y = true then
            some ⟨dUpdV j.1 i.1, by subst hm; exact SSt.updV j.2 (visB.ok hv) (okName.d hd).1 (okName.d hd).2 i.2 (visB.ok hv') (okName.d hd').1 (okName.d hd').2 hl⟩ else none else none
          | e => (r.e sc e).bind fun f => if hs : notStar e = true then some ⟨dUpdN j.1 f.1, by subst hm; exact SSt.updN j.2 (visB.ok hv) (okName.d hd).1 (okName.d hd).2 hs hl f.2⟩ else none
          else none else none else none else none
      else none
  | .Expr e pos => if hn : notLc e = true then (r.e sc e).bind fun f => some ⟨dDrop f.1, SSt.drop hn f.2⟩ else none
  | .Raise (some (.Call (.Name x p) [.Constant (.str m) j p2] [] cpos)) none pos => match h : T.excs.idxOf? x with
    | some i => if hx : T.excs[i]? = some x then if hg : glB sc x = true then if hd : okName x = true then some ⟨dRaise i, SSt.raise hx (glB.ok hg) (okName.d hd).1⟩ else none else none else none
    | none => some ⟨dBadS, SSt.bad⟩
  | .Raise _ _ _ => some ⟨dBadS, SSt.bad⟩
  | .Try body [.ExceptHandler (some (.Name x np)) none [.Return (some (.Constant c jj p3)) p4] pos'] [] [] pos => (trSs rs body).bind fun f => match T.excs.idxOf? x with
    | some j => if hx : T.excs[j]? = some x then if hg : glB sc x = true then if hd : okName x = true then match hs : T.sub.find? (fun q => q.1 == j), hc : hdC c with
      | some (j', tb), some d => if hj : j' = j then some ⟨dTry tb d f.1, SSt.tryC hx (glB.ok hg) (okName.d hd).1 (hj ▸ List.mem_of_find?_eq_some hs) hc f.2⟩ else none
      | _, _ => none
      else none else none else none
    | none => none
  | _ => none
/-- with the names handed on ahead of it -/
def recS : Nat → (st : Stmt) → Option {f : DenS // SSt T N sc st f}
  | 0 => fun _ => none
  | n + 1 => fun st => (stepS r (recS n) st).bind fun f => some (fzAll (fzIx N sc (escS st)) f)
end
/-- the slots of a def: its parameters, its names, the names of what it builds within -/
def trBody (T : Tab) (N : List Str) (sc : Scope) (body : List Stmt) : Option {f : DenS // SSts T N sc body f} := trSs (recS (sc := sc) (rec0 (T := T) (N := N) 30) 12) body
end Ev
end

section
/-! Ev20: a text's defs. -/
namespace Ev
open PySem PySem.Spec L2
open PyProof.Rows hiding St

/-- the own names of the blocks within an expression, a statement -/
def blkN : Nat → Expr → List Str
  | 0, _ => []
  | n + 1, e => match e with
    | .Tuple es _ _ => es.flatMap (blkN n)
    | .List es _ => es.flatMap (blkN n)
    | .Dict ks vs _ => (ks.filterMap id).flatMap (blkN n) ++ vs.flatMap (blkN n)
    | .BinOp a _ b _ => blkN n a ++ blkN n b
    | .UnaryOp _ a _ => blkN n a
    | .Compare a _ bs _ => blkN n a ++ bs.flatMap (blkN n)
    | .BoolOp _ es _ => es.flatMap (blkN n)
    | .IfExp c a b _ => blkN n c ++ blkN n a ++ blkN n b
    | .Subscript a b _ => blkN n a ++ blkN n b
    | .Slice a b c _ => (a.toList ++ b.toList ++ c.toList).flatMap (blkN n)
    | .Call o es _ _ => blkN n o ++ es.flatMap (blkN n)
    | .Attribute o _ _ => blkN n o
    | .ListComp e gs sc _ => (sc.names.filterMap fun y => if y.2 == .local || y.2 == .cell then some y.1 else none) ++ blkN n e ++ gs.flatMap fun g => blkN n g.iter ++ g.ifs.flatMap (blkN n)
    | .DictComp k v gs sc _ => (sc.names.filterMap fun y => if y.2 == .local || y.2 == .cell then some y.1 else none) ++ blkN n k ++ blkN n v ++ gs.flatMap fun g => blkN n g.iter ++ g.ifs.flatMap (blkN n)
    | _ => []
def blkS : Nat → Stmt → List Str
  | 0, _ => []
  | n + 1, s => match s with
    | .Return (some e) _ => blkN 30 e
    | .Assign ts e _ => ts.flatMap (blkN 30) ++ blkN 30 e
    | .AugAssign t _ e _ => blkN 30 t ++ blkN 30 e
    | .For _ it b _ _ => blkN 30 it ++ b.flatMap (blkS n)
    | .If c a b _ => blkN 30 c ++ a.flatMap (blkS n) ++ b.flatMap (blkS n)
    | .While c b _ _ => blkN 30 c ++ b.flatMap (blkS n)
    | .Try b hs _ _ _ => b.flatMap (blkS n) ++ hs.flatMap fun h => match h with | .ExceptHandler _ _ b _ => b.flatMap (blkS n)
    | .Expr e _ => blkN 30 e
    | .Raise (some e) _ _ => blkN 30 e
    | _ => []
def parsOf (s : Stmt) : List Str := (defArgs s).args.map (·.arg)
/-- the slots of a def -/
def slotsOf (s : Stmt) : List Str := (parsOf s ++ ((defScope s).names.filterMap fun y => if y.2 == .local || y.2 == .cell then some y.1 else none) ++ (defBody s).flatMap (blkS 10)).eraseDups
def defName (s : Stmt) : Option Str := match s with
  | .FunctionDef n _ _ _ _ _ _ _ _ _ => some n
  | _ => none
def plainB (s : Stmt) : Bool := match s with
  | .Pass _ => true
  | .Expr (.Constant _ _ _) _ => true
  | _ => false
def clsName (s : Stmt) : Option Str := match s with
  | .ClassDef n _ _ body _ _ _ _ _ _ _ => if body.all plainB then some n else none
  | _ => none
def clsBase (s : Stmt) : Option (Str × Str) := match s with
  | .ClassDef n [.Name b _] _ _ _ _ _ _ _ _ _ => some (n, b)
  | _ => none
/-- the classes that stand above one -/
def supers (cl : List (Str × Str)) : Nat → Str → List Str
  | 0, _ => []
  | n + 1, x => x :: match cl.lookup x with
    | some b => supers cl n b
    | none => []
/-- the classes that except clauses name -/
def hdsS : Nat → Stmt → List Str
  | 0, _ => []
  | n + 1, s => match s with
    | .For _ _ b _ _ => b.flatMap (hdsS n)
    | .If _ a b _ => a.flatMap (hdsS n) ++ b.flatMap (hdsS n)
    | .While _ b _ _ => b.flatMap (hdsS n)
    | .Try b hs _ _ _ => b.flatMap (hdsS n) ++ hs.filterMap fun h => match h with
      | .ExceptHandler (some (.Name x _)) _ _ _ => some x
      | _ => none
    | _ => []
/-- a constant's value -/
def litE (env : List (Str × D)) : Nat → Expr → Option D
  | 0, _ => none
  | n + 1, e => match e with
    | .Constant (.int i) _ _ => some (.int i)
    | .Constant (.str z) _ _ => some (.str z.cps.toList)
    | .UnaryOp .USub (.Constant (.int i) _ _) _ => some (.int (-i))
    | .Name x _ => env.lookup x
    | .Tuple es _ _ => (es.mapM (litE env n)).map .tup
    | .Dict ks vs _ => (ks.mapM fun (k : Option Expr) => k.bind (litE env n)).bind fun a => (vs.mapM (litE env n)).map fun b => .dct (a.zip b)
    | _ => none
def conOf (env : List (Str × D)) (s : Stmt) : Option (Str × D) := match s with
  | .Assign [.Name x _] e _ => (litE env 6 e).map fun d => (x, d)
  | _ => none
def consOf : List (Str × D) → List Stmt → List (Str × D)
  | env, [] => env
  | env, s :: r => match conOf env s with
    | some c => consOf (env ++ [c]) r
    | none => consOf env r
def defBody' (s : Stmt) : List Stmt := match s with
  | .FunctionDef _ _ b _ _ _ _ _ _ _ => b
  | _ => []
def excsOf (p : Program) : List Str := (p.main.body.filterMap clsName).filter fun x => (supers (p.main.body.filterMap clsBase) 10 x).contains "ValueError"
def subOf (p : Program) : List (Nat × List Bool) :=
  let hs := (p.main.body.flatMap fun s => (defBody' s).flatMap (hdsS 10)).eraseDups
  hs.filterMap fun x => ((excsOf p).idxOf? x).map fun j => (j, (excsOf p).map fun y => (supers (p.main.body.filterMap clsBase) 10 y).contains x)
/-- the table of a text -/
def tabOf (p : Program) : Tab := ⟨p.main.body.filterMap fun s => (defName s).map fun n => (n, (defArgs s).args.length), (consOf [] p.main.body).filter fun c => !(c.1 == ("__name__" : Str)), excsOf p, subOf p⟩
def trStmt (T : Tab) (s : Stmt) : Option {f : DenS // SSts T (slotsOf s) (defScope s) (defBody s) f} := trBody T (slotsOf s) (defScope s) (defBody s)
/-- which defs are not yet told -/
def lacks (p : Program) : List String := p.main.body.filterMap fun s => (defName s).bind fun n => if (trStmt (tabOf p) s).isSome then none else some (n.toString)
def defsOf (p : Program) : List Stmt := p.main.body.filter fun s => (defName s).isSome
def bdArr (p : Program) : Array (Option (Nat × Nat × DenS)) := ((defsOf p).map fun s => (trStmt (tabOf p) s).map fun f => ((defArgs s).args.length, (slotsOf s).length, f.1)).toArray
/-- a law on a script, tried out -/
def tryLaw (p : Program) (ns : List Int) (lv : Nat) : String :=
  let arr := bdArr p
  let F := callF (fun i => (arr[i]?).join) lv
  match (defsOf p).find? (fun s => defName s == some ("law" : Str)) with
  | none => "no law"
  | some s =>
    let T := tabOf p
    match defBody s with
    | s0 :: rest =>
      match trBody T (slotsOf s) (defScope s) [s0], trBody T (slotsOf s) (defScope s) rest with
      | some f0, some fr =>
        match f0.1 F (entry (slotsOf s).length [.lst (ns.map D.int)]) none with
        | .nx ρ _ => match (ρ[1]? : Option Slt) with
          | some (.o (.lst [.int x, .int y])) =>
            match fr.1 F (ρ.set 1 (.s (.hnd 0))) (some (x, y)) with
            | .rt (.bl b) _ _ => toString b
            | .rt _ _ _ => "other value"
            | .exc c _ _ => s!"exc {c}"
            | .bad => "bad"
            | _ => "flow"
          | _ => "no cup"
        | _ => "first"
      | _, _ => "no den"
    | [] => "empty"
end Ev
end

section
/-! EvN: constants of the text read off the head: tuples, dicts with text keys. -/
namespace Ev
open PySem PySem.Spec L2
open PyProof.Rows hiding St

/-- what stands in the head, as a tree -/
inductive CT where
  | bad | non | bl (b : Bool) | int (i : Int) | str (s : List Nat) | tup (l : List CT) | dct (l : List (CT × Int × CT))
def readV (K : PySem.W.Frag) : Nat → Value → CT
  | 0, _ => .bad
  | n + 1, v => match v with
    | .none => .non
    | .bool b => .bl b
    | .int i _ => .int i
    | .str z _ => .str z.cps.toList
    | .ref a => match K.lookup a with
      | some ⟨.type c, none, .seq its _, _⟩ => if decide (c = "tuple") && decide (its.size ≤ sizeLine) then .tup (its.toList.map (readV K n)) else .bad
      | some ⟨.type c, none, .dict es _, sl⟩ => if decide (c = "dict") && (sl.isEmpty && (!(a == sysModules) && decide (es.size ≤ sizeLine))) then .dct (es.toList.map fun e => (readV K n e.key, e.hash, readV K n e.val)) else .bad
      | _ => .bad
    | _ => .bad
mutual
/-- what is to stand there -/
def D.tree (w : World) : D → CT
  | .non => .non
  | .bl b => .bl b
  | .int i => .int i
  | .str s => .str s
  | .tup l => .tup (D.trees w l)
  | .dct l => .dct (D.treeE w l)
  | _ => .bad
def D.trees (w : World) : List D → List CT
  | [] => []
  | d :: r => d.tree w :: D.trees w r
def D.treeE (w : World) : List (D × D) → List (CT × Int × CT)
  | [] => []
  | (k, v) :: r => (k.tree w, k.key.hash w, v.tree w) :: D.treeE w r
end
def D.isStr : D → Bool
  | .str _ => true
  | _ => false
def D.strL : D → List Nat
  | .str s => s
  | _ => []
mutual
/-- what may be a constant -/
def D.con : D → Bool
  | .non => true
  | .bl _ => true
  | .int _ => true
  | .str _ => true
  | .tup l => D.cons l
  | .dct l => D.conE l && (l.all fun p => p.1.isStr) && decide ((l.map fun p => p.1.strL).Nodup)
  | _ => false
def D.cons : List D → Bool
  | [] => true
  | d :: r => d.con && D.cons r
def D.conE : List (D × D) → Bool
  | [] => true
  | (k, v) :: r => k.con && v.con && D.conE r
end
theorem D.isStr_eq {d : D} (h : d.isStr = true) : d = .str d.strL := by cases d <;> first | rfl | cases h
theorem dok_str {l : List (D × D)} (h : (l.all fun p => p.1.isStr) = true) (nd : (l.map fun p => p.1.strL).Nodup) : DOk l where
  kok := fun p hp => by
    have := D.isStr_eq (List.all_eq_true.mp h p hp)
    rw [this]
    exact ⟨rfl, by show NestedKey.depth (.text _) ≤ 8; simp [NestedKey.depth]⟩
  mode := .inr fun p hp => by
    have := D.isStr_eq (List.all_eq_true.mp h p hp)
    rw [this]; rfl
  nd := by
    have e : (l.map fun p => p.1.key) = (l.map fun p => p.1.strL).map fun s => NestedKey.text ⟨s.toArray⟩ := by
      rw [List.map_map]
      refine List.map_congr_left fun p hp => ?_
      have := D.isStr_eq (List.all_eq_true.mp h p hp)
      show p.1.key = _
      rw [this]; rfl
    rw [e]
    refine List.Pairwise.map _ (fun a b hab z => hab ?_) nd
    injection z with z
    injection z with z
    simpa using congrArg Array.toList z
section
variable {C : Cst} {K : PySem.W.Frag} {w : World}
theorem reads_ok {n : Nat} (ih : ∀ (d : D) (u : Value), d.con = true → readV K n u = d.tree w → ∃ v, RelV v u ∧ Rep C (fun _ => none) d v) :
    ∀ (ds : List D) (us : List Value), D.cons ds = true → us.map (readV K n) = D.trees w ds → ∃ vs, Vals vs us ∧ Reps C (fun _ => none) ds vs
  | [], us, _, h => by
    have : us = [] := by simpa [D.trees] using h
    subst this
    exact ⟨[], .nil, rfl⟩
  | d :: ds, [], _, h => by simp [D.trees] at h
  | d :: ds, u :: us, hc, h => by
    rw [D.trees, List.map_cons] at h
    injection h with h1 h2
    rw [D.cons, Bool.and_eq_true] at hc
    obtain ⟨v, r1, r2⟩ := ih d u hc.1 h1
    obtain ⟨vs, r3, r4⟩ := reads_ok ih ds us hc.2 h2
    exact ⟨v :: vs, .cons r1 r3, ⟨v, vs, rfl, r2, r4⟩⟩
theorem readE_ok {n : Nat} (hw : C.w = w) (ih : ∀ (d : D) (u : Value), d.con = true → readV K n u = d.tree w → ∃ v, RelV v u ∧ Rep C (fun _ => none) d v) :
    ∀ (ds : List (D × D)) (us : List DictEntry), D.conE ds = true → us.map (fun e => (readV K n e.key, e.hash, readV K n e.val)) = D.treeE w ds → RepE C (fun _ => none) ds us
  | [], us, _, h => by
    have : us = [] := by simpa [D.treeE] using h
    subst this
    exact rfl
  | d :: ds, [], _, h => by
    obtain ⟨k, v⟩ := d
    simp [D.treeE] at h
  | (k, v) :: ds, u :: us, hc, h => by
    rw [D.treeE, List.map_cons] at h
    injection h with h1 h2
    injection h1 with h3 h4
    injection h4 with h5 h6
    rw [D.conE, Bool.and_eq_true, Bool.and_eq_true] at hc
    obtain ⟨x, r1, r2⟩ := ih k u.key hc.1.1 h3
    obtain ⟨y, r3, r4⟩ := ih v u.val hc.1.2 h6
    exact ⟨u, us, x, y, rfl, by rw [h5, hw], r1, r2, r3, r4, readE_ok hw ih ds us hc.2 h2⟩
theorem read_ok (hK : C.K = K) (hw : C.w = w) : ∀ (n : Nat) (d : D) (u : Value), d.con = true → readV K n u = d.tree w → ∃ v, RelV v u ∧ Rep C (fun _ => none) d v := by
  intro n
  induction n with
  | zero =>
    intro d u hc h
    have h : CT.bad = d.tree w := h
    cases d <;> first | (simp [D.tree] at h; done) | (simp [D.con] at hc; done)
  | succ n ih =>
    intro d u hc h
    cases u with
    | none =>
      have h : CT.non = d.tree w := h
      cases d <;> first | (simp [D.tree] at h; done) | exact ⟨.non, rfl, rfl⟩
    | bool b =>
      have h : CT.bl b = d.tree w := h
      cases d <;> first | (simp [D.tree] at h; done) | (simp [D.tree] at h; subst h; exact ⟨.bl _, rfl, rfl⟩)
    | int i t =>
      have h : CT.int i = d.tree w := h
      cases d <;> first | (simp [D.tree] at h; done) | (simp [D.tree] at h; subst h; exact ⟨.int _, ⟨t, rfl⟩, rfl⟩)
    | str z t =>
      have h : CT.str z.cps.toList = d.tree w := h
      cases d <;> first | (simp [D.tree] at h; done) | (simp [D.tree] at h; subst h; exact ⟨.str z, ⟨t, rfl⟩, by show V.str z = _; simp⟩)
    | ref a =>
      unfold readV at h
      dsimp only at h
      split at h
      · rename_i c its m sl q
        split at h
        · rename_i hh
          rw [Bool.and_eq_true, decide_eq_true_eq, decide_eq_true_eq] at hh
          cases d <;> first | (simp [D.tree] at h; done) | skip
          rename_i l
          rw [D.tree] at h
          injection h with h
          rw [D.con] at hc
          obtain ⟨vs, r1, r2⟩ := reads_ok ih l _ hc h
          obtain ⟨rfl, hz⟩ := hh
          refine ⟨.ref a, rfl, a, vs, rfl, .inr ⟨_, its, m, by rw [hK]; exact q, rfl, rfl, rfl, hz, r1⟩, r2⟩
        · cases d <;> first | (simp [D.tree] at h; done) | (simp [D.con] at hc; done)
      · rename_i c es m sl q
        split at h
        · rename_i hh
          rw [Bool.and_eq_true, Bool.and_eq_true, Bool.and_eq_true, decide_eq_true_eq, decide_eq_true_eq, Array.isEmpty_iff, Bool.not_eq_true'] at hh
          cases d <;> first | (simp [D.tree] at h; done) | skip
          rename_i l
          rw [D.tree] at h
          injection h with h
          rw [D.con, Bool.and_eq_true, Bool.and_eq_true, decide_eq_true_eq] at hc
          have r := readE_ok hw ih l _ hc.1.1 h
          obtain ⟨rfl, rfl, hs, hz⟩ := hh
          refine ⟨.ref a, rfl, a, es.toList, rfl, ⟨_, .inr (by rw [hK]; exact q), ⟨rfl, rfl, rfl⟩, m, rfl⟩, hs, by simpa using hz, dok_str hc.1.2 hc.2, r⟩
        · cases d <;> first | (simp [D.tree] at h; done) | (simp [D.con] at hc; done)
      · cases d <;> first | (simp [D.tree] at h; done) | (simp [D.con] at hc; done)
    | _ =>
      have h : CT.bad = d.tree w := h
      cases d <;> first | (simp [D.tree] at h; done) | (simp [D.con] at hc; done)
end
end Ev
end

section
/-! Ev21: the head's facts, for any text. -/
namespace Ev
open PySem PySem.Spec L2
open PyProof.Rows hiding St

def mkD (s : Stmt) : He.DefD := ⟨((defName s).getD Str.empty, none), (defName s).getD Str.empty, (defName s).getD Str.empty, defArgs s, defBody s, defScope s, [], []⟩
def conFa : Str × D → Option He.Fa
  | (x, .int i) => some (.int x i)
  | (x, .str z) => some (.str x ⟨z.toArray⟩)
  | _ => none
/-- the constants that are read as trees -/
def treesOf (p : Program) : List (Str × D) := (tabOf p).cons.filter fun q => (conFa q).isNone
def nsV (K : PySem.W.Frag) (x : Str) : Value := match PySem.W.nsIn K mainGlobals x with
  | some (some u) => u
  | _ => .builtin ""
def obsC (cs : List (Str × D)) (K : PySem.W.Frag) : List CT := cs.map fun c => readV K 6 (nsV K c.1)
def valC (cs : List (Str × D)) (w : World) : List CT := cs.map fun c => c.2.tree w
/-- which class stands above which -/
def subFa (p : Program) : List He.Fa := (tabOf p).sub.flatMap fun r => (r.2.zip (tabOf p).excs).map fun q => .exm q.2 (((tabOf p).excs[r.1]?).getD Str.empty) q.1
/-- the facts asked of the head -/
def faBase (p : Program) : List He.Fa := ((defsOf p).map fun s => He.Fa.glo ((defName s).getD Str.empty)) ++ (tabOf p).excs.map He.Fa.glo ++ (tabOf p).excs.map He.Fa.exc ++ bnames.map He.Fa.free ++ (tabOf p).cons.filterMap conFa
def faOf (p : Program) : List He.Fa := faBase p ++ subFa p
def fnOf (p : Program) : List He.DefD := (defsOf p).map mkD
section
variable {p : Program} {K : PySem.W.Frag} {h : Heap} {mg : Str → Option Value} {w : World}
def cstOf (p : Program) (K : PySem.W.Frag) (w : World) : Cst := ⟨K, w, fun i => ((fnOf p)[i]?).map fun d => He.fAd K d.at_, fun _ => none⟩
def xcsOf (p : Program) (K : PySem.W.Frag) : Xcs := ⟨fun i => ((tabOf p).excs[i]?).map (He.ga K)⟩
theorem fns_at {i : Nat} {x : Str} {n : Nat} (hx : (tabOf p).fns[i]? = some (x, n)) : ∃ s, (defsOf p)[i]? = some s ∧ defName s = some x ∧ (defArgs s).args.length = n := by
  have e : (tabOf p).fns = (defsOf p).map fun s => ((defName s).getD Str.empty, (defArgs s).args.length) := by
    unfold tabOf defsOf
    dsimp only
    generalize p.main.body = l
    induction l with
    | nil => rfl
    | cons s r ih =>
      cases q : defName s with
      | none => rw [List.filterMap_cons, List.filter_cons]; simp only [q, Option.map_none, Option.isSome_none]; exact ih
      | some y => rw [List.filterMap_cons, List.filter_cons]; simp only [q, Option.map_some, Option.isSome_some, if_true, List.map_cons, Option.getD_some]; rw [ih]
  rw [e, List.getElem?_map] at hx
  cases q : (defsOf p)[i]? with
  | none => rw [q] at hx; cases hx
  | some s =>
    rw [q] at hx
    cases hx
    refine ⟨s, rfl, ?_, rfl⟩
    have hm : s ∈ defsOf p := List.mem_of_getElem? q
    unfold defsOf at hm
    rw [List.mem_filter] at hm
    obtain ⟨y, hy⟩ := Option.isSome_iff_exists.mp hm.2
    rw [hy]; rfl
theorem lay_of (X : K.In h) (G : h.Ns mainGlobals mg) (c : He.SaysD (faOf p) (fnOf p) K) (ct : obsC (treesOf p) K = valC (treesOf p) w) (hc : ∀ q ∈ (tabOf p).cons, (∃ f, conFa q = some f) ∨ q.2.con = true) : Lay (tabOf p) (cstOf p K w) (xcsOf p K) mg where
  cons := fun x d hd => by
    cases hf : conFa (x, d) with
    | none =>
      have hm : (x, d) ∈ treesOf p := List.mem_filter.mpr ⟨hd, by rw [hf]; rfl⟩
      obtain ⟨i, hi, e⟩ := List.mem_iff_getElem.mp hm
      have e1 : (treesOf p)[i]? = some (x, d) := by rw [List.getElem?_eq_getElem hi, e]
      have e2 := congrArg (fun l : List CT => l[i]?) ct
      dsimp only [obsC, valC] at e2
      rw [List.getElem?_map, List.getElem?_map, e1] at e2
      have e3 : readV K 6 (nsV K x) = d.tree w := Option.some.inj e2
      have hcon : d.con = true := by
        rcases hc _ hd with ⟨f, h⟩ | h
        · rw [hf] at h; cases h
        · exact h
      obtain ⟨v, r1, r2⟩ := read_ok (C := cstOf p K w) rfl rfl 6 d _ hcon e3
      refine ⟨nsV K x, v, ?_, r1, r2⟩
      unfold nsV at e3 ⊢
      cases q : PySem.W.nsIn K mainGlobals x with
      | none =>
        rw [q] at e3
        have e3 : CT.bad = d.tree w := e3
        cases d <;> first | (simp [D.tree] at e3; done) | (simp [D.con] at hcon; done)
      | some o =>
        cases o with
        | none =>
          rw [q] at e3
          have e3 : CT.bad = d.tree w := e3
          cases d <;> first | (simp [D.tree] at e3; done) | (simp [D.con] at hcon; done)
        | some u => exact PySem.W.mg_of X G q
    | some f =>
    have hm : f ∈ faOf p := by
      unfold faOf
      apply List.mem_append_left
      unfold faBase
      exact List.mem_append_right _ (List.mem_filterMap.mpr ⟨_, hd, hf⟩)
    have ok := He.SaysD.facts c hm
    unfold conFa at hf
    split at hf
    · rename_i y i e
      cases e
      cases hf
      obtain ⟨t, ht⟩ := He.int_ok X G ok
      exact ⟨_, .int i, ht, ⟨t, rfl⟩, rfl⟩
    · rename_i y z e
      cases e
      cases hf
      obtain ⟨t, ht⟩ := He.str_ok X G ok
      exact ⟨_, .str _, ht, ⟨t, rfl⟩, rfl⟩
    · cases hf
  bl := fun x hx => by
    have hm : He.Fa.free x ∈ faOf p := by
      unfold faOf
      apply List.mem_append_left
      unfold faBase
      exact List.mem_append_left _ (List.mem_append_right _ (List.mem_map.mpr ⟨x, hx, rfl⟩))
    exact He.free_ok X G (He.SaysD.facts c hm)
  xcs := fun i x hx => by
    have hx' := List.mem_of_getElem? hx
    have h1 : He.Fa.glo x ∈ faOf p := by
      unfold faOf
      apply List.mem_append_left
      unfold faBase
      exact List.mem_append_left _ (List.mem_append_left _ (List.mem_append_left _ (List.mem_append_right _ (List.mem_map.mpr ⟨x, hx', rfl⟩))))
    have h2 : He.Fa.exc x ∈ faOf p := by
      unfold faOf
      apply List.mem_append_left
      unfold faBase
      exact List.mem_append_left _ (List.mem_append_left _ (List.mem_append_right _ (List.mem_map.mpr ⟨x, hx', rfl⟩)))
    refine ⟨He.ga K x, He.glo_ok X G (He.SaysD.facts c h1), by show ((tabOf p).excs[i]?).map (He.ga K) = _; rw [hx]; rfl, ?_⟩
    have ok := He.SaysD.facts c h2
    have ok : (PySem.W.excIn K (He.ga K x) He.veBase "ValueError.__new__" && (PySem.W.keepIn K (.ref (He.ga K x)) && (decide (PySem.W.subIn K (.ref (He.ga K x)) (.type "BaseException") = some true) && decide (PySem.W.typeIn K (.ref (He.ga K x)) = some (.type "type"))))) = true := ok
    rw [Bool.and_eq_true, Bool.and_eq_true, Bool.and_eq_true, decide_eq_true_eq, decide_eq_true_eq] at ok
    exact ⟨ok.1, ok.2.1, ok.2.2.1, ok.2.2.2⟩
  exm := fun j tb i b ci cj hs hb hi hj => by
    have hi : ((tabOf p).excs[i]?).map (He.ga K) = some ci := hi
    have hj : ((tabOf p).excs[j]?).map (He.ga K) = some cj := hj
    obtain ⟨x, hx, rfl⟩ := Option.map_eq_some_iff.mp hi
    obtain ⟨y, hy, rfl⟩ := Option.map_eq_some_iff.mp hj
    have hm : He.Fa.exm x y b ∈ faOf p := by
      unfold faOf
      apply List.mem_append_right
      unfold subFa
      refine List.mem_flatMap.mpr ⟨_, hs, List.mem_map.mpr ⟨(b, x), ?_, ?_⟩⟩
      · refine List.mem_of_getElem? (i := i) ?_
        rw [List.getElem?_zip_eq_some]
        exact ⟨hb, hx⟩
      · dsimp only
        rw [hy]; rfl
    exact He.exm_ok (He.SaysD.facts c hm)
  fns := fun i x n hx => by
    obtain ⟨s, hs, hn, ha⟩ := fns_at hx
    have h1 : He.Fa.glo x ∈ faOf p := by
      unfold faOf
      apply List.mem_append_left
      unfold faBase
      exact List.mem_append_left _ (List.mem_append_left _ (List.mem_append_left _ (List.mem_append_left _ (List.mem_map.mpr ⟨s, List.mem_of_getElem? hs, by rw [hn]; rfl⟩))))
    refine ⟨He.ga K x, He.glo_ok X G (He.SaysD.facts c h1), ?_⟩
    show ((fnOf p)[i]?).map _ = _
    unfold fnOf
    rw [List.getElem?_map, hs]
    show some (He.fAd K (mkD s).at_) = _
    unfold mkD
    rw [hn]
    rfl
/-- the head's Hook: facts, defs, tables of code objects, constants -/
abbrev AlE : Type := He.AlX × List CT
def obsE (n : Nat) (fa : List He.Fa) (fn : List He.DefD) (tf : List He.Defn) (cs : List (Str × D)) (g : Addr → Option Obj) : AlE := (He.obsX n fa fn [] tf (fun _ => true) g, obsC cs (He.frT g (He.asD g n)))
def SaysE (fa : List He.Fa) (fn : List He.DefD) (tf : List He.Defn) (cs : List (Str × D)) (w : World) (h : Heap) (K : PySem.W.Frag) : Prop := He.SaysX fa fn [] tf (fun _ => true) w h K ∧ obsC cs K = valC cs w
def hookE (n : Nat) (fa : List He.Fa) (fn : List He.DefD) (tf : List He.Defn) (cs : List (Str × D)) : PySem.W.Hook where
  α := AlE
  obs := fun s => obsE n fa fn tf cs s.heap.get?
  val := fun w => (He.valX fn [] w, valC cs w)
  says := fun w h => ∃ K : PySem.W.Frag, K.In h ∧ SaysE fa fn tf cs w h K
  of := fun _ _ e => ⟨_, He.frT_in, He.saysX_of (congrArg (fun z : AlE => z.1) e), congrArg (fun z : AlE => z.2) e⟩
  keeps := fun _ _ _ ⟨K, hK, c, e⟩ k => ⟨K, PySem.W.Frag.In.keeps hK k, ⟨c.t, c.more, c.hd, c.out, fun p hp => k _ _ (c.empty p hp)⟩, e⟩
theorem obsE_eq {n : Nat} {fa : List He.Fa} {fn : List He.DefD} {tf : List He.Defn} {cs : List (Str × D)} {g : Addr → Option Obj} {s : Shared} (h : ∀ a, g a = s.heap.get? a) : obsE n fa fn tf cs g = (hookE n fa fn tf cs).obs s := by
  have e : g = s.heap.get? := funext h
  rw [e] <;> rfl
/-- the meanings of a text's defs -/
structure Told (p : Program) (bd : Bd) : Prop where
  defs : ∀ (i : Nat) s, (defsOf p)[i]? = some s → ∃ nn b, bd i = some ((defArgs s).args.length, nn, b) ∧ DefOk (tabOf p) (mkD s) (defArgs s).args.length nn b
  cons : ∀ q ∈ (tabOf p).cons, (∃ f, conFa q = some f) ∨ q.2.con = true
theorem defs_of {bd : Bd} (t : Told p bd) (c : He.SaysD (faOf p) (fnOf p) K) (i : Nat) (x : Str) (n : Nat) (a : Addr) (hx : (tabOf p).fns[i]? = some (x, n)) (ha : (cstOf p K w).fa i = some a) : ∃ nn b, bd i = some (n, nn, b) ∧ DefAt (tabOf p) K i a n nn b := by
  obtain ⟨s, hs, hn, hl⟩ := fns_at hx
  obtain ⟨nn, b, h1, h2⟩ := t.defs i s hs
  rw [hl] at h1 h2
  have hd : (fnOf p)[i]? = some (mkD s) := by unfold fnOf; rw [List.getElem?_map, hs]; rfl
  obtain ⟨fd, F⟩ := c.def_ i hd
  have ea : a = He.fAd K (mkD s).at_ := by
    have ha : ((fnOf p)[i]?).map (fun d => He.fAd K d.at_) = some a := ha
    rw [hd] at ha
    exact (Option.some.inj ha).symm
  subst ea
  exact ⟨nn, b, h1, mkD s, fd, h2, F⟩
/-- the law's def, from the head's facts -/
theorem law_of {bd : Bd} {lv nn j n il : Nat} {f0 fr : DenS} {fa : Addr} {P : Program} {sl : Stmt} (X : K.In h) (G : h.Ns mainGlobals mg) (c : He.SaysD (faOf p) (fnOf p) K) (ct : obsC (treesOf p) K = valC (treesOf p) w) (t : Told p bd) (hil : (defsOf p)[il]? = some sl) (hn : defName sl = some ("law" : Str)) (hfa : mg ("law" : Str) = some (.ref fa))
    (ok : LawOk (tabOf p) (mkD sl) nn j f0 fr) (says : LawSays (callF bd lv) nn j f0 fr n) (hb : ∀ (kV doc pm : Value) (an : Option Addr) (cdv ct : Value) (us : List Value), us.length = 1 → bindArgs (PySem.W.fnOf (mkD sl).name (mkD sl).qual (mkD sl).params (mkD sl).body (mkD sl).scope .none kV doc pm an cdv ct) ⟨us, []⟩ = pure ((["script"] : List Str).zip us)) :
    ∃ fd : FuncData, (∀ (s : Shared) (v : Value), BindsTo s fd ⟨[v], []⟩ [("script", v)]) ∧ ∀ base : Heap, K.In base → base.Ns mainGlobals mg → FnOk P w K mg base (L2.CX P w) (2 * lv + 3) fa fd ["script"] (spLaw K n) := by
  have hd : (fnOf p)[il]? = some (mkD sl) := by unfold fnOf; rw [List.getElem?_map, hil]; rfl
  obtain ⟨fd, F⟩ := c.def_ il hd
  have h1 : He.Fa.glo ("law" : Str) ∈ faOf p := by
    unfold faOf
    apply List.mem_append_left
    unfold faBase
    exact List.mem_append_left _ (List.mem_append_left _ (List.mem_append_left _ (List.mem_append_left _ (List.mem_map.mpr ⟨sl, List.mem_of_getElem? hil, by rw [hn]; rfl⟩))))
  have e := hfa.symm.trans (He.glo_ok X G (He.SaysD.facts c h1))
  have ea : He.fAd K (mkD sl).at_ = fa := by
    unfold mkD
    rw [hn]
    exact (Value.ref.inj (Option.some.inj e)).symm
  rw [ea] at F
  have b := FunD.bindsA (ps := ["script"]) F hb
  exact ⟨fd, fun s v => b s [v] rfl, fun base _ _ => law_ok (C := cstOf p K w) (Z := xcsOf p K) rfl rfl (fun _ => rfl) (lay_of X G c ct t.cons) (fun i x n a q1 q2 => defs_of t c i x n a q1 q2) ok F says⟩
end
/-! ### binding -/
theorem lookup_zip : ∀ {ns : List Str} {us : List Value} {x : Str}, us.length = ns.length → x ∈ ns → ((ns.zip us).lookup x).isNone = false
  | n :: ns, u :: us, x, hl, hx => by
    rw [List.zip_cons_cons, List.lookup_cons]
    cases q : (x == n) with
    | true => rfl
    | false =>
      rcases List.mem_cons.mp hx with rfl | hx
      · simp at q
      · exact lookup_zip (by simpa using hl) hx
  | [], _, _, _, hx => by simp at hx
  | _ :: _, [], _, hl, _ => by simp at hl
theorem zip_all : ∀ {ns : List Str} {us : List Value}, ns.Nodup → us.length = ns.length → ns.filterMap (fun n => Option.map (fun x => (n, x)) (List.lookup n (ns.zip us))) = ns.zip us
  | [], [], _, _ => rfl
  | [], _ :: _, _, hl => by simp at hl
  | _ :: _, [], _, hl => by simp at hl
  | n :: ns, u :: us, hnd, hl => by
    obtain ⟨h1, h2⟩ := List.nodup_cons.mp hnd
    have ih := zip_all h2 (us := us) (by simpa using hl)
    rw [List.filterMap_cons]
    simp only [List.zip_cons_cons, List.lookup_cons, beq_self_eq_true, Option.map_some]
    congr 1
    have key : ∀ l : List Str, (∀ m ∈ l, m ∈ ns) → l.filterMap (fun n' => Option.map (fun x => (n', x)) (match n' == n with | true => some u | false => List.lookup n' (ns.zip us))) = l.filterMap (fun n' => Option.map (fun x => (n', x)) (List.lookup n' (ns.zip us))) := by
      intro l
      induction l with
      | nil => intro _; rfl
      | cons m l ih2 =>
        intro hm
        have : (m == n) = false := by
          rw [beq_eq_false_iff_ne]
          rintro rfl
          exact h1 (hm m List.mem_cons_self)
        rw [List.filterMap_cons, List.filterMap_cons, this, ih2 fun q hq => hm q (List.mem_cons_of_mem _ hq)]
    exact (key ns fun _ h => h).trans ih
def plainPar (a : Arguments) : Bool := a.posonlyargs.isEmpty && a.vararg.isNone && a.kwonlyargs.isEmpty && a.kwarg.isNone
theorem bind_plain {x q : Str} {params : Arguments} {body : List Stmt} {scope : Scope} (hp : plainPar params = true) {kV doc pm : Value} {an : Option Addr} {cdv ct : Value} {us : List Value} (hnd : (params.args.map (·.arg)).Nodup) (hl : us.length = params.args.length) :
    bindArgs (PySem.W.fnOf x q params body scope .none kV doc pm an cdv ct) ⟨us, []⟩ = pure ((params.args.map (·.arg)).zip us) := by
  unfold plainPar at hp
  simp only [Bool.and_eq_true, List.isEmpty_iff, Option.isNone_iff_eq_none] at hp
  obtain ⟨⟨⟨h1, h2⟩, h3⟩, h4⟩ := hp
  obtain ⟨po, ar, va, ko, kd, kw, de⟩ := params
  simp only at h1 h2 h3 h4 hl hnd
  subst h1 h2 h3 h4
  unfold bindArgs
  have e : seqItems? (Value.none) = pure none := rfl
  have m : ((ar.map (·.arg)).filter fun n => (((ar.map (·.arg)).zip us).lookup n).isNone) = [] := by
    rw [List.filter_eq_nil_iff]
    intro a ha
    rw [lookup_zip (by rw [List.length_map]; exact hl) ha]
    decide
  have m2 : ∀ k, ((ar.map (·.arg)).take k |>.filter fun n => (((ar.map (·.arg)).zip us).lookup n).isNone) = [] := fun k => by
    rw [List.filter_eq_nil_iff]
    intro a ha
    rw [lookup_zip (by rw [List.length_map]; exact hl) (List.mem_of_mem_take ha)]
    decide
  have fin : List.filterMap ((fun n => Option.map (fun x => (n, x)) (List.lookup n ((List.map (fun x => x.arg) ar).zip us))) ∘ fun x => x.arg) ar = (ar.map (·.arg)).zip us := by
    rw [← List.filterMap_map]
    exact zip_all hnd (by rw [List.length_map]; exact hl)
  simp [PySem.W.fnOf, e, hl]
  rw [if_neg (by
    have h0 : ∀ k, (List.filter (fun n => (List.lookup n ((List.map (fun x => x.arg) ar).zip us)).isNone) (List.take k ([] ++ List.map (fun x => x.arg) ar))) = [] := fun k => m2 k
    rw [show (List.map (fun x : Arg => x.arg) []) = ([] : List Str) from rfl, h0]
    simp)]
  rw [fin]

/-! ### all defs at once -/
def fnScB (N ps : List Str) (sc : Scope) : Bool := (sc.kind == .function) && !sc.isCoroutine && !sc.isGenerator && decide N.Nodup && decide (N.take ps.length = ps) && (ps.all fun x => sc.names.lookup x == some .local || sc.names.lookup x == some .cell) && sc.names.all fun y => y.2 != .free
theorem fnScB.ok {N ps : List Str} {sc : Scope} (h : fnScB N ps sc = true) : FnScope N ps sc := by
  unfold fnScB at h
  simp only [Bool.and_eq_true, List.all_eq_true, beq_iff_eq, Bool.not_eq_true', decide_eq_true_eq, Bool.or_eq_true, bne_iff_ne] at h
  obtain ⟨⟨⟨⟨⟨⟨h1, h2⟩, h3⟩, h4⟩, h5⟩, h6⟩, h7⟩ := h
  exact ⟨h1, h2, h3, h4, h5, h6, h7⟩
def defB (s : Stmt) : Bool := plainPar (defArgs s) && decide (parsOf s).Nodup && fnScB (slotsOf s) (parsOf s) (defScope s)
abbrev Row := Nat × Nat × DenS
def rowOf (T : Tab) (s : Stmt) : Option Row := (trStmt T s).map fun f => ((defArgs s).args.length, (slotsOf s).length, f.1)
theorem told_of {p : Program} {L : List Row} (h : (defsOf p).map (rowOf (tabOf p)) = L.map some) (hb : (defsOf p).all defB = true) (hc : (tabOf p).cons.all (fun q => (conFa q).isSome || q.2.con) = true) : Told p (fun i => L[i]?) where
  defs := fun i s hs => by
    have e : ((defsOf p).map (rowOf (tabOf p)))[i]? = (L.map some)[i]? := by rw [h]
    rw [List.getElem?_map, List.getElem?_map, hs] at e
    have hbs := List.all_eq_true.mp hb s (List.mem_of_getElem? hs)
    unfold defB at hbs
    rw [Bool.and_eq_true, Bool.and_eq_true, decide_eq_true_eq] at hbs
    obtain ⟨⟨b1, b2⟩, b3⟩ := hbs
    cases q : L[i]? with
    | none => rw [q] at e; cases e
    | some r =>
      rw [q] at e
      have e : rowOf (tabOf p) s = some r := Option.some.inj e
      unfold rowOf at e
      obtain ⟨f, hf, rfl⟩ := Option.map_eq_some_iff.mp e
      refine ⟨_, f.1, rfl, rfl, rfl, slotsOf s, parsOf s, by simp [parsOf], rfl, fnScB.ok b3, f.2, fun kV doc pm an cdv ct us hl => ?_⟩
      exact bind_plain b1 b2 (by rw [hl]; simp [parsOf])
  cons := fun q hq => by
    have := List.all_eq_true.mp hc q hq
    rw [Bool.or_eq_true] at this
    exact this.imp Option.isSome_iff_exists.mp id
/-- the law's def in two parts -/
def trOne (T : Tab) (N : List Str) (sc : Scope) (s : Stmt) : Option {f : DenS // SSt T N sc s f} := recS (sc := sc) (rec0 (T := T) (N := N) 30) 12 s
def lawRow (T : Tab) (s : Stmt) : Option (DenS × DenS) := match defBody s with
  | s0 :: rest => (trOne T (slotsOf s) (defScope s) s0).bind fun a => (trBody T (slotsOf s) (defScope s) rest).map fun b => (a.1, b.1)
  | [] => none
theorem lawOk_of {T : Tab} {s : Stmt} {f0 fr : DenS} {nn j : Nat} (h : lawRow T s = some (f0, fr)) (hb : defB s = true) (hp : parsOf s = (["script"] : List Str)) (hn : (slotsOf s).length = nn) (j0 : 0 < j) (jn : j < nn) : LawOk T (mkD s) nn j f0 fr := by
  unfold defB at hb
  rw [Bool.and_eq_true, Bool.and_eq_true, decide_eq_true_eq] at hb
  obtain ⟨⟨b1, b2⟩, b3⟩ := hb
  unfold lawRow at h
  split at h
  case h_2 => cases h
  rename_i s0 rest eb
  obtain ⟨a, ha, h⟩ := Option.bind_eq_some_iff.mp h
  obtain ⟨b, hb', e⟩ := Option.map_eq_some_iff.mp h
  cases e
  refine ⟨rfl, rfl, slotsOf s, s0, rest, hn, j0, jn, eb, by rw [← hp]; exact fnScB.ok b3, a.2, b.2, fun kV doc pm an cdv ct us hl => ?_⟩
  have := bind_plain (x := (mkD s).name) (q := (mkD s).qual) (body := (mkD s).body) (scope := (mkD s).scope) b1 (kV := kV) (doc := doc) (pm := pm) (an := an) (cdv := cdv) (ct := ct) (us := us) b2 (by rw [hl]; have := congrArg List.length hp; simpa [parsOf] using this.symm)
  rw [show (defArgs s).args.map (·.arg) = (["script"] : List Str) from hp] at this
  exact this
/-- a law over a head by facts, what a def lets out told by the world -/
theorem walk_w {l : PySem.W.OpenLaw} {n k : Nat} {q : Program} {loose : List Str} {XP : (Str → Option Value) → Heap → Prop} {YP : World → Heap → Prop} {d : DefRec} (hn : l.most = some n) (hn2 : n ≤ sizeLine) (hdf : d.params.defaults = []) (hr : Room k callerA)
    (F : ∀ (w : World) (mg : Str → Option Value) (fa : Addr) (h : Heap), YP w h → h.Ns mainGlobals mg → mg d.name = some (.ref fa) →
      ∃ (K : PySem.W.Frag) (fd : FuncData), K.In h ∧ (∀ (s : Shared) (u : Value), BindsTo s fd ⟨[u], []⟩ [("script", u)]) ∧ ∀ base : Heap, K.In base → base.Ns mainGlobals mg → FnOk l.prog w K mg base (L2.CX l.prog w) k fa fd ["script"] (spLaw K n)) :
    PySem.W.WalkO q loose XP YP l.row.toRowW d [] (fun f vs => PySem.call f vs) := by
  refine Att.attach_call hn hdf fun w s0 s1 mg mb fa o pm cd doc a vs ns G Y ho hd hcd hmg hobj hints hlen hg => ?_
  obtain ⟨K, fd, KX, hb, hF⟩ := F w mg fa _ Y G.T.g hmg
  refine law_call KX G.T.g G.T.b G.T.builtins G.T.nolimit hg hobj hints (Nat.le_trans hlen hn2) hr hF hb (fun H hO hS => ⟨a, ns, rfl, hS, hlen, fun _ => rfl⟩) fun H e s' x => ?_
  obtain ⟨_, _, _, _, _, _, _, _, _, _, _, _, z⟩ := x
  exact z.elim
end Ev
end

section
/-! W0: how the meanings are worked out. -/
namespace Ev
open PySem PySem.Spec L2
open PyProof.Rows hiding St

/-! ### evaluation -/
theorem bind_congr {α β : Type} {r r' : R α} {f : α → G → R β} (h : r = r') : r.bind f = r'.bind f := by rw [h]
theorem sb_congr {α : Type} {r r' : R α} {f : α → G → SR} (h : r = r') : r.sb f = r'.sb f := by rw [h]
def SR.sq (x : SR) (r : Env' → G → SR) : SR := match x with
  | .nx ρ g => r ρ g
  | y => y
theorem sq_congr {x x' : SR} {r : Env' → G → SR} (h : x = x') : x.sq r = x'.sq r := by rw [h]
theorem tst_congr {r r' : R (D × Fl)} (h : r = r') : r.tst = r'.tst := by rw [h]
def slt : Option Slt → G → R (D × Fl)
  | some (.s d), g => .ok (d, .s) g
  | some (.o d), g => .ok (d, .w) g
  | _, _ => .bad
def optR {α : Type} : Option α → G → R α
  | some a, g => .ok a g
  | none, _ => .bad
def andV : D → R (D × Fl) → G → R (D × Fl)
  | .bl b, r, g => if b = true then r else .ok (.bl false, .s) g
  | _, _, _ => .bad
def orV : D → R (D × Fl) → G → R (D × Fl)
  | .bl b, r, g => if b = true then .ok (.bl true, .s) g else r
  | _, _, _ => .bad
theorem andV_congr {d d' : D} {r : R (D × Fl)} {g : G} (h : d = d') : andV d r g = andV d' r g := by rw [h]
theorem orV_congr {d d' : D} {r : R (D × Fl)} {g : G} (h : d = d') : orV d r g = orV d' r g := by rw [h]
def negV : D → G → R (D × Fl)
  | .int i, g => .ok (.int (-i), .s) g
  | _, _ => .bad
def chV : Option (D × Fl) → R (D × Fl) → G → R (D × Fl)
  | some (.bl b, _), r, g => if b = true then r else .ok (.bl false, .s) g
  | _, _, _ => .bad
theorem chV_congr {d d' : Option (D × Fl)} {r : R (D × Fl)} {g : G} (h : d = d') : chV d r g = chV d' r g := by rw [h]
def isaV (t : String) (d : D) (g : G) : R (D × Fl) := match d.ty with
  | some _ => .ok (.bl (d.isa t), .s) g
  | none => .bad
def itV : D → G → R (List D)
  | .lst l, g => .ok l g
  | .tup l, g => .ok l g
  | .str l, g => .ok (l.map fun c => .str [c]) g
  | .dct kvs, g => .ok (kvs.map (·.1)) g
  | _, _ => .bad
def rngV : List D → G → R (List D)
  | [.int j], g => if smallI j = true then .ok (rngItems 0 1 j.toNat) g else .bad
  | _, _ => .bad
def rngV2 : List D → G → R (List D)
  | [.int i, .int j], g => if (smallI i && smallI j) = true then .ok (rngItems i 1 (j - i).toNat) g else .bad
  | _, _ => .bad
def parV : D → G → R (Option Int)
  | .int i, g => .ok (some i) g
  | _, _ => .bad
def dctV {β : Type} : D → (List (D × D) → R β) → R β
  | .dct kvs, k => k kvs
  | _, _ => .bad
theorem dctV_congr {β : Type} {d d' : D} {k : List (D × D) → R β} (h : d = d') : dctV d k = dctV d' k := by rw [h]
def zipV : List D → G → R (List D)
  | [a, b], g => match seqD a, seqD b with
    | some l, some m => .ok (zipD l.2 m.2) g
    | _, _ => .bad
  | _, _ => .bad
def enumV : List D → G → R (List D)
  | [a], g => match seqD a with
    | some l => .ok (enumD l.2) g
    | none => .bad
  | _, _ => .bad
def rtV : D × Fl → G → SR
  | (d, .s), g => .rt d false g
  | (d, .f), g => .rt d true g
  | (_, .w), _ => .bad
def rtSlt : Option Slt → G → SR
  | some (.s d), g => .rt d false g
  | some (.o d), g => .rt d true g
  | _, _ => .bad
def optX : Option Env' → G → SR
  | some ρ, g => .nx ρ g
  | none, _ => .bad
def optE {α : Type} : Option α → (α → SR) → SR
  | some a, k => k a
  | none, _ => .bad
theorem optE_congr {α : Type} {o o' : Option α} {k : α → SR} (h : o = o') : optE o k = optE o' k := by rw [h]
def optF {α β : Type} : Option α → (α → R β) → R β
  | some a, k => k a
  | none, _ => .bad
theorem optF_congr {α β : Type} {o o' : Option α} {k : α → R β} (h : o = o') : optF o k = optF o' k := by rw [h]
def appV (j : Nat) : Option Slt → R (D × Fl) → Env' → SR
  | some (.o (.lst l)), r, ρ => if l.length < LN then r.sb fun v g1 => .nx (ρ.set j (.o (.lst (l ++ [v.1])))) g1 else .bad
  | _, _, _ => .bad
def putV (j : Nat) (s : Option Slt) (k v : D) (ρ : Env') (g : G) : SR := match s with
  | some (.o (.dct kvs)) => if D.fit kvs k && decide (kvs.length < LN) then .nx (ρ.set j (.o (.dct (D.put kvs k v)))) g else .bad
  | some (.o (.lst l)) => match k with
    | .int i => match ixN l.length i with
      | some n => .nx (ρ.set j (.o (.lst (l.set n v)))) g
      | none => .bad
    | _ => .bad
  | some (.s (.hnd 0)) => match hndPut k v g with
    | some g' => .nx ρ g'
    | none => .bad
  | _ => .bad
theorem putV_congr {j : Nat} {s s' : Option Slt} {k v : D} {ρ : Env'} {g : G} (h : s = s') : putV j s k v ρ g = putV j s' k v ρ g := by rw [h]
theorem appV_congr {j : Nat} {s s' : Option Slt} {r : R (D × Fl)} {ρ : Env'} (h : s = s') : appV j s r ρ = appV j s' r ρ := by rw [h]
def augX (j : Nat) (l : List D) (a : D × Fl) (ρ : Env') (g : G) : SR := match a with
  | (.lst m, .f) => if l.length + m.length ≤ LN then .nx (ρ.set j (.o (.lst (l ++ m)))) g else .bad
  | _ => .bad
def augW (j : Nat) : Option Slt → R (D × Fl) → Env' → SR
  | some (.o (.lst l)), r, ρ => r.sb fun a g1 => augX j l a ρ g1
  | _, _, _ => .bad
theorem augW_congr {j : Nat} {s s' : Option Slt} {r : R (D × Fl)} {ρ : Env'} (h : s = s') : augW j s r ρ = augW j s' r ρ := by rw [h]
def excV (o : Option Bool) (d : D) (c : Nat) (xs : List D) (g : G) : SR := match o with
  | some true => .rt d false g
  | some false => .exc c xs g
  | none => .bad
theorem excV_congr {o o' : Option Bool} {d : D} {c : Nat} {xs : List D} {g : G} (h : o = o') : excV o d c xs g = excV o' d c xs g := by rw [h]
def SR.tryV (x : SR) (tb : List Bool) (d : D) : SR := match x with
  | .exc c xs g' => excV tb[c]? d c xs g'
  | r => r
theorem tryV_congr {x x' : SR} {tb : List Bool} {d : D} (h : x = x') : x.tryV tb d = x'.tryV tb d := by rw [h]
section
variable {α β : Type} {F : FT} {ρ : Env'} {g : G}
@[simp] theorem bind_ok (a : α) (f : α → G → R β) : (R.ok a g).bind f = f a g := id rfl
@[simp] theorem bind_exc (c : Nat) (xs : List D) (f : α → G → R β) : (R.exc c xs g : R α).bind f = .exc c xs g := id rfl
@[simp] theorem bind_bad (f : α → G → R β) : (R.bad : R α).bind f = .bad := id rfl
@[simp] theorem sb_ok (a : α) (f : α → G → SR) : (R.ok a g).sb f = f a g := id rfl
@[simp] theorem sb_exc (c : Nat) (xs : List D) (f : α → G → SR) : (R.exc c xs g : R α).sb f = .exc c xs g := id rfl
@[simp] theorem sq_nx (r : Env' → G → SR) : (SR.nx ρ g).sq r = r ρ g := id rfl
@[simp] theorem sq_rt (d : D) (b : Bool) (r : Env' → G → SR) : (SR.rt d b g).sq r = .rt d b g := id rfl
@[simp] theorem sq_bk (r : Env' → G → SR) : (SR.bk ρ g).sq r = .bk ρ g := id rfl
@[simp] theorem sq_ct (r : Env' → G → SR) : (SR.ct ρ g).sq r = .ct ρ g := id rfl
@[simp] theorem sq_exc (c : Nat) (xs : List D) (r : Env' → G → SR) : (SR.exc c xs g).sq r = .exc c xs g := id rfl
@[simp] theorem fin_rt (d : D) (b : Bool) : (SR.rt d b g).fin = .ok (d, b) g := id rfl
@[simp] theorem fin_nx : (SR.nx ρ g).fin = .ok (.non, false) g := id rfl
@[simp] theorem fin_exc (c : Nat) (xs : List D) : (SR.exc c xs g).fin = .exc c xs g := id rfl
@[simp] theorem fz_s' (d : D) : (R.ok (d, Fl.s) g).fz = .ok (d, .s) g := id rfl
@[simp] theorem fz_f' (d : D) : (R.ok (d, Fl.f) g).fz = .ok (d, .s) g := id rfl
@[simp] theorem fz_exc' (c : Nat) (xs : List D) : (R.exc c xs g : R (D × Fl)).fz = .exc c xs g := id rfl
@[simp] theorem nox_ok (a : α) : (R.ok a g).nox = .ok a g := id rfl
@[simp] theorem dFz_eq (f : Den) : dFz f F ρ g = (f F ρ g).fz := id rfl
@[simp] theorem dC_eq (d : D) : dC d F ρ g = .ok (d, .s) g := id rfl
@[simp] theorem dNil_eq : dNil F ρ g = .ok [] g := id rfl
@[simp] theorem dCons_eq (f : Den) (r : DenL) : dCons f r F ρ g = (f F ρ g).bind fun a g1 => (r F ρ g1).bind fun b g2 => .ok (a.1 :: b) g2 := id rfl
@[simp] theorem dVar_eq (i : Nat) : dVar i F ρ g = slt ρ[i]? g := by unfold dVar slt; rcases ρ[i]? with _ | _ | _ | _ <;> rfl
@[simp] theorem slt_s (d : D) : slt (some (.s d)) g = .ok (d, .s) g := id rfl
@[simp] theorem slt_o (d : D) : slt (some (.o d)) g = .ok (d, .w) g := id rfl
@[simp] theorem optR_some (a : α) : optR (some a) g = .ok a g := id rfl
@[simp] theorem optE_some (a : α) (k : α → SR) : optE (some a) k = k a := id rfl
@[simp] theorem optF_some (a : α) (k : α → R β) : optF (some a) k = k a := id rfl
@[simp] theorem dTup_eq (f : DenL) : dTup f F ρ g = (f F ρ g).bind fun ds g1 => if ds.length ≤ LN then .ok (.tup ds, .s) g1 else .bad := id rfl
@[simp] theorem dLst_eq (f : DenL) : dLst f F ρ g = (f F ρ g).bind fun ds g1 => if ds.length ≤ LN then .ok (.lst ds, .f) g1 else .bad := id rfl
@[simp] theorem dBin_eq (o : Op2) (f h : Den) : dBin o f h F ρ g = (f F ρ g).bind fun a g1 => (h F ρ g1).bind fun b g2 => optR (o a b) g2 := by
  unfold dBin; congr 1; funext a g1; congr 1; funext b g2; cases o a b <;> rfl
@[simp] theorem dBif_eq (o : List D → Option (D × Fl)) (fs : DenL) : dBif o fs F ρ g = (fs F ρ g).bind fun ds g1 => optR (o ds) g1 := by
  unfold dBif; congr 1; funext a g1; cases o a <;> rfl
@[simp] theorem dIxBy_eq (o : OpG) (f h : Den) : dIxBy o f h F ρ g = (f F ρ g).bind fun a g1 => (h F ρ g1).bind fun b g2 => optR (o g2 a b) g2 := by
  unfold dIxBy; congr 1; funext a g1; congr 1; funext b g2; cases o g2 a b <;> rfl
@[simp] theorem tst_bl (b : Bool) (fl : Fl) : (R.ok (D.bl b, fl) g).tst = .ok b g := id rfl
@[simp] theorem tst_exc (c : Nat) (xs : List D) : (R.exc c xs g : R (D × Fl)).tst = .exc c xs g := id rfl
@[simp] theorem dT_eq (f : Den) : dT f F ρ g = (f F ρ g).tst := id rfl
@[simp] theorem tNot_eq (f : DenT) : tNot' f F ρ g = (f F ρ g).bind fun b g1 => .ok (!b) g1 := id rfl
@[simp] theorem tAnd_eq (f h : DenT) : tAnd' f h F ρ g = (f F ρ g).bind fun b g1 => if b = true then h F ρ g1 else .ok false g1 := id rfl
@[simp] theorem tOr_eq (f h : DenT) : tOr' f h F ρ g = (f F ρ g).bind fun b g1 => if b = true then .ok true g1 else h F ρ g1 := id rfl
@[simp] theorem dNot_eq (f : Den) : dNot f F ρ g = (f F ρ g).tst.bind fun b g1 => .ok (.bl (!b), .s) g1 := by
  unfold dNot
  cases f F ρ g with
  | ok a g1 => obtain ⟨d, fl⟩ := a; cases d <;> rfl
  | exc => rfl
  | bad => rfl
@[simp] theorem andV_bl (b : Bool) (r : R (D × Fl)) : andV (.bl b) r g = if b = true then r else .ok (.bl false, .s) g := id rfl
@[simp] theorem orV_bl (b : Bool) (r : R (D × Fl)) : orV (.bl b) r g = if b = true then .ok (.bl true, .s) g else r := id rfl
@[simp] theorem dAnd_eq (f h : Den) : dAnd f h F ρ g = (f F ρ g).bind fun a g1 => andV a.1 (h F ρ g1) g1 := by
  unfold dAnd; congr 1; funext a g1; obtain ⟨d, fl⟩ := a; cases d <;> try rfl
  rename_i b; cases b <;> rfl
@[simp] theorem dOr_eq (f h : Den) : dOr f h F ρ g = (f F ρ g).bind fun a g1 => orV a.1 (h F ρ g1) g1 := by
  unfold dOr; congr 1; funext a g1; obtain ⟨d, fl⟩ := a; cases d <;> try rfl
  rename_i b; cases b <;> rfl
@[simp] theorem negV_int (i : Int) : negV (.int i) g = .ok (.int (-i), .s) g := id rfl
@[simp] theorem dNeg_eq (f : Den) : dNeg f F ρ g = (f F ρ g).bind fun a g1 => negV a.1 g1 := by
  unfold dNeg; congr 1; funext a g1; obtain ⟨d, fl⟩ := a; cases d <;> rfl
@[simp] theorem dIf_eq (t : DenT) (f h : Den) : dIf t f h F ρ g = (t F ρ g).bind fun b g1 => if b = true then f F ρ g1 else h F ρ g1 := id rfl
@[simp] theorem chV_bl (b : Bool) (fl : Fl) (r : R (D × Fl)) : chV (some (.bl b, fl)) r g = if b = true then r else .ok (.bl false, .s) g := id rfl
@[simp] theorem dChain_eq (o o' : Op2) (f h u : Den) : dChain o o' f h u F ρ g = (f F ρ g).bind fun a g1 => (h F ρ g1).bind fun b g2 => chV (o a b) ((u F ρ g2).bind fun c g3 => optR (o' b c) g3) g2 := by
  unfold dChain; congr 1; funext a g1; congr 1; funext b g2
  have e : (fun (c : D × Fl) (g3 : G) => match o' b c with | some r => (R.ok r g3 : R (D × Fl)) | none => R.bad) = fun c g3 => optR (o' b c) g3 := by
    funext c g3; cases o' b c <;> rfl
  rw [← e]
  rcases o a b with _ | ⟨d, fl⟩
  · rfl
  · cases d with
    | bl b => cases b <;> rfl
    | _ => rfl
@[simp] theorem dCall_eq (i : Nat) (fs : DenL) : dCall i fs F ρ g = (fs F ρ g).bind fun ds g1 => (F i ds g1).bind fun r g2 => .ok (r.1, if r.2 = true then .f else .s) g2 := id rfl
@[simp] theorem dIsa_eq (t : String) (f : Den) : dIsa t f F ρ g = (f F ρ g).bind fun a g1 => isaV t a.1 g1 := id rfl
@[simp] theorem dYes_eq : dYes F ρ g = .ok true g := id rfl
@[simp] theorem dLc_eq (fi : DenL) (t : Tgt) (ft : DenT) (fe : Den) (vs : List Nat) : dLc fi t ft fe vs F ρ g = (fi F ρ g).bind fun ds g1 =>
  if ds.length ≤ LN then (lcGo (lcTurn t ft fe F (wipeE ρ vs)) ds g1).nox.bind fun l g2 => .ok (.lst l, .f) g2 else .bad := id rfl
@[simp] theorem dLc2_eq (fi : DenL) (t : Tgt) (ft : DenT) (fi1 : DenL) (t1 : Tgt) (ft1 : DenT) (fe : Den) (vs vs1 : List Nat) : dLc2 fi t ft fi1 t1 ft1 fe vs vs1 F ρ g = (fi F ρ g).bind fun ds g1 =>
  (lcGo (lcTurn2 t ft fi1 t1 ft1 fe vs1 F (wipeE (noO ρ) vs)) ds g1).nox.bind fun l g2 => if l.length ≤ LN then .ok (.lst l, .f) g2 else .bad := id rfl
@[simp] theorem itV_lst (l : List D) : itV (.lst l) g = .ok l g := id rfl
@[simp] theorem itV_tup (l : List D) : itV (.tup l) g = .ok l g := id rfl
@[simp] theorem itV_str (l : List Nat) : itV (.str l) g = .ok (l.map fun c => .str [c]) g := id rfl
@[simp] theorem itV_dct (l : List (D × D)) : itV (.dct l) g = .ok (l.map (·.1)) g := id rfl
@[simp] theorem dIt_eq (f : Den) : dIt f F ρ g = (f F ρ g).bind fun a g1 => itV a.1 g1 := by
  unfold dIt; congr 1; funext a g1; obtain ⟨d, fl⟩ := a; cases d <;> rfl
@[simp] theorem rngV_int (j : Int) : rngV [.int j] g = if smallI j = true then .ok (rngItems 0 1 j.toNat) g else .bad := id rfl
@[simp] theorem dRng1_eq (fs : DenL) : dRng1 fs F ρ g = (fs F ρ g).bind fun ds g1 => rngV ds g1 := by
  unfold dRng1; congr 1; funext ds g1
  rcases ds with _ | ⟨d, _ | ⟨e, r⟩⟩
  · rfl
  · cases d <;> rfl
  · cases d <;> rfl
@[simp] theorem rngV2_int (i j : Int) : rngV2 [.int i, .int j] g = if (smallI i && smallI j) = true then .ok (rngItems i 1 (j - i).toNat) g else .bad := id rfl
@[simp] theorem dRng2_eq (fs : DenL) : dRng2 fs F ρ g = (fs F ρ g).bind fun ds g1 => rngV2 ds g1 := by
  unfold dRng2; congr 1; funext ds g1
  rcases ds with _ | ⟨d, _ | ⟨e, _ | ⟨f, r⟩⟩⟩
  · rfl
  · cases d <;> rfl
  · cases d <;> cases e <;> rfl
  · cases d <;> cases e <;> rfl
@[simp] theorem zipV_eq (a b : D) : zipV [a, b] g = match seqD a, seqD b with
    | some l, some m => .ok (zipD l.2 m.2) g
    | _, _ => .bad := id rfl
@[simp] theorem dZip_eq (fs : DenL) : dZip fs F ρ g = (fs F ρ g).bind fun ds g1 => zipV ds g1 := by
  unfold dZip; congr 1; funext ds g1
  rcases ds with _ | ⟨a, _ | ⟨b, _ | _⟩⟩ <;> rfl
@[simp] theorem dEnum_eq (fs : DenL) : dEnum fs F ρ g = (fs F ρ g).bind fun ds g1 => enumV ds g1 := by
  unfold dEnum; congr 1; funext ds g1
  rcases ds with _ | ⟨a, _ | _⟩ <;> rfl
@[simp] theorem dSl_eq (f : Den) (lo hi : DenO) : dSl f lo hi F ρ g = (f F ρ g).bind fun a g1 => (lo F ρ g1).bind fun l g2 => (hi F ρ g2).bind fun u g3 => optR (oSl a l u) g3 := by
  unfold dSl; congr 1; funext a g1; congr 1; funext b g2; congr 1; funext c g3; cases oSl a b c <;> rfl
@[simp] theorem dNoP_eq : dNoP F ρ g = .ok none g := id rfl
@[simp] theorem parV_int (i : Int) : parV (.int i) g = .ok (some i) g := id rfl
@[simp] theorem dP_eq (f : Den) : dP f F ρ g = (f F ρ g).bind fun a g1 => parV a.1 g1 := by
  unfold dP; congr 1; funext a g1; obtain ⟨d, fl⟩ := a; cases d <;> rfl
@[simp] theorem dctV_dct (kvs : List (D × D)) (k : List (D × D) → R β) : dctV (.dct kvs) k = k kvs := id rfl
@[simp] theorem dGet2_eq (f h u : Den) : dGet2 f h u F ρ g = (f F ρ g).bind fun a g1 => dctV a.1 fun kvs => ((h F ρ g1).fz).bind fun b g2 => ((u F ρ g2).fz).bind fun c g3 => if D.fit kvs b.1 = true then .ok ((D.look kvs b.1).getD c.1, .s) g3 else .bad := by
  unfold dGet2; congr 1; funext a g1; obtain ⟨d, fl⟩ := a; cases d <;> rfl
@[simp] theorem dGet1_eq (f h : Den) : dGet1 f h F ρ g = (f F ρ g).bind fun a g1 => dctV a.1 fun kvs => ((h F ρ g1).fz).bind fun b g2 => if D.fit kvs b.1 = true then .ok ((D.look kvs b.1).getD .non, .s) g2 else .bad := by
  unfold dGet1; congr 1; funext a g1; obtain ⟨d, fl⟩ := a; cases d <;> rfl
@[simp] theorem dDct0_eq : dDct0 F ρ g = .ok (.dct [], .f) g := id rfl
@[simp] theorem pNil_eq : pNil F ρ g = .ok [] g := id rfl
@[simp] theorem pCons_eq (fk fv : Den) (r : FT → Env' → G → R (List (D × D))) : pCons fk fv r F ρ g = ((fk F ρ g).fz).bind fun k g1 => ((fv F ρ g1).fz).bind fun v g2 => (r F ρ g2).bind fun l g3 => .ok ((k.1, v.1) :: l) g3 := id rfl
@[simp] theorem dDct_eq (f : FT → Env' → G → R (List (D × D))) : dDct f F ρ g = (f F ρ g).bind fun ps g1 => (optR (putAll [] ps) g1).bind fun kvs g2 => .ok (.dct kvs, .f) g2 := by
  unfold dDct; congr 1; funext a g1; cases putAll [] a <;> rfl
/-! methods, [::-1], list(range) -/
@[simp] theorem dM1_eq (m : MtD) (f h : Den) : dM1 m f h F ρ g = (f F ρ g).bind fun a g1 => if mtyIn m a.1 = true then (h F ρ g1).bind fun b g2 => optR (m.o a b) g2 else .bad := by
  unfold dM1; congr 1; funext a g1; congr 1; congr 1; funext b g2; cases m.o a b <;> rfl
@[simp] theorem mtyIn_cl (l : List D) : mtyIn mCount (.lst l) = true := by unfold mtyIn D.mty mCount; simp
@[simp] theorem mtyIn_ct (l : List D) : mtyIn mCount (.tup l) = true := by unfold mtyIn D.mty mCount; simp
@[simp] theorem mtyIn_il (l : List D) : mtyIn mIndex (.lst l) = true := by unfold mtyIn D.mty mIndex; simp
@[simp] theorem mtyIn_js (l : List Nat) : mtyIn mJoin (.str l) = true := by unfold mtyIn D.mty mJoin; simp
@[simp] theorem mCount_o : mCount.o = oCnt := by rfl
@[simp] theorem mIndex_o : mIndex.o = oInd := by rfl
@[simp] theorem mJoin_o : mJoin.o = oJoin := by rfl
@[simp] theorem dRev_eq (f : Den) : dRev f F ρ g = (f F ρ g).bind fun a g1 => optR (oRev a) g1 := by
  unfold dRev; congr 1; funext a g1; cases oRev a <;> rfl
@[simp] theorem oRev_lst (l : List D) (a : Fl) : oRev (.lst l, a) = some (.lst l.reverse, .f) := id rfl
@[simp] theorem oRev_tup (l : List D) (a : Fl) : oRev (.tup l, a) = if l.length ≤ LN then some (.tup l.reverse, .s) else none := id rfl
@[simp] theorem oRev_str (l : List Nat) (a : Fl) : oRev (.str l, a) = if l.length ≤ LN then some (.str l.reverse, .s) else none := id rfl
@[simp] theorem dLR1_eq (f : Den) : dLR1 f F ρ g = (f F ρ g).bind fun a g1 => optR (oLR (.int 0, .s) a) g1 := by
  unfold dLR1; congr 1; funext a g1; cases oLR (.int 0, .s) a <;> rfl
@[simp] theorem dLR2_eq (f h : Den) : dLR2 f h F ρ g = (f F ρ g).bind fun a g1 => (h F ρ g1).bind fun b g2 => optR (oLR a b) g2 := by
  unfold dLR2; congr 1; funext a g1; congr 1; funext b g2; cases oLR a b <;> rfl
/-! statements -/
@[simp] theorem augV_f (j : Nat) (l m : List D) (h : ρ[j]? = some (.o (.lst l))) : augV j (.lst m, .f) ρ g = if l.length + m.length ≤ LN then .nx (ρ.set j (.o (.lst (l ++ m)))) g else .bad := by
  unfold augV; rw [h]
@[simp] theorem dAug_eq (j : Nat) (f : Den) : dAug j f F ρ g = augW j ρ[j]? (f F ρ g) ρ := by
  unfold dAug augW
  rcases hr : ρ[j]? with _ | _ | _ | d
  · rfl
  · rfl
  · rfl
  · cases d with
    | lst l =>
      dsimp only
      congr 1
      funext a g1
      obtain ⟨d, fl⟩ := a
      unfold augV augX
      cases d <;> cases fl <;> first | (rw [hr]; done) | (rw [hr]; rfl) | (simp only [hr]; done)
    | _ => rfl
@[simp] theorem augW_o (j : Nat) (l : List D) (r : R (D × Fl)) : augW j (some (.o (.lst l))) r ρ = r.sb fun a g1 => augX j l a ρ g1 := id rfl
@[simp] theorem augX_f (j : Nat) (l m : List D) : augX j l (.lst m, .f) ρ g = if l.length + m.length ≤ LN then .nx (ρ.set j (.o (.lst (l ++ m)))) g else .bad := id rfl
@[simp] theorem dTry_eq (tb : List Bool) (d : D) (f : DenS) : dTry tb d f F ρ g = (f F ρ g).tryV tb d := by
  unfold dTry SR.tryV; cases f F ρ g <;> rfl
@[simp] theorem tryV_nx (tb : List Bool) (d : D) : (SR.nx ρ g).tryV tb d = .nx ρ g := id rfl
@[simp] theorem tryV_rt (tb : List Bool) (d e : D) (b : Bool) : (SR.rt e b g).tryV tb d = .rt e b g := id rfl
@[simp] theorem tryV_exc (tb : List Bool) (d : D) (c : Nat) (xs : List D) : (SR.exc c xs g).tryV tb d = excV tb[c]? d c xs g := id rfl
@[simp] theorem excV_t (d : D) (c : Nat) (xs : List D) : excV (some true) d c xs g = .rt d false g := id rfl
@[simp] theorem excV_f (d : D) (c : Nat) (xs : List D) : excV (some false) d c xs g = .exc c xs g := id rfl
@[simp] theorem dSeq_eq (f r : DenS) : dSeq f r F ρ g = (f F ρ g).sq (r F) := id rfl
@[simp] theorem dNop_eq : dNop F ρ g = .nx ρ g := id rfl
@[simp] theorem dBreak_eq : dBreak F ρ g = .bk ρ g := id rfl
@[simp] theorem dCont_eq : dCont F ρ g = .ct ρ g := id rfl
@[simp] theorem dRetN_eq : dRetN F ρ g = .rt .non false g := id rfl
@[simp] theorem dRaise_eq (i : Nat) : dRaise i F ρ g = .exc i [] g := id rfl
@[simp] theorem fz_eq (i : Nat) (f : DenS) : fz i f F ρ g = f F (fzE i ρ) g := id rfl
@[simp] theorem dIfS_eq (c : DenT) (a b : DenS) : dIfS c a b F ρ g = (c F ρ g).sb fun t g1 => if t = true then a F ρ g1 else b F ρ g1 := id rfl
@[simp] theorem dDrop_eq (f : Den) : dDrop f F ρ g = (f F ρ g).sb fun _ g1 => .nx ρ g1 := id rfl
@[simp] theorem rtV_s (d : D) : rtV (d, .s) g = .rt d false g := id rfl
@[simp] theorem rtV_f (d : D) : rtV (d, .f) g = .rt d true g := id rfl
@[simp] theorem dRet_eq (f : Den) : dRet f F ρ g = (f F ρ g).sb rtV := by
  unfold dRet; congr 1; funext a g1; obtain ⟨d, fl⟩ := a; cases fl <;> rfl
@[simp] theorem rtSlt_s (d : D) : rtSlt (some (.s d)) g = .rt d false g := id rfl
@[simp] theorem rtSlt_o (d : D) : rtSlt (some (.o d)) g = .rt d true g := id rfl
@[simp] theorem dRetV_eq (i : Nat) : dRetV i F ρ g = rtSlt ρ[i]? g := by unfold dRetV rtSlt; rcases ρ[i]? with _ | _ | _ | _ <;> rfl
@[simp] theorem dSet_eq (i : Nat) (f : Den) : dSet i f F ρ g = (f F ρ g).sb fun a g1 => put1 i a ρ g1 := id rfl
@[simp] theorem put1_s (i : Nat) (d : D) : put1 i (d, .s) ρ g = .nx (ρ.set i (.s d)) g := id rfl
@[simp] theorem put1_f (i : Nat) (d : D) : put1 i (d, .f) ρ g = .nx (ρ.set i (.o d)) g := id rfl
@[simp] theorem dTgt_eq (t : Tgt) (f : Den) : dTgt t f F ρ g = (f F ρ g).fz.sb fun a g1 => optE (t.set a.1 ρ) fun ρ1 => .nx ρ1 g1 := by
  show ((f F ρ g).fz).sb _ = _
  congr 1; funext a g1; cases t.set a.1 ρ <;> rfl
@[simp] theorem dFor_eq (fi : DenL) (t : Tgt) (b : DenS) : dFor fi t b F ρ g = (fi F ρ g).sb fun ds g1 => forGo t b F ds ρ g1 := id rfl
@[simp] theorem dWhile_eq (n : Nat) (c : DenT) (b : DenS) : dWhile n c b F ρ g = whileGo c b F n ρ g := id rfl
@[simp] theorem xNil_eq : xNil F ρ g = .ok [] g := id rfl
@[simp] theorem noW_s (d : D) : noW (d, .s) = true := id rfl
@[simp] theorem noW_f (d : D) : noW (d, .f) = true := id rfl
@[simp] theorem xCons_eq (f : Den) (r : FT → Env' → G → R (List (D × Fl))) : xCons f r F ρ g = (f F ρ g).bind fun a g1 => if noW a = true then (r F ρ g1).bind fun b g2 => .ok (a :: b) g2 else .bad := id rfl
@[simp] theorem optX_some : optX (some ρ) g = .nx ρ g := id rfl
@[simp] theorem dPar_eq (is : List Nat) (fs : FT → Env' → G → R (List (D × Fl))) : dPar is fs F ρ g = (fs F ρ g).sb fun as g1 => optX (putX is as ρ) g1 := by
  unfold dPar; congr 1; funext a g1; cases putX is a ρ <;> rfl
@[simp] theorem putX_nil : putX [] [] ρ = some ρ := id rfl
@[simp] theorem putX_s (i : Nat) (is : List Nat) (d : D) (as : List (D × Fl)) : putX (i :: is) ((d, .s) :: as) ρ = putX is as (ρ.set i (.s d)) := id rfl
@[simp] theorem putX_f (i : Nat) (is : List Nat) (d : D) (as : List (D × Fl)) : putX (i :: is) ((d, .f) :: as) ρ = putX is as (ρ.set i (.o d)) := id rfl
@[simp] theorem dPut_eq (j : Nat) (fi fv : Den) : dPut j fi fv F ρ g = ((fv F ρ g).fz).sb fun v g1 => if (!hasV ρ j) = true then .bad else ((fi F ρ g1).fz).sb fun k g2 => put2 j k.1 v.1 ρ g2 := id rfl
@[simp] theorem put2_eq (j : Nat) (k v : D) : put2 j k v ρ g = putV j ρ[j]? k v ρ g := id rfl
@[simp] theorem putV_dct (j : Nat) (kvs : List (D × D)) (k v : D) : putV j (some (.o (.dct kvs))) k v ρ g = if D.fit kvs k = true then if kvs.length < LN then .nx (ρ.set j (.o (.dct (D.put kvs k v)))) g else .bad else .bad := by
  dsimp only [putV]
  cases D.fit kvs k
  · rfl
  · simp only [Bool.true_and, decide_eq_true_eq, if_true]
@[simp] theorem putV_lst (j : Nat) (l : List D) (i : Int) (v : D) : putV j (some (.o (.lst l))) (.int i) v ρ g = optE (ixN l.length i) fun n => .nx (ρ.set j (.o (.lst (l.set n v)))) g := by
  dsimp only [putV]; cases ixN l.length i <;> rfl
@[simp] theorem putV_hnd (j : Nat) (k v : D) : putV j (some (.s (.hnd 0))) k v ρ g = optE (hndPut k v g) fun g' => .nx ρ g' := by
  dsimp only [putV]; cases hndPut k v g <;> rfl
@[simp] theorem hndPut_0 (x y n : Int) : hndPut (.int 0) (.int n) (some (x, y)) = some (some (n, y)) := id rfl
@[simp] theorem hndPut_1 (x y n : Int) : hndPut (.int 1) (.int n) (some (x, y)) = some (some (x, n)) := id rfl
@[simp] theorem hasV_s0 (d : D) : hasV (.s d :: ρ) 0 = true := id rfl
@[simp] theorem hasV_o0 (d : D) : hasV (.o d :: ρ) 0 = true := id rfl
@[simp] theorem hasV_succ (i : Nat) (x : Slt) : hasV (x :: ρ) (i + 1) = hasV ρ i := by unfold hasV; rw [List.getElem?_cons_succ]
@[simp] theorem dApp_eq (j : Nat) (f : Den) : dApp j f F ρ g = appV j ρ[j]? (f F ρ g).fz ρ := by
  unfold dApp
  rcases ρ[j]? with _ | _ | d | d
  · rfl
  · rfl
  · rfl
  · cases d <;> rfl
@[simp] theorem appV_o (j : Nat) (l : List D) (r : R (D × Fl)) : appV j (some (.o (.lst l))) r ρ = if l.length < LN then r.sb fun v g1 => .nx (ρ.set j (.o (.lst (l ++ [v.1])))) g1 else .bad := id rfl
@[simp] theorem tset_nm (i : Nat) (d : D) : (Tgt.nm i).set d ρ = some (ρ.set i (.s d)) := by simp only [Tgt.set]
@[simp] theorem tset_tp (l : List Tgt) (ds : List D) : (Tgt.tp l).set (.tup ds) ρ = if l.length = ds.length then Tgt.sets l ds ρ else none := by simp only [Tgt.set]
@[simp] theorem tsets_nil : Tgt.sets [] [] ρ = some ρ := by simp only [Tgt.sets]
@[simp] theorem tsets_nm (i : Nat) (ts : List Tgt) (d : D) (ds : List D) : Tgt.sets (.nm i :: ts) (d :: ds) ρ = Tgt.sets ts ds (ρ.set i (.s d)) := by simp only [Tgt.sets, Tgt.set]
@[simp] theorem tsets_tp (l : List Tgt) (ts : List Tgt) (es : List D) (ds : List D) : Tgt.sets (.tp l :: ts) (.tup es :: ds) ρ = if l.length = es.length then (Tgt.sets l es ρ).bind fun ρ1 => Tgt.sets ts ds ρ1 else none := by
  simp only [Tgt.sets, Tgt.set]
  by_cases h : l.length = es.length
  · simp only [h, if_true]; cases Tgt.sets l es ρ <;> rfl
  · simp only [h, if_false]
/-! operators on ints -/
section
variable (i j : Int) (a b : Fl)
@[simp] theorem oAdd_int : oAdd (.int i, a) (.int j, b) = some (.int (i + j), .s) := id rfl
@[simp] theorem oSub_int : oSub (.int i, a) (.int j, b) = some (.int (i - j), .s) := id rfl
@[simp] theorem oDiv_int : oDiv (.int i, a) (.int j, b) = if 0 < j ∧ j.natAbs.log2 < 9000 then some (.int (i / j), .s) else none := id rfl
@[simp] theorem oMod_int : oMod (.int i, a) (.int j, b) = if 0 < j then some (.int (i % j), .s) else none := id rfl
@[simp] theorem oMul_int : oMulA (.int i, a) (.int j, b) = if mulOk i j = true then some (.int (i * j), .s) else none := by
  unfold oMulA oMulA0 oMul oMulI oMulT oMulL oMulS
  dsimp only
  cases mulOk i j <;> rfl
@[simp] theorem oLt_int : oLtA (.int i, a) (.int j, b) = some (.bl (decide (i < j)), .s) := id rfl
@[simp] theorem oLe_int : oLe (.int i, a) (.int j, b) = some (.bl (decide (i ≤ j)), .s) := id rfl
@[simp] theorem oGt_int : oGt (.int i, a) (.int j, b) = some (.bl (decide (j < i)), .s) := id rfl
@[simp] theorem oGe_int : oGe (.int i, a) (.int j, b) = some (.bl (decide (j ≤ i)), .s) := id rfl
@[simp] theorem oEq_int : oEq (.int i, a) (.int j, b) = some (.bl (decide (i = j)), .s) := id rfl
@[simp] theorem oNe_int : oNe (.int i, a) (.int j, b) = some (.bl (!decide (i = j)), .s) := id rfl
end
section
variable (a b : Fl)
theorem oMul_tup0 (l : List D) (k : Nat) (h : l.length * k ≤ 1000000) (hk : k < 1000000) : oMul (.tup l, a) (.int (k : Int), b) = some (.tup (List.replicate k l).flatten, .s) := by
  have e : (decide (-i62 ≤ (k : Int)) && decide ((k : Int) < i62) && decide (l.length * k ≤ 1000000)) = true := by
    unfold i62
    rw [Bool.and_eq_true, Bool.and_eq_true, decide_eq_true_eq, decide_eq_true_eq, decide_eq_true_eq]
    exact ⟨⟨by omega, by omega⟩, h⟩
  unfold oMul oMulI oMulT
  simp only [Int.toNat_natCast, e, if_true]
theorem oMulA_of {x y : D × Fl} {r : D × Fl} (h : oMul x y = some r) : oMulA x y = some r := by
  unfold oMulA oMulA0; rw [h]
theorem oMul_tup (l : List D) (k : Nat) (h : l.length * k ≤ 1000000) (hk : k < 1000000) : oMulA (.tup l, a) (.int (k : Int), b) = some (.tup (List.replicate k l).flatten, .s) := oMulA_of (oMul_tup0 a b l k h hk)
theorem oMulL_of (l : List D) (k : Nat) (h : l.length * k ≤ 10000000) (hk : k ≤ 10000000) : oMulL (.lst l, .f) (.int (k : Int), b) = some (.lst (List.replicate k l).flatten, .f) := by
  have e : (decide (-i62 ≤ (k : Int)) && decide ((k : Int) < i62) && decide (l.length * k ≤ LN)) = true := by
    unfold i62
    rw [Bool.and_eq_true, Bool.and_eq_true, decide_eq_true_eq, decide_eq_true_eq, decide_eq_true_eq]
    refine ⟨⟨by omega, by omega⟩, ?_⟩
    rw [← LN_eq, sizeLine_eq]; omega
  unfold oMulL
  simp only [Int.toNat_natCast, e, if_true]
theorem oMul_lst0 (l : List D) (k : Nat) (h : l.length * k ≤ 10000000) (hk : k ≤ 10000000) : oMulA0 (.lst l, .f) (.int (k : Int), b) = some (.lst (List.replicate k l).flatten, .f) := oMulL_of b l k h hk
theorem oMulA_of0 {x y : D × Fl} {r : D × Fl} (h : oMulA0 x y = some r) : oMulA x y = some r := by
  unfold oMulA; rw [h]
theorem oMul_lst (l : List D) (k : Nat) (h : l.length * k ≤ 10000000) (hk : k ≤ 10000000) : oMulA (.lst l, .f) (.int (k : Int), b) = some (.lst (List.replicate k l).flatten, .f) := oMulA_of0 (oMul_lst0 b l k h hk)
theorem oAdd_tup (x y : List D) : oAdd (.tup x, a) (.tup y, b) = if x.length + y.length ≤ LN then some (.tup (x ++ y), .s) else none := id rfl
theorem oAdd_lst (x y : List D) : oAdd (.lst x, a) (.lst y, b) = if x.length + y.length ≤ LN then some (.lst (x ++ y), .f) else none := id rfl
theorem oAdd_str (x y : List Nat) : oAdd (.str x, a) (.str y, b) = if x.length + y.length ≤ LN then some (.str (x ++ y), .s) else none := id rfl
end
@[simp] theorem oLen_lst (l : List D) : oLen [.lst l] = some (.int (l.length : Nat), .s) := id rfl
@[simp] theorem oLen_tup (l : List D) : oLen [.tup l] = some (.int (l.length : Nat), .s) := id rfl
@[simp] theorem oTuple_lst (l : List D) : oTuple [.lst l] = some (.tup l, .s) := id rfl
@[simp] theorem oTuple_tup (l : List D) : oTuple [.tup l] = some (.tup l, .s) := id rfl
@[simp] theorem oList_lst (l : List D) : oListA [.lst l] = some (.lst l, .f) := id rfl
@[simp] theorem oList_tup (l : List D) : oListA [.tup l] = some (.lst l, .f) := id rfl
@[simp] theorem oInt_int (i : Int) : oInt [.int i] = some (.int i, .s) := id rfl
@[simp] theorem oIs_nn (a b : Fl) : oIs (.non, a) (.non, b) = some (.bl true, .s) := id rfl
@[simp] theorem oIs_in (i : Int) (a b : Fl) : oIs (.int i, a) (.non, b) = some (.bl false, .s) := id rfl
@[simp] theorem oIs_bn (i : Bool) (a b : Fl) : oIs (.bl i, a) (.non, b) = some (.bl false, .s) := id rfl
@[simp] theorem oIs_sn (i : List Nat) (a b : Fl) : oIs (.str i, a) (.non, b) = some (.bl false, .s) := id rfl
@[simp] theorem oIs_tn (i : List D) (a b : Fl) : oIs (.tup i, a) (.non, b) = some (.bl false, .s) := id rfl
@[simp] theorem oIs_ln (i : List D) (a b : Fl) : oIs (.lst i, a) (.non, b) = some (.bl false, .s) := id rfl
@[simp] theorem oIs_bb (i j : Bool) (a b : Fl) : oIs (.bl i, a) (.bl j, b) = some (.bl (i == j), .s) := id rfl
@[simp] theorem oIsN_nn (a b : Fl) : oIsN (.non, a) (.non, b) = some (.bl false, .s) := id rfl
@[simp] theorem oIsN_in (i : Int) (a b : Fl) : oIsN (.int i, a) (.non, b) = some (.bl true, .s) := id rfl
@[simp] theorem oIsN_tn (i : List D) (a b : Fl) : oIsN (.tup i, a) (.non, b) = some (.bl true, .s) := id rfl
@[simp] theorem oIsN_bb (i j : Bool) (a b : Fl) : oIsN (.bl i, a) (.bl j, b) = some (.bl (!(i == j)), .s) := id rfl
@[simp] theorem oMax_2 (i j : Int) : oMax [.int i, .int j] = some (.int (if j > i then j else i), .s) := id rfl
@[simp] theorem oMin_2 (i j : Int) : oMinI [.int i, .int j] = some (.int (if j < i then j else i), .s) := id rfl
/-! ### items by place -/
theorem ixN_nat {n k : Nat} (h : k < n) : L2.ixN n (k : Int) = some k := by
  unfold L2.ixN
  rw [if_pos (by omega), if_pos (by omega), Int.toNat_natCast]
theorem atN {l : List α} {k : Nat} : L2.atI l (k : Int) = l[k]? := by
  unfold L2.atI L2.ixN
  by_cases h : k < l.length
  · simp [h]
  · have : l.length ≤ k := by omega
    simp [h, this]
theorem at0 {l : List α} : L2.atI l 0 = l[0]? := atN (k := 0)
theorem at1 {l : List α} : L2.atI l 1 = l[1]? := atN (k := 1)
theorem at2 {l : List α} : L2.atI l 2 = l[2]? := atN (k := 2)
theorem at3 {l : List α} : L2.atI l 3 = l[3]? := atN (k := 3)
theorem atLast (l : List α) (a : α) : L2.atI (l ++ [a]) (-1) = some a := by
  unfold L2.atI L2.ixN
  have h : ¬ (0 : Int) ≤ -1 := by decide
  have h2 : -((l ++ [a]).length : Int) ≤ -1 := by simp; omega
  have h3 : (-1 + ((l ++ [a]).length : Int)).toNat = l.length := by rw [List.length_append, List.length_singleton]; omega
  rw [if_neg h, if_pos h2]
  show (l ++ [a])[((-1 : Int) + ((l ++ [a]).length : Int)).toNat]? = _
  rw [h3]; simp
theorem atM1 (l : List α) : L2.atI l (-1) = l.getLast? := by
  rcases List.eq_nil_or_concat l with rfl | ⟨l', a, rfl⟩
  · rfl
  · rw [List.concat_eq_append, atLast, List.getLast?_append]; rfl
@[simp] theorem oIx_tup (l : List D) (i : Int) (a b : Fl) : oIx g (.tup l, a) (.int i, b) = (L2.atI l i).map fun d => (d, .s) := by
  unfold oIx oIxS; simp only; cases L2.atI l i <;> rfl
@[simp] theorem oIx_lst (l : List D) (i : Int) (a b : Fl) : oIx g (.lst l, a) (.int i, b) = (L2.atI l i).map fun d => (d, .s) := by
  unfold oIx oIxS; simp only; cases L2.atI l i <;> rfl
theorem oIx_str (l : List Nat) (i : Int) (a b : Fl) : oIx g (.str l, a) (.int i, b) = if l.length ≤ LN then (L2.atI l i).map fun c => (.str [c], .s) else none := by
  unfold oIx oIxS; simp only
  by_cases h : l.length ≤ LN
  · rw [if_pos h]; cases L2.atI l i <;> rfl
  · rw [if_neg h]; rfl
@[simp] theorem isaV_non_int : isaV "int" .non g = .ok (.bl false, .s) g := id rfl
@[simp] theorem isaV_non_bool : isaV "bool" .non g = .ok (.bl false, .s) g := id rfl
@[simp] theorem isaV_non_tuple : isaV "tuple" .non g = .ok (.bl false, .s) g := id rfl
@[simp] theorem isaV_non_list : isaV "list" .non g = .ok (.bl false, .s) g := id rfl
@[simp] theorem isaV_non_str : isaV "str" .non g = .ok (.bl false, .s) g := id rfl
@[simp] theorem isaV_non_dict : isaV "dict" .non g = .ok (.bl false, .s) g := id rfl
@[simp] theorem isaV_bl_int (b : Bool) : isaV "int" (.bl b) g = .ok (.bl true, .s) g := id rfl
@[simp] theorem isaV_bl_bool (b : Bool) : isaV "bool" (.bl b) g = .ok (.bl true, .s) g := id rfl
@[simp] theorem isaV_bl_tuple (b : Bool) : isaV "tuple" (.bl b) g = .ok (.bl false, .s) g := id rfl
@[simp] theorem isaV_bl_list (b : Bool) : isaV "list" (.bl b) g = .ok (.bl false, .s) g := id rfl
@[simp] theorem isaV_bl_str (b : Bool) : isaV "str" (.bl b) g = .ok (.bl false, .s) g := id rfl
@[simp] theorem isaV_bl_dict (b : Bool) : isaV "dict" (.bl b) g = .ok (.bl false, .s) g := id rfl
@[simp] theorem isaV_int_int (i : Int) : isaV "int" (.int i) g = .ok (.bl true, .s) g := id rfl
@[simp] theorem isaV_int_bool (i : Int) : isaV "bool" (.int i) g = .ok (.bl false, .s) g := id rfl
@[simp] theorem isaV_int_tuple (i : Int) : isaV "tuple" (.int i) g = .ok (.bl false, .s) g := id rfl
@[simp] theorem isaV_int_list (i : Int) : isaV "list" (.int i) g = .ok (.bl false, .s) g := id rfl
@[simp] theorem isaV_int_str (i : Int) : isaV "str" (.int i) g = .ok (.bl false, .s) g := id rfl
@[simp] theorem isaV_int_dict (i : Int) : isaV "dict" (.int i) g = .ok (.bl false, .s) g := id rfl
@[simp] theorem isaV_str_int (z : List Nat) : isaV "int" (.str z) g = .ok (.bl false, .s) g := id rfl
@[simp] theorem isaV_str_bool (z : List Nat) : isaV "bool" (.str z) g = .ok (.bl false, .s) g := id rfl
@[simp] theorem isaV_str_tuple (z : List Nat) : isaV "tuple" (.str z) g = .ok (.bl false, .s) g := id rfl
@[simp] theorem isaV_str_list (z : List Nat) : isaV "list" (.str z) g = .ok (.bl false, .s) g := id rfl
@[simp] theorem isaV_str_str (z : List Nat) : isaV "str" (.str z) g = .ok (.bl true, .s) g := id rfl
@[simp] theorem isaV_str_dict (z : List Nat) : isaV "dict" (.str z) g = .ok (.bl false, .s) g := id rfl
@[simp] theorem isaV_tup_int (l : List D) : isaV "int" (.tup l) g = .ok (.bl false, .s) g := id rfl
@[simp] theorem isaV_tup_bool (l : List D) : isaV "bool" (.tup l) g = .ok (.bl false, .s) g := id rfl
@[simp] theorem isaV_tup_tuple (l : List D) : isaV "tuple" (.tup l) g = .ok (.bl true, .s) g := id rfl
@[simp] theorem isaV_tup_list (l : List D) : isaV "list" (.tup l) g = .ok (.bl false, .s) g := id rfl
@[simp] theorem isaV_tup_str (l : List D) : isaV "str" (.tup l) g = .ok (.bl false, .s) g := id rfl
@[simp] theorem isaV_tup_dict (l : List D) : isaV "dict" (.tup l) g = .ok (.bl false, .s) g := id rfl
@[simp] theorem isaV_lst_int (l : List D) : isaV "int" (.lst l) g = .ok (.bl false, .s) g := id rfl
@[simp] theorem isaV_lst_bool (l : List D) : isaV "bool" (.lst l) g = .ok (.bl false, .s) g := id rfl
@[simp] theorem isaV_lst_tuple (l : List D) : isaV "tuple" (.lst l) g = .ok (.bl false, .s) g := id rfl
@[simp] theorem isaV_lst_list (l : List D) : isaV "list" (.lst l) g = .ok (.bl true, .s) g := id rfl
@[simp] theorem isaV_lst_str (l : List D) : isaV "str" (.lst l) g = .ok (.bl false, .s) g := id rfl
@[simp] theorem isaV_lst_dict (l : List D) : isaV "dict" (.lst l) g = .ok (.bl false, .s) g := id rfl
@[simp] theorem isaV_dct_int (m : List (D × D)) : isaV "int" (.dct m) g = .ok (.bl false, .s) g := id rfl
@[simp] theorem isaV_dct_bool (m : List (D × D)) : isaV "bool" (.dct m) g = .ok (.bl false, .s) g := id rfl
@[simp] theorem isaV_dct_tuple (m : List (D × D)) : isaV "tuple" (.dct m) g = .ok (.bl false, .s) g := id rfl
@[simp] theorem isaV_dct_list (m : List (D × D)) : isaV "list" (.dct m) g = .ok (.bl false, .s) g := id rfl
@[simp] theorem isaV_dct_str (m : List (D × D)) : isaV "str" (.dct m) g = .ok (.bl false, .s) g := id rfl
@[simp] theorem isaV_dct_dict (m : List (D × D)) : isaV "dict" (.dct m) g = .ok (.bl true, .s) g := id rfl
@[simp] theorem oStr_str (l : List Nat) : oStr [.str l] = some (.str l, .s) := id rfl
@[simp] theorem rng_map (n : Nat) : rngItems 0 1 n = (List.range n).map fun k => .int ((k : Nat) : Int) := by
  unfold rngItems
  refine List.map_congr_left fun k _ => ?_
  rw [Int.mul_one, Int.zero_add]
@[simp] theorem oIx_hnd0 (x y : Int) (a b : Fl) : oIx (some (x, y)) (.hnd 0, a) (.int 0, b) = some (.int x, .s) := id rfl
@[simp] theorem oIx_hnd1 (x y : Int) (a b : Fl) : oIx (some (x, y)) (.hnd 0, a) (.int 1, b) = some (.int y, .s) := id rfl
/-! ### comprehensions' turns -/
@[simp] theorem lcTurn_eq (t : Tgt) (ft : DenT) (fe : Den) (d : D) : lcTurn t ft fe F ρ d g = optF (t.set d ρ) fun ρ1 => (ft F ρ1 g).bind fun b g1 => if b = true then (fe F ρ1 g1).fz.bind fun a g2 => .ok [a.1] g2 else .ok [] g1 := by
  unfold lcTurn; cases t.set d ρ <;> rfl
@[simp] theorem lcTurn2_eq (t : Tgt) (ft : DenT) (fi1 : DenL) (t1 : Tgt) (ft1 : DenT) (fe : Den) (vs1 : List Nat) (d : D) : lcTurn2 t ft fi1 t1 ft1 fe vs1 F ρ d g = optF (t.set d ρ) fun ρ1 => (ft F ρ1 g).bind fun b g1 => if b = true then (fi1 F ρ1 g1).bind fun ds g2 => lcGo (lcTurn t1 ft1 fe F (wipeE ρ1 vs1)) ds g2 else .ok [] g1 := by
  unfold lcTurn2; cases t.set d ρ <;> rfl
@[simp] theorem wipeE_nil : wipeE ρ [] = ρ := id rfl
@[simp] theorem wipeE_cons (v : Nat) (vs : List Nat) : wipeE ρ (v :: vs) = (wipeE ρ vs).set v .n := id rfl
@[simp] theorem noO_nil : noO [] = [] := id rfl
@[simp] theorem noO_o (d : D) : noO (.o d :: ρ) = .n :: noO ρ := id rfl
@[simp] theorem noO_s (d : D) : noO (.s d :: ρ) = .s d :: noO ρ := id rfl
@[simp] theorem noO_n : noO (.n :: ρ) = .n :: noO ρ := id rfl
@[simp] theorem noO_set (i : Nat) (d : D) : noO (ρ.set i (.o d)) = (noO ρ).set i .n := by unfold noO; rw [List.map_set]
@[simp] theorem lcGo_nil {turn : D → G → R (List D)} : lcGo turn [] g = .ok [] g := id rfl
@[simp] theorem lcGo_cons' {turn : D → G → R (List D)} (d : D) (r : List D) : lcGo turn (d :: r) g = (turn d g).bind fun o g1 => (lcGo turn r g1).bind fun l g2 => .ok (o ++ l) g2 := id rfl
/-- a comprehension that answers for each item -/
theorem lc_flat {ι : Type} {turn : D → G → R (List D)} {e : ι → D} {f : ι → List D} {l : List ι} (h : ∀ a ∈ l, turn (e a) g = .ok (f a) g) : lcGo turn (l.map e) g = .ok (l.flatMap f) g := by
  induction l with
  | nil => rfl
  | cons a r ih =>
    show (turn (e a) g).bind _ = _
    rw [h a (List.mem_cons_self ..), bind_ok, ih fun b hb => h b (List.mem_cons_of_mem _ hb)]
    rfl
theorem lc_map {ι : Type} {turn : D → G → R (List D)} {e : ι → D} (f : ι → D) {l : List ι} (h : ∀ a ∈ l, turn (e a) g = .ok [f a] g) : lcGo turn (l.map e) g = .ok (l.map f) g := by
  rw [lc_flat h]
  congr 1
  induction l with
  | nil => rfl
  | cons a r ih => rw [List.flatMap_cons, ih fun b hb => h b (List.mem_cons_of_mem _ hb)]; rfl
theorem lc_filter {ι : Type} {turn : D → G → R (List D)} {e : ι → D} (p : ι → Bool) (f : ι → D) {l : List ι} (h : ∀ a ∈ l, turn (e a) g = .ok (if p a = true then [f a] else []) g) : lcGo turn (l.map e) g = .ok ((l.filter p).map f) g := by
  rw [lc_flat h]
  congr 1
  induction l with
  | nil => rfl
  | cons a r ih =>
    rw [List.flatMap_cons, ih fun b hb => h b (List.mem_cons_of_mem _ hb), List.filter_cons]
    cases p a <;> rfl
end
/-! ### freezing -/
section
variable {ρ : Env'}
theorem fzE_eq (i : Nat) : fzE i ρ = match ρ[i]? with
  | some (.o d) => ρ.set i (.s d)
  | _ => ρ := by unfold fzE; rcases ρ[i]? with _ | _ | _ | _ <;> rfl
@[simp] theorem fzE_s0 (d : D) : fzE 0 (.s d :: ρ) = .s d :: ρ := id rfl
@[simp] theorem fzE_n0 : fzE 0 (.n :: ρ) = .n :: ρ := id rfl
@[simp] theorem fzE_o0 (d : D) : fzE 0 (.o d :: ρ) = .s d :: ρ := id rfl
@[simp] theorem fzE_succ (i : Nat) (x : Slt) : fzE (i + 1) (x :: ρ) = x :: fzE i ρ := by
  rw [fzE_eq, fzE_eq]
  simp only [List.getElem?_cons_succ]
  rcases ρ[i]? with _ | _ | _ | _ <;> rfl
end
theorem entry_eq (nn : Nat) (ds : List D) : entry nn ds = ds.map Slt.s ++ List.replicate (nn - ds.length) .n := id rfl

/-! ### what holds behind -/
structure Po where
  nx : Env' → G → Prop
  rt : D → Bool → G → Prop
  bk : Env' → G → Prop
  ct : Env' → G → Prop
def SR.Sat (x : SR) (P : Po) : Prop := match x with
  | .nx ρ g => P.nx ρ g
  | .rt d b g => P.rt d b g
  | .bk ρ g => P.bk ρ g
  | .ct ρ g => P.ct ρ g
  | _ => False
def R.Sat {α : Type} (r : R α) (Q : α → G → Prop) : Prop := match r with
  | .ok a g => Q a g
  | _ => False
theorem rsat_congr {α : Type} {r r' : R α} {Q : α → G → Prop} (h : r = r') : r.Sat Q = r'.Sat Q := by rw [h]
theorem ssat_congr {r r' : SR} {P : Po} (h : r = r') : r.Sat P = r'.Sat P := by rw [h]
/-- told, but nothing looks within -/
structure Sa (r : SR) (P : Po) : Prop where
  h : r.Sat P
structure Ra {α : Type} (r : R α) (Q : α → G → Prop) : Prop where
  h : r.Sat Q
section
variable {α β : Type} {F : FT} {ρ : Env'} {g : G} {Q : α → G → Prop} {P : Po}
@[simp] theorem rsat_ok (a : α) : (R.ok a g).Sat Q = Q a g := id rfl
@[simp] theorem ssat_nx : (SR.nx ρ g).Sat P = P.nx ρ g := id rfl
@[simp] theorem ssat_rt (d : D) (b : Bool) : (SR.rt d b g).Sat P = P.rt d b g := id rfl
@[simp] theorem ssat_bk : (SR.bk ρ g).Sat P = P.bk ρ g := id rfl
@[simp] theorem ssat_ct : (SR.ct ρ g).Sat P = P.ct ρ g := id rfl
@[simp] theorem rsat_bind {r : R β} {f : β → G → R α} : (r.bind f).Sat Q = r.Sat fun a g => (f a g).Sat Q := by cases r <;> rfl
@[simp] theorem rsat_fz {r : R (D × Fl)} {Q : D × Fl → G → Prop} : (r.fz).Sat Q = r.Sat fun a g => a.2 ≠ .w ∧ Q (a.1, .s) g := by
  cases r with
  | ok a g => obtain ⟨d, fl⟩ := a; cases fl <;> simp [R.fz, R.Sat]
  | _ => rfl
@[simp] theorem rsat_nox {r : R α} : (r.nox).Sat Q = r.Sat Q := by cases r <;> rfl
def tstP (Q : Bool → G → Prop) : D → G → Prop
  | .bl b, g => Q b g
  | _, _ => False
@[simp] theorem tstP_bl {Q : Bool → G → Prop} (b : Bool) : tstP Q (.bl b) g = Q b g := id rfl
@[simp] theorem rsat_tst {r : R (D × Fl)} {Q : Bool → G → Prop} : (r.tst).Sat Q = r.Sat fun a g => tstP Q a.1 g := by
  cases r with
  | ok a g => obtain ⟨d, fl⟩ := a; cases d <;> rfl
  | _ => rfl
@[simp] theorem ssat_sb {r : R α} {f : α → G → SR} : (r.sb f).Sat P = r.Sat fun a g => (f a g).Sat P := by cases r <;> rfl
@[simp] theorem ssat_sq {x : SR} {k : Env' → G → SR} : (x.sq k).Sat P = x.Sat { P with nx := fun ρ g => (k ρ g).Sat P } := by cases x <;> rfl
@[simp] theorem rsat_fin {x : SR} {Q : D × Bool → G → Prop} : (x.fin).Sat Q = x.Sat ⟨fun _ g => Q (.non, false) g, fun d b g => Q (d, b) g, fun _ _ => False, fun _ _ => False⟩ := by cases x <;> rfl
theorem of_sat {r : R α} {a : α} {g : G} (h : r.Sat fun a' g' => a' = a ∧ g' = g) : r = .ok a g := by
  cases r with
  | ok a g => obtain ⟨rfl, rfl⟩ := h; rfl
  | _ => exact h.elim
theorem R.Sat.get {r : R α} (h : r.Sat Q) : ∃ a g, r = .ok a g ∧ Q a g := by
  cases r with
  | ok a g => exact ⟨a, g, rfl, h⟩
  | _ => exact h.elim
theorem R.Sat.mono {r : R α} {Q' : α → G → Prop} (h : r.Sat Q) (m : ∀ a g, Q a g → Q' a g) : r.Sat Q' := by
  cases r with
  | ok a g => exact m a g h
  | _ => exact h.elim
theorem SR.Sat.mono {r : SR} {P' : Po} (h : r.Sat P) (h1 : ∀ ρ g, P.nx ρ g → P'.nx ρ g) (h2 : ∀ d b g, P.rt d b g → P'.rt d b g) (h3 : ∀ ρ g, P.bk ρ g → P'.bk ρ g) (h4 : ∀ ρ g, P.ct ρ g → P'.ct ρ g) : r.Sat P' := by
  cases r with
  | nx ρ g => exact h1 ρ g h
  | rt d b g => exact h2 d b g h
  | bk ρ g => exact h3 ρ g h
  | ct ρ g => exact h4 ρ g h
  | _ => exact h.elim
/-! ### loops -/
abbrev bodyP (P : Po) (J : Env' → G → Prop) : Po := ⟨J, P.rt, P.nx, J⟩
theorem forGo_cons {t : Tgt} {b : DenS} {d : D} {r : List D} : (forGo t b F (d :: r) ρ g).Sat P = match t.set d ρ with
    | some ρ1 => (b F ρ1 g).Sat (bodyP P fun ρ g => (forGo t b F r ρ g).Sat P)
    | none => False := by
  rw [forGo]
  cases t.set d ρ with
  | none => rfl
  | some ρ1 => dsimp only; cases b F ρ1 g <;> rfl
/-- a loop over mapped items: the items that are done -/
theorem sat_for {ι : Type} {t : Tgt} {b : DenS} {e : ι → D} {l : List ι} (I : List ι → Env' → G → Prop) (h0 : I [] ρ g)
    (hs : ∀ dn a rs, l = dn ++ a :: rs → ∀ ρ g, I dn ρ g → ∃ ρ1, t.set (e a) ρ = some ρ1 ∧ (b F ρ1 g).Sat (bodyP P (I (dn ++ [a]))))
    (hd : ∀ ρ g, I l ρ g → P.nx ρ g) : (forGo t b F (l.map e) ρ g).Sat P := by
  suffices H : ∀ rs dn ρ g, l = dn ++ rs → I dn ρ g → (forGo t b F (rs.map e) ρ g).Sat P from H l [] ρ g rfl h0
  intro rs
  induction rs with
  | nil => intro dn ρ g e1 h; rw [List.append_nil] at e1; subst e1; exact hd ρ g h
  | cons a rs ih =>
    intro dn ρ g e1 h
    obtain ⟨ρ1, h1, h2⟩ := hs dn a rs e1 ρ g h
    rw [List.map_cons, forGo_cons, h1]
    exact h2.mono (fun ρ g q => ih (dn ++ [a]) ρ g (by rw [e1]; simp) q) (fun _ _ _ q => q) (fun _ _ q => q) (fun ρ g q => ih (dn ++ [a]) ρ g (by rw [e1]; simp) q)
theorem sat_forD {t : Tgt} {b : DenS} {l : List D} (I : List D → Env' → G → Prop) (h0 : I [] ρ g)
    (hs : ∀ dn a rs, l = dn ++ a :: rs → ∀ ρ g, I dn ρ g → ∃ ρ1, t.set a ρ = some ρ1 ∧ (b F ρ1 g).Sat (bodyP P (I (dn ++ [a]))))
    (hd : ∀ ρ g, I l ρ g → P.nx ρ g) : (forGo t b F l ρ g).Sat P := by
  have := sat_for (t := t) (b := b) (F := F) (P := P) (ρ := ρ) (g := g) (e := fun d => d) (l := l) I h0 hs hd
  rwa [List.map_id'] at this
theorem range_split {n : Nat} {dn rs : List Nat} {a : Nat} (e1 : List.range n = dn ++ a :: rs) : a = dn.length ∧ dn.length < n := by
  have hl : dn.length < n := by
    have := congrArg List.length e1
    simp at this
    omega
  refine ⟨?_, hl⟩
  have := congrArg (fun l => l[dn.length]?) e1
  simp [hl] at this
  exact this.symm
/-- a loop over a range -/
theorem sat_rng {t : Tgt} {b : DenS} {n : Nat} {e : Nat → D} (I : Nat → Env' → G → Prop) (h0 : I 0 ρ g)
    (hs : ∀ k, k < n → ∀ ρ g, I k ρ g → ∃ ρ1, t.set (e k) ρ = some ρ1 ∧ (b F ρ1 g).Sat (bodyP P (I (k + 1))))
    (hd : ∀ ρ g, I n ρ g → P.nx ρ g) : (forGo t b F ((List.range n).map e) ρ g).Sat P := by
  refine sat_for (fun dn => I dn.length) h0 (fun dn a rs e1 ρ g h => ?_) (fun ρ g h => hd ρ g (by simpa using h))
  obtain ⟨rfl, hl⟩ := range_split e1
  simpa using hs _ hl ρ g h
/-- a while by a measure -/
theorem sat_while {c : DenT} {b : DenS} {n : Nat} (m : Nat) (I : Nat → Env' → G → Prop) (hm : m < n) (h0 : I m ρ g)
    (hs : ∀ k ρ g, k ≤ m → I k ρ g → (c F ρ g).Sat fun t g1 => if t = true then (b F ρ g1).Sat (bodyP P fun ρ g => ∃ k', k' < k ∧ I k' ρ g) else P.nx ρ g1) : (whileGo c b F n ρ g).Sat P := by
  suffices H : ∀ n k ρ g, k < n → k ≤ m → I k ρ g → (whileGo c b F n ρ g).Sat P from H n m ρ g hm (Nat.le_refl _) h0
  intro n
  induction n with
  | zero => intro k ρ g h; exact absurd h (Nat.not_lt_zero _)
  | succ n ih =>
    intro k ρ g hk hkm hI
    unfold whileGo
    rw [ssat_sb]
    refine (hs k ρ g hkm hI).mono fun t g1 h => ?_
    cases t with
    | false => simpa using h
    | true =>
      simp only [if_true] at h ⊢
      cases q : b F ρ g1 with
      | nx ρ1 g2 => rw [q] at h; obtain ⟨k', h1, h2⟩ := h; exact ih k' ρ1 g2 (by omega) (by omega) h2
      | ct ρ1 g2 => rw [q] at h; obtain ⟨k', h1, h2⟩ := h; exact ih k' ρ1 g2 (by omega) (by omega) h2
      | bk ρ1 g2 => rw [q] at h; exact h
      | rt => rw [q] at h; exact h
      | exc => rw [q] at h; exact h
      | bad => rw [q] at h; exact h
/-- a comprehension whose turns change the state -/
theorem sat_lc {ι : Type} {turn : D → G → R (List D)} {e : ι → D} {l : List ι} {Q : List D → G → Prop} (I : List ι → List D → G → Prop) (h0 : I [] [] g)
    (hs : ∀ dn a rs, l = dn ++ a :: rs → ∀ acc g, I dn acc g → (turn (e a) g).Sat fun o g1 => I (dn ++ [a]) (acc ++ o) g1)
    (hd : ∀ acc g, I l acc g → Q acc g) : (lcGo turn (l.map e) g).Sat Q := by
  suffices H : ∀ rs dn acc g, l = dn ++ rs → I dn acc g → (lcGo turn (rs.map e) g).Sat fun o g1 => Q (acc ++ o) g1 by
    have := H l [] [] g rfl h0
    simpa using this
  intro rs
  induction rs with
  | nil =>
    intro dn acc g e1 h
    rw [List.append_nil] at e1; subst e1
    show Q (acc ++ []) g
    rw [List.append_nil]; exact hd _ _ h
  | cons a rs ih =>
    intro dn acc g e1 h
    rw [List.map_cons, lcGo_cons', rsat_bind]
    refine (hs dn a rs e1 acc g h).mono fun o g1 h1 => ?_
    rw [rsat_bind]
    refine (ih (dn ++ [a]) (acc ++ o) g1 (by rw [e1]; simp) h1).mono fun l g2 h2 => ?_
    rw [rsat_ok, ← List.append_assoc]; exact h2
/-- a comprehension over a range, the state changes -/
theorem sat_lcR {turn : D → G → R (List D)} {e : Nat → D} {n : Nat} {Q : List D → G → Prop} (I : Nat → List D → G → Prop) (h0 : I 0 [] g)
    (hs : ∀ k, k < n → ∀ acc g, I k acc g → (turn (e k) g).Sat fun o g1 => I (k + 1) (acc ++ o) g1)
    (hd : ∀ acc g, I n acc g → Q acc g) : (lcGo turn ((List.range n).map e) g).Sat Q := by
  refine sat_lc (fun dn => I dn.length) h0 (fun dn a rs e1 acc g h => ?_) (fun acc g h => hd acc g (by simpa using h))
  obtain ⟨rfl, hl⟩ := range_split e1
  simpa using hs _ hl acc g h
end
theorem callF_succ (bd : Bd) (n i : Nat) (ds : List D) (g : G) (np nn : Nat) (b : DenS) (h : bd i = some (np, nn, b)) (hl : ds.length = np) : callF bd (n + 1) i ds g = (b (callF bd n) (entry nn ds) g).fin := by
  show (match bd i with | some (np, nn, b) => if ds.length = np then (b (callF bd n) (entry nn ds) g).fin else .bad | none => .bad) = _
  rw [h]; simp only [hl, if_true]
theorem mulOk_l {i j : Int} (h : i.natAbs < 18446744073709551616) : mulOk i j = true := by
  unfold mulOk
  simp [h]
theorem mulOk_r {i j : Int} (h : j.natAbs < 18446744073709551616) : mulOk i j = true := by
  unfold mulOk
  simp [h]
theorem mulOk_mod {z c w : Int} (h : 0 < c) (h2 : c < 18446744073709551616) : mulOk (z % c) w = true := mulOk_l (by
  have := Int.emod_nonneg z (by omega : c ≠ 0)
  have := Int.emod_lt_of_pos z h
  omega)
theorem smallI_nat (m : Nat) (h : m < 1000000000) : smallI (m : Int) = true := by
  unfold smallI i62
  rw [Bool.and_eq_true, decide_eq_true_eq, decide_eq_true_eq]
  omega
end Ev
end

section
/-! W1: lists, equality, dicts, told in plain types. -/
namespace Ev
open PySem PySem.Spec L2
open PyProof.Rows hiding St
/-! ### lists -/
theorem cut1 {α : Type} (l : List α) : cutA l (some 1) none = l.tail := by
  have h : HT.sIx l.length 0 (some 1) = min 1 l.length := by
    simp [HT.sIx]
  have h' : HT.sIx l.length l.length none = l.length := by simp [HT.sIx]
  unfold cutA
  rw [h, h']
  cases l with
  | nil => rfl
  | cons a r => simp
theorem zipD_map {α β : Type} (e : α → D) (f : β → D) (l : List α) (m : List β) : zipD (l.map e) (m.map f) = (l.zip m).map fun p => .tup [e p.1, f p.2] := by
  unfold zipD
  induction l generalizing m with
  | nil => rfl
  | cons a r ih => cases m with
    | nil => rfl
    | cons b s => simp only [List.map_cons, List.zipWith_cons_cons, List.zip_cons_cons, ih s]
theorem nbrs {α : Type} {R : α → α → Prop} : ∀ {l : List α}, l.Pairwise R → ∀ p ∈ l.zip (l.tail), R p.1 p.2
  | [], _, p, h => by simp at h
  | [a], _, p, h => by simp at h
  | a :: b :: r, h, p, hp => by
    obtain ⟨h1, h2⟩ := List.pairwise_cons.mp h
    simp only [List.tail_cons, List.zip_cons_cons, List.mem_cons] at hp
    rcases hp with rfl | hp
    · exact h1 b (List.mem_cons_self ..)
    · exact nbrs h2 p (by simpa using hp)
theorem bools_map {α : Type} (f : α → Bool) (l : List α) : D.bools (l.map fun a => .bl (f a)) = some (l.map f) := by
  induction l with
  | nil => rfl
  | cons a r ih => rw [List.map_cons, D.bools, ih]; rfl
theorem oAll_map {α : Type} (f : α → Bool) (l : List α) : oAll [.lst (l.map fun a => .bl (f a))] = some (.bl (l.all f), .s) := by
  unfold oAll
  simp only [bools_map, Option.map_some]
  congr 3
  induction l with
  | nil => rfl
  | cons a r ih => simp only [List.map_cons, List.all_cons, ih, id]
theorem oAny_map {α : Type} (f : α → Bool) (l : List α) : oAny [.lst (l.map fun a => .bl (f a))] = some (.bl (l.any f), .s) := by
  unfold oAny
  simp only [bools_map, Option.map_some]
  congr 3
  induction l with
  | nil => rfl
  | cons a r ih => simp only [List.map_cons, List.any_cons, ih, id]
theorem all_tt {α : Type} (l : List α) : (l.all fun _ => true) = true := List.all_eq_true.mpr fun _ _ => rfl
theorem any_ff {α : Type} (l : List α) : (l.any fun _ => false) = false := by induction l <;> simp_all
theorem all_of {α : Type} {f : α → Bool} {l : List α} (h : ∀ a ∈ l, f a = true) : l.all f = true := List.all_eq_true.mpr h
theorem any_not {α : Type} {f : α → Bool} {l : List α} (h : ∀ a ∈ l, f a = false) : l.any f = false := by
  rw [Bool.eq_false_iff]
  intro q
  obtain ⟨a, ha, e⟩ := List.any_eq_true.mp q
  rw [h a ha] at e; cases e
theorem bools_lst (bs : List Bool) : D.bools (bs.map .bl) = some bs := by
  have := bools_map (fun b : Bool => b) bs
  rwa [List.map_id'] at this
theorem oAll_flat {α : Type} (f : α → List Bool) (l : List α) : oAll [.lst (l.flatMap fun a => (f a).map .bl)] = some (.bl (l.all fun a => (f a).all id), .s) := by
  have e : (l.flatMap fun a => (f a).map D.bl) = (l.flatMap f).map .bl := by rw [List.map_flatMap]
  unfold oAll
  simp only [e, bools_lst, Option.map_some, List.all_flatMap]
theorem flat_len {α β : Type} {f : α → List β} {k : Nat} {l : List α} (h : ∀ a ∈ l, (f a).length ≤ k) : (l.flatMap f).length ≤ l.length * k := by
  induction l with
  | nil => simp
  | cons a r ih =>
    rw [List.flatMap_cons, List.length_append, List.length_cons, Nat.succ_mul]
    have := h a (List.mem_cons_self ..)
    have := ih fun b hb => h b (List.mem_cons_of_mem _ hb)
    omega
theorem flat_ints : ∀ (l : List Int), (l.map D.int).all D.flat = true
  | [] => rfl
  | _ :: r => by simp [D.flat]
theorem isIn_ints (i : Int) (l : List Int) : (D.int i).isIn (l.map .int) = decide (i ∈ l) := by
  unfold D.isIn
  rw [Bool.eq_iff_iff, List.any_eq_true, decide_eq_true_eq]
  constructor
  · rintro ⟨y, hy, h⟩
    obtain ⟨a, ha, rfl⟩ := List.mem_map.mp hy
    have : a = i := eq_of_beq (show (a == i) = true from h)
    exact this ▸ ha
  · intro h
    exact ⟨.int i, List.mem_map.mpr ⟨i, h, rfl⟩, show (i == i) = true from beq_self_eq_true i⟩
theorem oInS_tup (neg : Bool) (i : Int) (l : List Int) (a b : Fl) : oInS neg (.int i, a) (.tup (l.map .int), b) = some (.bl (if neg then !decide (i ∈ l) else decide (i ∈ l)), .s) := by
  unfold oInS; simp only [flat_ints, isIn_ints]; simp [D.flat]
theorem oInS_lst (neg : Bool) (i : Int) (l : List Int) (a b : Fl) : oInS neg (.int i, a) (.lst (l.map .int), b) = some (.bl (if neg then !decide (i ∈ l) else decide (i ∈ l)), .s) := by
  unfold oInS; simp only [flat_ints, isIn_ints]; simp [D.flat]
theorem oIn_tup (i : Int) (l : List Int) (a b : Fl) : oIn (.int i, a) (.tup (l.map .int), b) = some (.bl (decide (i ∈ l)), .s) := by
  unfold oIn oIn0; rw [oInS_tup]; rfl
theorem oIn_lst (i : Int) (l : List Int) (a b : Fl) : oIn (.int i, a) (.lst (l.map .int), b) = some (.bl (decide (i ∈ l)), .s) := by
  unfold oIn oIn0; rw [oInS_lst]; rfl
theorem oNi_tup (i : Int) (l : List Int) (a b : Fl) : oNi (.int i, a) (.tup (l.map .int), b) = some (.bl (!decide (i ∈ l)), .s) := by
  unfold oNi oNi0; rw [oInS_tup]; rfl
theorem oNi_lst (i : Int) (l : List Int) (a b : Fl) : oNi (.int i, a) (.lst (l.map .int), b) = some (.bl (!decide (i ∈ l)), .s) := by
  unfold oNi oNi0; rw [oInS_lst]; rfl
theorem seqD_lst (l : List D) : seqD (.lst l) = some (false, l) := id rfl
theorem seqD_tup (l : List D) : seqD (.tup l) = some (true, l) := id rfl
theorem oSl_lst (l : List D) (a : Fl) (lo hi : Option Int) : oSl (.lst l, a) lo hi = some (.lst (cutA l lo hi), .f) := id rfl
theorem oSl_tup (l : List D) (a : Fl) (lo hi : Option Int) : oSl (.tup l, a) lo hi = some (.tup (cutA l lo hi), .s) := id rfl
theorem intsD_map (l : List Int) : D.ints (l.map .int) = some l := D.ints_map l
theorem oSum_lst (l : List Int) : oSum [.lst (l.map .int)] = some (.int l.sum, .s) := by unfold oSum; simp only [intsD_map]; rfl
theorem oSum_tup (l : List Int) : oSum [.tup (l.map .int)] = some (.int l.sum, .s) := by unfold oSum; simp only [intsD_map]; rfl
theorem oSort_lst (l : List Int) : oSort [.lst (l.map .int)] = some (.lst ((isort l).map .int), .f) := by
  have e : oSortI [.lst (l.map .int)] = some (.lst ((isort l).map .int), .f) := by
    show ((D.ints (l.map .int)).map fun ns => _) = _
    rw [intsD_map]; rfl
  unfold oSort; rw [e]
theorem oSort_tup (l : List Int) : oSort [.tup (l.map .int)] = some (.lst ((isort l).map .int), .f) := by
  have e : oSortI [.tup (l.map .int)] = some (.lst ((isort l).map .int), .f) := by
    show ((D.ints (l.map .int)).map fun ns => _) = _
    rw [intsD_map]; rfl
  unfold oSort; rw [e]
theorem sorted_lt {l : List Int} (h : l.Pairwise (· ≤ ·)) (nd : l.Nodup) : l.Pairwise (· < ·) := by
  induction l with
  | nil => exact .nil
  | cons a r ih =>
    obtain ⟨h1, h2⟩ := List.pairwise_cons.mp h
    rw [List.nodup_cons] at nd
    exact List.pairwise_cons.mpr ⟨fun b hb => by
      have := h1 b hb
      have : a ≠ b := fun e => nd.1 (e ▸ hb)
      omega, ih h2 nd.2⟩
/-- an ascending list is told by what is in it -/
theorem sorted_ext : ∀ {l m : List Int}, l.Pairwise (· < ·) → m.Pairwise (· < ·) → (∀ a, a ∈ l ↔ a ∈ m) → l = m
  | [], [], _, _, _ => rfl
  | [], b :: m, _, _, h => by have := (h b).mpr (List.mem_cons_self ..); cases this
  | a :: l, [], _, _, h => by have := (h a).mp (List.mem_cons_self ..); cases this
  | a :: l, b :: m, h1, h2, h => by
    obtain ⟨p1, p2⟩ := List.pairwise_cons.mp h1
    obtain ⟨q1, q2⟩ := List.pairwise_cons.mp h2
    have hab : a = b := by
      rcases List.mem_cons.mp ((h a).mp (List.mem_cons_self ..)) with e | e
      · exact e
      · rcases List.mem_cons.mp ((h b).mpr (List.mem_cons_self ..)) with e' | e'
        · exact e'.symm
        · have := p1 b e'; have := q1 a e; omega
    subst hab
    congr 1
    refine sorted_ext p2 q2 fun c => ?_
    constructor
    · intro hc
      rcases List.mem_cons.mp ((h c).mp (List.mem_cons_of_mem _ hc)) with e | e
      · subst e; have := p1 c hc; omega
      · exact e
    · intro hc
      rcases List.mem_cons.mp ((h c).mpr (List.mem_cons_of_mem _ hc)) with e | e
      · subst e; have := q1 c hc; omega
      · exact e
theorem fzE_any (a : Slt) (ρ : Env') : ∃ a', fzE 0 (a :: ρ) = a' :: ρ := by cases a <;> exact ⟨_, rfl⟩
theorem LN_le {k : Nat} (h : k ≤ 10000000) : k ≤ LN := by unfold LN; omega
theorem LN_lt {k : Nat} (h : k ≤ 10000000) : k < LN := by unfold LN; omega

/-! ### equality -/
structure EqE {α : Type} [DecidableEq α] (e : α → D) (k : Nat) : Prop where
  eqv : ∀ a b, PyData.eqv (e a).py (e b).py = decide (a = b)
  lay : ∀ a, (e a).py.canLay0 = true
  dep : ∀ a, (e a).py.depth ≤ k
theorem EqE.mono {α : Type} [DecidableEq α] {e : α → D} {k j : Nat} (h : EqE e k) (hk : k ≤ j) : EqE e j := ⟨h.eqv, h.lay, fun a => Nat.le_trans (h.dep a) hk⟩
theorem EqE.int {k : Nat} : EqE D.int k := ⟨fun a b => by
  simp only [D.py, PyData.eqv]
  rw [Bool.eq_iff_iff, beq_iff_eq, decide_eq_true_eq], fun a => by simp only [D.py, PyData.canLay0], fun a => by simp only [D.py, PyData.depth]; exact Nat.zero_le _⟩
theorem pys_map {α : Type} (e : α → D) (l : List α) : D.pys (l.map e) = l.map fun a => (e a).py := by
  induction l with
  | nil => simp only [List.map_nil, D.pys]
  | cons a r ih => simp only [List.map_cons, D.pys, ih]
section
variable {α β γ : Type} [DecidableEq α] [DecidableEq β] [DecidableEq γ] {e : α → D} {f : β → D} {h : γ → D} {k : Nat}
theorem EqE.all (he : EqE e k) : ∀ l m : List α, PyData.eqvAll (D.pys (l.map e)) (D.pys (m.map e)) = decide (l = m)
  | [], [] => by simp [D.pys, PyData.eqvAll]
  | [], _ :: _ => by simp [D.pys, PyData.eqvAll]
  | _ :: _, [] => by simp [D.pys, PyData.eqvAll]
  | a :: l, b :: m => by
    simp only [List.map_cons, D.pys, PyData.eqvAll, he.eqv, EqE.all he l m]
    rw [Bool.eq_iff_iff]
    simp
theorem EqE.layAll (he : EqE e k) : ∀ l : List α, PyData.canLayAll0 (D.pys (l.map e)) = true
  | [] => by simp [D.pys, PyData.canLayAll0]
  | a :: l => by simp only [List.map_cons, D.pys, PyData.canLayAll0, he.lay, EqE.layAll he l, Bool.and_self]
theorem EqE.depAll (he : EqE e k) : ∀ l : List α, PyData.depthAll (D.pys (l.map e)) ≤ k
  | [] => by simp [D.pys, PyData.depthAll]
  | a :: l => by
    simp only [List.map_cons, D.pys, PyData.depthAll]
    have := he.dep a; have := EqE.depAll he l
    omega
theorem EqE.tup (he : EqE e k) : EqE (fun l : List α => .tup (l.map e)) (k + 1) :=
  ⟨fun l m => by simp only [D.py, PyData.eqv, he.all], fun l => by simp only [D.py, PyData.canLay0, he.layAll], fun l => by simp only [D.py, PyData.depth]; have := he.depAll l; omega⟩
theorem EqE.lst (he : EqE e k) : EqE (fun l : List α => .lst (l.map e)) (k + 1) :=
  ⟨fun l m => by simp only [D.py, PyData.eqv, he.all], fun l => by simp only [D.py, PyData.canLay0, he.layAll], fun l => by simp only [D.py, PyData.depth]; have := he.depAll l; omega⟩
theorem EqE.pair (he : EqE e k) (hf : EqE f k) : EqE (fun p : α × β => .tup [e p.1, f p.2]) (k + 1) :=
  ⟨fun l m => by
      simp only [D.py, D.pys, PyData.eqv, PyData.eqvAll, he.eqv, hf.eqv]
      obtain ⟨a, b⟩ := l; obtain ⟨c, d⟩ := m
      rw [Bool.eq_iff_iff]; simp, fun l => by simp only [D.py, D.pys, PyData.canLay0, PyData.canLayAll0, he.lay, hf.lay, Bool.and_self], fun l => by
      simp only [D.py, D.pys, PyData.depth, PyData.depthAll]
      have := he.dep l.1; have := hf.dep l.2
      omega⟩
theorem EqE.triple (he : EqE e k) (hf : EqE f k) (hh : EqE h k) : EqE (fun p : α × β × γ => .tup [e p.1, f p.2.1, h p.2.2]) (k + 1) :=
  ⟨fun l m => by
      simp only [D.py, D.pys, PyData.eqv, PyData.eqvAll, he.eqv, hf.eqv, hh.eqv]
      obtain ⟨a, b, c⟩ := l; obtain ⟨a', b', c'⟩ := m
      rw [Bool.eq_iff_iff]; simp, fun l => by simp only [D.py, D.pys, PyData.canLay0, PyData.canLayAll0, he.lay, hf.lay, hh.lay, Bool.and_self], fun l => by
      simp only [D.py, D.pys, PyData.depth, PyData.depthAll]
      have := he.dep l.1; have := hf.dep l.2.1; have := hh.dep l.2.2
      omega⟩
theorem EqE.shp (he : EqE e k) (hk : k ≤ 64) (a : α) : (e a).shp = true := by
  unfold D.shp SeqAt.shaped
  rw [he.lay a, Bool.true_and, decide_eq_true_eq]
  exact Nat.le_trans (he.dep a) hk
theorem oEqD_E (he : EqE e k) (hk : k ≤ 64) (neg : Bool) (a b : α) (x y : Fl) : oEqD neg (e a, x) (e b, y) = some (.bl (if neg then !decide (a = b) else decide (a = b)), .s) := by
  have key : (if (e a).shp = true ∧ (e b).shp = true then some (D.bl (if neg then !PyData.eqv (e a).py (e b).py else PyData.eqv (e a).py (e b).py), Fl.s) else none) = some (.bl (if neg then !decide (a = b) else decide (a = b)), .s) := by
    rw [if_pos ⟨he.shp hk a, he.shp hk b⟩, he.eqv]
  unfold oEqD
  dsimp only
  have hv := he.eqv a b
  generalize e a = da at key hv ⊢
  generalize e b = db at key hv ⊢
  cases da with
  | int i => cases db with
    | int j =>
      have : decide (i = j) = decide (a = b) := by
        rw [← hv]
        simp only [D.py, PyData.eqv]
        rw [Bool.eq_iff_iff, beq_iff_eq, decide_eq_true_eq]
      simp only [this]
    | _ => exact key
  | _ => exact key
theorem oEq_E (he : EqE e k) (hk : k ≤ 64) (a b : α) (x y : Fl) : oEq (e a, x) (e b, y) = some (.bl (decide (a = b)), .s) := oEqD_E he hk false a b x y
theorem oNe_E (he : EqE e k) (hk : k ≤ 64) (a b : α) (x y : Fl) : oNe (e a, x) (e b, y) = some (.bl (!decide (a = b)), .s) := oEqD_E he hk true a b x y
end
theorem oEq_lst (l m : List Int) (x y : Fl) : oEq (.lst (l.map .int), x) (.lst (m.map .int), y) = some (.bl (decide (l = m)), .s) := oEq_E (EqE.lst (EqE.int (k := 0))) (by decide) l m x y
theorem oEq_tup (l m : List Int) (x y : Fl) : oEq (.tup (l.map .int), x) (.tup (m.map .int), y) = some (.bl (decide (l = m)), .s) := oEq_E (EqE.tup (EqE.int (k := 0))) (by decide) l m x y
theorem oNe_lst (l m : List Int) (x y : Fl) : oNe (.lst (l.map .int), x) (.lst (m.map .int), y) = some (.bl (!decide (l = m)), .s) := oNe_E (EqE.lst (EqE.int (k := 0))) (by decide) l m x y
theorem oNe_tup (l m : List Int) (x y : Fl) : oNe (.tup (l.map .int), x) (.tup (m.map .int), y) = some (.bl (!decide (l = m)), .s) := oNe_E (EqE.tup (EqE.int (k := 0))) (by decide) l m x y
theorem oEq_nil {α : Type} [DecidableEq α] {e : α → D} {k : Nat} (he : EqE e k) (hk : k + 1 ≤ 64) (l : List α) (x y : Fl) : oEq (.lst (l.map e), x) (.lst [], y) = some (.bl (decide (l = [])), .s) := oEq_E (EqE.lst he) hk l [] x y
theorem oNe_nil {α : Type} [DecidableEq α] {e : α → D} {k : Nat} (he : EqE e k) (hk : k + 1 ≤ 64) (l : List α) (x y : Fl) : oNe (.lst (l.map e), x) (.lst [], y) = some (.bl (!decide (l = [])), .s) := oNe_E (EqE.lst he) hk l [] x y

mutual
theorem eqv_refl' : ∀ d : D, d.py.canLay0 = true → PyData.eqv d.py d.py = true
  | .non, _ => by simp [D.py, PyData.eqv]
  | .bl b, _ => by simp [D.py, PyData.eqv]
  | .int i, _ => by simp [D.py, PyData.eqv]
  | .str s, _ => by simp [D.py, PyData.eqv]
  | .tup l, h => by simp only [D.py, PyData.eqv]; simp only [D.py, PyData.canLay0] at h; exact eqv_refls l h
  | .lst l, h => by simp only [D.py, PyData.eqv]; simp only [D.py, PyData.canLay0] at h; exact eqv_refls l h
  | .dct m, h => by simp [D.py, PyData.canLay0] at h
  | .fn k, h => by simp [D.py, PyData.canLay0] at h
  | .hnd k, h => by simp [D.py, PyData.canLay0] at h
theorem eqv_refls : ∀ l : List D, PyData.canLayAll0 (D.pys l) = true → PyData.eqvAll (D.pys l) (D.pys l) = true
  | [], _ => by simp [D.pys, PyData.eqvAll]
  | d :: l, h => by
    simp only [D.pys, PyData.canLayAll0, Bool.and_eq_true] at h
    simp only [D.pys, PyData.eqvAll, Bool.and_eq_true]
    exact ⟨eqv_refl' d h.1, eqv_refls l h.2⟩
end
theorem oEq_refl (d : D) (h : d.shp = true) (x y : Fl) : oEq (d, x) (d, y) = some (.bl true, .s) := by
  have hs := h
  unfold D.shp SeqAt.shaped at hs
  rw [Bool.and_eq_true] at hs
  unfold oEq oEqD
  dsimp only
  cases d with
  | int i => simp
  | _ => simp only [h, and_self, if_true, eqv_refl' _ hs.1]; rfl
theorem oNe_refl (d : D) (h : d.shp = true) (x y : Fl) : oNe (d, x) (d, y) = some (.bl false, .s) := by
  have hs := h
  unfold D.shp SeqAt.shaped at hs
  rw [Bool.and_eq_true] at hs
  unfold oNe oEqD
  dsimp only
  cases d with
  | int i => simp
  | _ => simp only [h, and_self, if_true, eqv_refl' _ hs.1]; rfl

/-! ### dicts by plain keys -/
/-- keys told plainly -/
structure KeyE {κ : Type} [DecidableEq κ] (e : κ → D) (t : Bool) : Prop where
  eq : ∀ a b, (e a).keq (e b) = decide (a = b)
  kok : ∀ a, ((e a).kok && decide ((e a).key.depth ≤ 8)) = true
  tup : ∀ a, (e a).isTup = t
def lk {κ ν : Type} [DecidableEq κ] : List (κ × ν) → κ → Option ν
  | [], _ => none
  | q :: r, k => if q.1 = k then some q.2 else lk r k
def pt {κ ν : Type} [DecidableEq κ] (l : List (κ × ν)) (k : κ) (v : ν) : List (κ × ν) := if k ∈ l.map (·.1) then l.map (fun p => if p.1 = k then (p.1, v) else p) else l ++ [(k, v)]
def dc {κ ν : Type} (e : κ → D) (f : ν → D) (l : List (κ × ν)) : D := .dct (l.map fun p => (e p.1, f p.2))
theorem lk_some {κ ν : Type} [DecidableEq κ] {l : List (κ × ν)} {k : κ} : (lk l k).isSome = decide (k ∈ l.map (·.1)) := by
  induction l with
  | nil => rfl
  | cons a r ih =>
    unfold lk
    by_cases h : a.1 = k
    · simp [h]
    · rw [if_neg h, ih, Bool.eq_iff_iff, decide_eq_true_eq, decide_eq_true_eq, List.map_cons, List.mem_cons]
      exact ⟨.inr, fun q => q.resolve_left fun z => h z.symm⟩
theorem oInS_dct (neg : Bool) (d : D) (kvs : List (D × D)) (a b : Fl) : oInS neg (d, a) (.dct kvs, b) = none := by
  unfold oInS; cases d <;> rfl
section
variable {κ ν : Type} [DecidableEq κ] {e : κ → D} {f : ν → D} {t : Bool} (he : KeyE e t) {g : G}
include he
theorem fit_dc (l : List (κ × ν)) (k : κ) : D.fit (l.map fun p => (e p.1, f p.2)) (e k) = true := by
  unfold D.fit
  rw [he.kok, Bool.true_and]
  cases l with
  | nil => rfl
  | cons a r => simp only [List.map_cons, he.tup, beq_self_eq_true]
theorem look_dc (l : List (κ × ν)) (k : κ) : D.look (l.map fun p => (e p.1, f p.2)) (e k) = (lk l k).map f := by
  unfold D.look
  induction l with
  | nil => rfl
  | cons a r ih =>
    unfold lk
    by_cases h : a.1 = k
    · simp only [List.map_cons, List.find?_cons, he.eq, h, decide_true, if_true]; rfl
    · simp only [List.map_cons, List.find?_cons, he.eq, h, decide_false, if_false, ih]
theorem any_dc (l : List (κ × ν)) (k : κ) : ((l.map fun p => (e p.1, f p.2)).any fun p => p.1.keq (e k)) = decide (k ∈ l.map (·.1)) := by
  rw [Bool.eq_iff_iff, decide_eq_true_eq, List.any_eq_true]
  constructor
  · rintro ⟨y, hy, h⟩
    obtain ⟨a, ha, rfl⟩ := List.mem_map.mp hy
    rw [he.eq, decide_eq_true_eq] at h
    exact h ▸ List.mem_map.mpr ⟨a, ha, rfl⟩
  · intro h
    obtain ⟨a, ha, rfl⟩ := List.mem_map.mp h
    exact ⟨_, List.mem_map.mpr ⟨a, ha, rfl⟩, by rw [he.eq]; exact decide_eq_true rfl⟩
theorem put_dc (l : List (κ × ν)) (k : κ) (v : ν) : D.put (l.map fun p => (e p.1, f p.2)) (e k) (f v) = (pt l k v).map fun p => (e p.1, f p.2) := by
  unfold D.put pt
  rw [any_dc he]
  by_cases h : k ∈ l.map (·.1)
  · rw [if_pos (decide_eq_true h), if_pos h, List.map_map, List.map_map]
    refine List.map_congr_left fun a ha => ?_
    show (if (e a.1).keq (e k) = true then _ else _) = _
    rw [he.eq]
    by_cases q : a.1 = k
    · simp [q]
    · simp [q]
  · rw [if_neg (by simpa using h), if_neg h]
    simp
theorem oIx_dc (l : List (κ × ν)) (k : κ) (a : Fl) : oIx g (dc e f l, a) (e k, .s) = (lk l k).map fun v => (f v, .s) := by
  unfold oIx dc
  have h0 : oIxS g (.dct (l.map fun p => (e p.1, f p.2)), a) (e k, .s) = none := by
    unfold oIxS; cases e k <;> rfl
  rw [h0]
  show (if D.fit _ (e k) = true then (D.look _ (e k)).map fun d => (d, Fl.s) else none) = _
  rw [fit_dc he, if_pos rfl, look_dc he]
  cases lk l k <;> rfl
theorem oIn_dc (l : List (κ × ν)) (k : κ) (a : Fl) : oIn (e k, .s) (dc e f l, a) = some (.bl (decide (k ∈ l.map (·.1))), .s) := by
  have q : oIn0 (e k, .s) (dc e f l, a) = some (.bl (decide (k ∈ l.map (·.1))), .s) := by
    unfold oIn0 dc
    rw [oInS_dct]
    show (if D.fit _ (e k) = true then some (D.bl (D.look _ (e k)).isSome, Fl.s) else none) = _
    rw [fit_dc he, if_pos rfl, look_dc he, ← lk_some]
    cases lk l k <;> rfl
  unfold oIn
  rw [q]
theorem oNi_dc (l : List (κ × ν)) (k : κ) (a : Fl) : oNi (e k, .s) (dc e f l, a) = some (.bl (!decide (k ∈ l.map (·.1))), .s) := by
  have q : oNi0 (e k, .s) (dc e f l, a) = some (.bl (!decide (k ∈ l.map (·.1))), .s) := by
    unfold oNi0 dc
    rw [oInS_dct]
    show (if D.fit _ (e k) = true then some (D.bl (!(D.look _ (e k)).isSome), Fl.s) else none) = _
    rw [fit_dc he, if_pos rfl, look_dc he, ← lk_some]
    cases lk l k <;> rfl
  unfold oNi
  rw [q]
end
section
variable {κ ν : Type} {e : κ → D} {f : ν → D} {g : G}
theorem dct_nil : D.dct [] = dc e f ([] : List (κ × ν)) := id rfl
theorem itV_dc (l : List (κ × ν)) : itV (dc e f l) g = .ok ((l.map (·.1)).map e) g := by
  show R.ok ((l.map fun p => (e p.1, f p.2)).map (·.1)) g = _
  rw [List.map_map, List.map_map]; rfl
theorem dctV_dc {β : Type} (l : List (κ × ν)) (k : List (D × D) → R β) : dctV (dc e f l) k = k (l.map fun p => (e p.1, f p.2)) := id rfl
theorem putV_dc [DecidableEq κ] {t : Bool} (he : KeyE e t) (j : Nat) (ρ : Env') (l : List (κ × ν)) (k : κ) (v : ν) (hl : l.length < LN) : putV j (some (.o (dc e f l))) (e k) (f v) ρ g = .nx (ρ.set j (.o (dc e f (pt l k v)))) g := by
  show putV j (some (.o (.dct _))) _ _ _ _ = _
  rw [putV_dct, fit_dc he, if_pos rfl, List.length_map, if_pos hl, put_dc he]; rfl
theorem getD_map {α : Type} (h : α → D) (o : Option α) (d : α) : (o.map h).getD (h d) = h (o.getD d) := by cases o <;> rfl
end
theorem KeyE.int : KeyE D.int false := ⟨fun a b => rfl, fun a => rfl, fun a => rfl⟩
section
variable {κ ν : Type} [DecidableEq κ]
theorem lk_mem {l : List (κ × ν)} (nd : (l.map (·.1)).Nodup) {p : κ × ν} (h : p ∈ l) : lk l p.1 = some p.2 := by
  induction l with
  | nil => cases h
  | cons a r ih =>
    rw [List.map_cons, List.nodup_cons] at nd
    unfold lk
    rcases List.mem_cons.mp h with rfl | h
    · rw [if_pos rfl]
    · rw [if_neg (show ¬ a.1 = p.1 from fun e => nd.1 (by rw [e]; exact List.mem_map.mpr ⟨p, h, rfl⟩))]
      exact ih nd.2 h
theorem lk_of_mem {l : List (κ × ν)} {k : κ} (h : k ∈ l.map (·.1)) : ∃ v, lk l k = some v :=
  Option.isSome_iff_exists.mp (by rw [lk_some, decide_eq_true_eq]; exact h)
end
end Ev
end

section
/-! W2: counts in dicts. -/
namespace Ev
open PySem PySem.Spec L2
open PyProof.Rows hiding St

section
variable {κ : Type} [DecidableEq κ]
/-- one count more -/
def adds (l : List (κ × Int)) (k : κ) (w : Int) : List (κ × Int) := pt l k ((lk l k).getD 0 + w)
/-- what is counted -/
def tally (l : List (κ × Int)) : List (κ × Int) := l.foldl (fun d p => adds d p.1 p.2) []
/-- a weighted sum -/
def ws (c : κ → Int) (l : List (κ × Int)) : Int := (l.map fun p => p.2 * c p.1).sum
/-- the weight of one key -/
def one (k : κ) : κ → Int := fun j => if j = k then 1 else 0
variable {ν : Type}
theorem pt_keys (l : List (κ × ν)) (k : κ) (v : ν) : (pt l k v).map (·.1) = if k ∈ l.map (·.1) then l.map (·.1) else l.map (·.1) ++ [k] := by
  unfold pt
  split
  · rw [List.map_map]
    refine List.map_congr_left fun a ha => ?_
    show (if a.1 = k then (a.1, v) else a).1 = a.1
    split <;> rfl
  · simp
theorem pt_nodup {l : List (κ × ν)} (nd : (l.map (·.1)).Nodup) (k : κ) (v : ν) : ((pt l k v).map (·.1)).Nodup := by
  rw [pt_keys]
  split
  · exact nd
  · rename_i h
    rw [List.nodup_append]
    exact ⟨nd, by simp, fun a ha b hb => by simp at hb; subst hb; intro e; exact h (e ▸ ha)⟩
theorem pt_mem {l : List (κ × ν)} {k : κ} {v : ν} {j : κ} : j ∈ (pt l k v).map (·.1) ↔ j ∈ l.map (·.1) ∨ j = k := by
  rw [pt_keys]
  split
  · rename_i h
    exact ⟨.inl, fun q => q.elim id fun e => e ▸ h⟩
  · simp
theorem lk_none {l : List (κ × ν)} {k : κ} (h : k ∉ l.map (·.1)) : lk l k = none := by
  have := lk_some (l := l) (k := k)
  cases q : lk l k with
  | none => rfl
  | some v => rw [q, Option.isSome_some] at this; exact absurd (of_decide_eq_true this.symm) h
theorem lk_append {l m : List (κ × ν)} {k : κ} : lk (l ++ m) k = (lk l k).or (lk m k) := by
  induction l with
  | nil => rfl
  | cons a r ih =>
    rw [List.cons_append, lk, lk]
    split
    · rfl
    · exact ih
theorem lk_pt (l : List (κ × ν)) (k : κ) (v : ν) (j : κ) : lk (pt l k v) j = if j = k then some v else lk l j := by
  unfold pt
  split
  · rename_i h
    induction l with
    | nil => simp at h
    | cons a r ih =>
      rw [List.map_cons]
      unfold lk
      by_cases e : a.1 = k
      · simp only [e, if_true]
        by_cases ej : j = k
        · simp [ej]
        · have : ¬ k = j := fun z => ej z.symm
          simp only [this, ej, if_false]
          by_cases hr : k ∈ r.map (·.1)
          · rw [ih hr, if_neg ej]
          · congr 1
            refine (List.map_congr_left fun b hb => ?_).trans (List.map_id _)
            rw [if_neg (fun z : b.1 = k => hr (z ▸ List.mem_map.mpr ⟨b, hb, rfl⟩))]; rfl
      · simp only [e, if_false]
        rw [List.map_cons, List.mem_cons] at h
        rw [ih (h.resolve_left fun z => e z.symm)]
        by_cases ea : a.1 = j
        · simp only [ea, if_true]
          rw [if_neg (fun z => e (ea.trans z))]
        · simp only [ea, if_false]
  · rename_i h
    rw [lk_append]
    by_cases e : j = k
    · subst e
      rw [lk_none h, if_pos rfl]
      simp [lk]
    · rw [if_neg e]
      have : lk [(k, v)] j = none := by unfold lk; rw [if_neg (fun z => e z.symm)]; rfl
      rw [this]; cases lk l j <;> rfl
theorem pt_len (l : List (κ × ν)) (k : κ) (v : ν) : (pt l k v).length ≤ l.length + 1 := by
  unfold pt; split <;> simp
theorem ws_nil (c : κ → Int) : ws c [] = 0 := rfl
theorem ws_cons (c : κ → Int) (p : κ × Int) (l : List (κ × Int)) : ws c (p :: l) = p.2 * c p.1 + ws c l := rfl
theorem ws_append (c : κ → Int) (l m : List (κ × Int)) : ws c (l ++ m) = ws c l + ws c m := by
  unfold ws; rw [List.map_append, List.sum_append]
theorem ws_adds (c : κ → Int) {l : List (κ × Int)} (nd : (l.map (·.1)).Nodup) (k : κ) (w : Int) : ws c (adds l k w) = ws c l + w * c k := by
  unfold adds
  by_cases h : k ∈ l.map (·.1)
  · have e : ∀ v, pt l k v = l.map (fun p => if p.1 = k then (p.1, v) else p) := fun v => if_pos h
    rw [e]
    induction l with
    | nil => simp at h
    | cons a r ih =>
      rw [List.map_cons, List.nodup_cons] at nd
      rw [List.map_cons, ws_cons, ws_cons]
      by_cases ea : a.1 = k
      · have hr : k ∉ r.map (·.1) := ea ▸ nd.1
        have : (r.map fun p => if p.1 = k then (p.1, (lk (a :: r) k).getD 0 + w) else p) = r := by
          refine (List.map_congr_left fun b hb => ?_).trans (List.map_id _)
          rw [if_neg (fun z : b.1 = k => hr (z ▸ List.mem_map.mpr ⟨b, hb, rfl⟩))]; rfl
        rw [this, if_pos ea]
        have hl : lk (a :: r) k = some a.2 := by unfold lk; rw [if_pos ea]
        rw [hl]
        show (a.2 + w) * c a.1 + _ = _
        rw [ea, Int.add_mul]; omega
      · rw [if_neg ea]
        have hl : lk (a :: r) k = lk r k := by rw [lk, if_neg ea]
        rw [List.map_cons, List.mem_cons] at h
        have hr := h.resolve_left fun z => ea z.symm
        have := ih nd.2 hr (fun v => if_pos hr)
        rw [hl, this]; omega
  · rw [show pt l k _ = l ++ [(k, (lk l k).getD 0 + w)] from if_neg h, ws_append, lk_none h]
    show _ + ((0 + w) * c k + 0) = _
    rw [Int.zero_add, Int.add_zero]
theorem adds_keys {l : List (κ × Int)} {k : κ} {w : Int} {j : κ} : j ∈ (adds l k w).map (·.1) ↔ j ∈ l.map (·.1) ∨ j = k := pt_mem
theorem fold_nodup : ∀ (l d : List (κ × Int)), (d.map (·.1)).Nodup → ((l.foldl (fun d p => adds d p.1 p.2) d).map (·.1)).Nodup
  | [], d, h => h
  | p :: l, d, h => fold_nodup l _ (pt_nodup h _ _)
theorem adds_nodup {l : List (κ × Int)} (nd : (l.map (·.1)).Nodup) (k : κ) (w : Int) : ((adds l k w).map (·.1)).Nodup := pt_nodup nd k _
theorem tally_nodup (l : List (κ × Int)) : ((tally l).map (·.1)).Nodup := fold_nodup l [] List.nodup_nil
theorem fold_ws (c : κ → Int) : ∀ (l d : List (κ × Int)), (d.map (·.1)).Nodup → ws c (l.foldl (fun d p => adds d p.1 p.2) d) = ws c d + ws c l
  | [], d, h => by rw [List.foldl_nil, ws_nil]; omega
  | p :: l, d, h => by
    rw [List.foldl_cons, fold_ws c l _ (adds_nodup h _ _), ws_adds c h, ws_cons]; omega
theorem tally_ws (c : κ → Int) (l : List (κ × Int)) : ws c (tally l) = ws c l := by
  unfold tally
  rw [fold_ws c l [] List.nodup_nil, ws_nil]; omega
theorem fold_keys : ∀ (l d : List (κ × Int)) (j : κ), j ∈ (l.foldl (fun d p => adds d p.1 p.2) d).map (·.1) ↔ j ∈ d.map (·.1) ∨ j ∈ l.map (·.1)
  | [], d, j => by simp
  | p :: l, d, j => by
    rw [List.foldl_cons, fold_keys l _ j, adds_keys, List.map_cons, List.mem_cons, or_assoc]
theorem tally_keys {l : List (κ × Int)} {j : κ} : j ∈ (tally l).map (·.1) ↔ j ∈ l.map (·.1) := by
  unfold tally
  rw [fold_keys]; simp
theorem tally_append (l m : List (κ × Int)) : tally (l ++ m) = m.foldl (fun d p => adds d p.1 p.2) (tally l) := by
  unfold tally; rw [List.foldl_append]
theorem tally_snoc (l : List (κ × Int)) (k : κ) (w : Int) : tally (l ++ [(k, w)]) = pt (tally l) k ((lk (tally l) k).getD 0 + w) := by rw [tally_append]; rfl
theorem ws_one_out {l : List (κ × Int)} {k : κ} (h : k ∉ l.map (·.1)) : ws (one k) l = 0 := by
  induction l with
  | nil => rfl
  | cons a r ih =>
    rw [List.map_cons, List.mem_cons, not_or] at h
    rw [ws_cons, ih h.2]
    unfold one
    rw [if_neg (fun z => h.1 z.symm)]; omega
/-- a key's entry is its weight -/
theorem lk_ws {l : List (κ × Int)} (nd : (l.map (·.1)).Nodup) (k : κ) : (lk l k).getD 0 = ws (one k) l := by
  induction l with
  | nil => rfl
  | cons a r ih =>
    rw [List.map_cons, List.nodup_cons] at nd
    rw [lk, ws_cons]
    by_cases e : a.1 = k
    · rw [if_pos e, ws_one_out (e ▸ nd.1)]
      unfold one
      rw [if_pos e]
      show a.2 = _
      omega
    · rw [if_neg e, ih nd.2]
      unfold one
      rw [if_neg e]; omega
theorem lk_tally (l : List (κ × Int)) (k : κ) : (lk (tally l) k).getD 0 = ws (one k) l := by
  rw [lk_ws (tally_nodup l), tally_ws]
theorem ws_mono {c c' : κ → Int} {l : List (κ × Int)} (h : ∀ p ∈ l, 0 ≤ p.2 ∧ c p.1 ≤ c' p.1) : ws c l ≤ ws c' l := by
  induction l with
  | nil => exact Int.le_refl _
  | cons a r ih =>
    rw [ws_cons, ws_cons]
    obtain ⟨h1, h2⟩ := h a (List.mem_cons_self ..)
    have := Int.mul_le_mul_of_nonneg_left h2 h1
    have := ih fun p hp => h p (List.mem_cons_of_mem _ hp)
    omega
theorem ws_pos {c : κ → Int} {l : List (κ × Int)} (h : ∀ p ∈ l, 0 ≤ p.2 ∧ 0 ≤ c p.1) : 0 ≤ ws c l := by
  induction l with
  | nil => exact Int.le_refl _
  | cons a r ih =>
    rw [ws_cons]
    obtain ⟨h1, h2⟩ := h a (List.mem_cons_self ..)
    have := Int.mul_nonneg h1 h2
    have := ih fun p hp => h p (List.mem_cons_of_mem _ hp)
    omega
/-- what is there is weighed -/
theorem ws_in {l : List (κ × Int)} (h : ∀ p ∈ l, 0 < p.2) {k : κ} (hk : k ∈ l.map (·.1)) : 0 < ws (one k) l := by
  induction l with
  | nil => simp at hk
  | cons a r ih =>
    rw [ws_cons]
    have h1 := h a (List.mem_cons_self ..)
    have h2 : 0 ≤ ws (one k) r := ws_pos fun p hp => ⟨Int.le_of_lt (h p (List.mem_cons_of_mem _ hp)), by unfold one; split <;> decide⟩
    rw [List.map_cons, List.mem_cons] at hk
    by_cases e : a.1 = k
    · unfold one at h2 ⊢
      rw [if_pos e]; omega
    · have := ih (fun p hp => h p (List.mem_cons_of_mem _ hp)) (hk.resolve_left fun z => e z.symm)
      have z : one k a.1 = 0 := by unfold one; rw [if_neg e]
      rw [z]; omega
theorem ws_flat {ι : Type} (c : κ → Int) (l : List ι) (f : ι → List (κ × Int)) : ws c (l.flatMap f) = (l.map fun a => ws c (f a)).sum := by
  induction l with
  | nil => rfl
  | cons a r ih => rw [List.flatMap_cons, ws_append, ih, List.map_cons, List.sum_cons]
theorem fold_pos : ∀ (l d : List (κ × Int)), (∀ p ∈ d, 0 < p.2) → (∀ p ∈ l, 0 < p.2) → ∀ p ∈ l.foldl (fun d p => adds d p.1 p.2) d, 0 < p.2
  | [], d, h, _ => h
  | q :: l, d, h, hl => by
    refine fold_pos l _ (fun p hp => ?_) fun p hp => hl p (List.mem_cons_of_mem _ hp)
    have h1 := hl q (List.mem_cons_self ..)
    have h0 : 0 ≤ (lk d q.1).getD 0 := by
      cases z : lk d q.1 with
      | none => exact Int.le_refl _
      | some v =>
        clear hl hp h1
        induction d with
        | nil => cases z
        | cons a r ih =>
          unfold lk at z
          split at z
          · cases z; exact Int.le_of_lt (h a (List.mem_cons_self ..))
          · exact ih (fun p hp => h p (List.mem_cons_of_mem _ hp)) z
    have hp : p ∈ pt d q.1 ((lk d q.1).getD 0 + q.2) := hp
    unfold pt at hp
    split at hp
    · obtain ⟨b, hb, e⟩ := List.mem_map.mp hp
      split at e
      · subst e; show 0 < _ + _; omega
      · subst e; exact h b hb
    · rcases List.mem_append.mp hp with hp | hp
      · exact h p hp
      · simp at hp; subst hp; show 0 < _ + _; omega
theorem tally_pos {l : List (κ × Int)} (h : ∀ p ∈ l, 0 < p.2) : ∀ p ∈ tally l, 0 < p.2 := fold_pos l [] (by simp) h
end
/-- dict(pairs) -/
def ofP {κ ν : Type} [DecidableEq κ] (l : List (κ × ν)) : List (κ × ν) := l.foldl (fun d p => pt d p.1 p.2) []
section
variable {κ ν : Type} [DecidableEq κ] {e : κ → D} {f : ν → D}
theorem pairsD_map (l : List (κ × ν)) : pairsD (l.map fun p => .tup [e p.1, f p.2]) = some (l.map fun p => (e p.1, f p.2)) := by
  induction l with
  | nil => rfl
  | cons a r ih => rw [List.map_cons, pairsD, ih]; rfl
theorem putAll_dc {t : Bool} (he : KeyE e t) : ∀ (l d : List (κ × ν)), putAll (d.map fun p => (e p.1, f p.2)) (l.map fun p => (e p.1, f p.2)) = some ((l.foldl (fun d p => pt d p.1 p.2) d).map fun p => (e p.1, f p.2))
  | [], d => rfl
  | a :: l, d => by
    rw [List.map_cons, putAll, fit_dc he, if_pos rfl, put_dc he, putAll_dc he l]; rfl
theorem oDictP_lst {t : Bool} (he : KeyE e t) (l : List (κ × ν)) (h : l.length ≤ LN) : oDictP [.lst (l.map fun p => .tup [e p.1, f p.2])] = some (dc e f (ofP l), .f) := by
  unfold oDictP
  have := putAll_dc (f := f) he l []
  rw [List.map_nil] at this
  simp only [seqD_lst, List.length_map, h, if_true, pairsD_map, Option.bind_some, this, Option.map_some]
  rfl
theorem oDictP_tup {t : Bool} (he : KeyE e t) (l : List (κ × ν)) (h : l.length ≤ LN) : oDictP [.tup (l.map fun p => .tup [e p.1, f p.2])] = some (dc e f (ofP l), .f) := by
  unfold oDictP
  have := putAll_dc (f := f) he l []
  rw [List.map_nil] at this
  simp only [seqD_tup, List.length_map, h, if_true, pairsD_map, Option.bind_some, this, Option.map_some]
  rfl
theorem foldP_nd : ∀ (l d : List (κ × ν)), ((d ++ l).map (·.1)).Nodup → l.foldl (fun d p => pt d p.1 p.2) d = d ++ l
  | [], d, _ => by simp
  | a :: l, d, h => by
    have ha : a.1 ∉ d.map (·.1) := by
      rw [List.map_append, List.nodup_append] at h
      intro q
      exact h.2.2 _ q _ (List.mem_map.mpr ⟨a, by simp, rfl⟩) rfl
    rw [List.foldl_cons, show pt d a.1 a.2 = d ++ [a] from if_neg ha, foldP_nd l (d ++ [a]) (by simpa using h)]
    simp
theorem ofP_nd {l : List (κ × ν)} (h : (l.map (·.1)).Nodup) : ofP l = l := by
  unfold ofP
  rw [foldP_nd l [] (by simpa using h)]; rfl
end
/-- no more unlike numbers than there are -/
theorem pigeon : ∀ (m : Nat) (l : List Int), l.Nodup → (∀ k ∈ l, 0 ≤ k ∧ k < m) → l.length ≤ m
  | 0, l, _, h => by
    cases l with
    | nil => exact Nat.le_refl _
    | cons a r => have := h a (List.mem_cons_self ..); omega
  | m + 1, l, nd, h => by
    by_cases c : (m : Int) ∈ l
    · have ih := pigeon m (l.erase m) (nd.erase _) fun k hk => by
        obtain ⟨h1, h2⟩ := (nd.mem_erase_iff).mp hk
        have := h k h2
        omega
      rw [List.length_erase_of_mem c] at ih
      omega
    · have ih := pigeon m l nd fun k hk => by
        have := h k hk
        have : k ≠ m := fun e => c (e ▸ hk)
        omega
      omega
theorem sum_map_mul (l : List Int) (k : Int) : (l.map fun a => k * a).sum = k * l.sum := by
  induction l with
  | nil => simp
  | cons a r ih => rw [List.map_cons, List.sum_cons, List.sum_cons, ih, Int.mul_add]
theorem smAdd {α : Type} (l : List α) (f h : α → Int) : (l.map fun a => f a + h a).sum = (l.map f).sum + (l.map h).sum := by
  induction l with
  | nil => rfl
  | cons a r ih => simp only [List.map_cons, List.sum_cons, ih]; omega
theorem smMul {α : Type} (l : List α) (f : α → Int) (k : Int) : (l.map fun a => k * f a).sum = k * (l.map f).sum := by
  induction l with
  | nil => simp
  | cons a r ih => simp only [List.map_cons, List.sum_cons, ih, Int.mul_add]
theorem smLe {α : Type} {l : List α} {f h : α → Int} (q : ∀ a ∈ l, f a ≤ h a) : (l.map f).sum ≤ (l.map h).sum := by
  induction l with
  | nil => exact Int.le_refl _
  | cons a r ih =>
    simp only [List.map_cons, List.sum_cons]
    have := q a (List.mem_cons_self ..)
    have := ih fun b hb => q b (List.mem_cons_of_mem _ hb)
    omega
theorem smConst {α : Type} (l : List α) (k : Int) : (l.map fun _ => k).sum = l.length * k := by
  induction l with
  | nil => simp
  | cons a r ih => simp only [List.map_cons, List.sum_cons, ih, List.length_cons]; rw [Int.natCast_add, Int.add_mul]; omega
theorem smSwap {α β : Type} (l : List α) (m : List β) (f : α → β → Int) : (l.map fun a => (m.map fun b => f a b).sum).sum = (m.map fun b => (l.map fun a => f a b).sum).sum := by
  induction l with
  | nil => simp only [List.map_nil, List.sum_nil]; rw [smConst]; simp
  | cons a r ih => simp only [List.map_cons, List.sum_cons, ih]; rw [smAdd]
end Ev
end

section
set_option maxHeartbeats 400000
namespace Kw
open PySem PySem.Spec L2 Ev
open PyProof.Rows hiding St
abbrev p : Program := PySem.Challenge.pw_diceyard_k84_whole_fewest_rolls
def i_is_whole : Nat := 0
def i_fits_whole : Nat := 1
def i_is_tuple_of : Nat := 2
def i_fits_word : Nat := 3
def i_need_word : Nat := 4
def i_need_spot : Nat := 5
def i_moved_in : Nat := 6
def i_rolled_in : Nat := 7
def i_along_in : Nat := 8
def i_far_in : Nat := 9
def i_first_in : Nat := 10
def i_between_in : Nat := 11
def i_fewest_rolls : Nat := 12
def i_first_word : Nat := 13
def i_first_alike : Nat := 14
def i_rolls_between : Nat := 15
def i__law_cup : Nat := 16
def i__law_roll : Nat := 17
def i__law_some : Nat := 18
def i__law_same : Nat := 19
def i__law_points : Nat := 20
def i__law_beside : Nat := 21
def i__law_stands : Nat := 22
def i__law_word : Nat := 23
def i__law_waves : Nat := 24
def i__law_right : Nat := 25
def i_law : Nat := 26
def x_DiceError : Nat := 0
def x_InvalidWord : Nat := 1
def x_InvalidPlan : Nat := 2
/-- is_whole: slots [value] -/
def d_is_whole : DenS := (dRet (dAnd (dIsa "int" (dVar 0)) (dNot (dIsa "bool" (dVar 0)))))

/-- fits_whole: slots [value, low, high] -/
def d_fits_whole : DenS := (fz 0 (dRet (dAnd (dCall i_is_whole (dCons (dFz (dVar 0)) dNil)) (dChain oLe oLe (dVar 1) (dVar 0) (dVar 2)))))

/-- is_tuple_of: slots [value, least, most] -/
def d_is_tuple_of : DenS := (dRet (dAnd (dIsa "tuple" (dVar 0)) (dChain oLe oLe (dVar 1) (dBif oLen (dCons (dVar 0) dNil)) (dVar 2))))

/-- fits_word: slots [value, .0, letter] -/
def d_fits_word : DenS := (dRet (dAnd (dIsa "str" (dVar 0)) (dAnd (dBin oLe (dBif oLen (dCons (dVar 0) dNil)) (dC (.int 40))) (dBif oAll (dCons (dLc (dIt (dVar 0)) (.nm 2) dYes (dBin oIn (dVar 2) (dC (.str [97, 98, 99]))) [1, 2]) dNil)))))

/-- need_word: slots [value] -/
def d_need_word : DenS := (fz 0 (dIfS (tNot' (dT (dCall i_fits_word (dCons (dFz (dVar 0)) dNil)))) (dRaise x_InvalidWord) dNop))

/-- need_spot: slots [value, .0, one] -/
def d_need_spot : DenS := (dSeq (fz 0 (dIfS (tOr' (tNot' (dT (dCall i_is_tuple_of (dCons (dFz (dVar 0)) (dCons (dFz (dC (.int 3))) (dCons (dFz (dC (.int 3))) dNil)))))) (tNot' (dT (dBif oAll (dCons (dLc (dIt (dSl (dVar 0) dNoP (dP (dC (.int 2))))) (.nm 2) dYes (dCall i_fits_whole (dCons (dFz (dVar 2)) (dCons (dFz (dNeg (dC (.int 6)))) (dCons (dFz (dC (.int 6))) dNil)))) [1, 2]) dNil))))) (dRaise x_InvalidPlan) dNop))
  (dIfS (tNot' (dT (dCall i_fits_whole (dCons (dFz (dIxBy oIx (dVar 0) (dC (.int 2)))) (dCons (dFz (dC (.int 0))) (dCons (dFz (dC (.int 1))) dNil)))))) (dRaise x_InvalidPlan) dNop))

/-- moved_in: slots [spot, letter, step] -/
def d_moved_in : DenS := (dSeq (dSet 2 (dIf (dT (dBin oEq (dIxBy oIx (dVar 0) (dC (.int 2))) (dC (.int 0)))) (dIxBy oIx (dC (.dct [((.str [97]), (.tup [(.int 0), (.int (-1))])), ((.str [98]), (.tup [(.int (-1)), (.int 0)])), ((.str [99]), (.tup [(.int 0), (.int 0)]))])) (dVar 1)) (dIxBy oIx (dC (.dct [((.str [97]), (.tup [(.int 0), (.int 1)])), ((.str [98]), (.tup [(.int 1), (.int 0)])), ((.str [99]), (.tup [(.int 0), (.int 0)]))])) (dVar 1))))
  (dRet (dTup (dCons (dFz (dBin oAdd (dIxBy oIx (dVar 0) (dC (.int 0))) (dIxBy oIx (dVar 2) (dC (.int 0))))) (dCons (dFz (dBin oAdd (dIxBy oIx (dVar 0) (dC (.int 1))) (dIxBy oIx (dVar 2) (dC (.int 1))))) (dCons (dFz (dBin oSub (dC (.int 1)) (dIxBy oIx (dVar 0) (dC (.int 2))))) dNil))))))

/-- rolled_in: slots [stand, letter, turn, spot, rows, .0, at] -/
def d_rolled_in : DenS := (dSeq (fz 0 (dTgt (.tp [(.nm 2), (.nm 3)]) (dVar 0)))
  (dSeq (dSet 4 (dIf (dT (dBin oEq (dIxBy oIx (dVar 3) (dC (.int 2))) (dC (.int 0)))) (dIxBy oIx (dC (.dct [((.str [97]), (.tup [(.int 1), (.int 3), (.int 0), (.int 2)])), ((.str [98]), (.tup [(.int 2), (.int 0), (.int 3), (.int 1)])), ((.str [99]), (.tup [(.int 3), (.int 1), (.int 2), (.int 0)]))])) (dVar 1)) (dIxBy oIx (dC (.dct [((.str [97]), (.tup [(.int 2), (.int 0), (.int 3), (.int 1)])), ((.str [98]), (.tup [(.int 1), (.int 3), (.int 0), (.int 2)])), ((.str [99]), (.tup [(.int 3), (.int 1), (.int 2), (.int 0)]))])) (dVar 1))))
  (fz 3 (fz 1 (dRet (dTup (dCons (dFz (dBif oTuple (dCons (dLc (dIt (dVar 4)) (.nm 6) dYes (dIxBy oIx (dVar 2) (dVar 6)) [5, 6]) dNil))) (dCons (dFz (dCall i_moved_in (dCons (dFz (dVar 3)) (dCons (dFz (dVar 1)) dNil)))) dNil))))))))

/-- along_in: slots [word, found, letter] -/
def d_along_in : DenS := (dSeq (dSet 1 (dLst (dCons (dFz (dC (.tup [(.tup [(.int 0), (.int 1), (.int 2), (.int 3)]), (.tup [(.int 0), (.int 0), (.int 0)])]))) dNil)))
  (dSeq (fz 0 (dFor (dIt (dFz (dVar 0))) (.nm 2) (fz 2 (dApp 1 (dCall i_rolled_in (dCons (dFz (dIxBy oIx (dVar 1) (dNeg (dC (.int 1))))) (dCons (dFz (dVar 2)) dNil)))))))
  (dRetV 1)))

/-- far_in: slots [spot, east, north, kind] -/
def d_far_in : DenS := (dSeq (fz 0 (dTgt (.tp [(.nm 1), (.nm 2), (.nm 3)]) (dVar 0)))
  (dRet (dBin oAdd (dBin oAdd (dBif oAbs (dCons (dVar 1) dNil)) (dBif oAbs (dCons (dVar 2) dNil))) (dBif oAbs (dCons (dBin oAdd (dBin oAdd (dVar 1) (dVar 2)) (dVar 3)) dNil)))))

/-- first_in: slots [spot, found, here, letter, there] -/
def d_first_in : DenS := (dSeq (dSet 1 (dC (.str [])))
  (dSeq (dSet 2 (dIxBy oIx (dC (.tup [(.tup [(.int 0), (.int 1), (.int 2), (.int 3)]), (.tup [(.int 0), (.int 0), (.int 0)])])) (dC (.int 1))))
  (dSeq (dWhile WF (dT (dBin oNe (dVar 2) (dVar 0))) (dFor (dIt (dFz (dC (.str [97, 98, 99])))) (.nm 3) (dSeq (fz 2 (fz 3 (dSet 4 (dCall i_moved_in (dCons (dFz (dVar 2)) (dCons (dFz (dVar 3)) dNil))))))
  (fz 4 (fz 0 (fz 2 (dIfS (dT (dBin oLtA (dCall i_between_in (dCons (dFz (dVar 4)) (dCons (dFz (dVar 0)) dNil))) (dCall i_between_in (dCons (dFz (dVar 2)) (dCons (dFz (dVar 0)) dNil))))) (dSeq (fz 4 (dPar [1, 2] (xCons (dBin oAdd (dVar 1) (dVar 3)) (xCons (dVar 4) xNil))))
  dBreak) dNop)))))))
  (dRetV 1))))

/-- between_in: slots [one, other, east, north] -/
def d_between_in : DenS := (dSeq (dPar [2, 3] (xCons (dBin oSub (dIxBy oIx (dVar 1) (dC (.int 0))) (dIxBy oIx (dVar 0) (dC (.int 0)))) (xCons (dBin oSub (dIxBy oIx (dVar 1) (dC (.int 1))) (dIxBy oIx (dVar 0) (dC (.int 1)))) xNil)))
  (dRet (dBin oAdd (dBin oAdd (dBif oAbs (dCons (dVar 2) dNil)) (dBif oAbs (dCons (dVar 3) dNil))) (dBif oAbs (dCons (dBin oSub (dBin oAdd (dBin oAdd (dVar 2) (dVar 3)) (dIxBy oIx (dVar 1) (dC (.int 2)))) (dIxBy oIx (dVar 0) (dC (.int 2)))) dNil)))))

/-- fewest_rolls: slots [spot] -/
def d_fewest_rolls : DenS := (dSeq (fz 0 (dDrop (dCall i_need_spot (dCons (dFz (dVar 0)) dNil))))
  (fz 0 (dRet (dCall i_far_in (dCons (dFz (dVar 0)) dNil)))))

/-- first_word: slots [spot] -/
def d_first_word : DenS := (dSeq (fz 0 (dDrop (dCall i_need_spot (dCons (dFz (dVar 0)) dNil))))
  (fz 0 (dRet (dCall i_first_in (dCons (dFz (dVar 0)) dNil)))))

/-- first_alike: slots [word] -/
def d_first_alike : DenS := (dSeq (fz 0 (dDrop (dCall i_need_word (dCons (dFz (dVar 0)) dNil))))
  (fz 0 (dRet (dCall i_first_in (dCons (dFz (dIxBy oIx (dIxBy oIx (dCall i_along_in (dCons (dFz (dVar 0)) dNil)) (dNeg (dC (.int 1)))) (dC (.int 1)))) dNil)))))

/-- rolls_between: slots [one, other] -/
def d_rolls_between : DenS := (dSeq (fz 0 (dDrop (dCall i_need_spot (dCons (dFz (dVar 0)) dNil))))
  (dSeq (fz 1 (dDrop (dCall i_need_spot (dCons (dFz (dVar 1)) dNil))))
  (fz 0 (fz 1 (dRet (dCall i_between_in (dCons (dFz (dVar 0)) (dCons (dFz (dVar 1)) dNil))))))))

/-- _law_cup: slots [script, cell] -/
def d__law_cup : DenS := (dSeq (dSet 1 (dBif oAbs (dCons (dIxBy oIx (dBin oAdd (dBif oListA (dCons (dVar 0) dNil)) (dLst (dCons (dFz (dC (.int 0))) dNil))) (dC (.int 0))) dNil)))
  (dRet (dLst (dCons (dFz (dIf (dT (dBin oGe (dVar 1) (dBin oPow (dC (.int 10)) (dC (.int 18))))) (dBin oDiv (dVar 1) (dC (.int 269))) (dC (.int 0)))) (dCons (dFz (dBin oAdd (dBin oMod (dBif oInt (dCons (dBin oAdd (dBin oMulA (dVar 1) (dC (.int 647))) (dC (.int 5431))) dNil)) (dC (.int 2077503953))) (dC (.int 463)))) dNil)))))

/-- _law_roll: slots [cup, many, found, deep] -/
def d__law_roll : DenS := (dSeq (dIfS (dT (dBin oGt (dIxBy oIx (dVar 0) (dC (.int 0))) (dC (.int 0)))) (dSeq (dSet 2 (dBin oMod (dBif oInt (dCons (dIxBy oIx (dVar 0) (dC (.int 0))) dNil)) (dVar 1)))
  (dSeq (dPut 0 (dC (.int 0)) (dBin oDiv (dIxBy oIx (dVar 0) (dC (.int 0))) (dVar 1)))
  (dRetV 2))) dNop)
  (dSeq (dPut 0 (dC (.int 1)) (dBin oMod (dBif oInt (dCons (dBin oAdd (dBin oMulA (dIxBy oIx (dVar 0) (dC (.int 1))) (dC (.int 32707))) (dC (.int 9049))) dNil)) (dC (.int 2147483543))))
  (dSeq (dSet 3 (dBin oMod (dBif oInt (dCons (dBin oMulA (dIxBy oIx (dVar 0) (dC (.int 1))) (dBin oAdd (dIxBy oIx (dVar 0) (dC (.int 1))) (dC (.int 617)))) dNil)) (dC (.int 2147483529))))
  (dRet (dBin oMod (dBif oInt (dCons (dBin oDiv (dVar 3) (dC (.int 1319))) dNil)) (dVar 1))))))

/-- _law_some: slots [cup, things] -/
def d__law_some : DenS := (fz 0 (dRet (dIxBy oIx (dVar 1) (dCall i__law_roll (dCons (dFz (dVar 0)) (dCons (dFz (dBif oLen (dCons (dVar 1) dNil))) dNil))))))

/-- _law_same: slots [told, due, .0, at] -/
def d__law_same : DenS := (dSeq (dIfS (dT (dIsa "tuple" (dVar 1))) (dSeq (dIfS (tOr' (tNot' (dT (dIsa "tuple" (dVar 0)))) (dT (dBin oNe (dBif oLen (dCons (dVar 0) dNil)) (dBif oLen (dCons (dVar 1) dNil))))) (dRet (dC (.bl false))) dNop)
  (dRet (dBif oAll (dCons (dLc (dRng1 (dCons (dFz (dBif oLen (dCons (dVar 1) dNil))) dNil)) (.nm 3) dYes (dCall i__law_same (dCons (dFz (dIxBy oIx (dVar 0) (dVar 3))) (dCons (dFz (dIxBy oIx (dVar 1) (dVar 3))) dNil))) [2, 3]) dNil)))) dNop)
  (dSeq (dIfS (dT (dBin oIs (dVar 1) (dC .non))) (dRet (dBin oIs (dVar 0) (dC .non))) dNop)
  (dSeq (dIfS (dT (dIsa "bool" (dVar 1))) (dRet (dIf (dT (dVar 1)) (dBin oIs (dVar 0) (dC (.bl true))) (dBin oIs (dVar 0) (dC (.bl false))))) dNop)
  (dSeq (dIfS (dT (dIsa "int" (dVar 1))) (dRet (dAnd (dIsa "int" (dVar 0)) (dAnd (dNot (dIsa "bool" (dVar 0))) (dBin oEq (dBif oInt (dCons (dVar 0) dNil)) (dVar 1))))) dNop)
  (dRet (dAnd (dIsa "str" (dVar 0)) (dBin oEq (dBif oStr (dCons (dVar 0) dNil)) (dVar 1))))))))

/-- _law_points: slots [spot, x, y, kind] -/
def d__law_points : DenS := (dSeq (fz 0 (dTgt (.tp [(.nm 1), (.nm 2), (.nm 3)]) (dVar 0)))
  (fz 1 (fz 2 (dRet (dIf (dT (dBin oEq (dVar 3) (dC (.int 0)))) (dLst (dCons (dFz (dTup (dCons (dFz (dVar 1)) (dCons (dFz (dVar 2)) dNil)))) (dCons (dFz (dTup (dCons (dFz (dBin oAdd (dVar 1) (dC (.int 1)))) (dCons (dFz (dVar 2)) dNil)))) (dCons (dFz (dTup (dCons (dFz (dVar 1)) (dCons (dFz (dBin oAdd (dVar 2) (dC (.int 1)))) dNil)))) dNil)))) (dLst (dCons (dFz (dTup (dCons (dFz (dBin oAdd (dVar 1) (dC (.int 1)))) (dCons (dFz (dBin oAdd (dVar 2) (dC (.int 1)))) dNil)))) (dCons (dFz (dTup (dCons (dFz (dBin oAdd (dVar 1) (dC (.int 1)))) (dCons (dFz (dVar 2)) dNil)))) (dCons (dFz (dTup (dCons (dFz (dVar 1)) (dCons (dFz (dBin oAdd (dVar 2) (dC (.int 1)))) dNil)))) dNil)))))))))

/-- _law_beside: slots [spot, letter, at, here, x, y, kind, there, .0, own, point] -/
def d__law_beside : DenS := (dSeq (dSet 2 (dIxBy oIx (dDct (pCons (dC (.str [97])) (dLst (dCons (dFz (dC (.int 0))) (dCons (dFz (dC (.int 1))) dNil))) (pCons (dC (.str [98])) (dLst (dCons (dFz (dC (.int 0))) (dCons (dFz (dC (.int 2))) dNil))) (pCons (dC (.str [99])) (dLst (dCons (dFz (dC (.int 1))) (dCons (dFz (dC (.int 2))) dNil))) pNil)))) (dVar 1)))
  (dSeq (fz 0 (dSet 3 (dIf (dT (dBin oEq (dIxBy oIx (dVar 0) (dC (.int 2))) (dC (.int 0)))) (dLc (dIt (dVar 2)) (.nm 9) dYes (dIxBy oIx (dCall i__law_points (dCons (dFz (dVar 0)) dNil)) (dVar 9)) [8, 9]) (dLc (dIt (dIxBy oIx (dDct (pCons (dC (.str [97])) (dLst (dCons (dFz (dC (.int 0))) (dCons (dFz (dC (.int 2))) dNil))) (pCons (dC (.str [98])) (dLst (dCons (dFz (dC (.int 0))) (dCons (dFz (dC (.int 1))) dNil))) (pCons (dC (.str [99])) (dLst (dCons (dFz (dC (.int 1))) (dCons (dFz (dC (.int 2))) dNil))) pNil)))) (dVar 1))) (.nm 9) dYes (dIxBy oIx (dCall i__law_points (dCons (dFz (dVar 0)) dNil)) (dVar 9)) [8, 9]))))
  (dSeq (fz 0 (dTgt (.tp [(.nm 4), (.nm 5), (.nm 6)]) (dVar 0)))
  (dSeq (fz 4 (fz 5 (dFor (dIt (dFz (dLst (dCons (dFz (dTup (dCons (dFz (dVar 4)) (dCons (dFz (dVar 5)) (dCons (dFz (dBin oSub (dC (.int 1)) (dVar 6))) dNil))))) (dCons (dFz (dTup (dCons (dFz (dVar 4)) (dCons (dFz (dBin oSub (dVar 5) (dC (.int 1)))) (dCons (dFz (dBin oSub (dC (.int 1)) (dVar 6))) dNil))))) (dCons (dFz (dTup (dCons (dFz (dVar 4)) (dCons (dFz (dBin oAdd (dVar 5) (dC (.int 1)))) (dCons (dFz (dBin oSub (dC (.int 1)) (dVar 6))) dNil))))) (dCons (dFz (dTup (dCons (dFz (dBin oSub (dVar 4) (dC (.int 1)))) (dCons (dFz (dVar 5)) (dCons (dFz (dBin oSub (dC (.int 1)) (dVar 6))) dNil))))) (dCons (dFz (dTup (dCons (dFz (dBin oAdd (dVar 4) (dC (.int 1)))) (dCons (dFz (dVar 5)) (dCons (dFz (dBin oSub (dC (.int 1)) (dVar 6))) dNil))))) dNil)))))))) (.nm 7) (fz 7 (dIfS (dT (dBin oEq (dLc (dIt (dVar 3)) (.nm 10) (dT (dBin oNi (dVar 10) (dCall i__law_points (dCons (dFz (dVar 7)) dNil)))) (dVar 10) [8, 10]) (dLst dNil))) (dRetV 7) dNop)))))
  (dRetV 0)))))

/-- _law_stands: slots [word, spot, corners, top, found, letter, there, lifted, new, later, .0, point] -/
def d__law_stands : DenS := (dSeq (dSet 1 (dTup (dCons (dFz (dC (.int 0))) (dCons (dFz (dC (.int 0))) (dCons (dFz (dC (.int 0))) dNil)))))
  (dSeq (dPar [2, 3] (xCons (dDct (pCons (dTup (dCons (dFz (dC (.int 0))) (dCons (dFz (dC (.int 0))) dNil))) (dC (.int 0)) (pCons (dTup (dCons (dFz (dC (.int 1))) (dCons (dFz (dC (.int 0))) dNil))) (dC (.int 1)) (pCons (dTup (dCons (dFz (dC (.int 0))) (dCons (dFz (dC (.int 1))) dNil))) (dC (.int 2)) pNil)))) (xCons (dC (.int 3)) xNil)))
  (dSeq (fz 1 (fz 3 (dSet 4 (dLst (dCons (dFz (dTup (dCons (dFz (dBin oAdd (dBif oTuple (dCons (dLc (dIt (dCall i__law_points (dCons (dFz (dVar 1)) dNil))) (.nm 11) dYes (dIxBy oIx (dVar 2) (dVar 11)) [10, 11]) dNil)) (dTup (dCons (dFz (dVar 3)) dNil)))) (dCons (dFz (dVar 1)) dNil)))) dNil)))))
  (dSeq (fz 0 (dFor (dIt (dFz (dVar 0))) (.nm 5) (dSeq (fz 1 (fz 5 (dSet 6 (dCall i__law_beside (dCons (dFz (dVar 1)) (dCons (dFz (dVar 5)) dNil))))))
  (dSeq (fz 1 (fz 6 (dSet 7 (dIxBy oIx (dLc (dIt (dCall i__law_points (dCons (dFz (dVar 1)) dNil))) (.nm 11) (dT (dBin oNi (dVar 11) (dCall i__law_points (dCons (dFz (dVar 6)) dNil)))) (dVar 11) [10, 11]) (dC (.int 0))))))
  (dSeq (fz 6 (fz 1 (dSet 8 (dIxBy oIx (dLc (dIt (dCall i__law_points (dCons (dFz (dVar 6)) dNil))) (.nm 11) (dT (dBin oNi (dVar 11) (dCall i__law_points (dCons (dFz (dVar 1)) dNil)))) (dVar 11) [10, 11]) (dC (.int 0))))))
  (dSeq (fz 1 (dSet 9 (dBif oDictP (dCons (dLc (dIt (dCall i__law_points (dCons (dFz (dVar 1)) dNil))) (.nm 11) (dT (dBin oNe (dVar 11) (dVar 7))) (dTup (dCons (dFz (dVar 11)) (dCons (dFz (dIxBy oIx (dVar 2) (dVar 11))) dNil))) [10, 11]) dNil))))
  (dSeq (fz 3 (fz 8 (dPut 9 (dVar 8) (dVar 3))))
  (dSeq (fz 9 (fz 6 (dPar [2, 3, 1] (xCons (dVar 9) (xCons (dIxBy oIx (dVar 2) (dVar 7)) (xCons (dVar 6) xNil))))))
  (fz 1 (fz 3 (dApp 4 (dTup (dCons (dFz (dBin oAdd (dBif oTuple (dCons (dLc (dIt (dCall i__law_points (dCons (dFz (dVar 1)) dNil))) (.nm 11) dYes (dIxBy oIx (dVar 2) (dVar 11)) [10, 11]) dNil)) (dTup (dCons (dFz (dVar 3)) dNil)))) (dCons (dFz (dVar 1)) dNil))))))))))))))
  (dRetV 4)))))

/-- _law_word: slots [cup, many, .0, roll] -/
def d__law_word : DenS := (fz 0 (dRet (dM1 mJoin (dC (.str [])) (dLc (dRng1 (dCons (dFz (dCall i__law_roll (dCons (dFz (dVar 0)) (dCons (dFz (dBin oAdd (dVar 1) (dC (.int 1)))) dNil)))) dNil)) (.nm 3) dYes (dCall i__law_some (dCons (dFz (dVar 0)) (dCons (dFz (dLst (dCons (dFz (dC (.str [97]))) (dCons (dFz (dC (.str [98]))) (dCons (dFz (dC (.str [99]))) dNil))))) dNil))) [2, 3]))))

/-- _law_waves: slots [many, firsts, counts, turn, later, new, here, letter, there] -/
def d__law_waves : DenS := (dSeq (dPar [1, 2] (xCons (dDct (pCons (dTup (dCons (dFz (dC (.int 0))) (dCons (dFz (dC (.int 0))) (dCons (dFz (dC (.int 0))) dNil)))) (dC (.str [])) pNil)) (xCons (dLst (dCons (dFz (dDct (pCons (dTup (dCons (dFz (dC (.int 0))) (dCons (dFz (dC (.int 0))) (dCons (dFz (dC (.int 0))) dNil)))) (dC (.int 1)) pNil))) dNil)) xNil)))
  (dSeq (fz 0 (dFor (dRng1 (dCons (dFz (dVar 0)) dNil)) (.nm 3) (dSeq (dPar [4, 5] (xCons dDct0 (xCons dDct0 xNil)))
  (dSeq (dFor (dIt (dFz (dIxBy oIx (dVar 2) (dNeg (dC (.int 1)))))) (.nm 6) (dFor (dIt (dFz (dTup (dCons (dFz (dC (.str [97]))) (dCons (dFz (dC (.str [98]))) (dCons (dFz (dC (.str [99]))) dNil)))))) (.nm 7) (dSeq (fz 6 (fz 7 (dSet 8 (dCall i__law_beside (dCons (dFz (dVar 6)) (dCons (dFz (dVar 7)) dNil))))))
  (dSeq (fz 8 (dPut 4 (dVar 8) (dBin oAdd (dGet2 (dVar 4) (dVar 8) (dC (.int 0))) (dIxBy oIx (dIxBy oIx (dVar 2) (dNeg (dC (.int 1)))) (dVar 6)))))
  (dIfS (tAnd' (dT (dBin oNi (dVar 8) (dVar 1))) (dT (dBin oIn (dVar 6) (dVar 1)))) (fz 8 (dPut 5 (dVar 8) (dBif oMinI (dCons (dBin oAdd (dIxBy oIx (dVar 1) (dVar 6)) (dVar 7)) (dCons (dGet2 (dVar 5) (dVar 8) (dBin oAdd (dIxBy oIx (dVar 1) (dVar 6)) (dVar 7))) dNil))))) dNop)))))
  (dSeq (dUpdV 1 5)
  (fz 4 (dApp 2 (dVar 4))))))))
  (fz 1 (fz 2 (dRet (dTup (dCons (dFz (dVar 1)) (dCons (dFz (dVar 2)) dNil))))))))

/-- _law_right: slots [cup, firsts, turn, spot, word, one, other] -/
def d__law_right : DenS := (dSeq (dFor (dRng1 (dCons (dFz (dC (.int 6))) dNil)) (.nm 2) (dSeq (fz 0 (dSet 3 (dCall i__law_some (dCons (dFz (dVar 0)) (dCons (dFz (dBif oSort (dCons (dVar 1) dNil))) dNil)))))
  (dIfS (dT (dBin oLe (dBif oMax (dCons (dBif oAbs (dCons (dIxBy oIx (dVar 3) (dC (.int 0))) dNil)) (dCons (dBif oAbs (dCons (dIxBy oIx (dVar 3) (dC (.int 1))) dNil)) dNil))) (dC (.int 6)))) (fz 3 (dIfS (tNot' (dT (dCall i__law_same (dCons (dFz (dTup (dCons (dFz (dCall i_fewest_rolls (dCons (dFz (dVar 3)) dNil))) (dCons (dFz (dCall i_first_word (dCons (dFz (dVar 3)) dNil))) dNil)))) (dCons (dFz (dTup (dCons (dFz (dBif oLen (dCons (dIxBy oIx (dVar 1) (dVar 3)) dNil))) (dCons (dFz (dIxBy oIx (dVar 1) (dVar 3))) dNil)))) dNil))))) (dRet (dC (.bl false))) dNop)) dNop)))
  (dSeq (fz 0 (dSet 4 (dCall i__law_word (dCons (dFz (dVar 0)) (dCons (dFz (dC (.int 7))) dNil)))))
  (dSeq (fz 4 (dIfS (tNot' (dT (dCall i__law_same (dCons (dFz (dCall i_first_alike (dCons (dFz (dVar 4)) dNil))) (dCons (dFz (dIxBy oIx (dVar 1) (dIxBy oIx (dIxBy oIx (dCall i__law_stands (dCons (dFz (dVar 4)) dNil)) (dNeg (dC (.int 1)))) (dC (.int 1))))) dNil))))) (dRet (dC (.bl false))) dNop))
  (dSeq (fz 0 (dPar [5, 6] (xCons (dIxBy oIx (dIxBy oIx (dCall i__law_stands (dCons (dFz (dCall i__law_word (dCons (dFz (dVar 0)) (dCons (dFz (dC (.int 4))) dNil)))) dNil)) (dNeg (dC (.int 1)))) (dC (.int 1))) (xCons (dIxBy oIx (dIxBy oIx (dCall i__law_stands (dCons (dFz (dCall i__law_word (dCons (dFz (dVar 0)) (dCons (dFz (dC (.int 3))) dNil)))) dNil)) (dNeg (dC (.int 1)))) (dC (.int 1))) xNil))))
  (dSeq (dSet 3 (dTup (dCons (dFz (dBin oSub (dIxBy oIx (dVar 6) (dC (.int 0))) (dIxBy oIx (dVar 5) (dC (.int 0))))) (dCons (dFz (dBin oSub (dIxBy oIx (dVar 6) (dC (.int 1))) (dIxBy oIx (dVar 5) (dC (.int 1))))) (dCons (dFz (dIxBy oIx (dVar 6) (dC (.int 2)))) dNil)))))
  (dSeq (dIfS (dT (dBin oEq (dIxBy oIx (dVar 5) (dC (.int 2))) (dC (.int 1)))) (dSet 3 (dTup (dCons (dFz (dBin oSub (dIxBy oIx (dVar 5) (dC (.int 0))) (dIxBy oIx (dVar 6) (dC (.int 0))))) (dCons (dFz (dBin oSub (dIxBy oIx (dVar 5) (dC (.int 1))) (dIxBy oIx (dVar 6) (dC (.int 1))))) (dCons (dFz (dBin oSub (dC (.int 1)) (dIxBy oIx (dVar 6) (dC (.int 2))))) dNil))))) dNop)
  (fz 5 (fz 6 (dRet (dCall i__law_same (dCons (dFz (dTup (dCons (dFz (dCall i_rolls_between (dCons (dFz (dVar 5)) (dCons (dFz (dVar 6)) dNil)))) (dCons (dFz (dCall i_rolls_between (dCons (dFz (dVar 6)) (dCons (dFz (dVar 5)) dNil)))) dNil)))) (dCons (dFz (dTup (dCons (dFz (dBif oLen (dCons (dIxBy oIx (dVar 1) (dVar 3)) dNil))) (dCons (dFz (dBif oLen (dCons (dIxBy oIx (dVar 1) (dVar 3)) dNil))) dNil)))) dNil))))))))))))

/-- law: slots [script, cup, firsts, counts, east, kind, told, far] -/
def d_law : DenS := (dSeq (fz 0 (dSet 1 (dCall i__law_cup (dCons (dFz (dVar 0)) dNil))))
  (dSeq (dTgt (.tp [(.nm 2), (.nm 3)]) (dCall i__law_waves (dCons (dFz (dC (.int 7))) dNil)))
  (dSeq (fz 1 (fz 2 (dIfS (tNot' (dT (dCall i__law_right (dCons (dFz (dVar 1)) (dCons (dFz (dVar 2)) dNil))))) (dRet (dC (.bl false))) dNop)))
  (dSeq (fz 1 (dPar [4, 5] (xCons (dBin oAdd (dC (.int 1)) (dCall i__law_roll (dCons (dFz (dVar 1)) (dCons (dFz (dC (.int 6))) dNil)))) (xCons (dTup (dCons (dFz (dC (.int 0))) (dCons (dFz (dC (.int 0))) (dCons (dFz (dC (.int 1))) dNil)))) xNil))))
  (dSeq (fz 4 (fz 5 (dSet 6 (dTup (dCons (dFz (dCall i_fewest_rolls (dCons (dFz (dTup (dCons (dFz (dVar 4)) (dCons (dFz (dC (.int 0))) (dCons (dFz (dC (.int 1))) dNil))))) dNil))) (dCons (dFz (dCall i_fewest_rolls (dCons (dFz (dTup (dCons (dFz (dBin oSub (dC (.int 0)) (dVar 4))) (dCons (dFz (dC (.int 0))) (dCons (dFz (dC (.int 1))) dNil))))) dNil))) (dCons (dFz (dCall i_rolls_between (dCons (dFz (dVar 5)) (dCons (dFz (dTup (dCons (dFz (dVar 4)) (dCons (dFz (dC (.int 0))) (dCons (dFz (dC (.int 0))) dNil))))) dNil)))) (dCons (dFz (dCall i_rolls_between (dCons (dFz (dVar 5)) (dCons (dFz (dVar 5)) dNil)))) dNil))))))))
  (dSeq (fz 6 (dIfS (tNot' (dT (dCall i__law_same (dCons (dFz (dVar 6)) (dCons (dFz (dTup (dCons (dFz (dBin oAdd (dBin oMulA (dC (.int 2)) (dVar 4)) (dC (.int 1)))) (dCons (dFz (dBin oSub (dBin oMulA (dC (.int 2)) (dVar 4)) (dC (.int 1)))) (dCons (dFz (dBin oSub (dBin oMulA (dC (.int 2)) (dVar 4)) (dC (.int 1)))) (dCons (dFz (dC (.int 0))) dNil)))))) dNil))))) (dRet (dC (.bl false))) dNop))
  (dSeq (fz 1 (dSet 7 (dCall i__law_roll (dCons (dFz (dVar 1)) (dCons (dFz (dC (.int 7))) dNil)))))
  (dSeq (fz 7 (dSet 6 (dTup (dCons (dFz (dCall i_fewest_rolls (dCons (dFz (dTup (dCons (dFz (dVar 7)) (dCons (dFz (dC (.int 0))) (dCons (dFz (dC (.int 0))) dNil))))) dNil))) (dCons (dFz (dCall i_fewest_rolls (dCons (dFz (dTup (dCons (dFz (dC (.int 0))) (dCons (dFz (dNeg (dVar 7))) (dCons (dFz (dC (.int 0))) dNil))))) dNil))) (dCons (dFz (dCall i_fewest_rolls (dCons (dFz (dTup (dCons (dFz (dVar 7)) (dCons (dFz (dNeg (dVar 7))) (dCons (dFz (dC (.int 0))) dNil))))) dNil))) (dCons (dFz (dCall i_first_word (dCons (dFz (dTup (dCons (dFz (dC (.int 0))) (dCons (dFz (dVar 7)) (dCons (dFz (dC (.int 0))) dNil))))) dNil))) (dCons (dFz (dCall i_rolls_between (dCons (dFz (dTup (dCons (dFz (dVar 7)) (dCons (dFz (dC (.int 0))) (dCons (dFz (dC (.int 1))) dNil))))) (dCons (dFz (dTup (dCons (dFz (dVar 7)) (dCons (dFz (dC (.int 0))) (dCons (dFz (dC (.int 0))) dNil))))) dNil)))) dNil))))))))
  (fz 6 (dRet (dCall i__law_same (dCons (dFz (dVar 6)) (dCons (dFz (dTup (dCons (dFz (dBin oMulA (dC (.int 2)) (dVar 7))) (dCons (dFz (dBin oMulA (dC (.int 2)) (dVar 7))) (dCons (dFz (dBin oMulA (dC (.int 2)) (dVar 7))) (dCons (dFz (dBin oMulA (dC (.str [99, 97])) (dVar 7))) (dCons (dFz (dC (.int 1))) dNil))))))) dNil)))))))))))))

def L : List Ev.Row := [(1, 1, d_is_whole), (3, 3, d_fits_whole), (3, 3, d_is_tuple_of), (1, 3, d_fits_word), (1, 1, d_need_word), (1, 3, d_need_spot), (2, 3, d_moved_in), (2, 7, d_rolled_in), (1, 3, d_along_in), (1, 4, d_far_in), (1, 5, d_first_in), (2, 4, d_between_in), (1, 1, d_fewest_rolls), (1, 1, d_first_word), (1, 1, d_first_alike), (2, 2, d_rolls_between), (1, 2, d__law_cup), (2, 4, d__law_roll), (2, 2, d__law_some), (2, 4, d__law_same), (1, 4, d__law_points), (2, 11, d__law_beside), (1, 12, d__law_stands), (2, 4, d__law_word), (1, 9, d__law_waves), (2, 7, d__law_right), (1, 8, d_law)]
def d_law0 : DenS := (fz 0 (dSet 1 (dCall i__law_cup (dCons (dFz (dVar 0)) dNil))))
def d_lawT7 : DenS := (fz 6 (dRet (dCall i__law_same (dCons (dFz (dVar 6)) (dCons (dFz (dTup (dCons (dFz (dBin oMulA (dC (.int 2)) (dVar 7))) (dCons (dFz (dBin oMulA (dC (.int 2)) (dVar 7))) (dCons (dFz (dBin oMulA (dC (.int 2)) (dVar 7))) (dCons (dFz (dBin oMulA (dC (.str [99, 97])) (dVar 7))) (dCons (dFz (dC (.int 1))) dNil))))))) dNil)))))
def d_lawT6 : DenS := (dSeq (fz 7 (dSet 6 (dTup (dCons (dFz (dCall i_fewest_rolls (dCons (dFz (dTup (dCons (dFz (dVar 7)) (dCons (dFz (dC (.int 0))) (dCons (dFz (dC (.int 0))) dNil))))) dNil))) (dCons (dFz (dCall i_fewest_rolls (dCons (dFz (dTup (dCons (dFz (dC (.int 0))) (dCons (dFz (dNeg (dVar 7))) (dCons (dFz (dC (.int 0))) dNil))))) dNil))) (dCons (dFz (dCall i_fewest_rolls (dCons (dFz (dTup (dCons (dFz (dVar 7)) (dCons (dFz (dNeg (dVar 7))) (dCons (dFz (dC (.int 0))) dNil))))) dNil))) (dCons (dFz (dCall i_first_word (dCons (dFz (dTup (dCons (dFz (dC (.int 0))) (dCons (dFz (dVar 7)) (dCons (dFz (dC (.int 0))) dNil))))) dNil))) (dCons (dFz (dCall i_rolls_between (dCons (dFz (dTup (dCons (dFz (dVar 7)) (dCons (dFz (dC (.int 0))) (dCons (dFz (dC (.int 1))) dNil))))) (dCons (dFz (dTup (dCons (dFz (dVar 7)) (dCons (dFz (dC (.int 0))) (dCons (dFz (dC (.int 0))) dNil))))) dNil)))) dNil)))))))) d_lawT7)
def d_lawT5 : DenS := (dSeq (fz 1 (dSet 7 (dCall i__law_roll (dCons (dFz (dVar 1)) (dCons (dFz (dC (.int 7))) dNil))))) d_lawT6)
def d_lawT4 : DenS := (dSeq (fz 6 (dIfS (tNot' (dT (dCall i__law_same (dCons (dFz (dVar 6)) (dCons (dFz (dTup (dCons (dFz (dBin oAdd (dBin oMulA (dC (.int 2)) (dVar 4)) (dC (.int 1)))) (dCons (dFz (dBin oSub (dBin oMulA (dC (.int 2)) (dVar 4)) (dC (.int 1)))) (dCons (dFz (dBin oSub (dBin oMulA (dC (.int 2)) (dVar 4)) (dC (.int 1)))) (dCons (dFz (dC (.int 0))) dNil)))))) dNil))))) (dRet (dC (.bl false))) dNop)) d_lawT5)
def d_lawT3 : DenS := (dSeq (fz 4 (fz 5 (dSet 6 (dTup (dCons (dFz (dCall i_fewest_rolls (dCons (dFz (dTup (dCons (dFz (dVar 4)) (dCons (dFz (dC (.int 0))) (dCons (dFz (dC (.int 1))) dNil))))) dNil))) (dCons (dFz (dCall i_fewest_rolls (dCons (dFz (dTup (dCons (dFz (dBin oSub (dC (.int 0)) (dVar 4))) (dCons (dFz (dC (.int 0))) (dCons (dFz (dC (.int 1))) dNil))))) dNil))) (dCons (dFz (dCall i_rolls_between (dCons (dFz (dVar 5)) (dCons (dFz (dTup (dCons (dFz (dVar 4)) (dCons (dFz (dC (.int 0))) (dCons (dFz (dC (.int 0))) dNil))))) dNil)))) (dCons (dFz (dCall i_rolls_between (dCons (dFz (dVar 5)) (dCons (dFz (dVar 5)) dNil)))) dNil)))))))) d_lawT4)
def d_lawT2 : DenS := (dSeq (fz 1 (dPar [4, 5] (xCons (dBin oAdd (dC (.int 1)) (dCall i__law_roll (dCons (dFz (dVar 1)) (dCons (dFz (dC (.int 6))) dNil)))) (xCons (dTup (dCons (dFz (dC (.int 0))) (dCons (dFz (dC (.int 0))) (dCons (dFz (dC (.int 1))) dNil)))) xNil)))) d_lawT3)
def d_lawT1 : DenS := (dSeq (fz 1 (fz 2 (dIfS (tNot' (dT (dCall i__law_right (dCons (dFz (dVar 1)) (dCons (dFz (dVar 2)) dNil))))) (dRet (dC (.bl false))) dNop))) d_lawT2)
def d_lawT0 : DenS := (dSeq (dTgt (.tp [(.nm 2), (.nm 3)]) (dCall i__law_waves (dCons (dFz (dC (.int 7))) dNil))) d_lawT1)
def d_law1 : DenS := d_lawT0


theorem L_eq : (Ev.defsOf p).map (rowOf (tabOf p)) = L.map some := by kernel_rfl
def F (n : Nat) : FT := callF (fun i => L[i]?) n
theorem F_succ (n i : Nat) (ds : List D) (g : Ev.G) (np nn : Nat) (b : DenS) (h : L[i]? = some (np, nn, b)) (hl : ds.length = np) : F (n + 1) i ds g = (b (F n) (entry nn ds) g).fin := callF_succ _ n i ds g np nn b h hl
theorem o_is_whole (n : Nat) (g : Ev.G) (a0 : D) : F (n + 1) i_is_whole [a0] g = (d_is_whole (F n) [.s a0] g).fin := F_succ n i_is_whole _ g 1 1 d_is_whole rfl rfl
theorem o_fits_whole (n : Nat) (g : Ev.G) (a0 a1 a2 : D) : F (n + 1) i_fits_whole [a0, a1, a2] g = (d_fits_whole (F n) [.s a0, .s a1, .s a2] g).fin := F_succ n i_fits_whole _ g 3 3 d_fits_whole rfl rfl
theorem o_is_tuple_of (n : Nat) (g : Ev.G) (a0 a1 a2 : D) : F (n + 1) i_is_tuple_of [a0, a1, a2] g = (d_is_tuple_of (F n) [.s a0, .s a1, .s a2] g).fin := F_succ n i_is_tuple_of _ g 3 3 d_is_tuple_of rfl rfl
theorem o_fits_word (n : Nat) (g : Ev.G) (a0 : D) : F (n + 1) i_fits_word [a0] g = (d_fits_word (F n) [.s a0, .n, .n] g).fin := F_succ n i_fits_word _ g 1 3 d_fits_word rfl rfl
theorem o_need_word (n : Nat) (g : Ev.G) (a0 : D) : F (n + 1) i_need_word [a0] g = (d_need_word (F n) [.s a0] g).fin := F_succ n i_need_word _ g 1 1 d_need_word rfl rfl
theorem o_need_spot (n : Nat) (g : Ev.G) (a0 : D) : F (n + 1) i_need_spot [a0] g = (d_need_spot (F n) [.s a0, .n, .n] g).fin := F_succ n i_need_spot _ g 1 3 d_need_spot rfl rfl
theorem o_moved_in (n : Nat) (g : Ev.G) (a0 a1 : D) : F (n + 1) i_moved_in [a0, a1] g = (d_moved_in (F n) [.s a0, .s a1, .n] g).fin := F_succ n i_moved_in _ g 2 3 d_moved_in rfl rfl
theorem o_rolled_in (n : Nat) (g : Ev.G) (a0 a1 : D) : F (n + 1) i_rolled_in [a0, a1] g = (d_rolled_in (F n) [.s a0, .s a1, .n, .n, .n, .n, .n] g).fin := F_succ n i_rolled_in _ g 2 7 d_rolled_in rfl rfl
theorem o_along_in (n : Nat) (g : Ev.G) (a0 : D) : F (n + 1) i_along_in [a0] g = (d_along_in (F n) [.s a0, .n, .n] g).fin := F_succ n i_along_in _ g 1 3 d_along_in rfl rfl
theorem o_far_in (n : Nat) (g : Ev.G) (a0 : D) : F (n + 1) i_far_in [a0] g = (d_far_in (F n) [.s a0, .n, .n, .n] g).fin := F_succ n i_far_in _ g 1 4 d_far_in rfl rfl
theorem o_first_in (n : Nat) (g : Ev.G) (a0 : D) : F (n + 1) i_first_in [a0] g = (d_first_in (F n) [.s a0, .n, .n, .n, .n] g).fin := F_succ n i_first_in _ g 1 5 d_first_in rfl rfl
theorem o_between_in (n : Nat) (g : Ev.G) (a0 a1 : D) : F (n + 1) i_between_in [a0, a1] g = (d_between_in (F n) [.s a0, .s a1, .n, .n] g).fin := F_succ n i_between_in _ g 2 4 d_between_in rfl rfl
theorem o_fewest_rolls (n : Nat) (g : Ev.G) (a0 : D) : F (n + 1) i_fewest_rolls [a0] g = (d_fewest_rolls (F n) [.s a0] g).fin := F_succ n i_fewest_rolls _ g 1 1 d_fewest_rolls rfl rfl
theorem o_first_word (n : Nat) (g : Ev.G) (a0 : D) : F (n + 1) i_first_word [a0] g = (d_first_word (F n) [.s a0] g).fin := F_succ n i_first_word _ g 1 1 d_first_word rfl rfl
theorem o_first_alike (n : Nat) (g : Ev.G) (a0 : D) : F (n + 1) i_first_alike [a0] g = (d_first_alike (F n) [.s a0] g).fin := F_succ n i_first_alike _ g 1 1 d_first_alike rfl rfl
theorem o_rolls_between (n : Nat) (g : Ev.G) (a0 a1 : D) : F (n + 1) i_rolls_between [a0, a1] g = (d_rolls_between (F n) [.s a0, .s a1] g).fin := F_succ n i_rolls_between _ g 2 2 d_rolls_between rfl rfl
theorem o__law_cup (n : Nat) (g : Ev.G) (a0 : D) : F (n + 1) i__law_cup [a0] g = (d__law_cup (F n) [.s a0, .n] g).fin := F_succ n i__law_cup _ g 1 2 d__law_cup rfl rfl
theorem o__law_roll (n : Nat) (g : Ev.G) (a0 a1 : D) : F (n + 1) i__law_roll [a0, a1] g = (d__law_roll (F n) [.s a0, .s a1, .n, .n] g).fin := F_succ n i__law_roll _ g 2 4 d__law_roll rfl rfl
theorem o__law_some (n : Nat) (g : Ev.G) (a0 a1 : D) : F (n + 1) i__law_some [a0, a1] g = (d__law_some (F n) [.s a0, .s a1] g).fin := F_succ n i__law_some _ g 2 2 d__law_some rfl rfl
theorem o__law_same (n : Nat) (g : Ev.G) (a0 a1 : D) : F (n + 1) i__law_same [a0, a1] g = (d__law_same (F n) [.s a0, .s a1, .n, .n] g).fin := F_succ n i__law_same _ g 2 4 d__law_same rfl rfl
theorem o__law_points (n : Nat) (g : Ev.G) (a0 : D) : F (n + 1) i__law_points [a0] g = (d__law_points (F n) [.s a0, .n, .n, .n] g).fin := F_succ n i__law_points _ g 1 4 d__law_points rfl rfl
theorem o__law_beside (n : Nat) (g : Ev.G) (a0 a1 : D) : F (n + 1) i__law_beside [a0, a1] g = (d__law_beside (F n) [.s a0, .s a1, .n, .n, .n, .n, .n, .n, .n, .n, .n] g).fin := F_succ n i__law_beside _ g 2 11 d__law_beside rfl rfl
theorem o__law_stands (n : Nat) (g : Ev.G) (a0 : D) : F (n + 1) i__law_stands [a0] g = (d__law_stands (F n) [.s a0, .n, .n, .n, .n, .n, .n, .n, .n, .n, .n, .n] g).fin := F_succ n i__law_stands _ g 1 12 d__law_stands rfl rfl
theorem o__law_word (n : Nat) (g : Ev.G) (a0 a1 : D) : F (n + 1) i__law_word [a0, a1] g = (d__law_word (F n) [.s a0, .s a1, .n, .n] g).fin := F_succ n i__law_word _ g 2 4 d__law_word rfl rfl
theorem o__law_waves (n : Nat) (g : Ev.G) (a0 : D) : F (n + 1) i__law_waves [a0] g = (d__law_waves (F n) [.s a0, .n, .n, .n, .n, .n, .n, .n, .n] g).fin := F_succ n i__law_waves _ g 1 9 d__law_waves rfl rfl
theorem o__law_right (n : Nat) (g : Ev.G) (a0 a1 : D) : F (n + 1) i__law_right [a0, a1] g = (d__law_right (F n) [.s a0, .s a1, .n, .n, .n, .n, .n] g).fin := F_succ n i__law_right _ g 2 7 d__law_right rfl rfl
theorem o_law (n : Nat) (g : Ev.G) (a0 : D) : F (n + 1) i_law [a0] g = (d_law (F n) [.s a0, .n, .n, .n, .n, .n, .n, .n] g).fin := F_succ n i_law _ g 1 8 d_law rfl rfl
end Kw
end

section
set_option maxHeartbeats 400000
namespace Kw
open PySem PySem.Spec L2 Ev
open PyProof.Rows hiding St
local macro_rules | `(tactic| simp! [$xs,*]) => `(tactic| simp (implicitDefEqProofs := false) only [Ev.bind_ok, Ev.bind_exc, Ev.bind_bad, Ev.sb_ok, Ev.sb_exc, Ev.sq_nx, Ev.sq_rt, Ev.sq_bk, Ev.sq_ct, Ev.sq_exc, Ev.fin_rt, Ev.fin_nx, Ev.fin_exc, Ev.fz_s', Ev.fz_f', Ev.fz_exc', Ev.nox_ok, Ev.dFz_eq, Ev.dC_eq, Ev.dNil_eq, Ev.dCons_eq, Ev.dVar_eq, Ev.slt_s, Ev.slt_o, Ev.optR_some, Ev.optE_some, Ev.optF_some, Ev.dTup_eq, Ev.dLst_eq, Ev.dBin_eq, Ev.dBif_eq, Ev.dIxBy_eq, Ev.tst_bl, Ev.tst_exc, Ev.dT_eq, Ev.tNot_eq, Ev.tAnd_eq, Ev.tOr_eq, Ev.dNot_eq, Ev.andV_bl, Ev.orV_bl, Ev.dAnd_eq, Ev.dOr_eq, Ev.negV_int, Ev.dNeg_eq, Ev.dIf_eq, Ev.chV_bl, Ev.dChain_eq, Ev.dCall_eq, Ev.dIsa_eq, Ev.dYes_eq, Ev.dLc_eq, Ev.dLc2_eq, Ev.itV_lst, Ev.itV_tup, Ev.itV_str, Ev.itV_dct, Ev.dIt_eq, Ev.rngV_int, Ev.dRng1_eq, Ev.rngV2_int, Ev.dRng2_eq, Ev.zipV_eq, Ev.dZip_eq, Ev.dEnum_eq, Ev.dSl_eq, Ev.dNoP_eq, Ev.parV_int, Ev.dP_eq, Ev.dctV_dct, Ev.dGet2_eq, Ev.dGet1_eq, Ev.dDct0_eq, Ev.pNil_eq, Ev.pCons_eq, Ev.dDct_eq, Ev.dM1_eq, Ev.mtyIn_cl, Ev.mtyIn_ct, Ev.mtyIn_il, Ev.mtyIn_js, Ev.mCount_o, Ev.mIndex_o, Ev.mJoin_o, Ev.dRev_eq, Ev.oRev_lst, Ev.oRev_tup, Ev.oRev_str, Ev.dLR1_eq, Ev.dLR2_eq, Ev.augV_f, Ev.dAug_eq, Ev.augW_o, Ev.augX_f, Ev.dTry_eq, Ev.tryV_nx, Ev.tryV_rt, Ev.tryV_exc, Ev.excV_t, Ev.excV_f, Ev.dSeq_eq, Ev.dNop_eq, Ev.dBreak_eq, Ev.dCont_eq, Ev.dRetN_eq, Ev.dRaise_eq, Ev.fz_eq, Ev.dIfS_eq, Ev.dDrop_eq, Ev.rtV_s, Ev.rtV_f, Ev.dRet_eq, Ev.rtSlt_s, Ev.rtSlt_o, Ev.dRetV_eq, Ev.dSet_eq, Ev.put1_s, Ev.put1_f, Ev.dTgt_eq, Ev.dFor_eq, Ev.dWhile_eq, Ev.xNil_eq, Ev.noW_s, Ev.noW_f, Ev.xCons_eq, Ev.optX_some, Ev.dPar_eq, Ev.putX_nil, Ev.putX_s, Ev.putX_f, Ev.dPut_eq, Ev.put2_eq, Ev.putV_dct, Ev.putV_lst, Ev.putV_hnd, Ev.hndPut_0, Ev.hndPut_1, Ev.hasV_s0, Ev.hasV_o0, Ev.hasV_succ, Ev.dApp_eq, Ev.appV_o, Ev.tset_nm, Ev.tset_tp, Ev.tsets_nil, Ev.tsets_nm, Ev.tsets_tp, Ev.oAdd_int, Ev.oSub_int, Ev.oDiv_int, Ev.oMod_int, Ev.oMul_int, Ev.oLt_int, Ev.oLe_int, Ev.oGt_int, Ev.oGe_int, Ev.oEq_int, Ev.oNe_int, Ev.oLen_lst, Ev.oLen_tup, Ev.oTuple_lst, Ev.oTuple_tup, Ev.oList_lst, Ev.oList_tup, Ev.oInt_int, Ev.oIs_nn, Ev.oIs_in, Ev.oIs_bn, Ev.oIs_sn, Ev.oIs_tn, Ev.oIs_ln, Ev.oIs_bb, Ev.oIsN_nn, Ev.oIsN_in, Ev.oIsN_tn, Ev.oIsN_bb, Ev.oMax_2, Ev.oMin_2, Ev.oIx_tup, Ev.oIx_lst, Ev.isaV_non_int, Ev.isaV_non_bool, Ev.isaV_non_tuple, Ev.isaV_non_list, Ev.isaV_non_str, Ev.isaV_non_dict, Ev.isaV_bl_int, Ev.isaV_bl_bool, Ev.isaV_bl_tuple, Ev.isaV_bl_list, Ev.isaV_bl_str, Ev.isaV_bl_dict, Ev.isaV_int_int, Ev.isaV_int_bool, Ev.isaV_int_tuple, Ev.isaV_int_list, Ev.isaV_int_str, Ev.isaV_int_dict, Ev.isaV_str_int, Ev.isaV_str_bool, Ev.isaV_str_tuple, Ev.isaV_str_list, Ev.isaV_str_str, Ev.isaV_str_dict, Ev.isaV_tup_int, Ev.isaV_tup_bool, Ev.isaV_tup_tuple, Ev.isaV_tup_list, Ev.isaV_tup_str, Ev.isaV_tup_dict, Ev.isaV_lst_int, Ev.isaV_lst_bool, Ev.isaV_lst_tuple, Ev.isaV_lst_list, Ev.isaV_lst_str, Ev.isaV_lst_dict, Ev.isaV_dct_int, Ev.isaV_dct_bool, Ev.isaV_dct_tuple, Ev.isaV_dct_list, Ev.isaV_dct_str, Ev.isaV_dct_dict, Ev.oStr_str, Ev.rng_map, Ev.oIx_hnd0, Ev.oIx_hnd1, Ev.lcTurn_eq, Ev.lcTurn2_eq, Ev.wipeE_nil, Ev.wipeE_cons, Ev.noO_nil, Ev.noO_o, Ev.noO_s, Ev.noO_n, Ev.noO_set, Ev.lcGo_nil, Ev.lcGo_cons', Ev.fzE_s0, Ev.fzE_n0, Ev.fzE_o0, Ev.fzE_succ, Ev.rsat_ok, Ev.ssat_nx, Ev.ssat_rt, Ev.ssat_bk, Ev.ssat_ct, Ev.rsat_bind, Ev.rsat_fz, Ev.rsat_nox, Ev.tstP_bl, Ev.rsat_tst, Ev.ssat_sb, Ev.ssat_sq, Ev.rsat_fin, List.getElem?_cons_zero, List.getElem?_cons_succ, List.set_cons_zero, List.set_cons_succ, List.map_cons, List.map_nil, List.length_cons, List.length_nil, List.length_map, List.replicate_succ, List.replicate_zero, List.cons_append, List.nil_append, entry_eq, Option.map_some, Option.map_none, Option.getD_some, Option.getD_none, Option.bind_some, Bool.not_true, Bool.not_false, Bool.false_eq_true, decide_eq_true_eq, Bool.not_eq_true, Bool.not_eq_true', decide_eq_false_iff_not, if_true, if_false, ite_true, ite_false, decide_true, decide_false, Int.toNat_natCast, ne_eq, not_true_eq_false, not_false_eq_true, true_and, and_true, and_self, reduceCtorEq, Nat.zero_add, Nat.reduceAdd, Nat.reduceSub, Nat.reduceLeDiff, Nat.reduceEqDiff, List.length_range, Int.cast_ofNat_Int, Int.reduceLE, Int.reduceLT, Int.le_refl, Nat.le_refl, Int.reduceAdd, Int.reduceSub, Int.reduceMul, Int.reduceNeg, Int.toNat_natCast, Int.natCast_zero, Int.reduceEq, Int.reduceNe, List.flatMap_cons, List.flatMap_nil, $xs,*])
/-! ### points of spots, spots beside -/
section
def pt (a b : Int) : D := .tup [.int a, .int b]
def sq (x y k : Int) : D := .tup [.int x, .int y, .int k]
theorem pts0 (n : Nat) (g : Ev.G) (x y : Int) : F (n + 1) i__law_points [.tup [.int x, .int y, .int 0]] g = .ok (.lst [.tup [.int x, .int y], .tup [.int (x + 1), .int y], .tup [.int x, .int (y + 1)]], true) g := by kernel_rfl
theorem pts1 (n : Nat) (g : Ev.G) (x y : Int) : F (n + 1) i__law_points [.tup [.int x, .int y, .int 1]] g = .ok (.lst [.tup [.int (x + 1), .int (y + 1)], .tup [.int (x + 1), .int y], .tup [.int x, .int (y + 1)]], true) g := by kernel_rfl
theorem eqv2 (a b c d : Int) : PyData.eqv (D.tup [.int a, .int b]).py (D.tup [.int c, .int d]).py = (decide (a = c) && decide (b = d)) := by
  show ((a == c) && ((b == d) && true)) = _
  rw [Bool.and_true, Bool.beq_eq_decide_eq a c, Bool.beq_eq_decide_eq b d]
theorem ni3 (a b c1 d1 c2 d2 c3 d3 : Int) (f2 : Fl) : oNi (.tup [.int a, .int b], .s) (.lst [.tup [.int c1, .int d1], .tup [.int c2, .int d2], .tup [.int c3, .int d3]], f2) =
    some (.bl (!((decide (c1 = a) && decide (d1 = b)) || ((decide (c2 = a) && decide (d2 = b)) || ((decide (c3 = a) && decide (d3 = b)) || false)))), .s) := by
  unfold oNi
  rw [show oNi0 (.tup [.int a, .int b], .s) (.lst [.tup [.int c1, .int d1], .tup [.int c2, .int d2], .tup [.int c3, .int d3]], f2) = none from rfl]
  dsimp only
  unfold oInP
  dsimp only
  rw [if_pos ⟨rfl, rfl⟩]
  simp only [if_true, D.pys, List.any_cons, List.any_nil, eqv2]
end

section
def d_be1 : DenS := (dSet 2 (dIxBy oIx (dDct (pCons (dC (.str [97])) (dLst (dCons (dFz (dC (.int 0))) (dCons (dFz (dC (.int 1))) dNil))) (pCons (dC (.str [98])) (dLst (dCons (dFz (dC (.int 0))) (dCons (dFz (dC (.int 2))) dNil))) (pCons (dC (.str [99])) (dLst (dCons (dFz (dC (.int 1))) (dCons (dFz (dC (.int 2))) dNil))) pNil)))) (dVar 1)))
def d_be2 : DenS := (fz 0 (dSet 3 (dIf (dT (dBin oEq (dIxBy oIx (dVar 0) (dC (.int 2))) (dC (.int 0)))) (dLc (dIt (dVar 2)) (.nm 9) dYes (dIxBy oIx (dCall i__law_points (dCons (dFz (dVar 0)) dNil)) (dVar 9)) [8, 9]) (dLc (dIt (dIxBy oIx (dDct (pCons (dC (.str [97])) (dLst (dCons (dFz (dC (.int 0))) (dCons (dFz (dC (.int 2))) dNil))) (pCons (dC (.str [98])) (dLst (dCons (dFz (dC (.int 0))) (dCons (dFz (dC (.int 1))) dNil))) (pCons (dC (.str [99])) (dLst (dCons (dFz (dC (.int 1))) (dCons (dFz (dC (.int 2))) dNil))) pNil)))) (dVar 1))) (.nm 9) dYes (dIxBy oIx (dCall i__law_points (dCons (dFz (dVar 0)) dNil)) (dVar 9)) [8, 9]))))
def d_be3 : DenS := (fz 0 (dTgt (.tp [(.nm 4), (.nm 5), (.nm 6)]) (dVar 0)))
def d_be4 : DenS := (fz 7 (dIfS (dT (dBin oEq (dLc (dIt (dVar 3)) (.nm 10) (dT (dBin oNi (dVar 10) (dCall i__law_points (dCons (dFz (dVar 7)) dNil)))) (dVar 10) [8, 10]) (dLst dNil))) (dRetV 7) dNop))
def d_be5 : DenL := (dIt (dFz (dLst (dCons (dFz (dTup (dCons (dFz (dVar 4)) (dCons (dFz (dVar 5)) (dCons (dFz (dBin oSub (dC (.int 1)) (dVar 6))) dNil))))) (dCons (dFz (dTup (dCons (dFz (dVar 4)) (dCons (dFz (dBin oSub (dVar 5) (dC (.int 1)))) (dCons (dFz (dBin oSub (dC (.int 1)) (dVar 6))) dNil))))) (dCons (dFz (dTup (dCons (dFz (dVar 4)) (dCons (dFz (dBin oAdd (dVar 5) (dC (.int 1)))) (dCons (dFz (dBin oSub (dC (.int 1)) (dVar 6))) dNil))))) (dCons (dFz (dTup (dCons (dFz (dBin oSub (dVar 4) (dC (.int 1)))) (dCons (dFz (dVar 5)) (dCons (dFz (dBin oSub (dC (.int 1)) (dVar 6))) dNil))))) (dCons (dFz (dTup (dCons (dFz (dBin oAdd (dVar 4) (dC (.int 1)))) (dCons (dFz (dVar 5)) (dCons (dFz (dBin oSub (dC (.int 1)) (dVar 6))) dNil))))) dNil))))))))
theorem r_beside : d__law_beside = dSeq d_be1 (dSeq d_be2 (dSeq d_be3 (dSeq (fz 4 (fz 5 (dFor d_be5 (.nm 7) d_be4))) (dRetV 0)))) := rfl
end
section
def m3 (a b c1 d1 c2 d2 c3 d3 : Int) : Bool := (decide (c1 = a) && decide (d1 = b)) || ((decide (c2 = a) && decide (d2 = b)) || ((decide (c3 = a) && decide (d3 = b)) || false))
theorem q0 (f1 f2 : Fl) : oEq (.lst [], f1) (.lst [], f2) = some (.bl true, .s) := rfl
theorem q1 (a b : Int) (f1 f2 : Fl) : oEq (.lst [.tup [.int a, .int b]], f1) (.lst [], f2) = some (.bl false, .s) := rfl
theorem q2 (a b c d : Int) (f1 f2 : Fl) : oEq (.lst [.tup [.int a, .int b], .tup [.int c, .int d]], f1) (.lst [], f2) = some (.bl false, .s) := rfl
theorem be4 (n : Nat) (g : Ev.G) (s0 s1 s2 s4 s5 s6 : Slt) (a1 b1 a2 b2 u v k c1 d1 c2 d2 c3 d3 : Int) (hp : ∀ g, F (n + 1) i__law_points [.tup [.int u, .int v, .int k]] g = .ok (.lst [.tup [.int c1, .int d1], .tup [.int c2, .int d2], .tup [.int c3, .int d3]], true) g) :
    d_be4 (F (n + 1)) [s0, s1, s2, .o (.lst [.tup [.int a1, .int b1], .tup [.int a2, .int b2]]), s4, s5, s6, .s (.tup [.int u, .int v, .int k]), .n, .n, .n] g =
      if (m3 a1 b1 c1 d1 c2 d2 c3 d3 && m3 a2 b2 c1 d1 c2 d2 c3 d3) = true then .rt (.tup [.int u, .int v, .int k]) false g else .nx [s0, s1, s2, .o (.lst [.tup [.int a1, .int b1], .tup [.int a2, .int b2]]), s4, s5, s6, .s (.tup [.int u, .int v, .int k]), .n, .n, .n] g := by
  rw [d_be4]
  have e1 := ni3 a1 b1 c1 d1 c2 d2 c3 d3 .f
  have e2 := ni3 a2 b2 c1 d1 c2 d2 c3 d3 .f
  change _ = some (D.bl (!m3 a1 b1 c1 d1 c2 d2 c3 d3), Fl.s) at e1
  change _ = some (D.bl (!m3 a2 b2 c1 d1 c2 d2 c3 d3), Fl.s) at e2
  generalize m3 a1 b1 c1 d1 c2 d2 c3 d3 = m1 at *
  generalize m3 a2 b2 c1 d1 c2 d2 c3 d3 = m2 at *
  cases m1 <;> cases m2 <;> simp! [hp, e1, e2, LN_le (show 2 ≤ 10000000 by omega), LN_le (show 0 ≤ 10000000 by omega), q0, q1, q2, Bool.and_true, Bool.and_false, Bool.false_eq_true]
end
end Kw
end

section
set_option maxHeartbeats 400000
namespace Kw
open PySem PySem.Spec L2 Ev
open PyProof.Rows hiding St
local macro_rules | `(tactic| simp! [$xs,*]) => `(tactic| simp (implicitDefEqProofs := false) only [Ev.bind_ok, Ev.bind_exc, Ev.bind_bad, Ev.sb_ok, Ev.sb_exc, Ev.sq_nx, Ev.sq_rt, Ev.sq_bk, Ev.sq_ct, Ev.sq_exc, Ev.fin_rt, Ev.fin_nx, Ev.fin_exc, Ev.fz_s', Ev.fz_f', Ev.fz_exc', Ev.nox_ok, Ev.dFz_eq, Ev.dC_eq, Ev.dNil_eq, Ev.dCons_eq, Ev.dVar_eq, Ev.slt_s, Ev.slt_o, Ev.optR_some, Ev.optE_some, Ev.optF_some, Ev.dTup_eq, Ev.dLst_eq, Ev.dBin_eq, Ev.dBif_eq, Ev.dIxBy_eq, Ev.tst_bl, Ev.tst_exc, Ev.dT_eq, Ev.tNot_eq, Ev.tAnd_eq, Ev.tOr_eq, Ev.dNot_eq, Ev.andV_bl, Ev.orV_bl, Ev.dAnd_eq, Ev.dOr_eq, Ev.negV_int, Ev.dNeg_eq, Ev.dIf_eq, Ev.chV_bl, Ev.dChain_eq, Ev.dCall_eq, Ev.dIsa_eq, Ev.dYes_eq, Ev.dLc_eq, Ev.dLc2_eq, Ev.itV_lst, Ev.itV_tup, Ev.itV_str, Ev.itV_dct, Ev.dIt_eq, Ev.rngV_int, Ev.dRng1_eq, Ev.rngV2_int, Ev.dRng2_eq, Ev.zipV_eq, Ev.dZip_eq, Ev.dEnum_eq, Ev.dSl_eq, Ev.dNoP_eq, Ev.parV_int, Ev.dP_eq, Ev.dctV_dct, Ev.dGet2_eq, Ev.dGet1_eq, Ev.dDct0_eq, Ev.pNil_eq, Ev.pCons_eq, Ev.dDct_eq, Ev.dM1_eq, Ev.mtyIn_cl, Ev.mtyIn_ct, Ev.mtyIn_il, Ev.mtyIn_js, Ev.mCount_o, Ev.mIndex_o, Ev.mJoin_o, Ev.dRev_eq, Ev.oRev_lst, Ev.oRev_tup, Ev.oRev_str, Ev.dLR1_eq, Ev.dLR2_eq, Ev.augV_f, Ev.dAug_eq, Ev.augW_o, Ev.augX_f, Ev.dTry_eq, Ev.tryV_nx, Ev.tryV_rt, Ev.tryV_exc, Ev.excV_t, Ev.excV_f, Ev.dSeq_eq, Ev.dNop_eq, Ev.dBreak_eq, Ev.dCont_eq, Ev.dRetN_eq, Ev.dRaise_eq, Ev.fz_eq, Ev.dIfS_eq, Ev.dDrop_eq, Ev.rtV_s, Ev.rtV_f, Ev.dRet_eq, Ev.rtSlt_s, Ev.rtSlt_o, Ev.dRetV_eq, Ev.dSet_eq, Ev.put1_s, Ev.put1_f, Ev.dTgt_eq, Ev.dFor_eq, Ev.dWhile_eq, Ev.xNil_eq, Ev.noW_s, Ev.noW_f, Ev.xCons_eq, Ev.optX_some, Ev.dPar_eq, Ev.putX_nil, Ev.putX_s, Ev.putX_f, Ev.dPut_eq, Ev.put2_eq, Ev.putV_dct, Ev.putV_lst, Ev.putV_hnd, Ev.hndPut_0, Ev.hndPut_1, Ev.hasV_s0, Ev.hasV_o0, Ev.hasV_succ, Ev.dApp_eq, Ev.appV_o, Ev.tset_nm, Ev.tset_tp, Ev.tsets_nil, Ev.tsets_nm, Ev.tsets_tp, Ev.oAdd_int, Ev.oSub_int, Ev.oDiv_int, Ev.oMod_int, Ev.oMul_int, Ev.oLt_int, Ev.oLe_int, Ev.oGt_int, Ev.oGe_int, Ev.oEq_int, Ev.oNe_int, Ev.oLen_lst, Ev.oLen_tup, Ev.oTuple_lst, Ev.oTuple_tup, Ev.oList_lst, Ev.oList_tup, Ev.oInt_int, Ev.oIs_nn, Ev.oIs_in, Ev.oIs_bn, Ev.oIs_sn, Ev.oIs_tn, Ev.oIs_ln, Ev.oIs_bb, Ev.oIsN_nn, Ev.oIsN_in, Ev.oIsN_tn, Ev.oIsN_bb, Ev.oMax_2, Ev.oMin_2, Ev.oIx_tup, Ev.oIx_lst, Ev.isaV_non_int, Ev.isaV_non_bool, Ev.isaV_non_tuple, Ev.isaV_non_list, Ev.isaV_non_str, Ev.isaV_non_dict, Ev.isaV_bl_int, Ev.isaV_bl_bool, Ev.isaV_bl_tuple, Ev.isaV_bl_list, Ev.isaV_bl_str, Ev.isaV_bl_dict, Ev.isaV_int_int, Ev.isaV_int_bool, Ev.isaV_int_tuple, Ev.isaV_int_list, Ev.isaV_int_str, Ev.isaV_int_dict, Ev.isaV_str_int, Ev.isaV_str_bool, Ev.isaV_str_tuple, Ev.isaV_str_list, Ev.isaV_str_str, Ev.isaV_str_dict, Ev.isaV_tup_int, Ev.isaV_tup_bool, Ev.isaV_tup_tuple, Ev.isaV_tup_list, Ev.isaV_tup_str, Ev.isaV_tup_dict, Ev.isaV_lst_int, Ev.isaV_lst_bool, Ev.isaV_lst_tuple, Ev.isaV_lst_list, Ev.isaV_lst_str, Ev.isaV_lst_dict, Ev.isaV_dct_int, Ev.isaV_dct_bool, Ev.isaV_dct_tuple, Ev.isaV_dct_list, Ev.isaV_dct_str, Ev.isaV_dct_dict, Ev.oStr_str, Ev.rng_map, Ev.oIx_hnd0, Ev.oIx_hnd1, Ev.lcTurn_eq, Ev.lcTurn2_eq, Ev.wipeE_nil, Ev.wipeE_cons, Ev.noO_nil, Ev.noO_o, Ev.noO_s, Ev.noO_n, Ev.noO_set, Ev.lcGo_nil, Ev.lcGo_cons', Ev.fzE_s0, Ev.fzE_n0, Ev.fzE_o0, Ev.fzE_succ, Ev.rsat_ok, Ev.ssat_nx, Ev.ssat_rt, Ev.ssat_bk, Ev.ssat_ct, Ev.rsat_bind, Ev.rsat_fz, Ev.rsat_nox, Ev.tstP_bl, Ev.rsat_tst, Ev.ssat_sb, Ev.ssat_sq, Ev.rsat_fin, List.getElem?_cons_zero, List.getElem?_cons_succ, List.set_cons_zero, List.set_cons_succ, List.map_cons, List.map_nil, List.length_cons, List.length_nil, List.length_map, List.replicate_succ, List.replicate_zero, List.cons_append, List.nil_append, entry_eq, Option.map_some, Option.map_none, Option.getD_some, Option.getD_none, Option.bind_some, Bool.not_true, Bool.not_false, Bool.false_eq_true, decide_eq_true_eq, Bool.not_eq_true, Bool.not_eq_true', decide_eq_false_iff_not, if_true, if_false, ite_true, ite_false, decide_true, decide_false, Int.toNat_natCast, ne_eq, not_true_eq_false, not_false_eq_true, true_and, and_true, and_self, reduceCtorEq, Nat.zero_add, Nat.reduceAdd, Nat.reduceSub, Nat.reduceLeDiff, Nat.reduceEqDiff, List.length_range, Int.cast_ofNat_Int, Int.reduceLE, Int.reduceLT, Int.le_refl, Nat.le_refl, Int.reduceAdd, Int.reduceSub, Int.reduceMul, Int.reduceNeg, Int.toNat_natCast, Int.natCast_zero, Int.reduceEq, Int.reduceNe, List.flatMap_cons, List.flatMap_nil, $xs,*])
section
variable (n : Nat) (g : Ev.G) (x y : Int)
theorem go_hit {t : Tgt} {b : DenS} {F : FT} {d : D} {r : List D} {ρ ρ1 : Env'} {v : D} {f : Bool} {g g' : Ev.G} (h1 : t.set d ρ = some ρ1) (h2 : b F ρ1 g = .rt v f g') : forGo t b F (d :: r) ρ g = .rt v f g' := by
  simp only [forGo, h1, h2]
theorem go_skip {t : Tgt} {b : DenS} {F : FT} {d : D} {r : List D} {ρ ρ1 ρ2 : Env'} {g g' : Ev.G} (h1 : t.set d ρ = some ρ1) (h2 : b F ρ1 g = .nx ρ2 g') : forGo t b F (d :: r) ρ g = forGo t b F r ρ2 g' := by
  simp only [forGo, h1, h2]
theorem be5_0 (s0 s1 s2 s3 s7 : Slt) (m : Nat) : d_be5 (F m) [s0, s1, s2, s3, .s (.int x), .s (.int y), .s (.int 0), s7, .n, .n, .n] g = .ok [.tup [.int (x), .int (y), .int 1], .tup [.int (x), .int (y - 1), .int 1], .tup [.int (x), .int (y + 1), .int 1], .tup [.int (x - 1), .int (y), .int 1], .tup [.int (x + 1), .int (y), .int 1]] g := by kernel_rfl
theorem be1_0a : d_be1 (F (n + 1)) [.s (.tup [.int x, .int y, .int 0]), .s (.str [97]), .n, .n, .n, .n, .n, .n, .n, .n, .n] g = .nx [.s (.tup [.int x, .int y, .int 0]), .s (.str [97]), .s (.lst [.int 0, .int 1]), .n, .n, .n, .n, .n, .n, .n, .n] g := by kernel_rfl
theorem be2_0a : d_be2 (F (n + 1)) [.s (.tup [.int x, .int y, .int 0]), .s (.str [97]), .s (.lst [.int 0, .int 1]), .n, .n, .n, .n, .n, .n, .n, .n] g = .nx [.s (.tup [.int x, .int y, .int 0]), .s (.str [97]), .s (.lst [.int 0, .int 1]), .o (.lst [.tup [.int (x), .int (y)], .tup [.int (x + 1), .int (y)]]), .n, .n, .n, .n, .n, .n, .n] g := by kernel_rfl
theorem be3_0a : d_be3 (F (n + 1)) [.s (.tup [.int x, .int y, .int 0]), .s (.str [97]), .s (.lst [.int 0, .int 1]), .o (.lst [.tup [.int (x), .int (y)], .tup [.int (x + 1), .int (y)]]), .n, .n, .n, .n, .n, .n, .n] g = .nx [.s (.tup [.int x, .int y, .int 0]), .s (.str [97]), .s (.lst [.int 0, .int 1]), .o (.lst [.tup [.int (x), .int (y)], .tup [.int (x + 1), .int (y)]]), .s (.int x), .s (.int y), .s (.int 0), .n, .n, .n, .n] g := by kernel_rfl
theorem loop_0a : forGo (.nm 7) d_be4 (F (n + 1)) [.tup [.int (x), .int (y), .int 1], .tup [.int (x), .int (y - 1), .int 1], .tup [.int (x), .int (y + 1), .int 1], .tup [.int (x - 1), .int (y), .int 1], .tup [.int (x + 1), .int (y), .int 1]] [.s (.tup [.int x, .int y, .int 0]), .s (.str [97]), .s (.lst [.int 0, .int 1]), .o (.lst [.tup [.int (x), .int (y)], .tup [.int (x + 1), .int (y)]]), .s (.int x), .s (.int y), .s (.int 0), .n, .n, .n, .n] g = .rt (.tup [.int (x), .int (y - 1), .int 1]) false g := by
  refine (go_skip rfl ((be4 n g _ _ _ _ _ _ (x) (y) (x + 1) (y) (x) (y) 1 ((x) + 1) ((y) + 1) ((x) + 1) ((y)) ((x)) ((y) + 1) (fun g => pts1 n g (x) (y))).trans (if_neg (by simp [m3] <;> omega)))).trans ?_
  refine (go_hit rfl ((be4 n g _ _ _ _ _ _ (x) (y) (x + 1) (y) (x) (y - 1) 1 ((x) + 1) ((y - 1) + 1) ((x) + 1) ((y - 1)) ((x)) ((y - 1) + 1) (fun g => pts1 n g (x) (y - 1))).trans (if_pos (by simp [m3]))))
theorem beside_0a : F (n + 2) i__law_beside [.tup [.int x, .int y, .int 0], .str [97]] g = .ok (.tup [.int (x), .int (y - 1), .int 1], false) g := by
  rw [o__law_beside, r_beside]
  simp! [be1_0a, be2_0a, be3_0a, be5_0, loop_0a]
theorem be1_0b : d_be1 (F (n + 1)) [.s (.tup [.int x, .int y, .int 0]), .s (.str [98]), .n, .n, .n, .n, .n, .n, .n, .n, .n] g = .nx [.s (.tup [.int x, .int y, .int 0]), .s (.str [98]), .s (.lst [.int 0, .int 2]), .n, .n, .n, .n, .n, .n, .n, .n] g := by kernel_rfl
theorem be2_0b : d_be2 (F (n + 1)) [.s (.tup [.int x, .int y, .int 0]), .s (.str [98]), .s (.lst [.int 0, .int 2]), .n, .n, .n, .n, .n, .n, .n, .n] g = .nx [.s (.tup [.int x, .int y, .int 0]), .s (.str [98]), .s (.lst [.int 0, .int 2]), .o (.lst [.tup [.int (x), .int (y)], .tup [.int (x), .int (y + 1)]]), .n, .n, .n, .n, .n, .n, .n] g := by kernel_rfl
theorem be3_0b : d_be3 (F (n + 1)) [.s (.tup [.int x, .int y, .int 0]), .s (.str [98]), .s (.lst [.int 0, .int 2]), .o (.lst [.tup [.int (x), .int (y)], .tup [.int (x), .int (y + 1)]]), .n, .n, .n, .n, .n, .n, .n] g = .nx [.s (.tup [.int x, .int y, .int 0]), .s (.str [98]), .s (.lst [.int 0, .int 2]), .o (.lst [.tup [.int (x), .int (y)], .tup [.int (x), .int (y + 1)]]), .s (.int x), .s (.int y), .s (.int 0), .n, .n, .n, .n] g := by kernel_rfl
theorem loop_0b : forGo (.nm 7) d_be4 (F (n + 1)) [.tup [.int (x), .int (y), .int 1], .tup [.int (x), .int (y - 1), .int 1], .tup [.int (x), .int (y + 1), .int 1], .tup [.int (x - 1), .int (y), .int 1], .tup [.int (x + 1), .int (y), .int 1]] [.s (.tup [.int x, .int y, .int 0]), .s (.str [98]), .s (.lst [.int 0, .int 2]), .o (.lst [.tup [.int (x), .int (y)], .tup [.int (x), .int (y + 1)]]), .s (.int x), .s (.int y), .s (.int 0), .n, .n, .n, .n] g = .rt (.tup [.int (x - 1), .int (y), .int 1]) false g := by
  refine (go_skip rfl ((be4 n g _ _ _ _ _ _ (x) (y) (x) (y + 1) (x) (y) 1 ((x) + 1) ((y) + 1) ((x) + 1) ((y)) ((x)) ((y) + 1) (fun g => pts1 n g (x) (y))).trans (if_neg (by simp [m3] <;> omega)))).trans ?_
  refine (go_skip rfl ((be4 n g _ _ _ _ _ _ (x) (y) (x) (y + 1) (x) (y - 1) 1 ((x) + 1) ((y - 1) + 1) ((x) + 1) ((y - 1)) ((x)) ((y - 1) + 1) (fun g => pts1 n g (x) (y - 1))).trans (if_neg (by simp [m3] <;> omega)))).trans ?_
  refine (go_skip rfl ((be4 n g _ _ _ _ _ _ (x) (y) (x) (y + 1) (x) (y + 1) 1 ((x) + 1) ((y + 1) + 1) ((x) + 1) ((y + 1)) ((x)) ((y + 1) + 1) (fun g => pts1 n g (x) (y + 1))).trans (if_neg (by simp [m3] <;> omega)))).trans ?_
  refine (go_hit rfl ((be4 n g _ _ _ _ _ _ (x) (y) (x) (y + 1) (x - 1) (y) 1 ((x - 1) + 1) ((y) + 1) ((x - 1) + 1) ((y)) ((x - 1)) ((y) + 1) (fun g => pts1 n g (x - 1) (y))).trans (if_pos (by simp [m3]))))
theorem beside_0b : F (n + 2) i__law_beside [.tup [.int x, .int y, .int 0], .str [98]] g = .ok (.tup [.int (x - 1), .int (y), .int 1], false) g := by
  rw [o__law_beside, r_beside]
  simp! [be1_0b, be2_0b, be3_0b, be5_0, loop_0b]
theorem be1_0c : d_be1 (F (n + 1)) [.s (.tup [.int x, .int y, .int 0]), .s (.str [99]), .n, .n, .n, .n, .n, .n, .n, .n, .n] g = .nx [.s (.tup [.int x, .int y, .int 0]), .s (.str [99]), .s (.lst [.int 1, .int 2]), .n, .n, .n, .n, .n, .n, .n, .n] g := by kernel_rfl
theorem be2_0c : d_be2 (F (n + 1)) [.s (.tup [.int x, .int y, .int 0]), .s (.str [99]), .s (.lst [.int 1, .int 2]), .n, .n, .n, .n, .n, .n, .n, .n] g = .nx [.s (.tup [.int x, .int y, .int 0]), .s (.str [99]), .s (.lst [.int 1, .int 2]), .o (.lst [.tup [.int (x + 1), .int (y)], .tup [.int (x), .int (y + 1)]]), .n, .n, .n, .n, .n, .n, .n] g := by kernel_rfl
theorem be3_0c : d_be3 (F (n + 1)) [.s (.tup [.int x, .int y, .int 0]), .s (.str [99]), .s (.lst [.int 1, .int 2]), .o (.lst [.tup [.int (x + 1), .int (y)], .tup [.int (x), .int (y + 1)]]), .n, .n, .n, .n, .n, .n, .n] g = .nx [.s (.tup [.int x, .int y, .int 0]), .s (.str [99]), .s (.lst [.int 1, .int 2]), .o (.lst [.tup [.int (x + 1), .int (y)], .tup [.int (x), .int (y + 1)]]), .s (.int x), .s (.int y), .s (.int 0), .n, .n, .n, .n] g := by kernel_rfl
theorem loop_0c : forGo (.nm 7) d_be4 (F (n + 1)) [.tup [.int (x), .int (y), .int 1], .tup [.int (x), .int (y - 1), .int 1], .tup [.int (x), .int (y + 1), .int 1], .tup [.int (x - 1), .int (y), .int 1], .tup [.int (x + 1), .int (y), .int 1]] [.s (.tup [.int x, .int y, .int 0]), .s (.str [99]), .s (.lst [.int 1, .int 2]), .o (.lst [.tup [.int (x + 1), .int (y)], .tup [.int (x), .int (y + 1)]]), .s (.int x), .s (.int y), .s (.int 0), .n, .n, .n, .n] g = .rt (.tup [.int (x), .int (y), .int 1]) false g := by
  refine (go_hit rfl ((be4 n g _ _ _ _ _ _ (x + 1) (y) (x) (y + 1) (x) (y) 1 ((x) + 1) ((y) + 1) ((x) + 1) ((y)) ((x)) ((y) + 1) (fun g => pts1 n g (x) (y))).trans (if_pos (by simp [m3]))))
theorem beside_0c : F (n + 2) i__law_beside [.tup [.int x, .int y, .int 0], .str [99]] g = .ok (.tup [.int (x), .int (y), .int 1], false) g := by
  rw [o__law_beside, r_beside]
  simp! [be1_0c, be2_0c, be3_0c, be5_0, loop_0c]
theorem be5_1 (s0 s1 s2 s3 s7 : Slt) (m : Nat) : d_be5 (F m) [s0, s1, s2, s3, .s (.int x), .s (.int y), .s (.int 1), s7, .n, .n, .n] g = .ok [.tup [.int (x), .int (y), .int 0], .tup [.int (x), .int (y - 1), .int 0], .tup [.int (x), .int (y + 1), .int 0], .tup [.int (x - 1), .int (y), .int 0], .tup [.int (x + 1), .int (y), .int 0]] g := by kernel_rfl
theorem be1_1a : d_be1 (F (n + 1)) [.s (.tup [.int x, .int y, .int 1]), .s (.str [97]), .n, .n, .n, .n, .n, .n, .n, .n, .n] g = .nx [.s (.tup [.int x, .int y, .int 1]), .s (.str [97]), .s (.lst [.int 0, .int 1]), .n, .n, .n, .n, .n, .n, .n, .n] g := by kernel_rfl
theorem be2_1a : d_be2 (F (n + 1)) [.s (.tup [.int x, .int y, .int 1]), .s (.str [97]), .s (.lst [.int 0, .int 1]), .n, .n, .n, .n, .n, .n, .n, .n] g = .nx [.s (.tup [.int x, .int y, .int 1]), .s (.str [97]), .s (.lst [.int 0, .int 1]), .o (.lst [.tup [.int (x + 1), .int (y + 1)], .tup [.int (x), .int (y + 1)]]), .n, .n, .n, .n, .n, .n, .n] g := by kernel_rfl
theorem be3_1a : d_be3 (F (n + 1)) [.s (.tup [.int x, .int y, .int 1]), .s (.str [97]), .s (.lst [.int 0, .int 1]), .o (.lst [.tup [.int (x + 1), .int (y + 1)], .tup [.int (x), .int (y + 1)]]), .n, .n, .n, .n, .n, .n, .n] g = .nx [.s (.tup [.int x, .int y, .int 1]), .s (.str [97]), .s (.lst [.int 0, .int 1]), .o (.lst [.tup [.int (x + 1), .int (y + 1)], .tup [.int (x), .int (y + 1)]]), .s (.int x), .s (.int y), .s (.int 1), .n, .n, .n, .n] g := by kernel_rfl
theorem loop_1a : forGo (.nm 7) d_be4 (F (n + 1)) [.tup [.int (x), .int (y), .int 0], .tup [.int (x), .int (y - 1), .int 0], .tup [.int (x), .int (y + 1), .int 0], .tup [.int (x - 1), .int (y), .int 0], .tup [.int (x + 1), .int (y), .int 0]] [.s (.tup [.int x, .int y, .int 1]), .s (.str [97]), .s (.lst [.int 0, .int 1]), .o (.lst [.tup [.int (x + 1), .int (y + 1)], .tup [.int (x), .int (y + 1)]]), .s (.int x), .s (.int y), .s (.int 1), .n, .n, .n, .n] g = .rt (.tup [.int (x), .int (y + 1), .int 0]) false g := by
  refine (go_skip rfl ((be4 n g _ _ _ _ _ _ (x + 1) (y + 1) (x) (y + 1) (x) (y) 0 ((x)) ((y)) ((x) + 1) ((y)) ((x)) ((y) + 1) (fun g => pts0 n g (x) (y))).trans (if_neg (by simp [m3] <;> omega)))).trans ?_
  refine (go_skip rfl ((be4 n g _ _ _ _ _ _ (x + 1) (y + 1) (x) (y + 1) (x) (y - 1) 0 ((x)) ((y - 1)) ((x) + 1) ((y - 1)) ((x)) ((y - 1) + 1) (fun g => pts0 n g (x) (y - 1))).trans (if_neg (by simp [m3] <;> omega)))).trans ?_
  refine (go_hit rfl ((be4 n g _ _ _ _ _ _ (x + 1) (y + 1) (x) (y + 1) (x) (y + 1) 0 ((x)) ((y + 1)) ((x) + 1) ((y + 1)) ((x)) ((y + 1) + 1) (fun g => pts0 n g (x) (y + 1))).trans (if_pos (by simp [m3]))))
theorem beside_1a : F (n + 2) i__law_beside [.tup [.int x, .int y, .int 1], .str [97]] g = .ok (.tup [.int (x), .int (y + 1), .int 0], false) g := by
  rw [o__law_beside, r_beside]
  simp! [be1_1a, be2_1a, be3_1a, be5_1, loop_1a]
theorem be1_1b : d_be1 (F (n + 1)) [.s (.tup [.int x, .int y, .int 1]), .s (.str [98]), .n, .n, .n, .n, .n, .n, .n, .n, .n] g = .nx [.s (.tup [.int x, .int y, .int 1]), .s (.str [98]), .s (.lst [.int 0, .int 2]), .n, .n, .n, .n, .n, .n, .n, .n] g := by kernel_rfl
theorem be2_1b : d_be2 (F (n + 1)) [.s (.tup [.int x, .int y, .int 1]), .s (.str [98]), .s (.lst [.int 0, .int 2]), .n, .n, .n, .n, .n, .n, .n, .n] g = .nx [.s (.tup [.int x, .int y, .int 1]), .s (.str [98]), .s (.lst [.int 0, .int 2]), .o (.lst [.tup [.int (x + 1), .int (y + 1)], .tup [.int (x + 1), .int (y)]]), .n, .n, .n, .n, .n, .n, .n] g := by kernel_rfl
theorem be3_1b : d_be3 (F (n + 1)) [.s (.tup [.int x, .int y, .int 1]), .s (.str [98]), .s (.lst [.int 0, .int 2]), .o (.lst [.tup [.int (x + 1), .int (y + 1)], .tup [.int (x + 1), .int (y)]]), .n, .n, .n, .n, .n, .n, .n] g = .nx [.s (.tup [.int x, .int y, .int 1]), .s (.str [98]), .s (.lst [.int 0, .int 2]), .o (.lst [.tup [.int (x + 1), .int (y + 1)], .tup [.int (x + 1), .int (y)]]), .s (.int x), .s (.int y), .s (.int 1), .n, .n, .n, .n] g := by kernel_rfl
theorem loop_1b : forGo (.nm 7) d_be4 (F (n + 1)) [.tup [.int (x), .int (y), .int 0], .tup [.int (x), .int (y - 1), .int 0], .tup [.int (x), .int (y + 1), .int 0], .tup [.int (x - 1), .int (y), .int 0], .tup [.int (x + 1), .int (y), .int 0]] [.s (.tup [.int x, .int y, .int 1]), .s (.str [98]), .s (.lst [.int 0, .int 2]), .o (.lst [.tup [.int (x + 1), .int (y + 1)], .tup [.int (x + 1), .int (y)]]), .s (.int x), .s (.int y), .s (.int 1), .n, .n, .n, .n] g = .rt (.tup [.int (x + 1), .int (y), .int 0]) false g := by
  refine (go_skip rfl ((be4 n g _ _ _ _ _ _ (x + 1) (y + 1) (x + 1) (y) (x) (y) 0 ((x)) ((y)) ((x) + 1) ((y)) ((x)) ((y) + 1) (fun g => pts0 n g (x) (y))).trans (if_neg (by simp [m3] <;> omega)))).trans ?_
  refine (go_skip rfl ((be4 n g _ _ _ _ _ _ (x + 1) (y + 1) (x + 1) (y) (x) (y - 1) 0 ((x)) ((y - 1)) ((x) + 1) ((y - 1)) ((x)) ((y - 1) + 1) (fun g => pts0 n g (x) (y - 1))).trans (if_neg (by simp [m3] <;> omega)))).trans ?_
  refine (go_skip rfl ((be4 n g _ _ _ _ _ _ (x + 1) (y + 1) (x + 1) (y) (x) (y + 1) 0 ((x)) ((y + 1)) ((x) + 1) ((y + 1)) ((x)) ((y + 1) + 1) (fun g => pts0 n g (x) (y + 1))).trans (if_neg (by simp [m3] <;> omega)))).trans ?_
  refine (go_skip rfl ((be4 n g _ _ _ _ _ _ (x + 1) (y + 1) (x + 1) (y) (x - 1) (y) 0 ((x - 1)) ((y)) ((x - 1) + 1) ((y)) ((x - 1)) ((y) + 1) (fun g => pts0 n g (x - 1) (y))).trans (if_neg (by simp [m3] <;> omega)))).trans ?_
  refine (go_hit rfl ((be4 n g _ _ _ _ _ _ (x + 1) (y + 1) (x + 1) (y) (x + 1) (y) 0 ((x + 1)) ((y)) ((x + 1) + 1) ((y)) ((x + 1)) ((y) + 1) (fun g => pts0 n g (x + 1) (y))).trans (if_pos (by simp [m3]))))
theorem beside_1b : F (n + 2) i__law_beside [.tup [.int x, .int y, .int 1], .str [98]] g = .ok (.tup [.int (x + 1), .int (y), .int 0], false) g := by
  rw [o__law_beside, r_beside]
  simp! [be1_1b, be2_1b, be3_1b, be5_1, loop_1b]
theorem be1_1c : d_be1 (F (n + 1)) [.s (.tup [.int x, .int y, .int 1]), .s (.str [99]), .n, .n, .n, .n, .n, .n, .n, .n, .n] g = .nx [.s (.tup [.int x, .int y, .int 1]), .s (.str [99]), .s (.lst [.int 1, .int 2]), .n, .n, .n, .n, .n, .n, .n, .n] g := by kernel_rfl
theorem be2_1c : d_be2 (F (n + 1)) [.s (.tup [.int x, .int y, .int 1]), .s (.str [99]), .s (.lst [.int 1, .int 2]), .n, .n, .n, .n, .n, .n, .n, .n] g = .nx [.s (.tup [.int x, .int y, .int 1]), .s (.str [99]), .s (.lst [.int 1, .int 2]), .o (.lst [.tup [.int (x + 1), .int (y)], .tup [.int (x), .int (y + 1)]]), .n, .n, .n, .n, .n, .n, .n] g := by kernel_rfl
theorem be3_1c : d_be3 (F (n + 1)) [.s (.tup [.int x, .int y, .int 1]), .s (.str [99]), .s (.lst [.int 1, .int 2]), .o (.lst [.tup [.int (x + 1), .int (y)], .tup [.int (x), .int (y + 1)]]), .n, .n, .n, .n, .n, .n, .n] g = .nx [.s (.tup [.int x, .int y, .int 1]), .s (.str [99]), .s (.lst [.int 1, .int 2]), .o (.lst [.tup [.int (x + 1), .int (y)], .tup [.int (x), .int (y + 1)]]), .s (.int x), .s (.int y), .s (.int 1), .n, .n, .n, .n] g := by kernel_rfl
theorem loop_1c : forGo (.nm 7) d_be4 (F (n + 1)) [.tup [.int (x), .int (y), .int 0], .tup [.int (x), .int (y - 1), .int 0], .tup [.int (x), .int (y + 1), .int 0], .tup [.int (x - 1), .int (y), .int 0], .tup [.int (x + 1), .int (y), .int 0]] [.s (.tup [.int x, .int y, .int 1]), .s (.str [99]), .s (.lst [.int 1, .int 2]), .o (.lst [.tup [.int (x + 1), .int (y)], .tup [.int (x), .int (y + 1)]]), .s (.int x), .s (.int y), .s (.int 1), .n, .n, .n, .n] g = .rt (.tup [.int (x), .int (y), .int 0]) false g := by
  refine (go_hit rfl ((be4 n g _ _ _ _ _ _ (x + 1) (y) (x) (y + 1) (x) (y) 0 ((x)) ((y)) ((x) + 1) ((y)) ((x)) ((y) + 1) (fun g => pts0 n g (x) (y))).trans (if_pos (by simp [m3]))))
theorem beside_1c : F (n + 2) i__law_beside [.tup [.int x, .int y, .int 1], .str [99]] g = .ok (.tup [.int (x), .int (y), .int 0], false) g := by
  rw [o__law_beside, r_beside]
  simp! [be1_1c, be2_1c, be3_1c, be5_1, loop_1c]
end
end Kw
end

section
set_option maxHeartbeats 400000
namespace Kw
open PySem PySem.Spec L2 Ev
open PyProof.Rows hiding St
local macro_rules | `(tactic| simp! [$xs,*]) => `(tactic| simp (implicitDefEqProofs := false) only [Ev.bind_ok, Ev.bind_exc, Ev.bind_bad, Ev.sb_ok, Ev.sb_exc, Ev.sq_nx, Ev.sq_rt, Ev.sq_bk, Ev.sq_ct, Ev.sq_exc, Ev.fin_rt, Ev.fin_nx, Ev.fin_exc, Ev.fz_s', Ev.fz_f', Ev.fz_exc', Ev.nox_ok, Ev.dFz_eq, Ev.dC_eq, Ev.dNil_eq, Ev.dCons_eq, Ev.dVar_eq, Ev.slt_s, Ev.slt_o, Ev.optR_some, Ev.optE_some, Ev.optF_some, Ev.dTup_eq, Ev.dLst_eq, Ev.dBin_eq, Ev.dBif_eq, Ev.dIxBy_eq, Ev.tst_bl, Ev.tst_exc, Ev.dT_eq, Ev.tNot_eq, Ev.tAnd_eq, Ev.tOr_eq, Ev.dNot_eq, Ev.andV_bl, Ev.orV_bl, Ev.dAnd_eq, Ev.dOr_eq, Ev.negV_int, Ev.dNeg_eq, Ev.dIf_eq, Ev.chV_bl, Ev.dChain_eq, Ev.dCall_eq, Ev.dIsa_eq, Ev.dYes_eq, Ev.dLc_eq, Ev.dLc2_eq, Ev.itV_lst, Ev.itV_tup, Ev.itV_str, Ev.itV_dct, Ev.dIt_eq, Ev.rngV_int, Ev.dRng1_eq, Ev.rngV2_int, Ev.dRng2_eq, Ev.zipV_eq, Ev.dZip_eq, Ev.dEnum_eq, Ev.dSl_eq, Ev.dNoP_eq, Ev.parV_int, Ev.dP_eq, Ev.dctV_dct, Ev.dGet2_eq, Ev.dGet1_eq, Ev.dDct0_eq, Ev.pNil_eq, Ev.pCons_eq, Ev.dDct_eq, Ev.dM1_eq, Ev.mtyIn_cl, Ev.mtyIn_ct, Ev.mtyIn_il, Ev.mtyIn_js, Ev.mCount_o, Ev.mIndex_o, Ev.mJoin_o, Ev.dRev_eq, Ev.oRev_lst, Ev.oRev_tup, Ev.oRev_str, Ev.dLR1_eq, Ev.dLR2_eq, Ev.augV_f, Ev.dAug_eq, Ev.augW_o, Ev.augX_f, Ev.dTry_eq, Ev.tryV_nx, Ev.tryV_rt, Ev.tryV_exc, Ev.excV_t, Ev.excV_f, Ev.dSeq_eq, Ev.dNop_eq, Ev.dBreak_eq, Ev.dCont_eq, Ev.dRetN_eq, Ev.dRaise_eq, Ev.fz_eq, Ev.dIfS_eq, Ev.dDrop_eq, Ev.rtV_s, Ev.rtV_f, Ev.dRet_eq, Ev.rtSlt_s, Ev.rtSlt_o, Ev.dRetV_eq, Ev.dSet_eq, Ev.put1_s, Ev.put1_f, Ev.dTgt_eq, Ev.dFor_eq, Ev.dWhile_eq, Ev.xNil_eq, Ev.noW_s, Ev.noW_f, Ev.xCons_eq, Ev.optX_some, Ev.dPar_eq, Ev.putX_nil, Ev.putX_s, Ev.putX_f, Ev.dPut_eq, Ev.put2_eq, Ev.putV_dct, Ev.putV_lst, Ev.putV_hnd, Ev.hndPut_0, Ev.hndPut_1, Ev.hasV_s0, Ev.hasV_o0, Ev.hasV_succ, Ev.dApp_eq, Ev.appV_o, Ev.tset_nm, Ev.tset_tp, Ev.tsets_nil, Ev.tsets_nm, Ev.tsets_tp, Ev.oAdd_int, Ev.oSub_int, Ev.oDiv_int, Ev.oMod_int, Ev.oMul_int, Ev.oLt_int, Ev.oLe_int, Ev.oGt_int, Ev.oGe_int, Ev.oEq_int, Ev.oNe_int, Ev.oLen_lst, Ev.oLen_tup, Ev.oTuple_lst, Ev.oTuple_tup, Ev.oList_lst, Ev.oList_tup, Ev.oInt_int, Ev.oIs_nn, Ev.oIs_in, Ev.oIs_bn, Ev.oIs_sn, Ev.oIs_tn, Ev.oIs_ln, Ev.oIs_bb, Ev.oIsN_nn, Ev.oIsN_in, Ev.oIsN_tn, Ev.oIsN_bb, Ev.oMax_2, Ev.oMin_2, Ev.oIx_tup, Ev.oIx_lst, Ev.isaV_non_int, Ev.isaV_non_bool, Ev.isaV_non_tuple, Ev.isaV_non_list, Ev.isaV_non_str, Ev.isaV_non_dict, Ev.isaV_bl_int, Ev.isaV_bl_bool, Ev.isaV_bl_tuple, Ev.isaV_bl_list, Ev.isaV_bl_str, Ev.isaV_bl_dict, Ev.isaV_int_int, Ev.isaV_int_bool, Ev.isaV_int_tuple, Ev.isaV_int_list, Ev.isaV_int_str, Ev.isaV_int_dict, Ev.isaV_str_int, Ev.isaV_str_bool, Ev.isaV_str_tuple, Ev.isaV_str_list, Ev.isaV_str_str, Ev.isaV_str_dict, Ev.isaV_tup_int, Ev.isaV_tup_bool, Ev.isaV_tup_tuple, Ev.isaV_tup_list, Ev.isaV_tup_str, Ev.isaV_tup_dict, Ev.isaV_lst_int, Ev.isaV_lst_bool, Ev.isaV_lst_tuple, Ev.isaV_lst_list, Ev.isaV_lst_str, Ev.isaV_lst_dict, Ev.isaV_dct_int, Ev.isaV_dct_bool, Ev.isaV_dct_tuple, Ev.isaV_dct_list, Ev.isaV_dct_str, Ev.isaV_dct_dict, Ev.oStr_str, Ev.rng_map, Ev.oIx_hnd0, Ev.oIx_hnd1, Ev.lcTurn_eq, Ev.lcTurn2_eq, Ev.wipeE_nil, Ev.wipeE_cons, Ev.noO_nil, Ev.noO_o, Ev.noO_s, Ev.noO_n, Ev.noO_set, Ev.lcGo_nil, Ev.lcGo_cons', Ev.fzE_s0, Ev.fzE_n0, Ev.fzE_o0, Ev.fzE_succ, Ev.rsat_ok, Ev.ssat_nx, Ev.ssat_rt, Ev.ssat_bk, Ev.ssat_ct, Ev.rsat_bind, Ev.rsat_fz, Ev.rsat_nox, Ev.tstP_bl, Ev.rsat_tst, Ev.ssat_sb, Ev.ssat_sq, Ev.rsat_fin, List.getElem?_cons_zero, List.getElem?_cons_succ, List.set_cons_zero, List.set_cons_succ, List.map_cons, List.map_nil, List.length_cons, List.length_nil, List.length_map, List.replicate_succ, List.replicate_zero, List.cons_append, List.nil_append, entry_eq, Option.map_some, Option.map_none, Option.getD_some, Option.getD_none, Option.bind_some, Bool.not_true, Bool.not_false, Bool.false_eq_true, decide_eq_true_eq, Bool.not_eq_true, Bool.not_eq_true', decide_eq_false_iff_not, if_true, if_false, ite_true, ite_false, decide_true, decide_false, Int.toNat_natCast, ne_eq, not_true_eq_false, not_false_eq_true, true_and, and_true, and_self, reduceCtorEq, Nat.zero_add, Nat.reduceAdd, Nat.reduceSub, Nat.reduceLeDiff, Nat.reduceEqDiff, List.length_range, Int.cast_ofNat_Int, Int.reduceLE, Int.reduceLT, Int.le_refl, Nat.le_refl, Int.reduceAdd, Int.reduceSub, Int.reduceMul, Int.reduceNeg, Int.toNat_natCast, Int.natCast_zero, Int.reduceEq, Int.reduceNe, List.flatMap_cons, List.flatMap_nil, $xs,*])
/-! ### stands -/
section
structure St where
  c0 : Int
  c1 : Int
  c2 : Int
  t : Int
  x : Int
  y : Int
  up : Bool
def kd (b : Bool) : Int := if b then 0 else 1
/-- behind one roll more -/
def mv (l : Nat) (s : St) : St := match s.up with
  | true => if l = 97 then ⟨s.c1, s.t, s.c0, s.c2, s.x, s.y - 1, false⟩ else if l = 98 then ⟨s.c2, s.c0, s.t, s.c1, s.x - 1, s.y, false⟩ else ⟨s.t, s.c1, s.c2, s.c0, s.x, s.y, false⟩
  | false => if l = 97 then ⟨s.c2, s.c0, s.t, s.c1, s.x, s.y + 1, true⟩ else if l = 98 then ⟨s.c1, s.t, s.c0, s.c2, s.x + 1, s.y, true⟩ else ⟨s.t, s.c1, s.c2, s.c0, s.x, s.y, true⟩
def turnD (s : St) : D := .tup [.int s.c0, .int s.c1, .int s.c2, .int s.t]
def spotD (s : St) : D := .tup [.int s.x, .int s.y, .int (kd s.up)]
def stD (s : St) : D := .tup [turnD s, spotD s]
def home : St := ⟨0, 1, 2, 3, 0, 0, true⟩
def al : St → List Nat → List St
  | s, [] => [s]
  | s, l :: r => s :: al (mv l s) r
def endS : St → List Nat → St
  | s, [] => s
  | s, l :: r => endS (mv l s) r
def Word (w : List Nat) : Prop := ∀ l ∈ w, l = 97 ∨ l = 98 ∨ l = 99
theorem al_len : ∀ (w : List Nat) (s : St), (al s w).length = w.length + 1
  | [], _ => rfl
  | l :: r, s => by rw [al, List.length_cons, al_len r]; rfl
theorem al_snoc : ∀ (w : List Nat) (s : St) (l : Nat), al s (w ++ [l]) = al s w ++ [mv l (endS s w)]
  | [], s, l => rfl
  | a :: r, s, l => by rw [List.cons_append, al, al, endS, al_snoc r]; rfl
theorem endS_snoc : ∀ (w : List Nat) (s : St) (l : Nat), endS s (w ++ [l]) = mv l (endS s w)
  | [], s, l => rfl
  | a :: r, s, l => by rw [List.cons_append, endS, endS, endS_snoc r]
theorem al_last : ∀ (w : List Nat) (s : St), ∃ p, al s w = p ++ [endS s w]
  | [], s => ⟨[], rfl⟩
  | a :: r, s => by obtain ⟨p, h⟩ := al_last r (mv a s); exact ⟨s :: p, by rw [al, h, endS]; rfl⟩
end
section
variable (n : Nat) (g : Ev.G)
theorem add0 (a : Int) : a + 0 = a := Int.add_zero a
theorem rolled0 (c0 c1 c2 t x y : Int) (l : Nat) (h : l = 97 ∨ l = 98 ∨ l = 99) : F (n + 2) i_rolled_in [stD ⟨c0, c1, c2, t, x, y, true⟩, .str [l]] g = .ok (stD (mv l ⟨c0, c1, c2, t, x, y, true⟩), false) g := by
  rcases h with rfl | rfl | rfl
  · have e : F (n + 2) i_rolled_in [stD ⟨c0, c1, c2, t, x, y, true⟩, .str [97]] g = .ok (.tup [.tup [.int c1, .int t, .int c0, .int c2], .tup [.int (x + 0), .int (y - 1), .int 1]], false) g := by kernel_rfl
    rw [e, add0]; rfl
  · have e : F (n + 2) i_rolled_in [stD ⟨c0, c1, c2, t, x, y, true⟩, .str [98]] g = .ok (.tup [.tup [.int c2, .int c0, .int t, .int c1], .tup [.int (x - 1), .int (y + 0), .int 1]], false) g := by kernel_rfl
    rw [e, add0]; rfl
  · have e : F (n + 2) i_rolled_in [stD ⟨c0, c1, c2, t, x, y, true⟩, .str [99]] g = .ok (.tup [.tup [.int t, .int c1, .int c2, .int c0], .tup [.int (x + 0), .int (y + 0), .int 1]], false) g := by kernel_rfl
    rw [e, add0, add0]; rfl
theorem rolled1 (c0 c1 c2 t x y : Int) (l : Nat) (h : l = 97 ∨ l = 98 ∨ l = 99) : F (n + 2) i_rolled_in [stD ⟨c0, c1, c2, t, x, y, false⟩, .str [l]] g = .ok (stD (mv l ⟨c0, c1, c2, t, x, y, false⟩), false) g := by
  rcases h with rfl | rfl | rfl
  · have e : F (n + 2) i_rolled_in [stD ⟨c0, c1, c2, t, x, y, false⟩, .str [97]] g = .ok (.tup [.tup [.int c2, .int c0, .int t, .int c1], .tup [.int (x + 0), .int (y + 1), .int 0]], false) g := by kernel_rfl
    rw [e, add0]; rfl
  · have e : F (n + 2) i_rolled_in [stD ⟨c0, c1, c2, t, x, y, false⟩, .str [98]] g = .ok (.tup [.tup [.int c1, .int t, .int c0, .int c2], .tup [.int (x + 1), .int (y + 0), .int 0]], false) g := by kernel_rfl
    rw [e, add0]; rfl
  · have e : F (n + 2) i_rolled_in [stD ⟨c0, c1, c2, t, x, y, false⟩, .str [99]] g = .ok (.tup [.tup [.int t, .int c1, .int c2, .int c0], .tup [.int (x + 0), .int (y + 0), .int 0]], false) g := by kernel_rfl
    rw [e, add0, add0]; rfl
theorem rolled_in_ok (s : St) (l : Nat) (h : l = 97 ∨ l = 98 ∨ l = 99) : F (n + 2) i_rolled_in [stD s, .str [l]] g = .ok (stD (mv l s), false) g := by
  obtain ⟨c0, c1, c2, t, x, y, u⟩ := s
  cases u
  · exact rolled1 n g c0 c1 c2 t x y l h
  · exact rolled0 n g c0 c1 c2 t x y l h
end
section
theorem along_ok (n : Nat) (g : Ev.G) (w : List Nat) (hw : Word w) (hl : w.length ≤ 1000) : F (n + 3) i_along_in [.str w] g = .ok (.lst ((al home w).map stD), true) g := by
  suffices H : (F (n + 3) i_along_in [.str w] g).Sat fun r g' => r = (.lst ((al home w).map stD), true) ∧ g' = g by
    obtain ⟨a, g1, e, rfl, rfl⟩ := H.get
    exact e
  rw [o_along_in, d_along_in]
  simp! [LN_le (show 1 ≤ 10000000 by omega)]
  refine sat_for (fun dn ρ g' => g' = g ∧ ∃ z, ρ = [.s (.str w), .o (.lst ((al home dn).map stD)), z]) ⟨rfl, _, rfl⟩ ?_ ?_
  · rintro dn a rs e ρ g' ⟨rfl, z, rfl⟩
    refine ⟨_, tset_nm .., ?_⟩
    obtain ⟨p, hp⟩ := al_last dn home
    have hla : (al home dn).length ≤ 1001 := by
      rw [al_len]
      have := congrArg List.length e
      simp at this
      omega
    have e1 : L2.atI ((al home dn).map stD) (-1) = some (stD (endS home dn)) := by
      rw [hp, List.map_append]
      exact atLast _ _
    have ha : a = 97 ∨ a = 98 ∨ a = 99 := hw a (by rw [e]; simp)
    simp! [e1, rolled_in_ok n g' (endS home dn) a ha, LN_lt (show (al home dn).length ≤ 10000000 by omega)]
    refine ⟨.s (.str [a]), ?_⟩
    rw [al_snoc, List.map_append]
    rfl
  · rintro ρ g' ⟨rfl, z, rfl⟩
    simp! []
end
end Kw
end

section
set_option maxHeartbeats 400000
namespace Kw
open PySem PySem.Spec L2 Ev
open PyProof.Rows hiding St
local macro_rules | `(tactic| simp! [$xs,*]) => `(tactic| simp (implicitDefEqProofs := false) only [Ev.bind_ok, Ev.bind_exc, Ev.bind_bad, Ev.sb_ok, Ev.sb_exc, Ev.sq_nx, Ev.sq_rt, Ev.sq_bk, Ev.sq_ct, Ev.sq_exc, Ev.fin_rt, Ev.fin_nx, Ev.fin_exc, Ev.fz_s', Ev.fz_f', Ev.fz_exc', Ev.nox_ok, Ev.dFz_eq, Ev.dC_eq, Ev.dNil_eq, Ev.dCons_eq, Ev.dVar_eq, Ev.slt_s, Ev.slt_o, Ev.optR_some, Ev.optE_some, Ev.optF_some, Ev.dTup_eq, Ev.dLst_eq, Ev.dBin_eq, Ev.dBif_eq, Ev.dIxBy_eq, Ev.tst_bl, Ev.tst_exc, Ev.dT_eq, Ev.tNot_eq, Ev.tAnd_eq, Ev.tOr_eq, Ev.dNot_eq, Ev.andV_bl, Ev.orV_bl, Ev.dAnd_eq, Ev.dOr_eq, Ev.negV_int, Ev.dNeg_eq, Ev.dIf_eq, Ev.chV_bl, Ev.dChain_eq, Ev.dCall_eq, Ev.dIsa_eq, Ev.dYes_eq, Ev.dLc_eq, Ev.dLc2_eq, Ev.itV_lst, Ev.itV_tup, Ev.itV_str, Ev.itV_dct, Ev.dIt_eq, Ev.rngV_int, Ev.dRng1_eq, Ev.rngV2_int, Ev.dRng2_eq, Ev.zipV_eq, Ev.dZip_eq, Ev.dEnum_eq, Ev.dSl_eq, Ev.dNoP_eq, Ev.parV_int, Ev.dP_eq, Ev.dctV_dct, Ev.dGet2_eq, Ev.dGet1_eq, Ev.dDct0_eq, Ev.pNil_eq, Ev.pCons_eq, Ev.dDct_eq, Ev.dM1_eq, Ev.mtyIn_cl, Ev.mtyIn_ct, Ev.mtyIn_il, Ev.mtyIn_js, Ev.mCount_o, Ev.mIndex_o, Ev.mJoin_o, Ev.dRev_eq, Ev.oRev_lst, Ev.oRev_tup, Ev.oRev_str, Ev.dLR1_eq, Ev.dLR2_eq, Ev.augV_f, Ev.dAug_eq, Ev.augW_o, Ev.augX_f, Ev.dTry_eq, Ev.tryV_nx, Ev.tryV_rt, Ev.tryV_exc, Ev.excV_t, Ev.excV_f, Ev.dSeq_eq, Ev.dNop_eq, Ev.dBreak_eq, Ev.dCont_eq, Ev.dRetN_eq, Ev.dRaise_eq, Ev.fz_eq, Ev.dIfS_eq, Ev.dDrop_eq, Ev.rtV_s, Ev.rtV_f, Ev.dRet_eq, Ev.rtSlt_s, Ev.rtSlt_o, Ev.dRetV_eq, Ev.dSet_eq, Ev.put1_s, Ev.put1_f, Ev.dTgt_eq, Ev.dFor_eq, Ev.dWhile_eq, Ev.xNil_eq, Ev.noW_s, Ev.noW_f, Ev.xCons_eq, Ev.optX_some, Ev.dPar_eq, Ev.putX_nil, Ev.putX_s, Ev.putX_f, Ev.dPut_eq, Ev.put2_eq, Ev.putV_dct, Ev.putV_lst, Ev.putV_hnd, Ev.hndPut_0, Ev.hndPut_1, Ev.hasV_s0, Ev.hasV_o0, Ev.hasV_succ, Ev.dApp_eq, Ev.appV_o, Ev.tset_nm, Ev.tset_tp, Ev.tsets_nil, Ev.tsets_nm, Ev.tsets_tp, Ev.oAdd_int, Ev.oSub_int, Ev.oDiv_int, Ev.oMod_int, Ev.oMul_int, Ev.oLt_int, Ev.oLe_int, Ev.oGt_int, Ev.oGe_int, Ev.oEq_int, Ev.oNe_int, Ev.oLen_lst, Ev.oLen_tup, Ev.oTuple_lst, Ev.oTuple_tup, Ev.oList_lst, Ev.oList_tup, Ev.oInt_int, Ev.oIs_nn, Ev.oIs_in, Ev.oIs_bn, Ev.oIs_sn, Ev.oIs_tn, Ev.oIs_ln, Ev.oIs_bb, Ev.oIsN_nn, Ev.oIsN_in, Ev.oIsN_tn, Ev.oIsN_bb, Ev.oMax_2, Ev.oMin_2, Ev.oIx_tup, Ev.oIx_lst, Ev.isaV_non_int, Ev.isaV_non_bool, Ev.isaV_non_tuple, Ev.isaV_non_list, Ev.isaV_non_str, Ev.isaV_non_dict, Ev.isaV_bl_int, Ev.isaV_bl_bool, Ev.isaV_bl_tuple, Ev.isaV_bl_list, Ev.isaV_bl_str, Ev.isaV_bl_dict, Ev.isaV_int_int, Ev.isaV_int_bool, Ev.isaV_int_tuple, Ev.isaV_int_list, Ev.isaV_int_str, Ev.isaV_int_dict, Ev.isaV_str_int, Ev.isaV_str_bool, Ev.isaV_str_tuple, Ev.isaV_str_list, Ev.isaV_str_str, Ev.isaV_str_dict, Ev.isaV_tup_int, Ev.isaV_tup_bool, Ev.isaV_tup_tuple, Ev.isaV_tup_list, Ev.isaV_tup_str, Ev.isaV_tup_dict, Ev.isaV_lst_int, Ev.isaV_lst_bool, Ev.isaV_lst_tuple, Ev.isaV_lst_list, Ev.isaV_lst_str, Ev.isaV_lst_dict, Ev.isaV_dct_int, Ev.isaV_dct_bool, Ev.isaV_dct_tuple, Ev.isaV_dct_list, Ev.isaV_dct_str, Ev.isaV_dct_dict, Ev.oStr_str, Ev.rng_map, Ev.oIx_hnd0, Ev.oIx_hnd1, Ev.lcTurn_eq, Ev.lcTurn2_eq, Ev.wipeE_nil, Ev.wipeE_cons, Ev.noO_nil, Ev.noO_o, Ev.noO_s, Ev.noO_n, Ev.noO_set, Ev.lcGo_nil, Ev.lcGo_cons', Ev.fzE_s0, Ev.fzE_n0, Ev.fzE_o0, Ev.fzE_succ, Ev.rsat_ok, Ev.ssat_nx, Ev.ssat_rt, Ev.ssat_bk, Ev.ssat_ct, Ev.rsat_bind, Ev.rsat_fz, Ev.rsat_nox, Ev.tstP_bl, Ev.rsat_tst, Ev.ssat_sb, Ev.ssat_sq, Ev.rsat_fin, List.getElem?_cons_zero, List.getElem?_cons_succ, List.set_cons_zero, List.set_cons_succ, List.map_cons, List.map_nil, List.length_cons, List.length_nil, List.length_map, List.replicate_succ, List.replicate_zero, List.cons_append, List.nil_append, entry_eq, Option.map_some, Option.map_none, Option.getD_some, Option.getD_none, Option.bind_some, Bool.not_true, Bool.not_false, Bool.false_eq_true, decide_eq_true_eq, Bool.not_eq_true, Bool.not_eq_true', decide_eq_false_iff_not, if_true, if_false, ite_true, ite_false, decide_true, decide_false, Int.toNat_natCast, ne_eq, not_true_eq_false, not_false_eq_true, true_and, and_true, and_self, reduceCtorEq, Nat.zero_add, Nat.reduceAdd, Nat.reduceSub, Nat.reduceLeDiff, Nat.reduceEqDiff, List.length_range, Int.cast_ofNat_Int, Int.reduceLE, Int.reduceLT, Int.le_refl, Nat.le_refl, Int.reduceAdd, Int.reduceSub, Int.reduceMul, Int.reduceNeg, Int.toNat_natCast, Int.natCast_zero, Int.reduceEq, Int.reduceNe, List.flatMap_cons, List.flatMap_nil, $xs,*])

section
def d_ls6 : DenS := (fz 1 (fz 5 (dSet 6 (dCall i__law_beside (dCons (dFz (dVar 1)) (dCons (dFz (dVar 5)) dNil))))))
def d_ls7 : DenS := (fz 1 (fz 6 (dSet 7 (dIxBy oIx (dLc (dIt (dCall i__law_points (dCons (dFz (dVar 1)) dNil))) (.nm 11) (dT (dBin oNi (dVar 11) (dCall i__law_points (dCons (dFz (dVar 6)) dNil)))) (dVar 11) [10, 11]) (dC (.int 0))))))
def d_ls8 : DenS := (fz 6 (fz 1 (dSet 8 (dIxBy oIx (dLc (dIt (dCall i__law_points (dCons (dFz (dVar 6)) dNil))) (.nm 11) (dT (dBin oNi (dVar 11) (dCall i__law_points (dCons (dFz (dVar 1)) dNil)))) (dVar 11) [10, 11]) (dC (.int 0))))))
def d_ls9 : DenS := (fz 1 (dSet 9 (dBif oDictP (dCons (dLc (dIt (dCall i__law_points (dCons (dFz (dVar 1)) dNil))) (.nm 11) (dT (dBin oNe (dVar 11) (dVar 7))) (dTup (dCons (dFz (dVar 11)) (dCons (dFz (dIxBy oIx (dVar 2) (dVar 11))) dNil))) [10, 11]) dNil))))
def d_ls10 : DenS := (fz 3 (fz 8 (dPut 9 (dVar 8) (dVar 3))))
def d_ls11 : DenS := (fz 9 (fz 6 (dPar [2, 3, 1] (xCons (dVar 9) (xCons (dIxBy oIx (dVar 2) (dVar 7)) (xCons (dVar 6) xNil))))))
def d_ls12 : DenS := (fz 1 (fz 3 (dApp 4 (dTup (dCons (dFz (dBin oAdd (dBif oTuple (dCons (dLc (dIt (dCall i__law_points (dCons (dFz (dVar 1)) dNil))) (.nm 11) dYes (dIxBy oIx (dVar 2) (dVar 11)) [10, 11]) dNil)) (dTup (dCons (dFz (dVar 3)) dNil)))) (dCons (dFz (dVar 1)) dNil))))))
def d_ls4 : DenS := (fz 1 (fz 3 (dSet 4 (dLst (dCons (dFz (dTup (dCons (dFz (dBin oAdd (dBif oTuple (dCons (dLc (dIt (dCall i__law_points (dCons (dFz (dVar 1)) dNil))) (.nm 11) dYes (dIxBy oIx (dVar 2) (dVar 11)) [10, 11]) dNil)) (dTup (dCons (dFz (dVar 3)) dNil)))) (dCons (dFz (dVar 1)) dNil)))) dNil)))))
def d_ls2 : DenS := (dPar [2, 3] (xCons (dDct (pCons (dTup (dCons (dFz (dC (.int 0))) (dCons (dFz (dC (.int 0))) dNil))) (dC (.int 0)) (pCons (dTup (dCons (dFz (dC (.int 1))) (dCons (dFz (dC (.int 0))) dNil))) (dC (.int 1)) (pCons (dTup (dCons (dFz (dC (.int 0))) (dCons (dFz (dC (.int 1))) dNil))) (dC (.int 2)) pNil)))) (xCons (dC (.int 3)) xNil)))
theorem r_stands : d__law_stands = dSeq (dSet 1 (dTup (dCons (dFz (dC (.int 0))) (dCons (dFz (dC (.int 0))) (dCons (dFz (dC (.int 0))) dNil))))) (dSeq d_ls2 (dSeq d_ls4 (dSeq (fz 0 (dFor (dIt (dFz (dVar 0))) (.nm 5)
  (dSeq d_ls6 (dSeq d_ls7 (dSeq d_ls8 (dSeq d_ls9 (dSeq d_ls10 (dSeq d_ls11 d_ls12)))))))) (dRetV 4)))) := rfl
/-- three points looked for among three others -/
theorem flt3 (n : Nat) (g : Ev.G) (j i : Nat) (ρ : Env') (a1 b1 a2 b2 a3 b3 c1 d1 c2 d2 c3 d3 : Int) (t : D) (hp : ∀ g, F (n + 1) i__law_points [t] g = .ok (.lst [.tup [.int c1, .int d1], .tup [.int c2, .int d2], .tup [.int c3, .int d3]], true) g)
    (hj : ∀ d, (ρ.set 11 (.s d))[j]? = some (.s t)) (hl : 11 < ρ.length) :
    lcGo (lcTurn (.nm 11) (dT (dBin oNi (dVar 11) (dCall i__law_points (dCons (dFz (dVar j)) dNil)))) (dVar 11) (F (n + 1)) ρ) [.tup [.int a1, .int b1], .tup [.int a2, .int b2], .tup [.int a3, .int b3]] g =
      .ok ((if m3 a1 b1 c1 d1 c2 d2 c3 d3 then [] else [D.tup [.int a1, .int b1]]) ++ ((if m3 a2 b2 c1 d1 c2 d2 c3 d3 then [] else [D.tup [.int a2, .int b2]]) ++ ((if m3 a3 b3 c1 d1 c2 d2 c3 d3 then [] else [D.tup [.int a3, .int b3]]) ++ []))) g := by
  have e1 := ni3 a1 b1 c1 d1 c2 d2 c3 d3 .f
  have e2 := ni3 a2 b2 c1 d1 c2 d2 c3 d3 .f
  have e3 := ni3 a3 b3 c1 d1 c2 d2 c3 d3 .f
  change _ = some (D.bl (!m3 a1 b1 c1 d1 c2 d2 c3 d3), Fl.s) at e1
  change _ = some (D.bl (!m3 a2 b2 c1 d1 c2 d2 c3 d3), Fl.s) at e2
  change _ = some (D.bl (!m3 a3 b3 c1 d1 c2 d2 c3 d3), Fl.s) at e3
  generalize m3 a1 b1 c1 d1 c2 d2 c3 d3 = m1 at *
  generalize m3 a2 b2 c1 d1 c2 d2 c3 d3 = m2 at *
  generalize m3 a3 b3 c1 d1 c2 d2 c3 d3 = m3 at *
  have h11 : ∀ d, (ρ.set 11 (Slt.s d))[11]? = some (.s d) := fun d => by rw [List.getElem?_set, if_pos rfl, if_pos hl]
  cases m1 <;> cases m2 <;> cases m3 <;> simp! [lcTurn, h11, hj, hp, e1, e2, e3, if_true, Bool.false_eq_true]
end
end Kw
end

section
set_option maxHeartbeats 400000
namespace Kw
open PySem PySem.Spec L2 Ev
open PyProof.Rows hiding St
local macro_rules | `(tactic| simp! [$xs,*]) => `(tactic| simp (implicitDefEqProofs := false) only [Ev.bind_ok, Ev.bind_exc, Ev.bind_bad, Ev.sb_ok, Ev.sb_exc, Ev.sq_nx, Ev.sq_rt, Ev.sq_bk, Ev.sq_ct, Ev.sq_exc, Ev.fin_rt, Ev.fin_nx, Ev.fin_exc, Ev.fz_s', Ev.fz_f', Ev.fz_exc', Ev.nox_ok, Ev.dFz_eq, Ev.dC_eq, Ev.dNil_eq, Ev.dCons_eq, Ev.dVar_eq, Ev.slt_s, Ev.slt_o, Ev.optR_some, Ev.optE_some, Ev.optF_some, Ev.dTup_eq, Ev.dLst_eq, Ev.dBin_eq, Ev.dBif_eq, Ev.dIxBy_eq, Ev.tst_bl, Ev.tst_exc, Ev.dT_eq, Ev.tNot_eq, Ev.tAnd_eq, Ev.tOr_eq, Ev.dNot_eq, Ev.andV_bl, Ev.orV_bl, Ev.dAnd_eq, Ev.dOr_eq, Ev.negV_int, Ev.dNeg_eq, Ev.dIf_eq, Ev.chV_bl, Ev.dChain_eq, Ev.dCall_eq, Ev.dIsa_eq, Ev.dYes_eq, Ev.dLc_eq, Ev.dLc2_eq, Ev.itV_lst, Ev.itV_tup, Ev.itV_str, Ev.itV_dct, Ev.dIt_eq, Ev.rngV_int, Ev.dRng1_eq, Ev.rngV2_int, Ev.dRng2_eq, Ev.zipV_eq, Ev.dZip_eq, Ev.dEnum_eq, Ev.dSl_eq, Ev.dNoP_eq, Ev.parV_int, Ev.dP_eq, Ev.dctV_dct, Ev.dGet2_eq, Ev.dGet1_eq, Ev.dDct0_eq, Ev.pNil_eq, Ev.pCons_eq, Ev.dDct_eq, Ev.dM1_eq, Ev.mtyIn_cl, Ev.mtyIn_ct, Ev.mtyIn_il, Ev.mtyIn_js, Ev.mCount_o, Ev.mIndex_o, Ev.mJoin_o, Ev.dRev_eq, Ev.oRev_lst, Ev.oRev_tup, Ev.oRev_str, Ev.dLR1_eq, Ev.dLR2_eq, Ev.augV_f, Ev.dAug_eq, Ev.augW_o, Ev.augX_f, Ev.dTry_eq, Ev.tryV_nx, Ev.tryV_rt, Ev.tryV_exc, Ev.excV_t, Ev.excV_f, Ev.dSeq_eq, Ev.dNop_eq, Ev.dBreak_eq, Ev.dCont_eq, Ev.dRetN_eq, Ev.dRaise_eq, Ev.fz_eq, Ev.dIfS_eq, Ev.dDrop_eq, Ev.rtV_s, Ev.rtV_f, Ev.dRet_eq, Ev.rtSlt_s, Ev.rtSlt_o, Ev.dRetV_eq, Ev.dSet_eq, Ev.put1_s, Ev.put1_f, Ev.dTgt_eq, Ev.dFor_eq, Ev.dWhile_eq, Ev.xNil_eq, Ev.noW_s, Ev.noW_f, Ev.xCons_eq, Ev.optX_some, Ev.dPar_eq, Ev.putX_nil, Ev.putX_s, Ev.putX_f, Ev.dPut_eq, Ev.put2_eq, Ev.putV_dct, Ev.putV_lst, Ev.putV_hnd, Ev.hndPut_0, Ev.hndPut_1, Ev.hasV_s0, Ev.hasV_o0, Ev.hasV_succ, Ev.dApp_eq, Ev.appV_o, Ev.tset_nm, Ev.tset_tp, Ev.tsets_nil, Ev.tsets_nm, Ev.tsets_tp, Ev.oAdd_int, Ev.oSub_int, Ev.oDiv_int, Ev.oMod_int, Ev.oMul_int, Ev.oLt_int, Ev.oLe_int, Ev.oGt_int, Ev.oGe_int, Ev.oEq_int, Ev.oNe_int, Ev.oLen_lst, Ev.oLen_tup, Ev.oTuple_lst, Ev.oTuple_tup, Ev.oList_lst, Ev.oList_tup, Ev.oInt_int, Ev.oIs_nn, Ev.oIs_in, Ev.oIs_bn, Ev.oIs_sn, Ev.oIs_tn, Ev.oIs_ln, Ev.oIs_bb, Ev.oIsN_nn, Ev.oIsN_in, Ev.oIsN_tn, Ev.oIsN_bb, Ev.oMax_2, Ev.oMin_2, Ev.oIx_tup, Ev.oIx_lst, Ev.isaV_non_int, Ev.isaV_non_bool, Ev.isaV_non_tuple, Ev.isaV_non_list, Ev.isaV_non_str, Ev.isaV_non_dict, Ev.isaV_bl_int, Ev.isaV_bl_bool, Ev.isaV_bl_tuple, Ev.isaV_bl_list, Ev.isaV_bl_str, Ev.isaV_bl_dict, Ev.isaV_int_int, Ev.isaV_int_bool, Ev.isaV_int_tuple, Ev.isaV_int_list, Ev.isaV_int_str, Ev.isaV_int_dict, Ev.isaV_str_int, Ev.isaV_str_bool, Ev.isaV_str_tuple, Ev.isaV_str_list, Ev.isaV_str_str, Ev.isaV_str_dict, Ev.isaV_tup_int, Ev.isaV_tup_bool, Ev.isaV_tup_tuple, Ev.isaV_tup_list, Ev.isaV_tup_str, Ev.isaV_tup_dict, Ev.isaV_lst_int, Ev.isaV_lst_bool, Ev.isaV_lst_tuple, Ev.isaV_lst_list, Ev.isaV_lst_str, Ev.isaV_lst_dict, Ev.isaV_dct_int, Ev.isaV_dct_bool, Ev.isaV_dct_tuple, Ev.isaV_dct_list, Ev.isaV_dct_str, Ev.isaV_dct_dict, Ev.oStr_str, Ev.rng_map, Ev.oIx_hnd0, Ev.oIx_hnd1, Ev.lcTurn_eq, Ev.lcTurn2_eq, Ev.wipeE_nil, Ev.wipeE_cons, Ev.noO_nil, Ev.noO_o, Ev.noO_s, Ev.noO_n, Ev.noO_set, Ev.lcGo_nil, Ev.lcGo_cons', Ev.fzE_s0, Ev.fzE_n0, Ev.fzE_o0, Ev.fzE_succ, Ev.rsat_ok, Ev.ssat_nx, Ev.ssat_rt, Ev.ssat_bk, Ev.ssat_ct, Ev.rsat_bind, Ev.rsat_fz, Ev.rsat_nox, Ev.tstP_bl, Ev.rsat_tst, Ev.ssat_sb, Ev.ssat_sq, Ev.rsat_fin, List.getElem?_cons_zero, List.getElem?_cons_succ, List.set_cons_zero, List.set_cons_succ, List.map_cons, List.map_nil, List.length_cons, List.length_nil, List.length_map, List.replicate_succ, List.replicate_zero, List.cons_append, List.nil_append, entry_eq, Option.map_some, Option.map_none, Option.getD_some, Option.getD_none, Option.bind_some, Bool.not_true, Bool.not_false, Bool.false_eq_true, decide_eq_true_eq, Bool.not_eq_true, Bool.not_eq_true', decide_eq_false_iff_not, if_true, if_false, ite_true, ite_false, decide_true, decide_false, Int.toNat_natCast, ne_eq, not_true_eq_false, not_false_eq_true, true_and, and_true, and_self, reduceCtorEq, Nat.zero_add, Nat.reduceAdd, Nat.reduceSub, Nat.reduceLeDiff, Nat.reduceEqDiff, List.length_range, Int.cast_ofNat_Int, Int.reduceLE, Int.reduceLT, Int.le_refl, Nat.le_refl, Int.reduceAdd, Int.reduceSub, Int.reduceMul, Int.reduceNeg, Int.toNat_natCast, Int.natCast_zero, Int.reduceEq, Int.reduceNe, List.flatMap_cons, List.flatMap_nil, $xs,*])
section
variable (n : Nat) (g : Ev.G)
def miss (a1 b1 a2 b2 a3 b3 c1 d1 c2 d2 c3 d3 : Int) : List D := (if m3 a1 b1 c1 d1 c2 d2 c3 d3 then [] else [D.tup [.int a1, .int b1]]) ++ ((if m3 a2 b2 c1 d1 c2 d2 c3 d3 then [] else [D.tup [.int a2, .int b2]]) ++ ((if m3 a3 b3 c1 d1 c2 d2 c3 d3 then [] else [D.tup [.int a3, .int b3]]) ++ []))
theorem a1_0 (a : D) : L2.atI [a] 0 = some a := rfl
theorem ls7 (s0 s2 s3 s4 s5 s7 s8 s9 : Slt) (sp th : D) (a1 b1 a2 b2 a3 b3 c1 d1 c2 d2 c3 d3 e f : Int) (hp : ∀ g, F (n + 1) i__law_points [sp] g = .ok (.lst [.tup [.int a1, .int b1], .tup [.int a2, .int b2], .tup [.int a3, .int b3]], true) g)
    (hq : ∀ g, F (n + 1) i__law_points [th] g = .ok (.lst [.tup [.int c1, .int d1], .tup [.int c2, .int d2], .tup [.int c3, .int d3]], true) g) (h : miss a1 b1 a2 b2 a3 b3 c1 d1 c2 d2 c3 d3 = [.tup [.int e, .int f]]) :
    d_ls7 (F (n + 1)) [s0, .s sp, s2, s3, s4, s5, .s th, s7, s8, s9, .n, .n] g = .nx [s0, .s sp, s2, s3, s4, s5, .s th, .s (.tup [.int e, .int f]), s8, s9, .n, .n] g := by
  have hf := flt3 n g 6 11 [s0, .s sp, s2, s3, s4, s5, .s th, s7, s8, s9, .n, .n] a1 b1 a2 b2 a3 b3 c1 d1 c2 d2 c3 d3 th hq (fun d => rfl) (by simp)
  change _ = R.ok (miss a1 b1 a2 b2 a3 b3 c1 d1 c2 d2 c3 d3) g at hf
  rw [h] at hf
  rw [d_ls7]
  simp! [hp, hf, LN_le (show 3 ≤ 10000000 by omega), a1_0]
theorem ls8 (s0 s2 s3 s4 s5 s7 s8 s9 : Slt) (sp th : D) (a1 b1 a2 b2 a3 b3 c1 d1 c2 d2 c3 d3 e f : Int) (hp : ∀ g, F (n + 1) i__law_points [sp] g = .ok (.lst [.tup [.int a1, .int b1], .tup [.int a2, .int b2], .tup [.int a3, .int b3]], true) g)
    (hq : ∀ g, F (n + 1) i__law_points [th] g = .ok (.lst [.tup [.int c1, .int d1], .tup [.int c2, .int d2], .tup [.int c3, .int d3]], true) g) (h : miss c1 d1 c2 d2 c3 d3 a1 b1 a2 b2 a3 b3 = [.tup [.int e, .int f]]) :
    d_ls8 (F (n + 1)) [s0, .s sp, s2, s3, s4, s5, .s th, s7, s8, s9, .n, .n] g = .nx [s0, .s sp, s2, s3, s4, s5, .s th, s7, .s (.tup [.int e, .int f]), s9, .n, .n] g := by
  have hf := flt3 n g 1 11 [s0, .s sp, s2, s3, s4, s5, .s th, s7, s8, s9, .n, .n] c1 d1 c2 d2 c3 d3 a1 b1 a2 b2 a3 b3 sp hp (fun d => rfl) (by simp)
  change _ = R.ok (miss c1 d1 c2 d2 c3 d3 a1 b1 a2 b2 a3 b3) g at hf
  rw [h] at hf
  rw [d_ls8]
  simp! [hq, hf, LN_le (show 3 ≤ 10000000 by omega), a1_0]
/-- the corners as a dict: what stands where -/
structure Cor (kvs : List (D × D)) (a1 b1 a2 b2 a3 b3 c1 c2 c3 : Int) : Prop where
  l1 : D.look kvs (.tup [.int a1, .int b1]) = some (.int c1)
  l2 : D.look kvs (.tup [.int a2, .int b2]) = some (.int c2)
  l3 : D.look kvs (.tup [.int a3, .int b3]) = some (.int c3)
  ft : ∀ a b, D.fit kvs (.tup [.int a, .int b]) = true
theorem keq2 (a b c d : Int) : (D.tup [.int a, .int b]).keq (.tup [.int c, .int d]) = (decide (a = c) && (decide (b = d) && true)) := rfl
theorem look3 (a1 b1 a2 b2 a3 b3 a b : Int) (v1 v2 v3 : D) : D.look [(.tup [.int a1, .int b1], v1), (.tup [.int a2, .int b2], v2), (.tup [.int a3, .int b3], v3)] (.tup [.int a, .int b]) =
    if a1 = a ∧ b1 = b then some v1 else if a2 = a ∧ b2 = b then some v2 else if a3 = a ∧ b3 = b then some v3 else none := by
  unfold D.look
  simp only [List.find?_cons, keq2, Bool.and_true, List.find?_nil]
  by_cases h1 : a1 = a ∧ b1 = b
  · rw [if_pos h1]; simp [h1.1, h1.2]
  · rw [if_neg h1]
    have e1 : (decide (a1 = a) && decide (b1 = b)) = false := by
      rw [Bool.and_eq_false_iff, decide_eq_false_iff_not, decide_eq_false_iff_not]
      by_cases z : a1 = a
      · exact .inr fun y => h1 ⟨z, y⟩
      · exact .inl z
    rw [e1]
    by_cases h2 : a2 = a ∧ b2 = b
    · rw [if_pos h2]; simp [h2.1, h2.2]
    · rw [if_neg h2]
      have e2 : (decide (a2 = a) && decide (b2 = b)) = false := by
        rw [Bool.and_eq_false_iff, decide_eq_false_iff_not, decide_eq_false_iff_not]
        by_cases z : a2 = a
        · exact .inr fun y => h2 ⟨z, y⟩
        · exact .inl z
      rw [e2]
      by_cases h3 : a3 = a ∧ b3 = b
      · rw [if_pos h3]; simp [h3.1, h3.2]
      · rw [if_neg h3]
        have e3 : (decide (a3 = a) && decide (b3 = b)) = false := by
          rw [Bool.and_eq_false_iff, decide_eq_false_iff_not, decide_eq_false_iff_not]
          by_cases z : a3 = a
          · exact .inr fun y => h3 ⟨z, y⟩
          · exact .inl z
        rw [e3]; rfl
end
end Kw
end

section
set_option maxHeartbeats 400000
namespace Kw
open PySem PySem.Spec L2 Ev
open PyProof.Rows hiding St
local macro_rules | `(tactic| simp! [$xs,*]) => `(tactic| simp (implicitDefEqProofs := false) only [Ev.bind_ok, Ev.bind_exc, Ev.bind_bad, Ev.sb_ok, Ev.sb_exc, Ev.sq_nx, Ev.sq_rt, Ev.sq_bk, Ev.sq_ct, Ev.sq_exc, Ev.fin_rt, Ev.fin_nx, Ev.fin_exc, Ev.fz_s', Ev.fz_f', Ev.fz_exc', Ev.nox_ok, Ev.dFz_eq, Ev.dC_eq, Ev.dNil_eq, Ev.dCons_eq, Ev.dVar_eq, Ev.slt_s, Ev.slt_o, Ev.optR_some, Ev.optE_some, Ev.optF_some, Ev.dTup_eq, Ev.dLst_eq, Ev.dBin_eq, Ev.dBif_eq, Ev.dIxBy_eq, Ev.tst_bl, Ev.tst_exc, Ev.dT_eq, Ev.tNot_eq, Ev.tAnd_eq, Ev.tOr_eq, Ev.dNot_eq, Ev.andV_bl, Ev.orV_bl, Ev.dAnd_eq, Ev.dOr_eq, Ev.negV_int, Ev.dNeg_eq, Ev.dIf_eq, Ev.chV_bl, Ev.dChain_eq, Ev.dCall_eq, Ev.dIsa_eq, Ev.dYes_eq, Ev.dLc_eq, Ev.dLc2_eq, Ev.itV_lst, Ev.itV_tup, Ev.itV_str, Ev.itV_dct, Ev.dIt_eq, Ev.rngV_int, Ev.dRng1_eq, Ev.rngV2_int, Ev.dRng2_eq, Ev.zipV_eq, Ev.dZip_eq, Ev.dEnum_eq, Ev.dSl_eq, Ev.dNoP_eq, Ev.parV_int, Ev.dP_eq, Ev.dctV_dct, Ev.dGet2_eq, Ev.dGet1_eq, Ev.dDct0_eq, Ev.pNil_eq, Ev.pCons_eq, Ev.dDct_eq, Ev.dM1_eq, Ev.mtyIn_cl, Ev.mtyIn_ct, Ev.mtyIn_il, Ev.mtyIn_js, Ev.mCount_o, Ev.mIndex_o, Ev.mJoin_o, Ev.dRev_eq, Ev.oRev_lst, Ev.oRev_tup, Ev.oRev_str, Ev.dLR1_eq, Ev.dLR2_eq, Ev.augV_f, Ev.dAug_eq, Ev.augW_o, Ev.augX_f, Ev.dTry_eq, Ev.tryV_nx, Ev.tryV_rt, Ev.tryV_exc, Ev.excV_t, Ev.excV_f, Ev.dSeq_eq, Ev.dNop_eq, Ev.dBreak_eq, Ev.dCont_eq, Ev.dRetN_eq, Ev.dRaise_eq, Ev.fz_eq, Ev.dIfS_eq, Ev.dDrop_eq, Ev.rtV_s, Ev.rtV_f, Ev.dRet_eq, Ev.rtSlt_s, Ev.rtSlt_o, Ev.dRetV_eq, Ev.dSet_eq, Ev.put1_s, Ev.put1_f, Ev.dTgt_eq, Ev.dFor_eq, Ev.dWhile_eq, Ev.xNil_eq, Ev.noW_s, Ev.noW_f, Ev.xCons_eq, Ev.optX_some, Ev.dPar_eq, Ev.putX_nil, Ev.putX_s, Ev.putX_f, Ev.dPut_eq, Ev.put2_eq, Ev.putV_dct, Ev.putV_lst, Ev.putV_hnd, Ev.hndPut_0, Ev.hndPut_1, Ev.hasV_s0, Ev.hasV_o0, Ev.hasV_succ, Ev.dApp_eq, Ev.appV_o, Ev.tset_nm, Ev.tset_tp, Ev.tsets_nil, Ev.tsets_nm, Ev.tsets_tp, Ev.oAdd_int, Ev.oSub_int, Ev.oDiv_int, Ev.oMod_int, Ev.oMul_int, Ev.oLt_int, Ev.oLe_int, Ev.oGt_int, Ev.oGe_int, Ev.oEq_int, Ev.oNe_int, Ev.oLen_lst, Ev.oLen_tup, Ev.oTuple_lst, Ev.oTuple_tup, Ev.oList_lst, Ev.oList_tup, Ev.oInt_int, Ev.oIs_nn, Ev.oIs_in, Ev.oIs_bn, Ev.oIs_sn, Ev.oIs_tn, Ev.oIs_ln, Ev.oIs_bb, Ev.oIsN_nn, Ev.oIsN_in, Ev.oIsN_tn, Ev.oIsN_bb, Ev.oMax_2, Ev.oMin_2, Ev.oIx_tup, Ev.oIx_lst, Ev.isaV_non_int, Ev.isaV_non_bool, Ev.isaV_non_tuple, Ev.isaV_non_list, Ev.isaV_non_str, Ev.isaV_non_dict, Ev.isaV_bl_int, Ev.isaV_bl_bool, Ev.isaV_bl_tuple, Ev.isaV_bl_list, Ev.isaV_bl_str, Ev.isaV_bl_dict, Ev.isaV_int_int, Ev.isaV_int_bool, Ev.isaV_int_tuple, Ev.isaV_int_list, Ev.isaV_int_str, Ev.isaV_int_dict, Ev.isaV_str_int, Ev.isaV_str_bool, Ev.isaV_str_tuple, Ev.isaV_str_list, Ev.isaV_str_str, Ev.isaV_str_dict, Ev.isaV_tup_int, Ev.isaV_tup_bool, Ev.isaV_tup_tuple, Ev.isaV_tup_list, Ev.isaV_tup_str, Ev.isaV_tup_dict, Ev.isaV_lst_int, Ev.isaV_lst_bool, Ev.isaV_lst_tuple, Ev.isaV_lst_list, Ev.isaV_lst_str, Ev.isaV_lst_dict, Ev.isaV_dct_int, Ev.isaV_dct_bool, Ev.isaV_dct_tuple, Ev.isaV_dct_list, Ev.isaV_dct_str, Ev.isaV_dct_dict, Ev.oStr_str, Ev.rng_map, Ev.oIx_hnd0, Ev.oIx_hnd1, Ev.lcTurn_eq, Ev.lcTurn2_eq, Ev.wipeE_nil, Ev.wipeE_cons, Ev.noO_nil, Ev.noO_o, Ev.noO_s, Ev.noO_n, Ev.noO_set, Ev.lcGo_nil, Ev.lcGo_cons', Ev.fzE_s0, Ev.fzE_n0, Ev.fzE_o0, Ev.fzE_succ, Ev.rsat_ok, Ev.ssat_nx, Ev.ssat_rt, Ev.ssat_bk, Ev.ssat_ct, Ev.rsat_bind, Ev.rsat_fz, Ev.rsat_nox, Ev.tstP_bl, Ev.rsat_tst, Ev.ssat_sb, Ev.ssat_sq, Ev.rsat_fin, List.getElem?_cons_zero, List.getElem?_cons_succ, List.set_cons_zero, List.set_cons_succ, List.map_cons, List.map_nil, List.length_cons, List.length_nil, List.length_map, List.replicate_succ, List.replicate_zero, List.cons_append, List.nil_append, entry_eq, Option.map_some, Option.map_none, Option.getD_some, Option.getD_none, Option.bind_some, Bool.not_true, Bool.not_false, Bool.false_eq_true, decide_eq_true_eq, Bool.not_eq_true, Bool.not_eq_true', decide_eq_false_iff_not, if_true, if_false, ite_true, ite_false, decide_true, decide_false, Int.toNat_natCast, ne_eq, not_true_eq_false, not_false_eq_true, true_and, and_true, and_self, reduceCtorEq, Nat.zero_add, Nat.reduceAdd, Nat.reduceSub, Nat.reduceLeDiff, Nat.reduceEqDiff, List.length_range, Int.cast_ofNat_Int, Int.reduceLE, Int.reduceLT, Int.le_refl, Nat.le_refl, Int.reduceAdd, Int.reduceSub, Int.reduceMul, Int.reduceNeg, Int.toNat_natCast, Int.natCast_zero, Int.reduceEq, Int.reduceNe, List.flatMap_cons, List.flatMap_nil, $xs,*])
section
variable (n : Nat) (g : Ev.G)
def same2 (a b c d : Int) : Bool := decide (a = c) && decide (b = d)
theorem same2_self (a b : Int) : same2 a b a b = true := by simp [same2]
theorem ne2 (a b c d : Int) (f1 f2 : Fl) : oNe (.tup [.int a, .int b], f1) (.tup [.int c, .int d], f2) = some (.bl (!same2 a b c d), .s) := by
  unfold oNe oEqD
  dsimp only
  rw [if_pos ⟨rfl, rfl⟩]
  simp only [if_true, eqv2]
  rfl
theorem keq2' (a b c d : Int) : (D.tup [.int a, .int b]).keq (.tup [.int c, .int d]) = same2 a b c d := by
  rw [keq2, Bool.and_true]; rfl
theorem dct2 (a b c d : Int) (v w : D) (h : same2 a b c d = false) : oDictP [.lst [.tup [.tup [.int a, .int b], v], .tup [.tup [.int c, .int d], w]]] = some (.dct [(.tup [.int a, .int b], v), (.tup [.int c, .int d], w)], .f) := by
  have e : D.put [(.tup [.int a, .int b], v)] (.tup [.int c, .int d]) w = [(.tup [.int a, .int b], v), (.tup [.int c, .int d], w)] := by
    unfold D.put
    simp only [List.any_cons, List.any_nil, keq2', h, Bool.or_false, Bool.false_eq_true, if_false]
    rfl
  have f1 : D.fit [] (D.tup [.int a, .int b]) = true := rfl
  have f2 : D.fit [(D.tup [.int a, .int b], v)] (D.tup [.int c, .int d]) = true := rfl
  have e1 : D.put [] (D.tup [.int a, .int b]) v = [(.tup [.int a, .int b], v)] := rfl
  have p : Ev.putAll [] [(D.tup [.int a, .int b], v), (D.tup [.int c, .int d], w)] = some [(.tup [.int a, .int b], v), (.tup [.int c, .int d], w)] := by
    unfold Ev.putAll
    rw [if_pos f1, e1]
    unfold Ev.putAll
    rw [if_pos f2, e]
    rfl
  unfold oDictP
  show (if 2 ≤ LN then ((some [(D.tup [.int a, .int b], v), (D.tup [.int c, .int d], w)]).bind (Ev.putAll [])).map (fun kvs => (D.dct kvs, Fl.f)) else none) = _
  rw [if_pos (LN_le (by omega)), Option.bind_some, p]
  rfl
theorem ls9_1 (s0 s3 s4 s5 s6 s8 s9 c : Slt) (sp : D) (kvs : List (D × D)) (a1 b1 a2 b2 a3 b3 c1 c2 c3 : Int) (hc : c = .s (.dct kvs) ∨ c = .o (.dct kvs)) (K : Cor kvs a1 b1 a2 b2 a3 b3 c1 c2 c3) (hp : ∀ g, F (n + 1) i__law_points [sp] g = .ok (.lst [.tup [.int a1, .int b1], .tup [.int a2, .int b2], .tup [.int a3, .int b3]], true) g)
    (h2 : same2 a2 b2 a1 b1 = false) (h3 : same2 a3 b3 a1 b1 = false) (h : same2 a2 b2 a3 b3 = false) : d_ls9 (F (n + 1)) [s0, .s sp, c, s3, s4, s5, s6, .s (.tup [.int a1, .int b1]), s8, s9, .n, .n] g =
      .nx [s0, .s sp, c, s3, s4, s5, s6, .s (.tup [.int a1, .int b1]), s8, .o (.dct [(.tup [.int a2, .int b2], .int c2), (.tup [.int a3, .int b3], .int c3)]), .n, .n] g := by
  have hd := dct2 a2 b2 a3 b3 (.int c2) (.int c3) h
  rw [d_ls9]
  rcases hc with rfl | rfl <;> simp! [hp, lcTurn, ne2, same2_self, h2, h3, LN_le (show 3 ≤ 10000000 by omega), LN_le (show 2 ≤ 10000000 by omega), oIx, oIxS, oIxD, K.ft, K.l1, K.l2, K.l3, hd, Bool.not_true, Bool.not_false, Bool.false_eq_true, if_true]
theorem ls9_2 (s0 s3 s4 s5 s6 s8 s9 c : Slt) (sp : D) (kvs : List (D × D)) (a1 b1 a2 b2 a3 b3 c1 c2 c3 : Int) (hc : c = .s (.dct kvs) ∨ c = .o (.dct kvs)) (K : Cor kvs a1 b1 a2 b2 a3 b3 c1 c2 c3) (hp : ∀ g, F (n + 1) i__law_points [sp] g = .ok (.lst [.tup [.int a1, .int b1], .tup [.int a2, .int b2], .tup [.int a3, .int b3]], true) g)
    (h1 : same2 a1 b1 a2 b2 = false) (h3 : same2 a3 b3 a2 b2 = false) (h : same2 a1 b1 a3 b3 = false) : d_ls9 (F (n + 1)) [s0, .s sp, c, s3, s4, s5, s6, .s (.tup [.int a2, .int b2]), s8, s9, .n, .n] g =
      .nx [s0, .s sp, c, s3, s4, s5, s6, .s (.tup [.int a2, .int b2]), s8, .o (.dct [(.tup [.int a1, .int b1], .int c1), (.tup [.int a3, .int b3], .int c3)]), .n, .n] g := by
  have hd := dct2 a1 b1 a3 b3 (.int c1) (.int c3) h
  rw [d_ls9]
  rcases hc with rfl | rfl <;> simp! [hp, lcTurn, ne2, same2_self, h1, h3, LN_le (show 3 ≤ 10000000 by omega), LN_le (show 2 ≤ 10000000 by omega), oIx, oIxS, oIxD, K.ft, K.l1, K.l2, K.l3, hd, Bool.not_true, Bool.not_false, Bool.false_eq_true, if_true]
theorem ls9_3 (s0 s3 s4 s5 s6 s8 s9 c : Slt) (sp : D) (kvs : List (D × D)) (a1 b1 a2 b2 a3 b3 c1 c2 c3 : Int) (hc : c = .s (.dct kvs) ∨ c = .o (.dct kvs)) (K : Cor kvs a1 b1 a2 b2 a3 b3 c1 c2 c3) (hp : ∀ g, F (n + 1) i__law_points [sp] g = .ok (.lst [.tup [.int a1, .int b1], .tup [.int a2, .int b2], .tup [.int a3, .int b3]], true) g)
    (h1 : same2 a1 b1 a3 b3 = false) (h2 : same2 a2 b2 a3 b3 = false) (h : same2 a1 b1 a2 b2 = false) : d_ls9 (F (n + 1)) [s0, .s sp, c, s3, s4, s5, s6, .s (.tup [.int a3, .int b3]), s8, s9, .n, .n] g =
      .nx [s0, .s sp, c, s3, s4, s5, s6, .s (.tup [.int a3, .int b3]), s8, .o (.dct [(.tup [.int a1, .int b1], .int c1), (.tup [.int a2, .int b2], .int c2)]), .n, .n] g := by
  have hd := dct2 a1 b1 a2 b2 (.int c1) (.int c2) h
  rw [d_ls9]
  rcases hc with rfl | rfl <;> simp! [hp, lcTurn, ne2, same2_self, h1, h2, LN_le (show 3 ≤ 10000000 by omega), LN_le (show 2 ≤ 10000000 by omega), oIx, oIxS, oIxD, K.ft, K.l1, K.l2, K.l3, hd, Bool.not_true, Bool.not_false, Bool.false_eq_true, if_true]
end
end Kw
end

section
set_option maxHeartbeats 400000
namespace Kw
open PySem PySem.Spec L2 Ev
open PyProof.Rows hiding St
local macro_rules | `(tactic| simp! [$xs,*]) => `(tactic| simp (implicitDefEqProofs := false) only [Ev.bind_ok, Ev.bind_exc, Ev.bind_bad, Ev.sb_ok, Ev.sb_exc, Ev.sq_nx, Ev.sq_rt, Ev.sq_bk, Ev.sq_ct, Ev.sq_exc, Ev.fin_rt, Ev.fin_nx, Ev.fin_exc, Ev.fz_s', Ev.fz_f', Ev.fz_exc', Ev.nox_ok, Ev.dFz_eq, Ev.dC_eq, Ev.dNil_eq, Ev.dCons_eq, Ev.dVar_eq, Ev.slt_s, Ev.slt_o, Ev.optR_some, Ev.optE_some, Ev.optF_some, Ev.dTup_eq, Ev.dLst_eq, Ev.dBin_eq, Ev.dBif_eq, Ev.dIxBy_eq, Ev.tst_bl, Ev.tst_exc, Ev.dT_eq, Ev.tNot_eq, Ev.tAnd_eq, Ev.tOr_eq, Ev.dNot_eq, Ev.andV_bl, Ev.orV_bl, Ev.dAnd_eq, Ev.dOr_eq, Ev.negV_int, Ev.dNeg_eq, Ev.dIf_eq, Ev.chV_bl, Ev.dChain_eq, Ev.dCall_eq, Ev.dIsa_eq, Ev.dYes_eq, Ev.dLc_eq, Ev.dLc2_eq, Ev.itV_lst, Ev.itV_tup, Ev.itV_str, Ev.itV_dct, Ev.dIt_eq, Ev.rngV_int, Ev.dRng1_eq, Ev.rngV2_int, Ev.dRng2_eq, Ev.zipV_eq, Ev.dZip_eq, Ev.dEnum_eq, Ev.dSl_eq, Ev.dNoP_eq, Ev.parV_int, Ev.dP_eq, Ev.dctV_dct, Ev.dGet2_eq, Ev.dGet1_eq, Ev.dDct0_eq, Ev.pNil_eq, Ev.pCons_eq, Ev.dDct_eq, Ev.dM1_eq, Ev.mtyIn_cl, Ev.mtyIn_ct, Ev.mtyIn_il, Ev.mtyIn_js, Ev.mCount_o, Ev.mIndex_o, Ev.mJoin_o, Ev.dRev_eq, Ev.oRev_lst, Ev.oRev_tup, Ev.oRev_str, Ev.dLR1_eq, Ev.dLR2_eq, Ev.augV_f, Ev.dAug_eq, Ev.augW_o, Ev.augX_f, Ev.dTry_eq, Ev.tryV_nx, Ev.tryV_rt, Ev.tryV_exc, Ev.excV_t, Ev.excV_f, Ev.dSeq_eq, Ev.dNop_eq, Ev.dBreak_eq, Ev.dCont_eq, Ev.dRetN_eq, Ev.dRaise_eq, Ev.fz_eq, Ev.dIfS_eq, Ev.dDrop_eq, Ev.rtV_s, Ev.rtV_f, Ev.dRet_eq, Ev.rtSlt_s, Ev.rtSlt_o, Ev.dRetV_eq, Ev.dSet_eq, Ev.put1_s, Ev.put1_f, Ev.dTgt_eq, Ev.dFor_eq, Ev.dWhile_eq, Ev.xNil_eq, Ev.noW_s, Ev.noW_f, Ev.xCons_eq, Ev.optX_some, Ev.dPar_eq, Ev.putX_nil, Ev.putX_s, Ev.putX_f, Ev.dPut_eq, Ev.put2_eq, Ev.putV_dct, Ev.putV_lst, Ev.putV_hnd, Ev.hndPut_0, Ev.hndPut_1, Ev.hasV_s0, Ev.hasV_o0, Ev.hasV_succ, Ev.dApp_eq, Ev.appV_o, Ev.tset_nm, Ev.tset_tp, Ev.tsets_nil, Ev.tsets_nm, Ev.tsets_tp, Ev.oAdd_int, Ev.oSub_int, Ev.oDiv_int, Ev.oMod_int, Ev.oMul_int, Ev.oLt_int, Ev.oLe_int, Ev.oGt_int, Ev.oGe_int, Ev.oEq_int, Ev.oNe_int, Ev.oLen_lst, Ev.oLen_tup, Ev.oTuple_lst, Ev.oTuple_tup, Ev.oList_lst, Ev.oList_tup, Ev.oInt_int, Ev.oIs_nn, Ev.oIs_in, Ev.oIs_bn, Ev.oIs_sn, Ev.oIs_tn, Ev.oIs_ln, Ev.oIs_bb, Ev.oIsN_nn, Ev.oIsN_in, Ev.oIsN_tn, Ev.oIsN_bb, Ev.oMax_2, Ev.oMin_2, Ev.oIx_tup, Ev.oIx_lst, Ev.isaV_non_int, Ev.isaV_non_bool, Ev.isaV_non_tuple, Ev.isaV_non_list, Ev.isaV_non_str, Ev.isaV_non_dict, Ev.isaV_bl_int, Ev.isaV_bl_bool, Ev.isaV_bl_tuple, Ev.isaV_bl_list, Ev.isaV_bl_str, Ev.isaV_bl_dict, Ev.isaV_int_int, Ev.isaV_int_bool, Ev.isaV_int_tuple, Ev.isaV_int_list, Ev.isaV_int_str, Ev.isaV_int_dict, Ev.isaV_str_int, Ev.isaV_str_bool, Ev.isaV_str_tuple, Ev.isaV_str_list, Ev.isaV_str_str, Ev.isaV_str_dict, Ev.isaV_tup_int, Ev.isaV_tup_bool, Ev.isaV_tup_tuple, Ev.isaV_tup_list, Ev.isaV_tup_str, Ev.isaV_tup_dict, Ev.isaV_lst_int, Ev.isaV_lst_bool, Ev.isaV_lst_tuple, Ev.isaV_lst_list, Ev.isaV_lst_str, Ev.isaV_lst_dict, Ev.isaV_dct_int, Ev.isaV_dct_bool, Ev.isaV_dct_tuple, Ev.isaV_dct_list, Ev.isaV_dct_str, Ev.isaV_dct_dict, Ev.oStr_str, Ev.rng_map, Ev.oIx_hnd0, Ev.oIx_hnd1, Ev.lcTurn_eq, Ev.lcTurn2_eq, Ev.wipeE_nil, Ev.wipeE_cons, Ev.noO_nil, Ev.noO_o, Ev.noO_s, Ev.noO_n, Ev.noO_set, Ev.lcGo_nil, Ev.lcGo_cons', Ev.fzE_s0, Ev.fzE_n0, Ev.fzE_o0, Ev.fzE_succ, Ev.rsat_ok, Ev.ssat_nx, Ev.ssat_rt, Ev.ssat_bk, Ev.ssat_ct, Ev.rsat_bind, Ev.rsat_fz, Ev.rsat_nox, Ev.tstP_bl, Ev.rsat_tst, Ev.ssat_sb, Ev.ssat_sq, Ev.rsat_fin, List.getElem?_cons_zero, List.getElem?_cons_succ, List.set_cons_zero, List.set_cons_succ, List.map_cons, List.map_nil, List.length_cons, List.length_nil, List.length_map, List.replicate_succ, List.replicate_zero, List.cons_append, List.nil_append, entry_eq, Option.map_some, Option.map_none, Option.getD_some, Option.getD_none, Option.bind_some, Bool.not_true, Bool.not_false, Bool.false_eq_true, decide_eq_true_eq, Bool.not_eq_true, Bool.not_eq_true', decide_eq_false_iff_not, if_true, if_false, ite_true, ite_false, decide_true, decide_false, Int.toNat_natCast, ne_eq, not_true_eq_false, not_false_eq_true, true_and, and_true, and_self, reduceCtorEq, Nat.zero_add, Nat.reduceAdd, Nat.reduceSub, Nat.reduceLeDiff, Nat.reduceEqDiff, List.length_range, Int.cast_ofNat_Int, Int.reduceLE, Int.reduceLT, Int.le_refl, Nat.le_refl, Int.reduceAdd, Int.reduceSub, Int.reduceMul, Int.reduceNeg, Int.toNat_natCast, Int.natCast_zero, Int.reduceEq, Int.reduceNe, List.flatMap_cons, List.flatMap_nil, $xs,*])
section
variable (n : Nat) (g : Ev.G)
theorem ls10 (s0 s1 s2 s4 s5 s6 s7 : Slt) (a b c d e f : Int) (v w t : D) (h1 : same2 a b e f = false) (h2 : same2 c d e f = false) :
    d_ls10 (F (n + 1)) [s0, s1, s2, .s t, s4, s5, s6, s7, .s (.tup [.int e, .int f]), .o (.dct [(.tup [.int a, .int b], v), (.tup [.int c, .int d], w)]), .n, .n] g =
      .nx [s0, s1, s2, .s t, s4, s5, s6, s7, .s (.tup [.int e, .int f]), .o (.dct [(.tup [.int a, .int b], v), (.tup [.int c, .int d], w), (.tup [.int e, .int f], t)]), .n, .n] g := by
  have e1 : D.put [(.tup [.int a, .int b], v), (.tup [.int c, .int d], w)] (.tup [.int e, .int f]) t = [(.tup [.int a, .int b], v), (.tup [.int c, .int d], w), (.tup [.int e, .int f], t)] := by
    unfold D.put
    simp only [List.any_cons, List.any_nil, keq2', h1, h2, Bool.or_false, Bool.false_eq_true, if_false]
    rfl
  have e2 : (D.fit [(.tup [.int a, .int b], v), (.tup [.int c, .int d], w)] (.tup [.int e, .int f]) && decide (2 < LN)) = true := by
    rw [Bool.and_eq_true, decide_eq_true_eq]
    exact ⟨rfl, LN_lt (by omega)⟩
  rw [d_ls10]
  simp! [put2, hasV]
  rw [if_pos e2, e1]
theorem ls11 (s0 s4 s5 s7 s8 c : Slt) (sp th : D) (kvs : List (D × D)) (later : D) (e f t v : Int) (hc : c = .s (.dct kvs) ∨ c = .o (.dct kvs)) (hf : D.fit kvs (.tup [.int e, .int f]) = true) (hl : D.look kvs (.tup [.int e, .int f]) = some (.int v)) :
    d_ls11 (F (n + 1)) [s0, .s sp, c, .s (.int t), s4, s5, .s th, .s (.tup [.int e, .int f]), s8, .o later, .n, .n] g =
      .nx [s0, .s th, .s later, .s (.int v), s4, s5, .s th, .s (.tup [.int e, .int f]), s8, .s later, .n, .n] g := by
  rw [d_ls11]
  rcases hc with rfl | rfl <;> simp! [oIx, oIxS, oIxD, hf, hl, if_true]
theorem ls12 (s0 s5 s6 s7 s8 s9 c : Slt) (sp : D) (kvs : List (D × D)) (l : List D) (hl : l.length ≤ 10000) (a1 b1 a2 b2 a3 b3 c1 c2 c3 t : Int) (hc : c = .s (.dct kvs) ∨ c = .o (.dct kvs)) (K : Cor kvs a1 b1 a2 b2 a3 b3 c1 c2 c3) (hp : ∀ g, F (n + 1) i__law_points [sp] g = .ok (.lst [.tup [.int a1, .int b1], .tup [.int a2, .int b2], .tup [.int a3, .int b3]], true) g) :
    d_ls12 (F (n + 1)) [s0, .s sp, c, .s (.int t), .o (.lst l), s5, s6, s7, s8, s9, .n, .n] g =
      .nx [s0, .s sp, c, .s (.int t), .o (.lst (l ++ [.tup [.tup [.int c1, .int c2, .int c3, .int t], sp]])), s5, s6, s7, s8, s9, .n, .n] g := by
  rw [d_ls12]
  rcases hc with rfl | rfl <;> simp! [hp, lcTurn, dYes, oIx, oIxS, oIxD, K.ft, K.l1, K.l2, K.l3, oAdd_tup, LN_le (show 1 ≤ 10000000 by omega), LN_le (show 3 ≤ 10000000 by omega), LN_le (show 2 ≤ 10000000 by omega), LN_le (show 4 ≤ 10000000 by omega), LN_le (show 3 + 1 ≤ 10000000 by omega), LN_lt (show l.length ≤ 10000000 by omega), if_true]
end
end Kw
end

section
set_option maxHeartbeats 400000
namespace Kw
open PySem PySem.Spec L2 Ev
open PyProof.Rows hiding St
local macro_rules | `(tactic| simp! [$xs,*]) => `(tactic| simp (implicitDefEqProofs := false) only [Ev.bind_ok, Ev.bind_exc, Ev.bind_bad, Ev.sb_ok, Ev.sb_exc, Ev.sq_nx, Ev.sq_rt, Ev.sq_bk, Ev.sq_ct, Ev.sq_exc, Ev.fin_rt, Ev.fin_nx, Ev.fin_exc, Ev.fz_s', Ev.fz_f', Ev.fz_exc', Ev.nox_ok, Ev.dFz_eq, Ev.dC_eq, Ev.dNil_eq, Ev.dCons_eq, Ev.dVar_eq, Ev.slt_s, Ev.slt_o, Ev.optR_some, Ev.optE_some, Ev.optF_some, Ev.dTup_eq, Ev.dLst_eq, Ev.dBin_eq, Ev.dBif_eq, Ev.dIxBy_eq, Ev.tst_bl, Ev.tst_exc, Ev.dT_eq, Ev.tNot_eq, Ev.tAnd_eq, Ev.tOr_eq, Ev.dNot_eq, Ev.andV_bl, Ev.orV_bl, Ev.dAnd_eq, Ev.dOr_eq, Ev.negV_int, Ev.dNeg_eq, Ev.dIf_eq, Ev.chV_bl, Ev.dChain_eq, Ev.dCall_eq, Ev.dIsa_eq, Ev.dYes_eq, Ev.dLc_eq, Ev.dLc2_eq, Ev.itV_lst, Ev.itV_tup, Ev.itV_str, Ev.itV_dct, Ev.dIt_eq, Ev.rngV_int, Ev.dRng1_eq, Ev.rngV2_int, Ev.dRng2_eq, Ev.zipV_eq, Ev.dZip_eq, Ev.dEnum_eq, Ev.dSl_eq, Ev.dNoP_eq, Ev.parV_int, Ev.dP_eq, Ev.dctV_dct, Ev.dGet2_eq, Ev.dGet1_eq, Ev.dDct0_eq, Ev.pNil_eq, Ev.pCons_eq, Ev.dDct_eq, Ev.dM1_eq, Ev.mtyIn_cl, Ev.mtyIn_ct, Ev.mtyIn_il, Ev.mtyIn_js, Ev.mCount_o, Ev.mIndex_o, Ev.mJoin_o, Ev.dRev_eq, Ev.oRev_lst, Ev.oRev_tup, Ev.oRev_str, Ev.dLR1_eq, Ev.dLR2_eq, Ev.augV_f, Ev.dAug_eq, Ev.augW_o, Ev.augX_f, Ev.dTry_eq, Ev.tryV_nx, Ev.tryV_rt, Ev.tryV_exc, Ev.excV_t, Ev.excV_f, Ev.dSeq_eq, Ev.dNop_eq, Ev.dBreak_eq, Ev.dCont_eq, Ev.dRetN_eq, Ev.dRaise_eq, Ev.fz_eq, Ev.dIfS_eq, Ev.dDrop_eq, Ev.rtV_s, Ev.rtV_f, Ev.dRet_eq, Ev.rtSlt_s, Ev.rtSlt_o, Ev.dRetV_eq, Ev.dSet_eq, Ev.put1_s, Ev.put1_f, Ev.dTgt_eq, Ev.dFor_eq, Ev.dWhile_eq, Ev.xNil_eq, Ev.noW_s, Ev.noW_f, Ev.xCons_eq, Ev.optX_some, Ev.dPar_eq, Ev.putX_nil, Ev.putX_s, Ev.putX_f, Ev.dPut_eq, Ev.put2_eq, Ev.putV_dct, Ev.putV_lst, Ev.putV_hnd, Ev.hndPut_0, Ev.hndPut_1, Ev.hasV_s0, Ev.hasV_o0, Ev.hasV_succ, Ev.dApp_eq, Ev.appV_o, Ev.tset_nm, Ev.tset_tp, Ev.tsets_nil, Ev.tsets_nm, Ev.tsets_tp, Ev.oAdd_int, Ev.oSub_int, Ev.oDiv_int, Ev.oMod_int, Ev.oMul_int, Ev.oLt_int, Ev.oLe_int, Ev.oGt_int, Ev.oGe_int, Ev.oEq_int, Ev.oNe_int, Ev.oLen_lst, Ev.oLen_tup, Ev.oTuple_lst, Ev.oTuple_tup, Ev.oList_lst, Ev.oList_tup, Ev.oInt_int, Ev.oIs_nn, Ev.oIs_in, Ev.oIs_bn, Ev.oIs_sn, Ev.oIs_tn, Ev.oIs_ln, Ev.oIs_bb, Ev.oIsN_nn, Ev.oIsN_in, Ev.oIsN_tn, Ev.oIsN_bb, Ev.oMax_2, Ev.oMin_2, Ev.oIx_tup, Ev.oIx_lst, Ev.isaV_non_int, Ev.isaV_non_bool, Ev.isaV_non_tuple, Ev.isaV_non_list, Ev.isaV_non_str, Ev.isaV_non_dict, Ev.isaV_bl_int, Ev.isaV_bl_bool, Ev.isaV_bl_tuple, Ev.isaV_bl_list, Ev.isaV_bl_str, Ev.isaV_bl_dict, Ev.isaV_int_int, Ev.isaV_int_bool, Ev.isaV_int_tuple, Ev.isaV_int_list, Ev.isaV_int_str, Ev.isaV_int_dict, Ev.isaV_str_int, Ev.isaV_str_bool, Ev.isaV_str_tuple, Ev.isaV_str_list, Ev.isaV_str_str, Ev.isaV_str_dict, Ev.isaV_tup_int, Ev.isaV_tup_bool, Ev.isaV_tup_tuple, Ev.isaV_tup_list, Ev.isaV_tup_str, Ev.isaV_tup_dict, Ev.isaV_lst_int, Ev.isaV_lst_bool, Ev.isaV_lst_tuple, Ev.isaV_lst_list, Ev.isaV_lst_str, Ev.isaV_lst_dict, Ev.isaV_dct_int, Ev.isaV_dct_bool, Ev.isaV_dct_tuple, Ev.isaV_dct_list, Ev.isaV_dct_str, Ev.isaV_dct_dict, Ev.oStr_str, Ev.rng_map, Ev.oIx_hnd0, Ev.oIx_hnd1, Ev.lcTurn_eq, Ev.lcTurn2_eq, Ev.wipeE_nil, Ev.wipeE_cons, Ev.noO_nil, Ev.noO_o, Ev.noO_s, Ev.noO_n, Ev.noO_set, Ev.lcGo_nil, Ev.lcGo_cons', Ev.fzE_s0, Ev.fzE_n0, Ev.fzE_o0, Ev.fzE_succ, Ev.rsat_ok, Ev.ssat_nx, Ev.ssat_rt, Ev.ssat_bk, Ev.ssat_ct, Ev.rsat_bind, Ev.rsat_fz, Ev.rsat_nox, Ev.tstP_bl, Ev.rsat_tst, Ev.ssat_sb, Ev.ssat_sq, Ev.rsat_fin, List.getElem?_cons_zero, List.getElem?_cons_succ, List.set_cons_zero, List.set_cons_succ, List.map_cons, List.map_nil, List.length_cons, List.length_nil, List.length_map, List.replicate_succ, List.replicate_zero, List.cons_append, List.nil_append, entry_eq, Option.map_some, Option.map_none, Option.getD_some, Option.getD_none, Option.bind_some, Bool.not_true, Bool.not_false, Bool.false_eq_true, decide_eq_true_eq, Bool.not_eq_true, Bool.not_eq_true', decide_eq_false_iff_not, if_true, if_false, ite_true, ite_false, decide_true, decide_false, Int.toNat_natCast, ne_eq, not_true_eq_false, not_false_eq_true, true_and, and_true, and_self, reduceCtorEq, Nat.zero_add, Nat.reduceAdd, Nat.reduceSub, Nat.reduceLeDiff, Nat.reduceEqDiff, List.length_range, Int.cast_ofNat_Int, Int.reduceLE, Int.reduceLT, Int.le_refl, Nat.le_refl, Int.reduceAdd, Int.reduceSub, Int.reduceMul, Int.reduceNeg, Int.toNat_natCast, Int.natCast_zero, Int.reduceEq, Int.reduceNe, List.flatMap_cons, List.flatMap_nil, $xs,*])
section
def d_ls : DenS := dSeq d_ls6 (dSeq d_ls7 (dSeq d_ls8 (dSeq d_ls9 (dSeq d_ls10 (dSeq d_ls11 d_ls12)))))
variable (n : Nat) (g : Ev.G)
theorem step_0a (w : Slt) (z6 z7 z8 z9 c : Slt) (kvs : List (D × D)) (c0 c1 c2 t x y : Int) (l : List D) (hl : l.length ≤ 10000) (hc : c = .s (.dct kvs) ∨ c = .o (.dct kvs)) (K : Cor kvs (x) (y) (x + 1) (y) (x) (y + 1) c0 c1 c2) :
    ∃ kvs' y6 y7 y8 y9, d_ls (F (n + 2)) [w, .s (.tup [.int x, .int y, .int 0]), c, .s (.int t), .o (.lst l), .s (.str [97]), z6, z7, z8, z9, .n, .n] g = .nx [w, .s (.tup [.int (x), .int (y - 1), .int 1]), .s (.dct kvs'), .s (.int c2), .o (.lst (l ++ [.tup [.tup [.int c1, .int t, .int c0, .int c2], .tup [.int (x), .int (y - 1), .int 1]]])), .s (.str [97]), y6, y7, y8, y9, .n, .n] g ∧ Cor kvs' ((x) + 1) ((y - 1) + 1) ((x) + 1) ((y - 1)) ((x)) ((y - 1) + 1) c1 t c0 := by
  have KN : Cor [(.tup [.int (x), .int (y)], .int c0), (.tup [.int (x + 1), .int (y)], .int c1), (.tup [.int ((x) + 1), .int ((y - 1))], .int t)] ((x) + 1) ((y - 1) + 1) ((x) + 1) ((y - 1)) ((x)) ((y - 1) + 1) c1 t c0 := ⟨by rw [look3]; simp [show ¬ x = x - 1 by omega, show ¬ x - 1 = x by omega, show ¬ x + 1 = x by omega, show ¬ x = x + 1 by omega, show ¬ x + 1 = x - 1 by omega, show ¬ x - 1 = x + 1 by omega, show ¬ x + 1 + 1 = x by omega, show ¬ x = x + 1 + 1 by omega, show ¬ x + 1 = x + 1 + 1 by omega, show ¬ x + 1 + 1 = x + 1 by omega, show ¬ y = y - 1 by omega, show ¬ y - 1 = y by omega, show ¬ y + 1 = y by omega, show ¬ y = y + 1 by omega, show ¬ y + 1 = y - 1 by omega, show ¬ y - 1 = y + 1 by omega, show ¬ y + 1 + 1 = y by omega, show ¬ y = y + 1 + 1 by omega, show ¬ y + 1 = y + 1 + 1 by omega, show ¬ y + 1 + 1 = y + 1 by omega, Int.sub_add_cancel], by rw [look3]; simp [show ¬ x = x - 1 by omega, show ¬ x - 1 = x by omega, show ¬ x + 1 = x by omega, show ¬ x = x + 1 by omega, show ¬ x + 1 = x - 1 by omega, show ¬ x - 1 = x + 1 by omega, show ¬ x + 1 + 1 = x by omega, show ¬ x = x + 1 + 1 by omega, show ¬ x + 1 = x + 1 + 1 by omega, show ¬ x + 1 + 1 = x + 1 by omega, show ¬ y = y - 1 by omega, show ¬ y - 1 = y by omega, show ¬ y + 1 = y by omega, show ¬ y = y + 1 by omega, show ¬ y + 1 = y - 1 by omega, show ¬ y - 1 = y + 1 by omega, show ¬ y + 1 + 1 = y by omega, show ¬ y = y + 1 + 1 by omega, show ¬ y + 1 = y + 1 + 1 by omega, show ¬ y + 1 + 1 = y + 1 by omega, Int.sub_add_cancel], by rw [look3]; simp [show ¬ x = x - 1 by omega, show ¬ x - 1 = x by omega, show ¬ x + 1 = x by omega, show ¬ x = x + 1 by omega, show ¬ x + 1 = x - 1 by omega, show ¬ x - 1 = x + 1 by omega, show ¬ x + 1 + 1 = x by omega, show ¬ x = x + 1 + 1 by omega, show ¬ x + 1 = x + 1 + 1 by omega, show ¬ x + 1 + 1 = x + 1 by omega, show ¬ y = y - 1 by omega, show ¬ y - 1 = y by omega, show ¬ y + 1 = y by omega, show ¬ y = y + 1 by omega, show ¬ y + 1 = y - 1 by omega, show ¬ y - 1 = y + 1 by omega, show ¬ y + 1 + 1 = y by omega, show ¬ y = y + 1 + 1 by omega, show ¬ y + 1 = y + 1 + 1 by omega, show ¬ y + 1 + 1 = y + 1 by omega, Int.sub_add_cancel], fun _ _ => rfl⟩
  refine ⟨[(.tup [.int (x), .int (y)], .int c0), (.tup [.int (x + 1), .int (y)], .int c1), (.tup [.int ((x) + 1), .int ((y - 1))], .int t)], .s (.tup [.int (x), .int (y - 1), .int 1]), .s (.tup [.int (x), .int (y + 1)]), .s (.tup [.int ((x) + 1), .int ((y - 1))]), .s (.dct [(.tup [.int (x), .int (y)], .int c0), (.tup [.int (x + 1), .int (y)], .int c1), (.tup [.int ((x) + 1), .int ((y - 1))], .int t)]), ?_, KN⟩
  unfold d_ls
  have e6 : d_ls6 (F (n + 2)) [w, .s (.tup [.int x, .int y, .int 0]), c, .s (.int t), .o (.lst l), .s (.str [97]), z6, z7, z8, z9, .n, .n] g = .nx [w, .s (.tup [.int x, .int y, .int 0]), c, .s (.int t), .o (.lst l), .s (.str [97]), .s (.tup [.int (x), .int (y - 1), .int 1]), z7, z8, z9, .n, .n] g := by
    rw [d_ls6]
    simp! [beside_0a]
  simp! [e6]
  simp! [ls7 (n + 1) g w c (.s (.int t)) (.o (.lst l)) (.s (.str [97])) z7 z8 z9 (.tup [.int x, .int y, .int 0]) (.tup [.int (x), .int (y - 1), .int 1]) (x) (y) (x + 1) (y) (x) (y + 1) ((x) + 1) ((y - 1) + 1) ((x) + 1) ((y - 1)) ((x)) ((y - 1) + 1) (x) (y + 1) (fun g => pts0 (n + 1) g x y) (fun g => pts1 (n + 1) g (x) (y - 1)) (by simp [miss, m3, show ¬ x = x - 1 by omega, show ¬ x - 1 = x by omega, show ¬ x + 1 = x by omega, show ¬ x = x + 1 by omega, show ¬ x + 1 = x - 1 by omega, show ¬ x - 1 = x + 1 by omega, show ¬ x + 1 + 1 = x by omega, show ¬ x = x + 1 + 1 by omega, show ¬ x + 1 = x + 1 + 1 by omega, show ¬ x + 1 + 1 = x + 1 by omega, show ¬ y = y - 1 by omega, show ¬ y - 1 = y by omega, show ¬ y + 1 = y by omega, show ¬ y = y + 1 by omega, show ¬ y + 1 = y - 1 by omega, show ¬ y - 1 = y + 1 by omega, show ¬ y + 1 + 1 = y by omega, show ¬ y = y + 1 + 1 by omega, show ¬ y + 1 = y + 1 + 1 by omega, show ¬ y + 1 + 1 = y + 1 by omega, Int.sub_add_cancel])]
  simp! [ls8 (n + 1) g w c (.s (.int t)) (.o (.lst l)) (.s (.str [97])) (.s (.tup [.int (x), .int (y + 1)])) z8 z9 (.tup [.int x, .int y, .int 0]) (.tup [.int (x), .int (y - 1), .int 1]) (x) (y) (x + 1) (y) (x) (y + 1) ((x) + 1) ((y - 1) + 1) ((x) + 1) ((y - 1)) ((x)) ((y - 1) + 1) ((x) + 1) ((y - 1)) (fun g => pts0 (n + 1) g x y) (fun g => pts1 (n + 1) g (x) (y - 1)) (by simp [miss, m3, show ¬ x = x - 1 by omega, show ¬ x - 1 = x by omega, show ¬ x + 1 = x by omega, show ¬ x = x + 1 by omega, show ¬ x + 1 = x - 1 by omega, show ¬ x - 1 = x + 1 by omega, show ¬ x + 1 + 1 = x by omega, show ¬ x = x + 1 + 1 by omega, show ¬ x + 1 = x + 1 + 1 by omega, show ¬ x + 1 + 1 = x + 1 by omega, show ¬ y = y - 1 by omega, show ¬ y - 1 = y by omega, show ¬ y + 1 = y by omega, show ¬ y = y + 1 by omega, show ¬ y + 1 = y - 1 by omega, show ¬ y - 1 = y + 1 by omega, show ¬ y + 1 + 1 = y by omega, show ¬ y = y + 1 + 1 by omega, show ¬ y + 1 = y + 1 + 1 by omega, show ¬ y + 1 + 1 = y + 1 by omega, Int.sub_add_cancel])]
  simp! [ls9_3 (n + 1) g w (.s (.int t)) (.o (.lst l)) (.s (.str [97])) (.s (.tup [.int (x), .int (y - 1), .int 1])) (.s (.tup [.int ((x) + 1), .int ((y - 1))])) z9 c (.tup [.int x, .int y, .int 0]) kvs (x) (y) (x + 1) (y) (x) (y + 1) c0 c1 c2 hc K (fun g => pts0 (n + 1) g x y) (by simp [same2, show ¬ x = x - 1 by omega, show ¬ x - 1 = x by omega, show ¬ x + 1 = x by omega, show ¬ x = x + 1 by omega, show ¬ x + 1 = x - 1 by omega, show ¬ x - 1 = x + 1 by omega, show ¬ x + 1 + 1 = x by omega, show ¬ x = x + 1 + 1 by omega, show ¬ x + 1 = x + 1 + 1 by omega, show ¬ x + 1 + 1 = x + 1 by omega, show ¬ y = y - 1 by omega, show ¬ y - 1 = y by omega, show ¬ y + 1 = y by omega, show ¬ y = y + 1 by omega, show ¬ y + 1 = y - 1 by omega, show ¬ y - 1 = y + 1 by omega, show ¬ y + 1 + 1 = y by omega, show ¬ y = y + 1 + 1 by omega, show ¬ y + 1 = y + 1 + 1 by omega, show ¬ y + 1 + 1 = y + 1 by omega, Int.sub_add_cancel]) (by simp [same2, show ¬ x = x - 1 by omega, show ¬ x - 1 = x by omega, show ¬ x + 1 = x by omega, show ¬ x = x + 1 by omega, show ¬ x + 1 = x - 1 by omega, show ¬ x - 1 = x + 1 by omega, show ¬ x + 1 + 1 = x by omega, show ¬ x = x + 1 + 1 by omega, show ¬ x + 1 = x + 1 + 1 by omega, show ¬ x + 1 + 1 = x + 1 by omega, show ¬ y = y - 1 by omega, show ¬ y - 1 = y by omega, show ¬ y + 1 = y by omega, show ¬ y = y + 1 by omega, show ¬ y + 1 = y - 1 by omega, show ¬ y - 1 = y + 1 by omega, show ¬ y + 1 + 1 = y by omega, show ¬ y = y + 1 + 1 by omega, show ¬ y + 1 = y + 1 + 1 by omega, show ¬ y + 1 + 1 = y + 1 by omega, Int.sub_add_cancel]) (by simp [same2, show ¬ x = x - 1 by omega, show ¬ x - 1 = x by omega, show ¬ x + 1 = x by omega, show ¬ x = x + 1 by omega, show ¬ x + 1 = x - 1 by omega, show ¬ x - 1 = x + 1 by omega, show ¬ x + 1 + 1 = x by omega, show ¬ x = x + 1 + 1 by omega, show ¬ x + 1 = x + 1 + 1 by omega, show ¬ x + 1 + 1 = x + 1 by omega, show ¬ y = y - 1 by omega, show ¬ y - 1 = y by omega, show ¬ y + 1 = y by omega, show ¬ y = y + 1 by omega, show ¬ y + 1 = y - 1 by omega, show ¬ y - 1 = y + 1 by omega, show ¬ y + 1 + 1 = y by omega, show ¬ y = y + 1 + 1 by omega, show ¬ y + 1 = y + 1 + 1 by omega, show ¬ y + 1 + 1 = y + 1 by omega, Int.sub_add_cancel])]
  simp! [ls10 (n + 1) g w (.s (.tup [.int x, .int y, .int 0])) c (.o (.lst l)) (.s (.str [97])) (.s (.tup [.int (x), .int (y - 1), .int 1])) (.s (.tup [.int (x), .int (y + 1)])) (x) (y) (x + 1) (y) ((x) + 1) ((y - 1)) (.int c0) (.int c1) (.int t) (by simp [same2, show ¬ x = x - 1 by omega, show ¬ x - 1 = x by omega, show ¬ x + 1 = x by omega, show ¬ x = x + 1 by omega, show ¬ x + 1 = x - 1 by omega, show ¬ x - 1 = x + 1 by omega, show ¬ x + 1 + 1 = x by omega, show ¬ x = x + 1 + 1 by omega, show ¬ x + 1 = x + 1 + 1 by omega, show ¬ x + 1 + 1 = x + 1 by omega, show ¬ y = y - 1 by omega, show ¬ y - 1 = y by omega, show ¬ y + 1 = y by omega, show ¬ y = y + 1 by omega, show ¬ y + 1 = y - 1 by omega, show ¬ y - 1 = y + 1 by omega, show ¬ y + 1 + 1 = y by omega, show ¬ y = y + 1 + 1 by omega, show ¬ y + 1 = y + 1 + 1 by omega, show ¬ y + 1 + 1 = y + 1 by omega, Int.sub_add_cancel]) (by simp [same2, show ¬ x = x - 1 by omega, show ¬ x - 1 = x by omega, show ¬ x + 1 = x by omega, show ¬ x = x + 1 by omega, show ¬ x + 1 = x - 1 by omega, show ¬ x - 1 = x + 1 by omega, show ¬ x + 1 + 1 = x by omega, show ¬ x = x + 1 + 1 by omega, show ¬ x + 1 = x + 1 + 1 by omega, show ¬ x + 1 + 1 = x + 1 by omega, show ¬ y = y - 1 by omega, show ¬ y - 1 = y by omega, show ¬ y + 1 = y by omega, show ¬ y = y + 1 by omega, show ¬ y + 1 = y - 1 by omega, show ¬ y - 1 = y + 1 by omega, show ¬ y + 1 + 1 = y by omega, show ¬ y = y + 1 + 1 by omega, show ¬ y + 1 = y + 1 + 1 by omega, show ¬ y + 1 + 1 = y + 1 by omega, Int.sub_add_cancel])]
  simp! [ls11 (n + 1) g w (.o (.lst l)) (.s (.str [97])) .n (.s (.tup [.int ((x) + 1), .int ((y - 1))])) c (.tup [.int x, .int y, .int 0]) (.tup [.int (x), .int (y - 1), .int 1]) kvs (.dct [(.tup [.int (x), .int (y)], .int c0), (.tup [.int (x + 1), .int (y)], .int c1), (.tup [.int ((x) + 1), .int ((y - 1))], .int t)]) (x) (y + 1) t c2 hc (K.ft _ _) K.l3]
  simp! [ls12 (n + 1) g w (.s (.str [97])) (.s (.tup [.int (x), .int (y - 1), .int 1])) (.s (.tup [.int (x), .int (y + 1)])) (.s (.tup [.int ((x) + 1), .int ((y - 1))])) (.s (.dct [(.tup [.int (x), .int (y)], .int c0), (.tup [.int (x + 1), .int (y)], .int c1), (.tup [.int ((x) + 1), .int ((y - 1))], .int t)])) (.s (.dct [(.tup [.int (x), .int (y)], .int c0), (.tup [.int (x + 1), .int (y)], .int c1), (.tup [.int ((x) + 1), .int ((y - 1))], .int t)])) (.tup [.int (x), .int (y - 1), .int 1]) [(.tup [.int (x), .int (y)], .int c0), (.tup [.int (x + 1), .int (y)], .int c1), (.tup [.int ((x) + 1), .int ((y - 1))], .int t)] l hl ((x) + 1) ((y - 1) + 1) ((x) + 1) ((y - 1)) ((x)) ((y - 1) + 1) c1 t c0 c2 (.inl rfl) KN (fun g => pts1 (n + 1) g (x) (y - 1))]
theorem step_0b (w : Slt) (z6 z7 z8 z9 c : Slt) (kvs : List (D × D)) (c0 c1 c2 t x y : Int) (l : List D) (hl : l.length ≤ 10000) (hc : c = .s (.dct kvs) ∨ c = .o (.dct kvs)) (K : Cor kvs (x) (y) (x + 1) (y) (x) (y + 1) c0 c1 c2) :
    ∃ kvs' y6 y7 y8 y9, d_ls (F (n + 2)) [w, .s (.tup [.int x, .int y, .int 0]), c, .s (.int t), .o (.lst l), .s (.str [98]), z6, z7, z8, z9, .n, .n] g = .nx [w, .s (.tup [.int (x - 1), .int (y), .int 1]), .s (.dct kvs'), .s (.int c1), .o (.lst (l ++ [.tup [.tup [.int c2, .int c0, .int t, .int c1], .tup [.int (x - 1), .int (y), .int 1]]])), .s (.str [98]), y6, y7, y8, y9, .n, .n] g ∧ Cor kvs' ((x - 1) + 1) ((y) + 1) ((x - 1) + 1) ((y)) ((x - 1)) ((y) + 1) c2 c0 t := by
  have KN : Cor [(.tup [.int (x), .int (y)], .int c0), (.tup [.int (x), .int (y + 1)], .int c2), (.tup [.int ((x - 1)), .int ((y) + 1)], .int t)] ((x - 1) + 1) ((y) + 1) ((x - 1) + 1) ((y)) ((x - 1)) ((y) + 1) c2 c0 t := ⟨by rw [look3]; simp [show ¬ x = x - 1 by omega, show ¬ x - 1 = x by omega, show ¬ x + 1 = x by omega, show ¬ x = x + 1 by omega, show ¬ x + 1 = x - 1 by omega, show ¬ x - 1 = x + 1 by omega, show ¬ x + 1 + 1 = x by omega, show ¬ x = x + 1 + 1 by omega, show ¬ x + 1 = x + 1 + 1 by omega, show ¬ x + 1 + 1 = x + 1 by omega, show ¬ y = y - 1 by omega, show ¬ y - 1 = y by omega, show ¬ y + 1 = y by omega, show ¬ y = y + 1 by omega, show ¬ y + 1 = y - 1 by omega, show ¬ y - 1 = y + 1 by omega, show ¬ y + 1 + 1 = y by omega, show ¬ y = y + 1 + 1 by omega, show ¬ y + 1 = y + 1 + 1 by omega, show ¬ y + 1 + 1 = y + 1 by omega, Int.sub_add_cancel], by rw [look3]; simp [show ¬ x = x - 1 by omega, show ¬ x - 1 = x by omega, show ¬ x + 1 = x by omega, show ¬ x = x + 1 by omega, show ¬ x + 1 = x - 1 by omega, show ¬ x - 1 = x + 1 by omega, show ¬ x + 1 + 1 = x by omega, show ¬ x = x + 1 + 1 by omega, show ¬ x + 1 = x + 1 + 1 by omega, show ¬ x + 1 + 1 = x + 1 by omega, show ¬ y = y - 1 by omega, show ¬ y - 1 = y by omega, show ¬ y + 1 = y by omega, show ¬ y = y + 1 by omega, show ¬ y + 1 = y - 1 by omega, show ¬ y - 1 = y + 1 by omega, show ¬ y + 1 + 1 = y by omega, show ¬ y = y + 1 + 1 by omega, show ¬ y + 1 = y + 1 + 1 by omega, show ¬ y + 1 + 1 = y + 1 by omega, Int.sub_add_cancel], by rw [look3]; simp [show ¬ x = x - 1 by omega, show ¬ x - 1 = x by omega, show ¬ x + 1 = x by omega, show ¬ x = x + 1 by omega, show ¬ x + 1 = x - 1 by omega, show ¬ x - 1 = x + 1 by omega, show ¬ x + 1 + 1 = x by omega, show ¬ x = x + 1 + 1 by omega, show ¬ x + 1 = x + 1 + 1 by omega, show ¬ x + 1 + 1 = x + 1 by omega, show ¬ y = y - 1 by omega, show ¬ y - 1 = y by omega, show ¬ y + 1 = y by omega, show ¬ y = y + 1 by omega, show ¬ y + 1 = y - 1 by omega, show ¬ y - 1 = y + 1 by omega, show ¬ y + 1 + 1 = y by omega, show ¬ y = y + 1 + 1 by omega, show ¬ y + 1 = y + 1 + 1 by omega, show ¬ y + 1 + 1 = y + 1 by omega, Int.sub_add_cancel], fun _ _ => rfl⟩
  refine ⟨[(.tup [.int (x), .int (y)], .int c0), (.tup [.int (x), .int (y + 1)], .int c2), (.tup [.int ((x - 1)), .int ((y) + 1)], .int t)], .s (.tup [.int (x - 1), .int (y), .int 1]), .s (.tup [.int (x + 1), .int (y)]), .s (.tup [.int ((x - 1)), .int ((y) + 1)]), .s (.dct [(.tup [.int (x), .int (y)], .int c0), (.tup [.int (x), .int (y + 1)], .int c2), (.tup [.int ((x - 1)), .int ((y) + 1)], .int t)]), ?_, KN⟩
  unfold d_ls
  have e6 : d_ls6 (F (n + 2)) [w, .s (.tup [.int x, .int y, .int 0]), c, .s (.int t), .o (.lst l), .s (.str [98]), z6, z7, z8, z9, .n, .n] g = .nx [w, .s (.tup [.int x, .int y, .int 0]), c, .s (.int t), .o (.lst l), .s (.str [98]), .s (.tup [.int (x - 1), .int (y), .int 1]), z7, z8, z9, .n, .n] g := by
    rw [d_ls6]
    simp! [beside_0b]
  simp! [e6]
  simp! [ls7 (n + 1) g w c (.s (.int t)) (.o (.lst l)) (.s (.str [98])) z7 z8 z9 (.tup [.int x, .int y, .int 0]) (.tup [.int (x - 1), .int (y), .int 1]) (x) (y) (x + 1) (y) (x) (y + 1) ((x - 1) + 1) ((y) + 1) ((x - 1) + 1) ((y)) ((x - 1)) ((y) + 1) (x + 1) (y) (fun g => pts0 (n + 1) g x y) (fun g => pts1 (n + 1) g (x - 1) (y)) (by simp [miss, m3, show ¬ x = x - 1 by omega, show ¬ x - 1 = x by omega, show ¬ x + 1 = x by omega, show ¬ x = x + 1 by omega, show ¬ x + 1 = x - 1 by omega, show ¬ x - 1 = x + 1 by omega, show ¬ x + 1 + 1 = x by omega, show ¬ x = x + 1 + 1 by omega, show ¬ x + 1 = x + 1 + 1 by omega, show ¬ x + 1 + 1 = x + 1 by omega, show ¬ y = y - 1 by omega, show ¬ y - 1 = y by omega, show ¬ y + 1 = y by omega, show ¬ y = y + 1 by omega, show ¬ y + 1 = y - 1 by omega, show ¬ y - 1 = y + 1 by omega, show ¬ y + 1 + 1 = y by omega, show ¬ y = y + 1 + 1 by omega, show ¬ y + 1 = y + 1 + 1 by omega, show ¬ y + 1 + 1 = y + 1 by omega, Int.sub_add_cancel])]
  simp! [ls8 (n + 1) g w c (.s (.int t)) (.o (.lst l)) (.s (.str [98])) (.s (.tup [.int (x + 1), .int (y)])) z8 z9 (.tup [.int x, .int y, .int 0]) (.tup [.int (x - 1), .int (y), .int 1]) (x) (y) (x + 1) (y) (x) (y + 1) ((x - 1) + 1) ((y) + 1) ((x - 1) + 1) ((y)) ((x - 1)) ((y) + 1) ((x - 1)) ((y) + 1) (fun g => pts0 (n + 1) g x y) (fun g => pts1 (n + 1) g (x - 1) (y)) (by simp [miss, m3, show ¬ x = x - 1 by omega, show ¬ x - 1 = x by omega, show ¬ x + 1 = x by omega, show ¬ x = x + 1 by omega, show ¬ x + 1 = x - 1 by omega, show ¬ x - 1 = x + 1 by omega, show ¬ x + 1 + 1 = x by omega, show ¬ x = x + 1 + 1 by omega, show ¬ x + 1 = x + 1 + 1 by omega, show ¬ x + 1 + 1 = x + 1 by omega, show ¬ y = y - 1 by omega, show ¬ y - 1 = y by omega, show ¬ y + 1 = y by omega, show ¬ y = y + 1 by omega, show ¬ y + 1 = y - 1 by omega, show ¬ y - 1 = y + 1 by omega, show ¬ y + 1 + 1 = y by omega, show ¬ y = y + 1 + 1 by omega, show ¬ y + 1 = y + 1 + 1 by omega, show ¬ y + 1 + 1 = y + 1 by omega, Int.sub_add_cancel])]
  simp! [ls9_2 (n + 1) g w (.s (.int t)) (.o (.lst l)) (.s (.str [98])) (.s (.tup [.int (x - 1), .int (y), .int 1])) (.s (.tup [.int ((x - 1)), .int ((y) + 1)])) z9 c (.tup [.int x, .int y, .int 0]) kvs (x) (y) (x + 1) (y) (x) (y + 1) c0 c1 c2 hc K (fun g => pts0 (n + 1) g x y) (by simp [same2, show ¬ x = x - 1 by omega, show ¬ x - 1 = x by omega, show ¬ x + 1 = x by omega, show ¬ x = x + 1 by omega, show ¬ x + 1 = x - 1 by omega, show ¬ x - 1 = x + 1 by omega, show ¬ x + 1 + 1 = x by omega, show ¬ x = x + 1 + 1 by omega, show ¬ x + 1 = x + 1 + 1 by omega, show ¬ x + 1 + 1 = x + 1 by omega, show ¬ y = y - 1 by omega, show ¬ y - 1 = y by omega, show ¬ y + 1 = y by omega, show ¬ y = y + 1 by omega, show ¬ y + 1 = y - 1 by omega, show ¬ y - 1 = y + 1 by omega, show ¬ y + 1 + 1 = y by omega, show ¬ y = y + 1 + 1 by omega, show ¬ y + 1 = y + 1 + 1 by omega, show ¬ y + 1 + 1 = y + 1 by omega, Int.sub_add_cancel]) (by simp [same2, show ¬ x = x - 1 by omega, show ¬ x - 1 = x by omega, show ¬ x + 1 = x by omega, show ¬ x = x + 1 by omega, show ¬ x + 1 = x - 1 by omega, show ¬ x - 1 = x + 1 by omega, show ¬ x + 1 + 1 = x by omega, show ¬ x = x + 1 + 1 by omega, show ¬ x + 1 = x + 1 + 1 by omega, show ¬ x + 1 + 1 = x + 1 by omega, show ¬ y = y - 1 by omega, show ¬ y - 1 = y by omega, show ¬ y + 1 = y by omega, show ¬ y = y + 1 by omega, show ¬ y + 1 = y - 1 by omega, show ¬ y - 1 = y + 1 by omega, show ¬ y + 1 + 1 = y by omega, show ¬ y = y + 1 + 1 by omega, show ¬ y + 1 = y + 1 + 1 by omega, show ¬ y + 1 + 1 = y + 1 by omega, Int.sub_add_cancel]) (by simp [same2, show ¬ x = x - 1 by omega, show ¬ x - 1 = x by omega, show ¬ x + 1 = x by omega, show ¬ x = x + 1 by omega, show ¬ x + 1 = x - 1 by omega, show ¬ x - 1 = x + 1 by omega, show ¬ x + 1 + 1 = x by omega, show ¬ x = x + 1 + 1 by omega, show ¬ x + 1 = x + 1 + 1 by omega, show ¬ x + 1 + 1 = x + 1 by omega, show ¬ y = y - 1 by omega, show ¬ y - 1 = y by omega, show ¬ y + 1 = y by omega, show ¬ y = y + 1 by omega, show ¬ y + 1 = y - 1 by omega, show ¬ y - 1 = y + 1 by omega, show ¬ y + 1 + 1 = y by omega, show ¬ y = y + 1 + 1 by omega, show ¬ y + 1 = y + 1 + 1 by omega, show ¬ y + 1 + 1 = y + 1 by omega, Int.sub_add_cancel])]
  simp! [ls10 (n + 1) g w (.s (.tup [.int x, .int y, .int 0])) c (.o (.lst l)) (.s (.str [98])) (.s (.tup [.int (x - 1), .int (y), .int 1])) (.s (.tup [.int (x + 1), .int (y)])) (x) (y) (x) (y + 1) ((x - 1)) ((y) + 1) (.int c0) (.int c2) (.int t) (by simp [same2, show ¬ x = x - 1 by omega, show ¬ x - 1 = x by omega, show ¬ x + 1 = x by omega, show ¬ x = x + 1 by omega, show ¬ x + 1 = x - 1 by omega, show ¬ x - 1 = x + 1 by omega, show ¬ x + 1 + 1 = x by omega, show ¬ x = x + 1 + 1 by omega, show ¬ x + 1 = x + 1 + 1 by omega, show ¬ x + 1 + 1 = x + 1 by omega, show ¬ y = y - 1 by omega, show ¬ y - 1 = y by omega, show ¬ y + 1 = y by omega, show ¬ y = y + 1 by omega, show ¬ y + 1 = y - 1 by omega, show ¬ y - 1 = y + 1 by omega, show ¬ y + 1 + 1 = y by omega, show ¬ y = y + 1 + 1 by omega, show ¬ y + 1 = y + 1 + 1 by omega, show ¬ y + 1 + 1 = y + 1 by omega, Int.sub_add_cancel]) (by simp [same2, show ¬ x = x - 1 by omega, show ¬ x - 1 = x by omega, show ¬ x + 1 = x by omega, show ¬ x = x + 1 by omega, show ¬ x + 1 = x - 1 by omega, show ¬ x - 1 = x + 1 by omega, show ¬ x + 1 + 1 = x by omega, show ¬ x = x + 1 + 1 by omega, show ¬ x + 1 = x + 1 + 1 by omega, show ¬ x + 1 + 1 = x + 1 by omega, show ¬ y = y - 1 by omega, show ¬ y - 1 = y by omega, show ¬ y + 1 = y by omega, show ¬ y = y + 1 by omega, show ¬ y + 1 = y - 1 by omega, show ¬ y - 1 = y + 1 by omega, show ¬ y + 1 + 1 = y by omega, show ¬ y = y + 1 + 1 by omega, show ¬ y + 1 = y + 1 + 1 by omega, show ¬ y + 1 + 1 = y + 1 by omega, Int.sub_add_cancel])]
  simp! [ls11 (n + 1) g w (.o (.lst l)) (.s (.str [98])) .n (.s (.tup [.int ((x - 1)), .int ((y) + 1)])) c (.tup [.int x, .int y, .int 0]) (.tup [.int (x - 1), .int (y), .int 1]) kvs (.dct [(.tup [.int (x), .int (y)], .int c0), (.tup [.int (x), .int (y + 1)], .int c2), (.tup [.int ((x - 1)), .int ((y) + 1)], .int t)]) (x + 1) (y) t c1 hc (K.ft _ _) K.l2]
  simp! [ls12 (n + 1) g w (.s (.str [98])) (.s (.tup [.int (x - 1), .int (y), .int 1])) (.s (.tup [.int (x + 1), .int (y)])) (.s (.tup [.int ((x - 1)), .int ((y) + 1)])) (.s (.dct [(.tup [.int (x), .int (y)], .int c0), (.tup [.int (x), .int (y + 1)], .int c2), (.tup [.int ((x - 1)), .int ((y) + 1)], .int t)])) (.s (.dct [(.tup [.int (x), .int (y)], .int c0), (.tup [.int (x), .int (y + 1)], .int c2), (.tup [.int ((x - 1)), .int ((y) + 1)], .int t)])) (.tup [.int (x - 1), .int (y), .int 1]) [(.tup [.int (x), .int (y)], .int c0), (.tup [.int (x), .int (y + 1)], .int c2), (.tup [.int ((x - 1)), .int ((y) + 1)], .int t)] l hl ((x - 1) + 1) ((y) + 1) ((x - 1) + 1) ((y)) ((x - 1)) ((y) + 1) c2 c0 t c1 (.inl rfl) KN (fun g => pts1 (n + 1) g (x - 1) (y))]
theorem step_0c (w : Slt) (z6 z7 z8 z9 c : Slt) (kvs : List (D × D)) (c0 c1 c2 t x y : Int) (l : List D) (hl : l.length ≤ 10000) (hc : c = .s (.dct kvs) ∨ c = .o (.dct kvs)) (K : Cor kvs (x) (y) (x + 1) (y) (x) (y + 1) c0 c1 c2) :
    ∃ kvs' y6 y7 y8 y9, d_ls (F (n + 2)) [w, .s (.tup [.int x, .int y, .int 0]), c, .s (.int t), .o (.lst l), .s (.str [99]), z6, z7, z8, z9, .n, .n] g = .nx [w, .s (.tup [.int (x), .int (y), .int 1]), .s (.dct kvs'), .s (.int c0), .o (.lst (l ++ [.tup [.tup [.int t, .int c1, .int c2, .int c0], .tup [.int (x), .int (y), .int 1]]])), .s (.str [99]), y6, y7, y8, y9, .n, .n] g ∧ Cor kvs' ((x) + 1) ((y) + 1) ((x) + 1) ((y)) ((x)) ((y) + 1) t c1 c2 := by
  have KN : Cor [(.tup [.int (x + 1), .int (y)], .int c1), (.tup [.int (x), .int (y + 1)], .int c2), (.tup [.int ((x) + 1), .int ((y) + 1)], .int t)] ((x) + 1) ((y) + 1) ((x) + 1) ((y)) ((x)) ((y) + 1) t c1 c2 := ⟨by rw [look3]; simp [show ¬ x = x - 1 by omega, show ¬ x - 1 = x by omega, show ¬ x + 1 = x by omega, show ¬ x = x + 1 by omega, show ¬ x + 1 = x - 1 by omega, show ¬ x - 1 = x + 1 by omega, show ¬ x + 1 + 1 = x by omega, show ¬ x = x + 1 + 1 by omega, show ¬ x + 1 = x + 1 + 1 by omega, show ¬ x + 1 + 1 = x + 1 by omega, show ¬ y = y - 1 by omega, show ¬ y - 1 = y by omega, show ¬ y + 1 = y by omega, show ¬ y = y + 1 by omega, show ¬ y + 1 = y - 1 by omega, show ¬ y - 1 = y + 1 by omega, show ¬ y + 1 + 1 = y by omega, show ¬ y = y + 1 + 1 by omega, show ¬ y + 1 = y + 1 + 1 by omega, show ¬ y + 1 + 1 = y + 1 by omega, Int.sub_add_cancel], by rw [look3]; simp [show ¬ x = x - 1 by omega, show ¬ x - 1 = x by omega, show ¬ x + 1 = x by omega, show ¬ x = x + 1 by omega, show ¬ x + 1 = x - 1 by omega, show ¬ x - 1 = x + 1 by omega, show ¬ x + 1 + 1 = x by omega, show ¬ x = x + 1 + 1 by omega, show ¬ x + 1 = x + 1 + 1 by omega, show ¬ x + 1 + 1 = x + 1 by omega, show ¬ y = y - 1 by omega, show ¬ y - 1 = y by omega, show ¬ y + 1 = y by omega, show ¬ y = y + 1 by omega, show ¬ y + 1 = y - 1 by omega, show ¬ y - 1 = y + 1 by omega, show ¬ y + 1 + 1 = y by omega, show ¬ y = y + 1 + 1 by omega, show ¬ y + 1 = y + 1 + 1 by omega, show ¬ y + 1 + 1 = y + 1 by omega, Int.sub_add_cancel], by rw [look3]; simp [show ¬ x = x - 1 by omega, show ¬ x - 1 = x by omega, show ¬ x + 1 = x by omega, show ¬ x = x + 1 by omega, show ¬ x + 1 = x - 1 by omega, show ¬ x - 1 = x + 1 by omega, show ¬ x + 1 + 1 = x by omega, show ¬ x = x + 1 + 1 by omega, show ¬ x + 1 = x + 1 + 1 by omega, show ¬ x + 1 + 1 = x + 1 by omega, show ¬ y = y - 1 by omega, show ¬ y - 1 = y by omega, show ¬ y + 1 = y by omega, show ¬ y = y + 1 by omega, show ¬ y + 1 = y - 1 by omega, show ¬ y - 1 = y + 1 by omega, show ¬ y + 1 + 1 = y by omega, show ¬ y = y + 1 + 1 by omega, show ¬ y + 1 = y + 1 + 1 by omega, show ¬ y + 1 + 1 = y + 1 by omega, Int.sub_add_cancel], fun _ _ => rfl⟩
  refine ⟨[(.tup [.int (x + 1), .int (y)], .int c1), (.tup [.int (x), .int (y + 1)], .int c2), (.tup [.int ((x) + 1), .int ((y) + 1)], .int t)], .s (.tup [.int (x), .int (y), .int 1]), .s (.tup [.int (x), .int (y)]), .s (.tup [.int ((x) + 1), .int ((y) + 1)]), .s (.dct [(.tup [.int (x + 1), .int (y)], .int c1), (.tup [.int (x), .int (y + 1)], .int c2), (.tup [.int ((x) + 1), .int ((y) + 1)], .int t)]), ?_, KN⟩
  unfold d_ls
  have e6 : d_ls6 (F (n + 2)) [w, .s (.tup [.int x, .int y, .int 0]), c, .s (.int t), .o (.lst l), .s (.str [99]), z6, z7, z8, z9, .n, .n] g = .nx [w, .s (.tup [.int x, .int y, .int 0]), c, .s (.int t), .o (.lst l), .s (.str [99]), .s (.tup [.int (x), .int (y), .int 1]), z7, z8, z9, .n, .n] g := by
    rw [d_ls6]
    simp! [beside_0c]
  simp! [e6]
  simp! [ls7 (n + 1) g w c (.s (.int t)) (.o (.lst l)) (.s (.str [99])) z7 z8 z9 (.tup [.int x, .int y, .int 0]) (.tup [.int (x), .int (y), .int 1]) (x) (y) (x + 1) (y) (x) (y + 1) ((x) + 1) ((y) + 1) ((x) + 1) ((y)) ((x)) ((y) + 1) (x) (y) (fun g => pts0 (n + 1) g x y) (fun g => pts1 (n + 1) g (x) (y)) (by simp [miss, m3, show ¬ x = x - 1 by omega, show ¬ x - 1 = x by omega, show ¬ x + 1 = x by omega, show ¬ x = x + 1 by omega, show ¬ x + 1 = x - 1 by omega, show ¬ x - 1 = x + 1 by omega, show ¬ x + 1 + 1 = x by omega, show ¬ x = x + 1 + 1 by omega, show ¬ x + 1 = x + 1 + 1 by omega, show ¬ x + 1 + 1 = x + 1 by omega, show ¬ y = y - 1 by omega, show ¬ y - 1 = y by omega, show ¬ y + 1 = y by omega, show ¬ y = y + 1 by omega, show ¬ y + 1 = y - 1 by omega, show ¬ y - 1 = y + 1 by omega, show ¬ y + 1 + 1 = y by omega, show ¬ y = y + 1 + 1 by omega, show ¬ y + 1 = y + 1 + 1 by omega, show ¬ y + 1 + 1 = y + 1 by omega, Int.sub_add_cancel])]
  simp! [ls8 (n + 1) g w c (.s (.int t)) (.o (.lst l)) (.s (.str [99])) (.s (.tup [.int (x), .int (y)])) z8 z9 (.tup [.int x, .int y, .int 0]) (.tup [.int (x), .int (y), .int 1]) (x) (y) (x + 1) (y) (x) (y + 1) ((x) + 1) ((y) + 1) ((x) + 1) ((y)) ((x)) ((y) + 1) ((x) + 1) ((y) + 1) (fun g => pts0 (n + 1) g x y) (fun g => pts1 (n + 1) g (x) (y)) (by simp [miss, m3, show ¬ x = x - 1 by omega, show ¬ x - 1 = x by omega, show ¬ x + 1 = x by omega, show ¬ x = x + 1 by omega, show ¬ x + 1 = x - 1 by omega, show ¬ x - 1 = x + 1 by omega, show ¬ x + 1 + 1 = x by omega, show ¬ x = x + 1 + 1 by omega, show ¬ x + 1 = x + 1 + 1 by omega, show ¬ x + 1 + 1 = x + 1 by omega, show ¬ y = y - 1 by omega, show ¬ y - 1 = y by omega, show ¬ y + 1 = y by omega, show ¬ y = y + 1 by omega, show ¬ y + 1 = y - 1 by omega, show ¬ y - 1 = y + 1 by omega, show ¬ y + 1 + 1 = y by omega, show ¬ y = y + 1 + 1 by omega, show ¬ y + 1 = y + 1 + 1 by omega, show ¬ y + 1 + 1 = y + 1 by omega, Int.sub_add_cancel])]
  simp! [ls9_1 (n + 1) g w (.s (.int t)) (.o (.lst l)) (.s (.str [99])) (.s (.tup [.int (x), .int (y), .int 1])) (.s (.tup [.int ((x) + 1), .int ((y) + 1)])) z9 c (.tup [.int x, .int y, .int 0]) kvs (x) (y) (x + 1) (y) (x) (y + 1) c0 c1 c2 hc K (fun g => pts0 (n + 1) g x y) (by simp [same2, show ¬ x = x - 1 by omega, show ¬ x - 1 = x by omega, show ¬ x + 1 = x by omega, show ¬ x = x + 1 by omega, show ¬ x + 1 = x - 1 by omega, show ¬ x - 1 = x + 1 by omega, show ¬ x + 1 + 1 = x by omega, show ¬ x = x + 1 + 1 by omega, show ¬ x + 1 = x + 1 + 1 by omega, show ¬ x + 1 + 1 = x + 1 by omega, show ¬ y = y - 1 by omega, show ¬ y - 1 = y by omega, show ¬ y + 1 = y by omega, show ¬ y = y + 1 by omega, show ¬ y + 1 = y - 1 by omega, show ¬ y - 1 = y + 1 by omega, show ¬ y + 1 + 1 = y by omega, show ¬ y = y + 1 + 1 by omega, show ¬ y + 1 = y + 1 + 1 by omega, show ¬ y + 1 + 1 = y + 1 by omega, Int.sub_add_cancel]) (by simp [same2, show ¬ x = x - 1 by omega, show ¬ x - 1 = x by omega, show ¬ x + 1 = x by omega, show ¬ x = x + 1 by omega, show ¬ x + 1 = x - 1 by omega, show ¬ x - 1 = x + 1 by omega, show ¬ x + 1 + 1 = x by omega, show ¬ x = x + 1 + 1 by omega, show ¬ x + 1 = x + 1 + 1 by omega, show ¬ x + 1 + 1 = x + 1 by omega, show ¬ y = y - 1 by omega, show ¬ y - 1 = y by omega, show ¬ y + 1 = y by omega, show ¬ y = y + 1 by omega, show ¬ y + 1 = y - 1 by omega, show ¬ y - 1 = y + 1 by omega, show ¬ y + 1 + 1 = y by omega, show ¬ y = y + 1 + 1 by omega, show ¬ y + 1 = y + 1 + 1 by omega, show ¬ y + 1 + 1 = y + 1 by omega, Int.sub_add_cancel]) (by simp [same2, show ¬ x = x - 1 by omega, show ¬ x - 1 = x by omega, show ¬ x + 1 = x by omega, show ¬ x = x + 1 by omega, show ¬ x + 1 = x - 1 by omega, show ¬ x - 1 = x + 1 by omega, show ¬ x + 1 + 1 = x by omega, show ¬ x = x + 1 + 1 by omega, show ¬ x + 1 = x + 1 + 1 by omega, show ¬ x + 1 + 1 = x + 1 by omega, show ¬ y = y - 1 by omega, show ¬ y - 1 = y by omega, show ¬ y + 1 = y by omega, show ¬ y = y + 1 by omega, show ¬ y + 1 = y - 1 by omega, show ¬ y - 1 = y + 1 by omega, show ¬ y + 1 + 1 = y by omega, show ¬ y = y + 1 + 1 by omega, show ¬ y + 1 = y + 1 + 1 by omega, show ¬ y + 1 + 1 = y + 1 by omega, Int.sub_add_cancel])]
  simp! [ls10 (n + 1) g w (.s (.tup [.int x, .int y, .int 0])) c (.o (.lst l)) (.s (.str [99])) (.s (.tup [.int (x), .int (y), .int 1])) (.s (.tup [.int (x), .int (y)])) (x + 1) (y) (x) (y + 1) ((x) + 1) ((y) + 1) (.int c1) (.int c2) (.int t) (by simp [same2, show ¬ x = x - 1 by omega, show ¬ x - 1 = x by omega, show ¬ x + 1 = x by omega, show ¬ x = x + 1 by omega, show ¬ x + 1 = x - 1 by omega, show ¬ x - 1 = x + 1 by omega, show ¬ x + 1 + 1 = x by omega, show ¬ x = x + 1 + 1 by omega, show ¬ x + 1 = x + 1 + 1 by omega, show ¬ x + 1 + 1 = x + 1 by omega, show ¬ y = y - 1 by omega, show ¬ y - 1 = y by omega, show ¬ y + 1 = y by omega, show ¬ y = y + 1 by omega, show ¬ y + 1 = y - 1 by omega, show ¬ y - 1 = y + 1 by omega, show ¬ y + 1 + 1 = y by omega, show ¬ y = y + 1 + 1 by omega, show ¬ y + 1 = y + 1 + 1 by omega, show ¬ y + 1 + 1 = y + 1 by omega, Int.sub_add_cancel]) (by simp [same2, show ¬ x = x - 1 by omega, show ¬ x - 1 = x by omega, show ¬ x + 1 = x by omega, show ¬ x = x + 1 by omega, show ¬ x + 1 = x - 1 by omega, show ¬ x - 1 = x + 1 by omega, show ¬ x + 1 + 1 = x by omega, show ¬ x = x + 1 + 1 by omega, show ¬ x + 1 = x + 1 + 1 by omega, show ¬ x + 1 + 1 = x + 1 by omega, show ¬ y = y - 1 by omega, show ¬ y - 1 = y by omega, show ¬ y + 1 = y by omega, show ¬ y = y + 1 by omega, show ¬ y + 1 = y - 1 by omega, show ¬ y - 1 = y + 1 by omega, show ¬ y + 1 + 1 = y by omega, show ¬ y = y + 1 + 1 by omega, show ¬ y + 1 = y + 1 + 1 by omega, show ¬ y + 1 + 1 = y + 1 by omega, Int.sub_add_cancel])]
  simp! [ls11 (n + 1) g w (.o (.lst l)) (.s (.str [99])) .n (.s (.tup [.int ((x) + 1), .int ((y) + 1)])) c (.tup [.int x, .int y, .int 0]) (.tup [.int (x), .int (y), .int 1]) kvs (.dct [(.tup [.int (x + 1), .int (y)], .int c1), (.tup [.int (x), .int (y + 1)], .int c2), (.tup [.int ((x) + 1), .int ((y) + 1)], .int t)]) (x) (y) t c0 hc (K.ft _ _) K.l1]
  simp! [ls12 (n + 1) g w (.s (.str [99])) (.s (.tup [.int (x), .int (y), .int 1])) (.s (.tup [.int (x), .int (y)])) (.s (.tup [.int ((x) + 1), .int ((y) + 1)])) (.s (.dct [(.tup [.int (x + 1), .int (y)], .int c1), (.tup [.int (x), .int (y + 1)], .int c2), (.tup [.int ((x) + 1), .int ((y) + 1)], .int t)])) (.s (.dct [(.tup [.int (x + 1), .int (y)], .int c1), (.tup [.int (x), .int (y + 1)], .int c2), (.tup [.int ((x) + 1), .int ((y) + 1)], .int t)])) (.tup [.int (x), .int (y), .int 1]) [(.tup [.int (x + 1), .int (y)], .int c1), (.tup [.int (x), .int (y + 1)], .int c2), (.tup [.int ((x) + 1), .int ((y) + 1)], .int t)] l hl ((x) + 1) ((y) + 1) ((x) + 1) ((y)) ((x)) ((y) + 1) t c1 c2 c0 (.inl rfl) KN (fun g => pts1 (n + 1) g (x) (y))]
theorem step_1a (w : Slt) (z6 z7 z8 z9 c : Slt) (kvs : List (D × D)) (c0 c1 c2 t x y : Int) (l : List D) (hl : l.length ≤ 10000) (hc : c = .s (.dct kvs) ∨ c = .o (.dct kvs)) (K : Cor kvs (x + 1) (y + 1) (x + 1) (y) (x) (y + 1) c0 c1 c2) :
    ∃ kvs' y6 y7 y8 y9, d_ls (F (n + 2)) [w, .s (.tup [.int x, .int y, .int 1]), c, .s (.int t), .o (.lst l), .s (.str [97]), z6, z7, z8, z9, .n, .n] g = .nx [w, .s (.tup [.int (x), .int (y + 1), .int 0]), .s (.dct kvs'), .s (.int c1), .o (.lst (l ++ [.tup [.tup [.int c2, .int c0, .int t, .int c1], .tup [.int (x), .int (y + 1), .int 0]]])), .s (.str [97]), y6, y7, y8, y9, .n, .n] g ∧ Cor kvs' ((x)) ((y + 1)) ((x) + 1) ((y + 1)) ((x)) ((y + 1) + 1) c2 c0 t := by
  have KN : Cor [(.tup [.int (x + 1), .int (y + 1)], .int c0), (.tup [.int (x), .int (y + 1)], .int c2), (.tup [.int ((x)), .int ((y + 1) + 1)], .int t)] ((x)) ((y + 1)) ((x) + 1) ((y + 1)) ((x)) ((y + 1) + 1) c2 c0 t := ⟨by rw [look3]; simp [show ¬ x = x - 1 by omega, show ¬ x - 1 = x by omega, show ¬ x + 1 = x by omega, show ¬ x = x + 1 by omega, show ¬ x + 1 = x - 1 by omega, show ¬ x - 1 = x + 1 by omega, show ¬ x + 1 + 1 = x by omega, show ¬ x = x + 1 + 1 by omega, show ¬ x + 1 = x + 1 + 1 by omega, show ¬ x + 1 + 1 = x + 1 by omega, show ¬ y = y - 1 by omega, show ¬ y - 1 = y by omega, show ¬ y + 1 = y by omega, show ¬ y = y + 1 by omega, show ¬ y + 1 = y - 1 by omega, show ¬ y - 1 = y + 1 by omega, show ¬ y + 1 + 1 = y by omega, show ¬ y = y + 1 + 1 by omega, show ¬ y + 1 = y + 1 + 1 by omega, show ¬ y + 1 + 1 = y + 1 by omega, Int.sub_add_cancel], by rw [look3]; simp [show ¬ x = x - 1 by omega, show ¬ x - 1 = x by omega, show ¬ x + 1 = x by omega, show ¬ x = x + 1 by omega, show ¬ x + 1 = x - 1 by omega, show ¬ x - 1 = x + 1 by omega, show ¬ x + 1 + 1 = x by omega, show ¬ x = x + 1 + 1 by omega, show ¬ x + 1 = x + 1 + 1 by omega, show ¬ x + 1 + 1 = x + 1 by omega, show ¬ y = y - 1 by omega, show ¬ y - 1 = y by omega, show ¬ y + 1 = y by omega, show ¬ y = y + 1 by omega, show ¬ y + 1 = y - 1 by omega, show ¬ y - 1 = y + 1 by omega, show ¬ y + 1 + 1 = y by omega, show ¬ y = y + 1 + 1 by omega, show ¬ y + 1 = y + 1 + 1 by omega, show ¬ y + 1 + 1 = y + 1 by omega, Int.sub_add_cancel], by rw [look3]; simp [show ¬ x = x - 1 by omega, show ¬ x - 1 = x by omega, show ¬ x + 1 = x by omega, show ¬ x = x + 1 by omega, show ¬ x + 1 = x - 1 by omega, show ¬ x - 1 = x + 1 by omega, show ¬ x + 1 + 1 = x by omega, show ¬ x = x + 1 + 1 by omega, show ¬ x + 1 = x + 1 + 1 by omega, show ¬ x + 1 + 1 = x + 1 by omega, show ¬ y = y - 1 by omega, show ¬ y - 1 = y by omega, show ¬ y + 1 = y by omega, show ¬ y = y + 1 by omega, show ¬ y + 1 = y - 1 by omega, show ¬ y - 1 = y + 1 by omega, show ¬ y + 1 + 1 = y by omega, show ¬ y = y + 1 + 1 by omega, show ¬ y + 1 = y + 1 + 1 by omega, show ¬ y + 1 + 1 = y + 1 by omega, Int.sub_add_cancel], fun _ _ => rfl⟩
  refine ⟨[(.tup [.int (x + 1), .int (y + 1)], .int c0), (.tup [.int (x), .int (y + 1)], .int c2), (.tup [.int ((x)), .int ((y + 1) + 1)], .int t)], .s (.tup [.int (x), .int (y + 1), .int 0]), .s (.tup [.int (x + 1), .int (y)]), .s (.tup [.int ((x)), .int ((y + 1) + 1)]), .s (.dct [(.tup [.int (x + 1), .int (y + 1)], .int c0), (.tup [.int (x), .int (y + 1)], .int c2), (.tup [.int ((x)), .int ((y + 1) + 1)], .int t)]), ?_, KN⟩
  unfold d_ls
  have e6 : d_ls6 (F (n + 2)) [w, .s (.tup [.int x, .int y, .int 1]), c, .s (.int t), .o (.lst l), .s (.str [97]), z6, z7, z8, z9, .n, .n] g = .nx [w, .s (.tup [.int x, .int y, .int 1]), c, .s (.int t), .o (.lst l), .s (.str [97]), .s (.tup [.int (x), .int (y + 1), .int 0]), z7, z8, z9, .n, .n] g := by
    rw [d_ls6]
    simp! [beside_1a]
  simp! [e6]
  simp! [ls7 (n + 1) g w c (.s (.int t)) (.o (.lst l)) (.s (.str [97])) z7 z8 z9 (.tup [.int x, .int y, .int 1]) (.tup [.int (x), .int (y + 1), .int 0]) (x + 1) (y + 1) (x + 1) (y) (x) (y + 1) ((x)) ((y + 1)) ((x) + 1) ((y + 1)) ((x)) ((y + 1) + 1) (x + 1) (y) (fun g => pts1 (n + 1) g x y) (fun g => pts0 (n + 1) g (x) (y + 1)) (by simp [miss, m3, show ¬ x = x - 1 by omega, show ¬ x - 1 = x by omega, show ¬ x + 1 = x by omega, show ¬ x = x + 1 by omega, show ¬ x + 1 = x - 1 by omega, show ¬ x - 1 = x + 1 by omega, show ¬ x + 1 + 1 = x by omega, show ¬ x = x + 1 + 1 by omega, show ¬ x + 1 = x + 1 + 1 by omega, show ¬ x + 1 + 1 = x + 1 by omega, show ¬ y = y - 1 by omega, show ¬ y - 1 = y by omega, show ¬ y + 1 = y by omega, show ¬ y = y + 1 by omega, show ¬ y + 1 = y - 1 by omega, show ¬ y - 1 = y + 1 by omega, show ¬ y + 1 + 1 = y by omega, show ¬ y = y + 1 + 1 by omega, show ¬ y + 1 = y + 1 + 1 by omega, show ¬ y + 1 + 1 = y + 1 by omega, Int.sub_add_cancel])]
  simp! [ls8 (n + 1) g w c (.s (.int t)) (.o (.lst l)) (.s (.str [97])) (.s (.tup [.int (x + 1), .int (y)])) z8 z9 (.tup [.int x, .int y, .int 1]) (.tup [.int (x), .int (y + 1), .int 0]) (x + 1) (y + 1) (x + 1) (y) (x) (y + 1) ((x)) ((y + 1)) ((x) + 1) ((y + 1)) ((x)) ((y + 1) + 1) ((x)) ((y + 1) + 1) (fun g => pts1 (n + 1) g x y) (fun g => pts0 (n + 1) g (x) (y + 1)) (by simp [miss, m3, show ¬ x = x - 1 by omega, show ¬ x - 1 = x by omega, show ¬ x + 1 = x by omega, show ¬ x = x + 1 by omega, show ¬ x + 1 = x - 1 by omega, show ¬ x - 1 = x + 1 by omega, show ¬ x + 1 + 1 = x by omega, show ¬ x = x + 1 + 1 by omega, show ¬ x + 1 = x + 1 + 1 by omega, show ¬ x + 1 + 1 = x + 1 by omega, show ¬ y = y - 1 by omega, show ¬ y - 1 = y by omega, show ¬ y + 1 = y by omega, show ¬ y = y + 1 by omega, show ¬ y + 1 = y - 1 by omega, show ¬ y - 1 = y + 1 by omega, show ¬ y + 1 + 1 = y by omega, show ¬ y = y + 1 + 1 by omega, show ¬ y + 1 = y + 1 + 1 by omega, show ¬ y + 1 + 1 = y + 1 by omega, Int.sub_add_cancel])]
  simp! [ls9_2 (n + 1) g w (.s (.int t)) (.o (.lst l)) (.s (.str [97])) (.s (.tup [.int (x), .int (y + 1), .int 0])) (.s (.tup [.int ((x)), .int ((y + 1) + 1)])) z9 c (.tup [.int x, .int y, .int 1]) kvs (x + 1) (y + 1) (x + 1) (y) (x) (y + 1) c0 c1 c2 hc K (fun g => pts1 (n + 1) g x y) (by simp [same2, show ¬ x = x - 1 by omega, show ¬ x - 1 = x by omega, show ¬ x + 1 = x by omega, show ¬ x = x + 1 by omega, show ¬ x + 1 = x - 1 by omega, show ¬ x - 1 = x + 1 by omega, show ¬ x + 1 + 1 = x by omega, show ¬ x = x + 1 + 1 by omega, show ¬ x + 1 = x + 1 + 1 by omega, show ¬ x + 1 + 1 = x + 1 by omega, show ¬ y = y - 1 by omega, show ¬ y - 1 = y by omega, show ¬ y + 1 = y by omega, show ¬ y = y + 1 by omega, show ¬ y + 1 = y - 1 by omega, show ¬ y - 1 = y + 1 by omega, show ¬ y + 1 + 1 = y by omega, show ¬ y = y + 1 + 1 by omega, show ¬ y + 1 = y + 1 + 1 by omega, show ¬ y + 1 + 1 = y + 1 by omega, Int.sub_add_cancel]) (by simp [same2, show ¬ x = x - 1 by omega, show ¬ x - 1 = x by omega, show ¬ x + 1 = x by omega, show ¬ x = x + 1 by omega, show ¬ x + 1 = x - 1 by omega, show ¬ x - 1 = x + 1 by omega, show ¬ x + 1 + 1 = x by omega, show ¬ x = x + 1 + 1 by omega, show ¬ x + 1 = x + 1 + 1 by omega, show ¬ x + 1 + 1 = x + 1 by omega, show ¬ y = y - 1 by omega, show ¬ y - 1 = y by omega, show ¬ y + 1 = y by omega, show ¬ y = y + 1 by omega, show ¬ y + 1 = y - 1 by omega, show ¬ y - 1 = y + 1 by omega, show ¬ y + 1 + 1 = y by omega, show ¬ y = y + 1 + 1 by omega, show ¬ y + 1 = y + 1 + 1 by omega, show ¬ y + 1 + 1 = y + 1 by omega, Int.sub_add_cancel]) (by simp [same2, show ¬ x = x - 1 by omega, show ¬ x - 1 = x by omega, show ¬ x + 1 = x by omega, show ¬ x = x + 1 by omega, show ¬ x + 1 = x - 1 by omega, show ¬ x - 1 = x + 1 by omega, show ¬ x + 1 + 1 = x by omega, show ¬ x = x + 1 + 1 by omega, show ¬ x + 1 = x + 1 + 1 by omega, show ¬ x + 1 + 1 = x + 1 by omega, show ¬ y = y - 1 by omega, show ¬ y - 1 = y by omega, show ¬ y + 1 = y by omega, show ¬ y = y + 1 by omega, show ¬ y + 1 = y - 1 by omega, show ¬ y - 1 = y + 1 by omega, show ¬ y + 1 + 1 = y by omega, show ¬ y = y + 1 + 1 by omega, show ¬ y + 1 = y + 1 + 1 by omega, show ¬ y + 1 + 1 = y + 1 by omega, Int.sub_add_cancel])]
  simp! [ls10 (n + 1) g w (.s (.tup [.int x, .int y, .int 1])) c (.o (.lst l)) (.s (.str [97])) (.s (.tup [.int (x), .int (y + 1), .int 0])) (.s (.tup [.int (x + 1), .int (y)])) (x + 1) (y + 1) (x) (y + 1) ((x)) ((y + 1) + 1) (.int c0) (.int c2) (.int t) (by simp [same2, show ¬ x = x - 1 by omega, show ¬ x - 1 = x by omega, show ¬ x + 1 = x by omega, show ¬ x = x + 1 by omega, show ¬ x + 1 = x - 1 by omega, show ¬ x - 1 = x + 1 by omega, show ¬ x + 1 + 1 = x by omega, show ¬ x = x + 1 + 1 by omega, show ¬ x + 1 = x + 1 + 1 by omega, show ¬ x + 1 + 1 = x + 1 by omega, show ¬ y = y - 1 by omega, show ¬ y - 1 = y by omega, show ¬ y + 1 = y by omega, show ¬ y = y + 1 by omega, show ¬ y + 1 = y - 1 by omega, show ¬ y - 1 = y + 1 by omega, show ¬ y + 1 + 1 = y by omega, show ¬ y = y + 1 + 1 by omega, show ¬ y + 1 = y + 1 + 1 by omega, show ¬ y + 1 + 1 = y + 1 by omega, Int.sub_add_cancel]) (by simp [same2, show ¬ x = x - 1 by omega, show ¬ x - 1 = x by omega, show ¬ x + 1 = x by omega, show ¬ x = x + 1 by omega, show ¬ x + 1 = x - 1 by omega, show ¬ x - 1 = x + 1 by omega, show ¬ x + 1 + 1 = x by omega, show ¬ x = x + 1 + 1 by omega, show ¬ x + 1 = x + 1 + 1 by omega, show ¬ x + 1 + 1 = x + 1 by omega, show ¬ y = y - 1 by omega, show ¬ y - 1 = y by omega, show ¬ y + 1 = y by omega, show ¬ y = y + 1 by omega, show ¬ y + 1 = y - 1 by omega, show ¬ y - 1 = y + 1 by omega, show ¬ y + 1 + 1 = y by omega, show ¬ y = y + 1 + 1 by omega, show ¬ y + 1 = y + 1 + 1 by omega, show ¬ y + 1 + 1 = y + 1 by omega, Int.sub_add_cancel])]
  simp! [ls11 (n + 1) g w (.o (.lst l)) (.s (.str [97])) .n (.s (.tup [.int ((x)), .int ((y + 1) + 1)])) c (.tup [.int x, .int y, .int 1]) (.tup [.int (x), .int (y + 1), .int 0]) kvs (.dct [(.tup [.int (x + 1), .int (y + 1)], .int c0), (.tup [.int (x), .int (y + 1)], .int c2), (.tup [.int ((x)), .int ((y + 1) + 1)], .int t)]) (x + 1) (y) t c1 hc (K.ft _ _) K.l2]
  simp! [ls12 (n + 1) g w (.s (.str [97])) (.s (.tup [.int (x), .int (y + 1), .int 0])) (.s (.tup [.int (x + 1), .int (y)])) (.s (.tup [.int ((x)), .int ((y + 1) + 1)])) (.s (.dct [(.tup [.int (x + 1), .int (y + 1)], .int c0), (.tup [.int (x), .int (y + 1)], .int c2), (.tup [.int ((x)), .int ((y + 1) + 1)], .int t)])) (.s (.dct [(.tup [.int (x + 1), .int (y + 1)], .int c0), (.tup [.int (x), .int (y + 1)], .int c2), (.tup [.int ((x)), .int ((y + 1) + 1)], .int t)])) (.tup [.int (x), .int (y + 1), .int 0]) [(.tup [.int (x + 1), .int (y + 1)], .int c0), (.tup [.int (x), .int (y + 1)], .int c2), (.tup [.int ((x)), .int ((y + 1) + 1)], .int t)] l hl ((x)) ((y + 1)) ((x) + 1) ((y + 1)) ((x)) ((y + 1) + 1) c2 c0 t c1 (.inl rfl) KN (fun g => pts0 (n + 1) g (x) (y + 1))]
theorem step_1b (w : Slt) (z6 z7 z8 z9 c : Slt) (kvs : List (D × D)) (c0 c1 c2 t x y : Int) (l : List D) (hl : l.length ≤ 10000) (hc : c = .s (.dct kvs) ∨ c = .o (.dct kvs)) (K : Cor kvs (x + 1) (y + 1) (x + 1) (y) (x) (y + 1) c0 c1 c2) :
    ∃ kvs' y6 y7 y8 y9, d_ls (F (n + 2)) [w, .s (.tup [.int x, .int y, .int 1]), c, .s (.int t), .o (.lst l), .s (.str [98]), z6, z7, z8, z9, .n, .n] g = .nx [w, .s (.tup [.int (x + 1), .int (y), .int 0]), .s (.dct kvs'), .s (.int c2), .o (.lst (l ++ [.tup [.tup [.int c1, .int t, .int c0, .int c2], .tup [.int (x + 1), .int (y), .int 0]]])), .s (.str [98]), y6, y7, y8, y9, .n, .n] g ∧ Cor kvs' ((x + 1)) ((y)) ((x + 1) + 1) ((y)) ((x + 1)) ((y) + 1) c1 t c0 := by
  have KN : Cor [(.tup [.int (x + 1), .int (y + 1)], .int c0), (.tup [.int (x + 1), .int (y)], .int c1), (.tup [.int ((x + 1) + 1), .int ((y))], .int t)] ((x + 1)) ((y)) ((x + 1) + 1) ((y)) ((x + 1)) ((y) + 1) c1 t c0 := ⟨by rw [look3]; simp [show ¬ x = x - 1 by omega, show ¬ x - 1 = x by omega, show ¬ x + 1 = x by omega, show ¬ x = x + 1 by omega, show ¬ x + 1 = x - 1 by omega, show ¬ x - 1 = x + 1 by omega, show ¬ x + 1 + 1 = x by omega, show ¬ x = x + 1 + 1 by omega, show ¬ x + 1 = x + 1 + 1 by omega, show ¬ x + 1 + 1 = x + 1 by omega, show ¬ y = y - 1 by omega, show ¬ y - 1 = y by omega, show ¬ y + 1 = y by omega, show ¬ y = y + 1 by omega, show ¬ y + 1 = y - 1 by omega, show ¬ y - 1 = y + 1 by omega, show ¬ y + 1 + 1 = y by omega, show ¬ y = y + 1 + 1 by omega, show ¬ y + 1 = y + 1 + 1 by omega, show ¬ y + 1 + 1 = y + 1 by omega, Int.sub_add_cancel], by rw [look3]; simp [show ¬ x = x - 1 by omega, show ¬ x - 1 = x by omega, show ¬ x + 1 = x by omega, show ¬ x = x + 1 by omega, show ¬ x + 1 = x - 1 by omega, show ¬ x - 1 = x + 1 by omega, show ¬ x + 1 + 1 = x by omega, show ¬ x = x + 1 + 1 by omega, show ¬ x + 1 = x + 1 + 1 by omega, show ¬ x + 1 + 1 = x + 1 by omega, show ¬ y = y - 1 by omega, show ¬ y - 1 = y by omega, show ¬ y + 1 = y by omega, show ¬ y = y + 1 by omega, show ¬ y + 1 = y - 1 by omega, show ¬ y - 1 = y + 1 by omega, show ¬ y + 1 + 1 = y by omega, show ¬ y = y + 1 + 1 by omega, show ¬ y + 1 = y + 1 + 1 by omega, show ¬ y + 1 + 1 = y + 1 by omega, Int.sub_add_cancel], by rw [look3]; simp [show ¬ x = x - 1 by omega, show ¬ x - 1 = x by omega, show ¬ x + 1 = x by omega, show ¬ x = x + 1 by omega, show ¬ x + 1 = x - 1 by omega, show ¬ x - 1 = x + 1 by omega, show ¬ x + 1 + 1 = x by omega, show ¬ x = x + 1 + 1 by omega, show ¬ x + 1 = x + 1 + 1 by omega, show ¬ x + 1 + 1 = x + 1 by omega, show ¬ y = y - 1 by omega, show ¬ y - 1 = y by omega, show ¬ y + 1 = y by omega, show ¬ y = y + 1 by omega, show ¬ y + 1 = y - 1 by omega, show ¬ y - 1 = y + 1 by omega, show ¬ y + 1 + 1 = y by omega, show ¬ y = y + 1 + 1 by omega, show ¬ y + 1 = y + 1 + 1 by omega, show ¬ y + 1 + 1 = y + 1 by omega, Int.sub_add_cancel], fun _ _ => rfl⟩
  refine ⟨[(.tup [.int (x + 1), .int (y + 1)], .int c0), (.tup [.int (x + 1), .int (y)], .int c1), (.tup [.int ((x + 1) + 1), .int ((y))], .int t)], .s (.tup [.int (x + 1), .int (y), .int 0]), .s (.tup [.int (x), .int (y + 1)]), .s (.tup [.int ((x + 1) + 1), .int ((y))]), .s (.dct [(.tup [.int (x + 1), .int (y + 1)], .int c0), (.tup [.int (x + 1), .int (y)], .int c1), (.tup [.int ((x + 1) + 1), .int ((y))], .int t)]), ?_, KN⟩
  unfold d_ls
  have e6 : d_ls6 (F (n + 2)) [w, .s (.tup [.int x, .int y, .int 1]), c, .s (.int t), .o (.lst l), .s (.str [98]), z6, z7, z8, z9, .n, .n] g = .nx [w, .s (.tup [.int x, .int y, .int 1]), c, .s (.int t), .o (.lst l), .s (.str [98]), .s (.tup [.int (x + 1), .int (y), .int 0]), z7, z8, z9, .n, .n] g := by
    rw [d_ls6]
    simp! [beside_1b]
  simp! [e6]
  simp! [ls7 (n + 1) g w c (.s (.int t)) (.o (.lst l)) (.s (.str [98])) z7 z8 z9 (.tup [.int x, .int y, .int 1]) (.tup [.int (x + 1), .int (y), .int 0]) (x + 1) (y + 1) (x + 1) (y) (x) (y + 1) ((x + 1)) ((y)) ((x + 1) + 1) ((y)) ((x + 1)) ((y) + 1) (x) (y + 1) (fun g => pts1 (n + 1) g x y) (fun g => pts0 (n + 1) g (x + 1) (y)) (by simp [miss, m3, show ¬ x = x - 1 by omega, show ¬ x - 1 = x by omega, show ¬ x + 1 = x by omega, show ¬ x = x + 1 by omega, show ¬ x + 1 = x - 1 by omega, show ¬ x - 1 = x + 1 by omega, show ¬ x + 1 + 1 = x by omega, show ¬ x = x + 1 + 1 by omega, show ¬ x + 1 = x + 1 + 1 by omega, show ¬ x + 1 + 1 = x + 1 by omega, show ¬ y = y - 1 by omega, show ¬ y - 1 = y by omega, show ¬ y + 1 = y by omega, show ¬ y = y + 1 by omega, show ¬ y + 1 = y - 1 by omega, show ¬ y - 1 = y + 1 by omega, show ¬ y + 1 + 1 = y by omega, show ¬ y = y + 1 + 1 by omega, show ¬ y + 1 = y + 1 + 1 by omega, show ¬ y + 1 + 1 = y + 1 by omega, Int.sub_add_cancel])]
  simp! [ls8 (n + 1) g w c (.s (.int t)) (.o (.lst l)) (.s (.str [98])) (.s (.tup [.int (x), .int (y + 1)])) z8 z9 (.tup [.int x, .int y, .int 1]) (.tup [.int (x + 1), .int (y), .int 0]) (x + 1) (y + 1) (x + 1) (y) (x) (y + 1) ((x + 1)) ((y)) ((x + 1) + 1) ((y)) ((x + 1)) ((y) + 1) ((x + 1) + 1) ((y)) (fun g => pts1 (n + 1) g x y) (fun g => pts0 (n + 1) g (x + 1) (y)) (by simp [miss, m3, show ¬ x = x - 1 by omega, show ¬ x - 1 = x by omega, show ¬ x + 1 = x by omega, show ¬ x = x + 1 by omega, show ¬ x + 1 = x - 1 by omega, show ¬ x - 1 = x + 1 by omega, show ¬ x + 1 + 1 = x by omega, show ¬ x = x + 1 + 1 by omega, show ¬ x + 1 = x + 1 + 1 by omega, show ¬ x + 1 + 1 = x + 1 by omega, show ¬ y = y - 1 by omega, show ¬ y - 1 = y by omega, show ¬ y + 1 = y by omega, show ¬ y = y + 1 by omega, show ¬ y + 1 = y - 1 by omega, show ¬ y - 1 = y + 1 by omega, show ¬ y + 1 + 1 = y by omega, show ¬ y = y + 1 + 1 by omega, show ¬ y + 1 = y + 1 + 1 by omega, show ¬ y + 1 + 1 = y + 1 by omega, Int.sub_add_cancel])]
  simp! [ls9_3 (n + 1) g w (.s (.int t)) (.o (.lst l)) (.s (.str [98])) (.s (.tup [.int (x + 1), .int (y), .int 0])) (.s (.tup [.int ((x + 1) + 1), .int ((y))])) z9 c (.tup [.int x, .int y, .int 1]) kvs (x + 1) (y + 1) (x + 1) (y) (x) (y + 1) c0 c1 c2 hc K (fun g => pts1 (n + 1) g x y) (by simp [same2, show ¬ x = x - 1 by omega, show ¬ x - 1 = x by omega, show ¬ x + 1 = x by omega, show ¬ x = x + 1 by omega, show ¬ x + 1 = x - 1 by omega, show ¬ x - 1 = x + 1 by omega, show ¬ x + 1 + 1 = x by omega, show ¬ x = x + 1 + 1 by omega, show ¬ x + 1 = x + 1 + 1 by omega, show ¬ x + 1 + 1 = x + 1 by omega, show ¬ y = y - 1 by omega, show ¬ y - 1 = y by omega, show ¬ y + 1 = y by omega, show ¬ y = y + 1 by omega, show ¬ y + 1 = y - 1 by omega, show ¬ y - 1 = y + 1 by omega, show ¬ y + 1 + 1 = y by omega, show ¬ y = y + 1 + 1 by omega, show ¬ y + 1 = y + 1 + 1 by omega, show ¬ y + 1 + 1 = y + 1 by omega, Int.sub_add_cancel]) (by simp [same2, show ¬ x = x - 1 by omega, show ¬ x - 1 = x by omega, show ¬ x + 1 = x by omega, show ¬ x = x + 1 by omega, show ¬ x + 1 = x - 1 by omega, show ¬ x - 1 = x + 1 by omega, show ¬ x + 1 + 1 = x by omega, show ¬ x = x + 1 + 1 by omega, show ¬ x + 1 = x + 1 + 1 by omega, show ¬ x + 1 + 1 = x + 1 by omega, show ¬ y = y - 1 by omega, show ¬ y - 1 = y by omega, show ¬ y + 1 = y by omega, show ¬ y = y + 1 by omega, show ¬ y + 1 = y - 1 by omega, show ¬ y - 1 = y + 1 by omega, show ¬ y + 1 + 1 = y by omega, show ¬ y = y + 1 + 1 by omega, show ¬ y + 1 = y + 1 + 1 by omega, show ¬ y + 1 + 1 = y + 1 by omega, Int.sub_add_cancel]) (by simp [same2, show ¬ x = x - 1 by omega, show ¬ x - 1 = x by omega, show ¬ x + 1 = x by omega, show ¬ x = x + 1 by omega, show ¬ x + 1 = x - 1 by omega, show ¬ x - 1 = x + 1 by omega, show ¬ x + 1 + 1 = x by omega, show ¬ x = x + 1 + 1 by omega, show ¬ x + 1 = x + 1 + 1 by omega, show ¬ x + 1 + 1 = x + 1 by omega, show ¬ y = y - 1 by omega, show ¬ y - 1 = y by omega, show ¬ y + 1 = y by omega, show ¬ y = y + 1 by omega, show ¬ y + 1 = y - 1 by omega, show ¬ y - 1 = y + 1 by omega, show ¬ y + 1 + 1 = y by omega, show ¬ y = y + 1 + 1 by omega, show ¬ y + 1 = y + 1 + 1 by omega, show ¬ y + 1 + 1 = y + 1 by omega, Int.sub_add_cancel])]
  simp! [ls10 (n + 1) g w (.s (.tup [.int x, .int y, .int 1])) c (.o (.lst l)) (.s (.str [98])) (.s (.tup [.int (x + 1), .int (y), .int 0])) (.s (.tup [.int (x), .int (y + 1)])) (x + 1) (y + 1) (x + 1) (y) ((x + 1) + 1) ((y)) (.int c0) (.int c1) (.int t) (by simp [same2, show ¬ x = x - 1 by omega, show ¬ x - 1 = x by omega, show ¬ x + 1 = x by omega, show ¬ x = x + 1 by omega, show ¬ x + 1 = x - 1 by omega, show ¬ x - 1 = x + 1 by omega, show ¬ x + 1 + 1 = x by omega, show ¬ x = x + 1 + 1 by omega, show ¬ x + 1 = x + 1 + 1 by omega, show ¬ x + 1 + 1 = x + 1 by omega, show ¬ y = y - 1 by omega, show ¬ y - 1 = y by omega, show ¬ y + 1 = y by omega, show ¬ y = y + 1 by omega, show ¬ y + 1 = y - 1 by omega, show ¬ y - 1 = y + 1 by omega, show ¬ y + 1 + 1 = y by omega, show ¬ y = y + 1 + 1 by omega, show ¬ y + 1 = y + 1 + 1 by omega, show ¬ y + 1 + 1 = y + 1 by omega, Int.sub_add_cancel]) (by simp [same2, show ¬ x = x - 1 by omega, show ¬ x - 1 = x by omega, show ¬ x + 1 = x by omega, show ¬ x = x + 1 by omega, show ¬ x + 1 = x - 1 by omega, show ¬ x - 1 = x + 1 by omega, show ¬ x + 1 + 1 = x by omega, show ¬ x = x + 1 + 1 by omega, show ¬ x + 1 = x + 1 + 1 by omega, show ¬ x + 1 + 1 = x + 1 by omega, show ¬ y = y - 1 by omega, show ¬ y - 1 = y by omega, show ¬ y + 1 = y by omega, show ¬ y = y + 1 by omega, show ¬ y + 1 = y - 1 by omega, show ¬ y - 1 = y + 1 by omega, show ¬ y + 1 + 1 = y by omega, show ¬ y = y + 1 + 1 by omega, show ¬ y + 1 = y + 1 + 1 by omega, show ¬ y + 1 + 1 = y + 1 by omega, Int.sub_add_cancel])]
  simp! [ls11 (n + 1) g w (.o (.lst l)) (.s (.str [98])) .n (.s (.tup [.int ((x + 1) + 1), .int ((y))])) c (.tup [.int x, .int y, .int 1]) (.tup [.int (x + 1), .int (y), .int 0]) kvs (.dct [(.tup [.int (x + 1), .int (y + 1)], .int c0), (.tup [.int (x + 1), .int (y)], .int c1), (.tup [.int ((x + 1) + 1), .int ((y))], .int t)]) (x) (y + 1) t c2 hc (K.ft _ _) K.l3]
  simp! [ls12 (n + 1) g w (.s (.str [98])) (.s (.tup [.int (x + 1), .int (y), .int 0])) (.s (.tup [.int (x), .int (y + 1)])) (.s (.tup [.int ((x + 1) + 1), .int ((y))])) (.s (.dct [(.tup [.int (x + 1), .int (y + 1)], .int c0), (.tup [.int (x + 1), .int (y)], .int c1), (.tup [.int ((x + 1) + 1), .int ((y))], .int t)])) (.s (.dct [(.tup [.int (x + 1), .int (y + 1)], .int c0), (.tup [.int (x + 1), .int (y)], .int c1), (.tup [.int ((x + 1) + 1), .int ((y))], .int t)])) (.tup [.int (x + 1), .int (y), .int 0]) [(.tup [.int (x + 1), .int (y + 1)], .int c0), (.tup [.int (x + 1), .int (y)], .int c1), (.tup [.int ((x + 1) + 1), .int ((y))], .int t)] l hl ((x + 1)) ((y)) ((x + 1) + 1) ((y)) ((x + 1)) ((y) + 1) c1 t c0 c2 (.inl rfl) KN (fun g => pts0 (n + 1) g (x + 1) (y))]
theorem step_1c (w : Slt) (z6 z7 z8 z9 c : Slt) (kvs : List (D × D)) (c0 c1 c2 t x y : Int) (l : List D) (hl : l.length ≤ 10000) (hc : c = .s (.dct kvs) ∨ c = .o (.dct kvs)) (K : Cor kvs (x + 1) (y + 1) (x + 1) (y) (x) (y + 1) c0 c1 c2) :
    ∃ kvs' y6 y7 y8 y9, d_ls (F (n + 2)) [w, .s (.tup [.int x, .int y, .int 1]), c, .s (.int t), .o (.lst l), .s (.str [99]), z6, z7, z8, z9, .n, .n] g = .nx [w, .s (.tup [.int (x), .int (y), .int 0]), .s (.dct kvs'), .s (.int c0), .o (.lst (l ++ [.tup [.tup [.int t, .int c1, .int c2, .int c0], .tup [.int (x), .int (y), .int 0]]])), .s (.str [99]), y6, y7, y8, y9, .n, .n] g ∧ Cor kvs' ((x)) ((y)) ((x) + 1) ((y)) ((x)) ((y) + 1) t c1 c2 := by
  have KN : Cor [(.tup [.int (x + 1), .int (y)], .int c1), (.tup [.int (x), .int (y + 1)], .int c2), (.tup [.int ((x)), .int ((y))], .int t)] ((x)) ((y)) ((x) + 1) ((y)) ((x)) ((y) + 1) t c1 c2 := ⟨by rw [look3]; simp [show ¬ x = x - 1 by omega, show ¬ x - 1 = x by omega, show ¬ x + 1 = x by omega, show ¬ x = x + 1 by omega, show ¬ x + 1 = x - 1 by omega, show ¬ x - 1 = x + 1 by omega, show ¬ x + 1 + 1 = x by omega, show ¬ x = x + 1 + 1 by omega, show ¬ x + 1 = x + 1 + 1 by omega, show ¬ x + 1 + 1 = x + 1 by omega, show ¬ y = y - 1 by omega, show ¬ y - 1 = y by omega, show ¬ y + 1 = y by omega, show ¬ y = y + 1 by omega, show ¬ y + 1 = y - 1 by omega, show ¬ y - 1 = y + 1 by omega, show ¬ y + 1 + 1 = y by omega, show ¬ y = y + 1 + 1 by omega, show ¬ y + 1 = y + 1 + 1 by omega, show ¬ y + 1 + 1 = y + 1 by omega, Int.sub_add_cancel], by rw [look3]; simp [show ¬ x = x - 1 by omega, show ¬ x - 1 = x by omega, show ¬ x + 1 = x by omega, show ¬ x = x + 1 by omega, show ¬ x + 1 = x - 1 by omega, show ¬ x - 1 = x + 1 by omega, show ¬ x + 1 + 1 = x by omega, show ¬ x = x + 1 + 1 by omega, show ¬ x + 1 = x + 1 + 1 by omega, show ¬ x + 1 + 1 = x + 1 by omega, show ¬ y = y - 1 by omega, show ¬ y - 1 = y by omega, show ¬ y + 1 = y by omega, show ¬ y = y + 1 by omega, show ¬ y + 1 = y - 1 by omega, show ¬ y - 1 = y + 1 by omega, show ¬ y + 1 + 1 = y by omega, show ¬ y = y + 1 + 1 by omega, show ¬ y + 1 = y + 1 + 1 by omega, show ¬ y + 1 + 1 = y + 1 by omega, Int.sub_add_cancel], by rw [look3]; simp [show ¬ x = x - 1 by omega, show ¬ x - 1 = x by omega, show ¬ x + 1 = x by omega, show ¬ x = x + 1 by omega, show ¬ x + 1 = x - 1 by omega, show ¬ x - 1 = x + 1 by omega, show ¬ x + 1 + 1 = x by omega, show ¬ x = x + 1 + 1 by omega, show ¬ x + 1 = x + 1 + 1 by omega, show ¬ x + 1 + 1 = x + 1 by omega, show ¬ y = y - 1 by omega, show ¬ y - 1 = y by omega, show ¬ y + 1 = y by omega, show ¬ y = y + 1 by omega, show ¬ y + 1 = y - 1 by omega, show ¬ y - 1 = y + 1 by omega, show ¬ y + 1 + 1 = y by omega, show ¬ y = y + 1 + 1 by omega, show ¬ y + 1 = y + 1 + 1 by omega, show ¬ y + 1 + 1 = y + 1 by omega, Int.sub_add_cancel], fun _ _ => rfl⟩
  refine ⟨[(.tup [.int (x + 1), .int (y)], .int c1), (.tup [.int (x), .int (y + 1)], .int c2), (.tup [.int ((x)), .int ((y))], .int t)], .s (.tup [.int (x), .int (y), .int 0]), .s (.tup [.int (x + 1), .int (y + 1)]), .s (.tup [.int ((x)), .int ((y))]), .s (.dct [(.tup [.int (x + 1), .int (y)], .int c1), (.tup [.int (x), .int (y + 1)], .int c2), (.tup [.int ((x)), .int ((y))], .int t)]), ?_, KN⟩
  unfold d_ls
  have e6 : d_ls6 (F (n + 2)) [w, .s (.tup [.int x, .int y, .int 1]), c, .s (.int t), .o (.lst l), .s (.str [99]), z6, z7, z8, z9, .n, .n] g = .nx [w, .s (.tup [.int x, .int y, .int 1]), c, .s (.int t), .o (.lst l), .s (.str [99]), .s (.tup [.int (x), .int (y), .int 0]), z7, z8, z9, .n, .n] g := by
    rw [d_ls6]
    simp! [beside_1c]
  simp! [e6]
  simp! [ls7 (n + 1) g w c (.s (.int t)) (.o (.lst l)) (.s (.str [99])) z7 z8 z9 (.tup [.int x, .int y, .int 1]) (.tup [.int (x), .int (y), .int 0]) (x + 1) (y + 1) (x + 1) (y) (x) (y + 1) ((x)) ((y)) ((x) + 1) ((y)) ((x)) ((y) + 1) (x + 1) (y + 1) (fun g => pts1 (n + 1) g x y) (fun g => pts0 (n + 1) g (x) (y)) (by simp [miss, m3, show ¬ x = x - 1 by omega, show ¬ x - 1 = x by omega, show ¬ x + 1 = x by omega, show ¬ x = x + 1 by omega, show ¬ x + 1 = x - 1 by omega, show ¬ x - 1 = x + 1 by omega, show ¬ x + 1 + 1 = x by omega, show ¬ x = x + 1 + 1 by omega, show ¬ x + 1 = x + 1 + 1 by omega, show ¬ x + 1 + 1 = x + 1 by omega, show ¬ y = y - 1 by omega, show ¬ y - 1 = y by omega, show ¬ y + 1 = y by omega, show ¬ y = y + 1 by omega, show ¬ y + 1 = y - 1 by omega, show ¬ y - 1 = y + 1 by omega, show ¬ y + 1 + 1 = y by omega, show ¬ y = y + 1 + 1 by omega, show ¬ y + 1 = y + 1 + 1 by omega, show ¬ y + 1 + 1 = y + 1 by omega, Int.sub_add_cancel])]
  simp! [ls8 (n + 1) g w c (.s (.int t)) (.o (.lst l)) (.s (.str [99])) (.s (.tup [.int (x + 1), .int (y + 1)])) z8 z9 (.tup [.int x, .int y, .int 1]) (.tup [.int (x), .int (y), .int 0]) (x + 1) (y + 1) (x + 1) (y) (x) (y + 1) ((x)) ((y)) ((x) + 1) ((y)) ((x)) ((y) + 1) ((x)) ((y)) (fun g => pts1 (n + 1) g x y) (fun g => pts0 (n + 1) g (x) (y)) (by simp [miss, m3, show ¬ x = x - 1 by omega, show ¬ x - 1 = x by omega, show ¬ x + 1 = x by omega, show ¬ x = x + 1 by omega, show ¬ x + 1 = x - 1 by omega, show ¬ x - 1 = x + 1 by omega, show ¬ x + 1 + 1 = x by omega, show ¬ x = x + 1 + 1 by omega, show ¬ x + 1 = x + 1 + 1 by omega, show ¬ x + 1 + 1 = x + 1 by omega, show ¬ y = y - 1 by omega, show ¬ y - 1 = y by omega, show ¬ y + 1 = y by omega, show ¬ y = y + 1 by omega, show ¬ y + 1 = y - 1 by omega, show ¬ y - 1 = y + 1 by omega, show ¬ y + 1 + 1 = y by omega, show ¬ y = y + 1 + 1 by omega, show ¬ y + 1 = y + 1 + 1 by omega, show ¬ y + 1 + 1 = y + 1 by omega, Int.sub_add_cancel])]
  simp! [ls9_1 (n + 1) g w (.s (.int t)) (.o (.lst l)) (.s (.str [99])) (.s (.tup [.int (x), .int (y), .int 0])) (.s (.tup [.int ((x)), .int ((y))])) z9 c (.tup [.int x, .int y, .int 1]) kvs (x + 1) (y + 1) (x + 1) (y) (x) (y + 1) c0 c1 c2 hc K (fun g => pts1 (n + 1) g x y) (by simp [same2, show ¬ x = x - 1 by omega, show ¬ x - 1 = x by omega, show ¬ x + 1 = x by omega, show ¬ x = x + 1 by omega, show ¬ x + 1 = x - 1 by omega, show ¬ x - 1 = x + 1 by omega, show ¬ x + 1 + 1 = x by omega, show ¬ x = x + 1 + 1 by omega, show ¬ x + 1 = x + 1 + 1 by omega, show ¬ x + 1 + 1 = x + 1 by omega, show ¬ y = y - 1 by omega, show ¬ y - 1 = y by omega, show ¬ y + 1 = y by omega, show ¬ y = y + 1 by omega, show ¬ y + 1 = y - 1 by omega, show ¬ y - 1 = y + 1 by omega, show ¬ y + 1 + 1 = y by omega, show ¬ y = y + 1 + 1 by omega, show ¬ y + 1 = y + 1 + 1 by omega, show ¬ y + 1 + 1 = y + 1 by omega, Int.sub_add_cancel]) (by simp [same2, show ¬ x = x - 1 by omega, show ¬ x - 1 = x by omega, show ¬ x + 1 = x by omega, show ¬ x = x + 1 by omega, show ¬ x + 1 = x - 1 by omega, show ¬ x - 1 = x + 1 by omega, show ¬ x + 1 + 1 = x by omega, show ¬ x = x + 1 + 1 by omega, show ¬ x + 1 = x + 1 + 1 by omega, show ¬ x + 1 + 1 = x + 1 by omega, show ¬ y = y - 1 by omega, show ¬ y - 1 = y by omega, show ¬ y + 1 = y by omega, show ¬ y = y + 1 by omega, show ¬ y + 1 = y - 1 by omega, show ¬ y - 1 = y + 1 by omega, show ¬ y + 1 + 1 = y by omega, show ¬ y = y + 1 + 1 by omega, show ¬ y + 1 = y + 1 + 1 by omega, show ¬ y + 1 + 1 = y + 1 by omega, Int.sub_add_cancel]) (by simp [same2, show ¬ x = x - 1 by omega, show ¬ x - 1 = x by omega, show ¬ x + 1 = x by omega, show ¬ x = x + 1 by omega, show ¬ x + 1 = x - 1 by omega, show ¬ x - 1 = x + 1 by omega, show ¬ x + 1 + 1 = x by omega, show ¬ x = x + 1 + 1 by omega, show ¬ x + 1 = x + 1 + 1 by omega, show ¬ x + 1 + 1 = x + 1 by omega, show ¬ y = y - 1 by omega, show ¬ y - 1 = y by omega, show ¬ y + 1 = y by omega, show ¬ y = y + 1 by omega, show ¬ y + 1 = y - 1 by omega, show ¬ y - 1 = y + 1 by omega, show ¬ y + 1 + 1 = y by omega, show ¬ y = y + 1 + 1 by omega, show ¬ y + 1 = y + 1 + 1 by omega, show ¬ y + 1 + 1 = y + 1 by omega, Int.sub_add_cancel])]
  simp! [ls10 (n + 1) g w (.s (.tup [.int x, .int y, .int 1])) c (.o (.lst l)) (.s (.str [99])) (.s (.tup [.int (x), .int (y), .int 0])) (.s (.tup [.int (x + 1), .int (y + 1)])) (x + 1) (y) (x) (y + 1) ((x)) ((y)) (.int c1) (.int c2) (.int t) (by simp [same2, show ¬ x = x - 1 by omega, show ¬ x - 1 = x by omega, show ¬ x + 1 = x by omega, show ¬ x = x + 1 by omega, show ¬ x + 1 = x - 1 by omega, show ¬ x - 1 = x + 1 by omega, show ¬ x + 1 + 1 = x by omega, show ¬ x = x + 1 + 1 by omega, show ¬ x + 1 = x + 1 + 1 by omega, show ¬ x + 1 + 1 = x + 1 by omega, show ¬ y = y - 1 by omega, show ¬ y - 1 = y by omega, show ¬ y + 1 = y by omega, show ¬ y = y + 1 by omega, show ¬ y + 1 = y - 1 by omega, show ¬ y - 1 = y + 1 by omega, show ¬ y + 1 + 1 = y by omega, show ¬ y = y + 1 + 1 by omega, show ¬ y + 1 = y + 1 + 1 by omega, show ¬ y + 1 + 1 = y + 1 by omega, Int.sub_add_cancel]) (by simp [same2, show ¬ x = x - 1 by omega, show ¬ x - 1 = x by omega, show ¬ x + 1 = x by omega, show ¬ x = x + 1 by omega, show ¬ x + 1 = x - 1 by omega, show ¬ x - 1 = x + 1 by omega, show ¬ x + 1 + 1 = x by omega, show ¬ x = x + 1 + 1 by omega, show ¬ x + 1 = x + 1 + 1 by omega, show ¬ x + 1 + 1 = x + 1 by omega, show ¬ y = y - 1 by omega, show ¬ y - 1 = y by omega, show ¬ y + 1 = y by omega, show ¬ y = y + 1 by omega, show ¬ y + 1 = y - 1 by omega, show ¬ y - 1 = y + 1 by omega, show ¬ y + 1 + 1 = y by omega, show ¬ y = y + 1 + 1 by omega, show ¬ y + 1 = y + 1 + 1 by omega, show ¬ y + 1 + 1 = y + 1 by omega, Int.sub_add_cancel])]
  simp! [ls11 (n + 1) g w (.o (.lst l)) (.s (.str [99])) .n (.s (.tup [.int ((x)), .int ((y))])) c (.tup [.int x, .int y, .int 1]) (.tup [.int (x), .int (y), .int 0]) kvs (.dct [(.tup [.int (x + 1), .int (y)], .int c1), (.tup [.int (x), .int (y + 1)], .int c2), (.tup [.int ((x)), .int ((y))], .int t)]) (x + 1) (y + 1) t c0 hc (K.ft _ _) K.l1]
  simp! [ls12 (n + 1) g w (.s (.str [99])) (.s (.tup [.int (x), .int (y), .int 0])) (.s (.tup [.int (x + 1), .int (y + 1)])) (.s (.tup [.int ((x)), .int ((y))])) (.s (.dct [(.tup [.int (x + 1), .int (y)], .int c1), (.tup [.int (x), .int (y + 1)], .int c2), (.tup [.int ((x)), .int ((y))], .int t)])) (.s (.dct [(.tup [.int (x + 1), .int (y)], .int c1), (.tup [.int (x), .int (y + 1)], .int c2), (.tup [.int ((x)), .int ((y))], .int t)])) (.tup [.int (x), .int (y), .int 0]) [(.tup [.int (x + 1), .int (y)], .int c1), (.tup [.int (x), .int (y + 1)], .int c2), (.tup [.int ((x)), .int ((y))], .int t)] l hl ((x)) ((y)) ((x) + 1) ((y)) ((x)) ((y) + 1) t c1 c2 c0 (.inl rfl) KN (fun g => pts0 (n + 1) g (x) (y))]
end
end Kw
end

section
set_option maxHeartbeats 400000
namespace Kw
open PySem PySem.Spec L2 Ev
open PyProof.Rows hiding St
local macro_rules | `(tactic| simp! [$xs,*]) => `(tactic| simp (implicitDefEqProofs := false) only [Ev.bind_ok, Ev.bind_exc, Ev.bind_bad, Ev.sb_ok, Ev.sb_exc, Ev.sq_nx, Ev.sq_rt, Ev.sq_bk, Ev.sq_ct, Ev.sq_exc, Ev.fin_rt, Ev.fin_nx, Ev.fin_exc, Ev.fz_s', Ev.fz_f', Ev.fz_exc', Ev.nox_ok, Ev.dFz_eq, Ev.dC_eq, Ev.dNil_eq, Ev.dCons_eq, Ev.dVar_eq, Ev.slt_s, Ev.slt_o, Ev.optR_some, Ev.optE_some, Ev.optF_some, Ev.dTup_eq, Ev.dLst_eq, Ev.dBin_eq, Ev.dBif_eq, Ev.dIxBy_eq, Ev.tst_bl, Ev.tst_exc, Ev.dT_eq, Ev.tNot_eq, Ev.tAnd_eq, Ev.tOr_eq, Ev.dNot_eq, Ev.andV_bl, Ev.orV_bl, Ev.dAnd_eq, Ev.dOr_eq, Ev.negV_int, Ev.dNeg_eq, Ev.dIf_eq, Ev.chV_bl, Ev.dChain_eq, Ev.dCall_eq, Ev.dIsa_eq, Ev.dYes_eq, Ev.dLc_eq, Ev.dLc2_eq, Ev.itV_lst, Ev.itV_tup, Ev.itV_str, Ev.itV_dct, Ev.dIt_eq, Ev.rngV_int, Ev.dRng1_eq, Ev.rngV2_int, Ev.dRng2_eq, Ev.zipV_eq, Ev.dZip_eq, Ev.dEnum_eq, Ev.dSl_eq, Ev.dNoP_eq, Ev.parV_int, Ev.dP_eq, Ev.dctV_dct, Ev.dGet2_eq, Ev.dGet1_eq, Ev.dDct0_eq, Ev.pNil_eq, Ev.pCons_eq, Ev.dDct_eq, Ev.dM1_eq, Ev.mtyIn_cl, Ev.mtyIn_ct, Ev.mtyIn_il, Ev.mtyIn_js, Ev.mCount_o, Ev.mIndex_o, Ev.mJoin_o, Ev.dRev_eq, Ev.oRev_lst, Ev.oRev_tup, Ev.oRev_str, Ev.dLR1_eq, Ev.dLR2_eq, Ev.augV_f, Ev.dAug_eq, Ev.augW_o, Ev.augX_f, Ev.dTry_eq, Ev.tryV_nx, Ev.tryV_rt, Ev.tryV_exc, Ev.excV_t, Ev.excV_f, Ev.dSeq_eq, Ev.dNop_eq, Ev.dBreak_eq, Ev.dCont_eq, Ev.dRetN_eq, Ev.dRaise_eq, Ev.fz_eq, Ev.dIfS_eq, Ev.dDrop_eq, Ev.rtV_s, Ev.rtV_f, Ev.dRet_eq, Ev.rtSlt_s, Ev.rtSlt_o, Ev.dRetV_eq, Ev.dSet_eq, Ev.put1_s, Ev.put1_f, Ev.dTgt_eq, Ev.dFor_eq, Ev.dWhile_eq, Ev.xNil_eq, Ev.noW_s, Ev.noW_f, Ev.xCons_eq, Ev.optX_some, Ev.dPar_eq, Ev.putX_nil, Ev.putX_s, Ev.putX_f, Ev.dPut_eq, Ev.put2_eq, Ev.putV_dct, Ev.putV_lst, Ev.putV_hnd, Ev.hndPut_0, Ev.hndPut_1, Ev.hasV_s0, Ev.hasV_o0, Ev.hasV_succ, Ev.dApp_eq, Ev.appV_o, Ev.tset_nm, Ev.tset_tp, Ev.tsets_nil, Ev.tsets_nm, Ev.tsets_tp, Ev.oAdd_int, Ev.oSub_int, Ev.oDiv_int, Ev.oMod_int, Ev.oMul_int, Ev.oLt_int, Ev.oLe_int, Ev.oGt_int, Ev.oGe_int, Ev.oEq_int, Ev.oNe_int, Ev.oLen_lst, Ev.oLen_tup, Ev.oTuple_lst, Ev.oTuple_tup, Ev.oList_lst, Ev.oList_tup, Ev.oInt_int, Ev.oIs_nn, Ev.oIs_in, Ev.oIs_bn, Ev.oIs_sn, Ev.oIs_tn, Ev.oIs_ln, Ev.oIs_bb, Ev.oIsN_nn, Ev.oIsN_in, Ev.oIsN_tn, Ev.oIsN_bb, Ev.oMax_2, Ev.oMin_2, Ev.oIx_tup, Ev.oIx_lst, Ev.isaV_non_int, Ev.isaV_non_bool, Ev.isaV_non_tuple, Ev.isaV_non_list, Ev.isaV_non_str, Ev.isaV_non_dict, Ev.isaV_bl_int, Ev.isaV_bl_bool, Ev.isaV_bl_tuple, Ev.isaV_bl_list, Ev.isaV_bl_str, Ev.isaV_bl_dict, Ev.isaV_int_int, Ev.isaV_int_bool, Ev.isaV_int_tuple, Ev.isaV_int_list, Ev.isaV_int_str, Ev.isaV_int_dict, Ev.isaV_str_int, Ev.isaV_str_bool, Ev.isaV_str_tuple, Ev.isaV_str_list, Ev.isaV_str_str, Ev.isaV_str_dict, Ev.isaV_tup_int, Ev.isaV_tup_bool, Ev.isaV_tup_tuple, Ev.isaV_tup_list, Ev.isaV_tup_str, Ev.isaV_tup_dict, Ev.isaV_lst_int, Ev.isaV_lst_bool, Ev.isaV_lst_tuple, Ev.isaV_lst_list, Ev.isaV_lst_str, Ev.isaV_lst_dict, Ev.isaV_dct_int, Ev.isaV_dct_bool, Ev.isaV_dct_tuple, Ev.isaV_dct_list, Ev.isaV_dct_str, Ev.isaV_dct_dict, Ev.oStr_str, Ev.rng_map, Ev.oIx_hnd0, Ev.oIx_hnd1, Ev.lcTurn_eq, Ev.lcTurn2_eq, Ev.wipeE_nil, Ev.wipeE_cons, Ev.noO_nil, Ev.noO_o, Ev.noO_s, Ev.noO_n, Ev.noO_set, Ev.lcGo_nil, Ev.lcGo_cons', Ev.fzE_s0, Ev.fzE_n0, Ev.fzE_o0, Ev.fzE_succ, Ev.rsat_ok, Ev.ssat_nx, Ev.ssat_rt, Ev.ssat_bk, Ev.ssat_ct, Ev.rsat_bind, Ev.rsat_fz, Ev.rsat_nox, Ev.tstP_bl, Ev.rsat_tst, Ev.ssat_sb, Ev.ssat_sq, Ev.rsat_fin, List.getElem?_cons_zero, List.getElem?_cons_succ, List.set_cons_zero, List.set_cons_succ, List.map_cons, List.map_nil, List.length_cons, List.length_nil, List.length_map, List.replicate_succ, List.replicate_zero, List.cons_append, List.nil_append, entry_eq, Option.map_some, Option.map_none, Option.getD_some, Option.getD_none, Option.bind_some, Bool.not_true, Bool.not_false, Bool.false_eq_true, decide_eq_true_eq, Bool.not_eq_true, Bool.not_eq_true', decide_eq_false_iff_not, if_true, if_false, ite_true, ite_false, decide_true, decide_false, Int.toNat_natCast, ne_eq, not_true_eq_false, not_false_eq_true, true_and, and_true, and_self, reduceCtorEq, Nat.zero_add, Nat.reduceAdd, Nat.reduceSub, Nat.reduceLeDiff, Nat.reduceEqDiff, List.length_range, Int.cast_ofNat_Int, Int.reduceLE, Int.reduceLT, Int.le_refl, Nat.le_refl, Int.reduceAdd, Int.reduceSub, Int.reduceMul, Int.reduceNeg, Int.toNat_natCast, Int.natCast_zero, Int.reduceEq, Int.reduceNe, List.flatMap_cons, List.flatMap_nil, $xs,*])
section
variable (n : Nat) (g : Ev.G)
def CorS (kvs : List (D × D)) (s : St) : Prop := match s.up with
  | true => Cor kvs s.x s.y (s.x + 1) s.y s.x (s.y + 1) s.c0 s.c1 s.c2
  | false => Cor kvs (s.x + 1) (s.y + 1) (s.x + 1) s.y s.x (s.y + 1) s.c0 s.c1 s.c2
theorem step_ok (w : Slt) (z6 z7 z8 z9 c : Slt) (kvs : List (D × D)) (s : St) (a : Nat) (ha : a = 97 ∨ a = 98 ∨ a = 99) (l : List D) (hl : l.length ≤ 10000) (hc : c = .s (.dct kvs) ∨ c = .o (.dct kvs)) (K : CorS kvs s) :
    ∃ kvs' y6 y7 y8 y9, d_ls (F (n + 2)) [w, .s (spotD s), c, .s (.int s.t), .o (.lst l), .s (.str [a]), z6, z7, z8, z9, .n, .n] g = .nx [w, .s (spotD (mv a s)), .s (.dct kvs'), .s (.int (mv a s).t), .o (.lst (l ++ [stD (mv a s)])), .s (.str [a]), y6, y7, y8, y9, .n, .n] g ∧ CorS kvs' (mv a s) := by
  obtain ⟨c0, c1, c2, t, x, y, u⟩ := s
  cases u
  · rcases ha with rfl | rfl | rfl
    · exact step_1a n g w z6 z7 z8 z9 c kvs c0 c1 c2 t x y l hl hc K
    · exact step_1b n g w z6 z7 z8 z9 c kvs c0 c1 c2 t x y l hl hc K
    · exact step_1c n g w z6 z7 z8 z9 c kvs c0 c1 c2 t x y l hl hc K
  · rcases ha with rfl | rfl | rfl
    · exact step_0a n g w z6 z7 z8 z9 c kvs c0 c1 c2 t x y l hl hc K
    · exact step_0b n g w z6 z7 z8 z9 c kvs c0 c1 c2 t x y l hl hc K
    · exact step_0c n g w z6 z7 z8 z9 c kvs c0 c1 c2 t x y l hl hc K
theorem r_stands' : d__law_stands = dSeq (dSet 1 (dTup (dCons (dFz (dC (.int 0))) (dCons (dFz (dC (.int 0))) (dCons (dFz (dC (.int 0))) dNil))))) (dSeq d_ls2 (dSeq d_ls4 (dSeq (fz 0 (dFor (dIt (dFz (dVar 0))) (.nm 5) d_ls)) (dRetV 4)))) := rfl
def kv0 : List (D × D) := [(.tup [.int 0, .int 0], .int 0), (.tup [.int 1, .int 0], .int 1), (.tup [.int 0, .int 1], .int 2)]
theorem ls2 (w : D) : d_ls2 (F (n + 2)) [.s w, .s (.tup [.int 0, .int 0, .int 0]), .n, .n, .n, .n, .n, .n, .n, .n, .n, .n] g = .nx [.s w, .s (.tup [.int 0, .int 0, .int 0]), .o (.dct kv0), .s (.int 3), .n, .n, .n, .n, .n, .n, .n, .n] g := by kernel_rfl
theorem ls4 (w : D) : d_ls4 (F (n + 2)) [.s w, .s (.tup [.int 0, .int 0, .int 0]), .o (.dct kv0), .s (.int 3), .n, .n, .n, .n, .n, .n, .n, .n] g = .nx [.s w, .s (.tup [.int 0, .int 0, .int 0]), .o (.dct kv0), .s (.int 3), .o (.lst [stD home]), .n, .n, .n, .n, .n, .n, .n] g := by kernel_rfl
theorem cor0 : CorS kv0 home := ⟨rfl, rfl, rfl, fun _ _ => rfl⟩
theorem stands_ok (w : List Nat) (hw : Word w) (hl : w.length ≤ 1000) : F (n + 3) i__law_stands [.str w] g = .ok (.lst ((al home w).map stD), true) g := by
  suffices H : (F (n + 3) i__law_stands [.str w] g).Sat fun r g' => r = (.lst ((al home w).map stD), true) ∧ g' = g by
    obtain ⟨a, g1, e, rfl, rfl⟩ := H.get
    exact e
  rw [o__law_stands, r_stands']
  simp! [LN_le (show 3 ≤ 10000000 by omega), ls2, ls4]
  refine sat_for (fun dn ρ g' => g' = g ∧ ∃ c z5 z6 z7 z8 z9 kvs, ρ = [.s (.str w), .s (spotD (endS home dn)), c, .s (.int (endS home dn).t), .o (.lst ((al home dn).map stD)), z5, z6, z7, z8, z9, .n, .n] ∧ (c = .s (.dct kvs) ∨ c = .o (.dct kvs)) ∧ CorS kvs (endS home dn)) ⟨rfl, _, _, _, _, _, _, _, rfl, .inr rfl, cor0⟩ ?_ ?_
  · rintro dn a rs e ρ g' ⟨rfl, c, z5, z6, z7, z8, z9, kvs, rfl, hc, K⟩
    refine ⟨_, tset_nm .., ?_⟩
    have hla : ((al home dn).map stD).length ≤ 10000 := by
      rw [List.length_map, al_len]
      have := congrArg List.length e
      simp at this
      omega
    have ha : a = 97 ∨ a = 98 ∨ a = 99 := hw a (by rw [e]; simp)
    obtain ⟨kvs', y6, y7, y8, y9, q, K'⟩ := step_ok n g' (.s (.str w)) z6 z7 z8 z9 c kvs (endS home dn) a ha _ hla hc K
    simp! [q]
    rw [endS_snoc, al_snoc, List.map_append]
    exact ⟨.s (.dct kvs'), .s (.str [a]), y6, y7, y8, y9, kvs', rfl, .inl rfl, K'⟩
  · rintro ρ g' ⟨rfl, c, z5, z6, z7, z8, z9, kvs, rfl, hc, K⟩
    simp! []
end
end Kw
end

section
set_option maxHeartbeats 400000
namespace Kw
open PySem PySem.Spec L2 Ev
open PyProof.Rows hiding St
local macro_rules | `(tactic| simp! [$xs,*]) => `(tactic| simp (implicitDefEqProofs := false) only [Ev.bind_ok, Ev.bind_exc, Ev.bind_bad, Ev.sb_ok, Ev.sb_exc, Ev.sq_nx, Ev.sq_rt, Ev.sq_bk, Ev.sq_ct, Ev.sq_exc, Ev.fin_rt, Ev.fin_nx, Ev.fin_exc, Ev.fz_s', Ev.fz_f', Ev.fz_exc', Ev.nox_ok, Ev.dFz_eq, Ev.dC_eq, Ev.dNil_eq, Ev.dCons_eq, Ev.dVar_eq, Ev.slt_s, Ev.slt_o, Ev.optR_some, Ev.optE_some, Ev.optF_some, Ev.dTup_eq, Ev.dLst_eq, Ev.dBin_eq, Ev.dBif_eq, Ev.dIxBy_eq, Ev.tst_bl, Ev.tst_exc, Ev.dT_eq, Ev.tNot_eq, Ev.tAnd_eq, Ev.tOr_eq, Ev.dNot_eq, Ev.andV_bl, Ev.orV_bl, Ev.dAnd_eq, Ev.dOr_eq, Ev.negV_int, Ev.dNeg_eq, Ev.dIf_eq, Ev.chV_bl, Ev.dChain_eq, Ev.dCall_eq, Ev.dIsa_eq, Ev.dYes_eq, Ev.dLc_eq, Ev.dLc2_eq, Ev.itV_lst, Ev.itV_tup, Ev.itV_str, Ev.itV_dct, Ev.dIt_eq, Ev.rngV_int, Ev.dRng1_eq, Ev.rngV2_int, Ev.dRng2_eq, Ev.zipV_eq, Ev.dZip_eq, Ev.dEnum_eq, Ev.dSl_eq, Ev.dNoP_eq, Ev.parV_int, Ev.dP_eq, Ev.dctV_dct, Ev.dGet2_eq, Ev.dGet1_eq, Ev.dDct0_eq, Ev.pNil_eq, Ev.pCons_eq, Ev.dDct_eq, Ev.dM1_eq, Ev.mtyIn_cl, Ev.mtyIn_ct, Ev.mtyIn_il, Ev.mtyIn_js, Ev.mCount_o, Ev.mIndex_o, Ev.mJoin_o, Ev.dRev_eq, Ev.oRev_lst, Ev.oRev_tup, Ev.oRev_str, Ev.dLR1_eq, Ev.dLR2_eq, Ev.augV_f, Ev.dAug_eq, Ev.augW_o, Ev.augX_f, Ev.dTry_eq, Ev.tryV_nx, Ev.tryV_rt, Ev.tryV_exc, Ev.excV_t, Ev.excV_f, Ev.dSeq_eq, Ev.dNop_eq, Ev.dBreak_eq, Ev.dCont_eq, Ev.dRetN_eq, Ev.dRaise_eq, Ev.fz_eq, Ev.dIfS_eq, Ev.dDrop_eq, Ev.rtV_s, Ev.rtV_f, Ev.dRet_eq, Ev.rtSlt_s, Ev.rtSlt_o, Ev.dRetV_eq, Ev.dSet_eq, Ev.put1_s, Ev.put1_f, Ev.dTgt_eq, Ev.dFor_eq, Ev.dWhile_eq, Ev.xNil_eq, Ev.noW_s, Ev.noW_f, Ev.xCons_eq, Ev.optX_some, Ev.dPar_eq, Ev.putX_nil, Ev.putX_s, Ev.putX_f, Ev.dPut_eq, Ev.put2_eq, Ev.putV_dct, Ev.putV_lst, Ev.putV_hnd, Ev.hndPut_0, Ev.hndPut_1, Ev.hasV_s0, Ev.hasV_o0, Ev.hasV_succ, Ev.dApp_eq, Ev.appV_o, Ev.tset_nm, Ev.tset_tp, Ev.tsets_nil, Ev.tsets_nm, Ev.tsets_tp, Ev.oAdd_int, Ev.oSub_int, Ev.oDiv_int, Ev.oMod_int, Ev.oMul_int, Ev.oLt_int, Ev.oLe_int, Ev.oGt_int, Ev.oGe_int, Ev.oEq_int, Ev.oNe_int, Ev.oLen_lst, Ev.oLen_tup, Ev.oTuple_lst, Ev.oTuple_tup, Ev.oList_lst, Ev.oList_tup, Ev.oInt_int, Ev.oIs_nn, Ev.oIs_in, Ev.oIs_bn, Ev.oIs_sn, Ev.oIs_tn, Ev.oIs_ln, Ev.oIs_bb, Ev.oIsN_nn, Ev.oIsN_in, Ev.oIsN_tn, Ev.oIsN_bb, Ev.oMax_2, Ev.oMin_2, Ev.oIx_tup, Ev.oIx_lst, Ev.isaV_non_int, Ev.isaV_non_bool, Ev.isaV_non_tuple, Ev.isaV_non_list, Ev.isaV_non_str, Ev.isaV_non_dict, Ev.isaV_bl_int, Ev.isaV_bl_bool, Ev.isaV_bl_tuple, Ev.isaV_bl_list, Ev.isaV_bl_str, Ev.isaV_bl_dict, Ev.isaV_int_int, Ev.isaV_int_bool, Ev.isaV_int_tuple, Ev.isaV_int_list, Ev.isaV_int_str, Ev.isaV_int_dict, Ev.isaV_str_int, Ev.isaV_str_bool, Ev.isaV_str_tuple, Ev.isaV_str_list, Ev.isaV_str_str, Ev.isaV_str_dict, Ev.isaV_tup_int, Ev.isaV_tup_bool, Ev.isaV_tup_tuple, Ev.isaV_tup_list, Ev.isaV_tup_str, Ev.isaV_tup_dict, Ev.isaV_lst_int, Ev.isaV_lst_bool, Ev.isaV_lst_tuple, Ev.isaV_lst_list, Ev.isaV_lst_str, Ev.isaV_lst_dict, Ev.isaV_dct_int, Ev.isaV_dct_bool, Ev.isaV_dct_tuple, Ev.isaV_dct_list, Ev.isaV_dct_str, Ev.isaV_dct_dict, Ev.oStr_str, Ev.rng_map, Ev.oIx_hnd0, Ev.oIx_hnd1, Ev.lcTurn_eq, Ev.lcTurn2_eq, Ev.wipeE_nil, Ev.wipeE_cons, Ev.noO_nil, Ev.noO_o, Ev.noO_s, Ev.noO_n, Ev.noO_set, Ev.lcGo_nil, Ev.lcGo_cons', Ev.fzE_s0, Ev.fzE_n0, Ev.fzE_o0, Ev.fzE_succ, Ev.rsat_ok, Ev.ssat_nx, Ev.ssat_rt, Ev.ssat_bk, Ev.ssat_ct, Ev.rsat_bind, Ev.rsat_fz, Ev.rsat_nox, Ev.tstP_bl, Ev.rsat_tst, Ev.ssat_sb, Ev.ssat_sq, Ev.rsat_fin, List.getElem?_cons_zero, List.getElem?_cons_succ, List.set_cons_zero, List.set_cons_succ, List.map_cons, List.map_nil, List.length_cons, List.length_nil, List.length_map, List.replicate_succ, List.replicate_zero, List.cons_append, List.nil_append, entry_eq, Option.map_some, Option.map_none, Option.getD_some, Option.getD_none, Option.bind_some, Bool.not_true, Bool.not_false, Bool.false_eq_true, decide_eq_true_eq, Bool.not_eq_true, Bool.not_eq_true', decide_eq_false_iff_not, if_true, if_false, ite_true, ite_false, decide_true, decide_false, Int.toNat_natCast, ne_eq, not_true_eq_false, not_false_eq_true, true_and, and_true, and_self, reduceCtorEq, Nat.zero_add, Nat.reduceAdd, Nat.reduceSub, Nat.reduceLeDiff, Nat.reduceEqDiff, List.length_range, Int.cast_ofNat_Int, Int.reduceLE, Int.reduceLT, Int.le_refl, Nat.le_refl, Int.reduceAdd, Int.reduceSub, Int.reduceMul, Int.reduceNeg, Int.toNat_natCast, Int.natCast_zero, Int.reduceEq, Int.reduceNe, List.flatMap_cons, List.flatMap_nil, $xs,*])
section
abbrev Sp := Int × Int × Int
def sp (s : Sp) : D := .tup [.int s.1, .int s.2.1, .int s.2.2]
def fN : List (Sp × List Nat) := ((0, 0, 0), []) :: ((0, (-1), 1), [97]) :: (((-1), 0, 1), [98]) :: ((0, 0, 1), [99]) :: ((1, (-1), 0), [97, 98]) :: ((0, (-1), 0), [97, 99]) :: (((-1), 1, 0), [98, 97]) :: (((-1), 0, 0), [98, 99]) :: ((0, 1, 0), [99, 97]) :: ((1, 0, 0), [99, 98]) :: ((1, (-2), 1), [97, 98, 97]) :: ((1, (-1), 1), [97, 98, 99]) :: ((0, (-2), 1), [97, 99, 97]) :: (((-1), (-1), 1), [97, 99, 98]) :: (((-2), 1, 1), [98, 97, 98]) :: (((-1), 1, 1), [98, 97, 99]) :: (((-2), 0, 1), [98, 99, 98]) :: ((0, 1, 1), [99, 97, 99]) :: ((1, 0, 1), [99, 98, 99]) :: ((2, (-2), 0), [97, 98, 97, 98]) :: ((1, (-2), 0), [97, 98, 97, 99]) :: ((2, (-1), 0), [97, 98, 99, 98]) :: ((0, (-2), 0), [97, 99, 97, 99]) :: (((-1), (-1), 0), [97, 99, 98, 99]) :: (((-2), 2, 0), [98, 97, 98, 97]) :: (((-2), 1, 0), [98, 97, 98, 99]) :: (((-1), 2, 0), [98, 97, 99, 97]) :: (((-2), 0, 0), [98, 99, 98, 99]) :: ((0, 2, 0), [99, 97, 99, 97]) :: ((1, 1, 0), [99, 97, 99, 98]) :: ((2, 0, 0), [99, 98, 99, 98]) :: ((2, (-3), 1), [97, 98, 97, 98, 97]) :: ((2, (-2), 1), [97, 98, 97, 98, 99]) :: ((1, (-3), 1), [97, 98, 97, 99, 97]) :: ((2, (-1), 1), [97, 98, 99, 98, 99]) :: ((0, (-3), 1), [97, 99, 97, 99, 97]) :: (((-1), (-2), 1), [97, 99, 97, 99, 98]) :: (((-2), (-1), 1), [97, 99, 98, 99, 98]) :: (((-3), 2, 1), [98, 97, 98, 97, 98]) :: (((-2), 2, 1), [98, 97, 98, 97, 99]) :: (((-3), 1, 1), [98, 97, 98, 99, 98]) :: (((-1), 2, 1), [98, 97, 99, 97, 99]) :: (((-3), 0, 1), [98, 99, 98, 99, 98]) :: ((0, 2, 1), [99, 97, 99, 97, 99]) :: ((1, 1, 1), [99, 97, 99, 98, 99]) :: ((2, 0, 1), [99, 98, 99, 98, 99]) :: ((3, (-3), 0), [97, 98, 97, 98, 97, 98]) :: ((2, (-3), 0), [97, 98, 97, 98, 97, 99]) :: ((3, (-2), 0), [97, 98, 97, 98, 99, 98]) :: ((1, (-3), 0), [97, 98, 97, 99, 97, 99]) :: ((3, (-1), 0), [97, 98, 99, 98, 99, 98]) :: ((0, (-3), 0), [97, 99, 97, 99, 97, 99]) :: (((-1), (-2), 0), [97, 99, 97, 99, 98, 99]) :: (((-2), (-1), 0), [97, 99, 98, 99, 98, 99]) :: (((-3), 3, 0), [98, 97, 98, 97, 98, 97]) :: (((-3), 2, 0), [98, 97, 98, 97, 98, 99]) :: (((-2), 3, 0), [98, 97, 98, 97, 99, 97]) :: (((-3), 1, 0), [98, 97, 98, 99, 98, 99]) :: (((-1), 3, 0), [98, 97, 99, 97, 99, 97]) :: (((-3), 0, 0), [98, 99, 98, 99, 98, 99]) :: ((0, 3, 0), [99, 97, 99, 97, 99, 97]) :: ((1, 2, 0), [99, 97, 99, 97, 99, 98]) :: ((2, 1, 0), [99, 97, 99, 98, 99, 98]) :: ((3, 0, 0), [99, 98, 99, 98, 99, 98]) :: ((3, (-4), 1), [97, 98, 97, 98, 97, 98, 97]) :: ((3, (-3), 1), [97, 98, 97, 98, 97, 98, 99]) :: ((2, (-4), 1), [97, 98, 97, 98, 97, 99, 97]) :: ((3, (-2), 1), [97, 98, 97, 98, 99, 98, 99]) :: ((1, (-4), 1), [97, 98, 97, 99, 97, 99, 97]) :: ((3, (-1), 1), [97, 98, 99, 98, 99, 98, 99]) :: ((0, (-4), 1), [97, 99, 97, 99, 97, 99, 97]) :: (((-1), (-3), 1), [97, 99, 97, 99, 97, 99, 98]) :: (((-2), (-2), 1), [97, 99, 97, 99, 98, 99, 98]) :: (((-3), (-1), 1), [97, 99, 98, 99, 98, 99, 98]) :: (((-4), 3, 1), [98, 97, 98, 97, 98, 97, 98]) :: (((-3), 3, 1), [98, 97, 98, 97, 98, 97, 99]) :: (((-4), 2, 1), [98, 97, 98, 97, 98, 99, 98]) :: (((-2), 3, 1), [98, 97, 98, 97, 99, 97, 99]) :: (((-4), 1, 1), [98, 97, 98, 99, 98, 99, 98]) :: (((-1), 3, 1), [98, 97, 99, 97, 99, 97, 99]) :: (((-4), 0, 1), [98, 99, 98, 99, 98, 99, 98]) :: ((0, 3, 1), [99, 97, 99, 97, 99, 97, 99]) :: ((1, 2, 1), [99, 97, 99, 97, 99, 98, 99]) :: ((2, 1, 1), [99, 97, 99, 98, 99, 98, 99]) :: ((3, 0, 1), [99, 98, 99, 98, 99, 98, 99]) :: []
def cN0 : List (Sp × Int) := ((0, 0, 0), 1) :: []
def cN1 : List (Sp × Int) := ((0, (-1), 1), 1) :: (((-1), 0, 1), 1) :: ((0, 0, 1), 1) :: []
def cN2 : List (Sp × Int) := ((0, 0, 0), 3) :: ((1, (-1), 0), 1) :: ((0, (-1), 0), 1) :: (((-1), 1, 0), 1) :: (((-1), 0, 0), 1) :: ((0, 1, 0), 1) :: ((1, 0, 0), 1) :: []
def cN3 : List (Sp × Int) := ((0, (-1), 1), 5) :: (((-1), 0, 1), 5) :: ((0, 0, 1), 5) :: ((1, (-2), 1), 1) :: ((1, (-1), 1), 2) :: ((0, (-2), 1), 1) :: (((-1), (-1), 1), 2) :: (((-2), 1, 1), 1) :: (((-1), 1, 1), 2) :: (((-2), 0, 1), 1) :: ((0, 1, 1), 1) :: ((1, 0, 1), 1) :: []
def cN4 : List (Sp × Int) := ((0, 0, 0), 15) :: ((1, (-1), 0), 8) :: ((0, (-1), 0), 8) :: (((-1), 1, 0), 8) :: (((-1), 0, 0), 8) :: ((0, 1, 0), 8) :: ((1, 0, 0), 8) :: ((2, (-2), 0), 1) :: ((1, (-2), 0), 2) :: ((2, (-1), 0), 2) :: ((0, (-2), 0), 1) :: (((-1), (-1), 0), 2) :: (((-2), 2, 0), 1) :: (((-2), 1, 0), 2) :: (((-1), 2, 0), 2) :: (((-2), 0, 0), 1) :: ((0, 2, 0), 1) :: ((1, 1, 0), 2) :: ((2, 0, 0), 1) :: []
def cN5 : List (Sp × Int) := ((0, (-1), 1), 31) :: (((-1), 0, 1), 31) :: ((0, 0, 1), 31) :: ((1, (-2), 1), 11) :: ((1, (-1), 1), 18) :: ((0, (-2), 1), 11) :: (((-1), (-1), 1), 18) :: (((-2), 1, 1), 11) :: (((-1), 1, 1), 18) :: (((-2), 0, 1), 11) :: ((0, 1, 1), 11) :: ((1, 0, 1), 11) :: ((2, (-3), 1), 1) :: ((2, (-2), 1), 3) :: ((1, (-3), 1), 2) :: ((2, (-1), 1), 3) :: ((0, (-3), 1), 1) :: (((-1), (-2), 1), 3) :: (((-2), (-1), 1), 3) :: (((-3), 2, 1), 1) :: (((-2), 2, 1), 3) :: (((-3), 1, 1), 2) :: (((-1), 2, 1), 3) :: (((-3), 0, 1), 1) :: ((0, 2, 1), 1) :: ((1, 1, 1), 2) :: ((2, 0, 1), 1) :: []
def cN6 : List (Sp × Int) := ((0, 0, 0), 93) :: ((1, (-1), 0), 60) :: ((0, (-1), 0), 60) :: (((-1), 1, 0), 60) :: (((-1), 0, 0), 60) :: ((0, 1, 0), 60) :: ((1, 0, 0), 60) :: ((2, (-2), 0), 15) :: ((1, (-2), 0), 24) :: ((2, (-1), 0), 24) :: ((0, (-2), 0), 15) :: (((-1), (-1), 0), 24) :: (((-2), 2, 0), 15) :: (((-2), 1, 0), 24) :: (((-1), 2, 0), 24) :: (((-2), 0, 0), 15) :: ((0, 2, 0), 15) :: ((1, 1, 0), 24) :: ((2, 0, 0), 15) :: ((3, (-3), 0), 1) :: ((2, (-3), 0), 3) :: ((3, (-2), 0), 3) :: ((1, (-3), 0), 3) :: ((3, (-1), 0), 3) :: ((0, (-3), 0), 1) :: (((-1), (-2), 0), 3) :: (((-2), (-1), 0), 3) :: (((-3), 3, 0), 1) :: (((-3), 2, 0), 3) :: (((-2), 3, 0), 3) :: (((-3), 1, 0), 3) :: (((-1), 3, 0), 3) :: (((-3), 0, 0), 1) :: ((0, 3, 0), 1) :: ((1, 2, 0), 3) :: ((2, 1, 0), 3) :: ((3, 0, 0), 1) :: []
def cN7 : List (Sp × Int) := ((0, (-1), 1), 213) :: (((-1), 0, 1), 213) :: ((0, 0, 1), 213) :: ((1, (-2), 1), 99) :: ((1, (-1), 1), 144) :: ((0, (-2), 1), 99) :: (((-1), (-1), 1), 144) :: (((-2), 1, 1), 99) :: (((-1), 1, 1), 144) :: (((-2), 0, 1), 99) :: ((0, 1, 1), 99) :: ((1, 0, 1), 99) :: ((2, (-3), 1), 19) :: ((2, (-2), 1), 42) :: ((1, (-3), 1), 30) :: ((2, (-1), 1), 42) :: ((0, (-3), 1), 19) :: (((-1), (-2), 1), 42) :: (((-2), (-1), 1), 42) :: (((-3), 2, 1), 19) :: (((-2), 2, 1), 42) :: (((-3), 1, 1), 30) :: (((-1), 2, 1), 42) :: (((-3), 0, 1), 19) :: ((0, 2, 1), 19) :: ((1, 1, 1), 30) :: ((2, 0, 1), 19) :: ((3, (-4), 1), 1) :: ((3, (-3), 1), 4) :: ((2, (-4), 1), 3) :: ((3, (-2), 1), 6) :: ((1, (-4), 1), 3) :: ((3, (-1), 1), 4) :: ((0, (-4), 1), 1) :: (((-1), (-3), 1), 4) :: (((-2), (-2), 1), 6) :: (((-3), (-1), 1), 4) :: (((-4), 3, 1), 1) :: (((-3), 3, 1), 4) :: (((-4), 2, 1), 3) :: (((-2), 3, 1), 6) :: (((-4), 1, 1), 3) :: (((-1), 3, 1), 4) :: (((-4), 0, 1), 1) :: ((0, 3, 1), 1) :: ((1, 2, 1), 3) :: ((2, 1, 1), 3) :: ((3, 0, 1), 1) :: []
def sN : List Sp := ((-4), 0, 1) :: ((-4), 1, 1) :: ((-4), 2, 1) :: ((-4), 3, 1) :: ((-3), (-1), 1) :: ((-3), 0, 0) :: ((-3), 0, 1) :: ((-3), 1, 0) :: ((-3), 1, 1) :: ((-3), 2, 0) :: ((-3), 2, 1) :: ((-3), 3, 0) :: ((-3), 3, 1) :: ((-2), (-2), 1) :: ((-2), (-1), 0) :: ((-2), (-1), 1) :: ((-2), 0, 0) :: ((-2), 0, 1) :: ((-2), 1, 0) :: ((-2), 1, 1) :: ((-2), 2, 0) :: ((-2), 2, 1) :: ((-2), 3, 0) :: ((-2), 3, 1) :: ((-1), (-3), 1) :: ((-1), (-2), 0) :: ((-1), (-2), 1) :: ((-1), (-1), 0) :: ((-1), (-1), 1) :: ((-1), 0, 0) :: ((-1), 0, 1) :: ((-1), 1, 0) :: ((-1), 1, 1) :: ((-1), 2, 0) :: ((-1), 2, 1) :: ((-1), 3, 0) :: ((-1), 3, 1) :: (0, (-4), 1) :: (0, (-3), 0) :: (0, (-3), 1) :: (0, (-2), 0) :: (0, (-2), 1) :: (0, (-1), 0) :: (0, (-1), 1) :: (0, 0, 0) :: (0, 0, 1) :: (0, 1, 0) :: (0, 1, 1) :: (0, 2, 0) :: (0, 2, 1) :: (0, 3, 0) :: (0, 3, 1) :: (1, (-4), 1) :: (1, (-3), 0) :: (1, (-3), 1) :: (1, (-2), 0) :: (1, (-2), 1) :: (1, (-1), 0) :: (1, (-1), 1) :: (1, 0, 0) :: (1, 0, 1) :: (1, 1, 0) :: (1, 1, 1) :: (1, 2, 0) :: (1, 2, 1) :: (2, (-4), 1) :: (2, (-3), 0) :: (2, (-3), 1) :: (2, (-2), 0) :: (2, (-2), 1) :: (2, (-1), 0) :: (2, (-1), 1) :: (2, 0, 0) :: (2, 0, 1) :: (2, 1, 0) :: (2, 1, 1) :: (3, (-4), 1) :: (3, (-3), 0) :: (3, (-3), 1) :: (3, (-2), 0) :: (3, (-2), 1) :: (3, (-1), 0) :: (3, (-1), 1) :: (3, 0, 0) :: (3, 0, 1) :: []
def fD : D := .dct (fN.map fun p => (sp p.1, .str p.2))
def cE (l : List (Sp × Int)) : D := .dct (l.map fun p => (sp p.1, .int p.2))
def cD : D := .lst [cE cN0, cE cN1, cE cN2, cE cN3, cE cN4, cE cN5, cE cN6, cE cN7]
theorem waves (n : Nat) (g : Ev.G) : F (n + 4) i__law_waves [.int 7] g = .ok (.tup [fD, cD], false) g := by kernel_rfl
theorem sort_ok : oSort [fD] = some (.lst (sN.map sp), .f) := by kernel_rfl
end
end Kw
end

section
set_option maxHeartbeats 400000
namespace Kw
open PySem PySem.Spec L2 Ev
open PyProof.Rows hiding St
local macro_rules | `(tactic| simp! [$xs,*]) => `(tactic| simp (implicitDefEqProofs := false) only [Ev.bind_ok, Ev.bind_exc, Ev.bind_bad, Ev.sb_ok, Ev.sb_exc, Ev.sq_nx, Ev.sq_rt, Ev.sq_bk, Ev.sq_ct, Ev.sq_exc, Ev.fin_rt, Ev.fin_nx, Ev.fin_exc, Ev.fz_s', Ev.fz_f', Ev.fz_exc', Ev.nox_ok, Ev.dFz_eq, Ev.dC_eq, Ev.dNil_eq, Ev.dCons_eq, Ev.dVar_eq, Ev.slt_s, Ev.slt_o, Ev.optR_some, Ev.optE_some, Ev.optF_some, Ev.dTup_eq, Ev.dLst_eq, Ev.dBin_eq, Ev.dBif_eq, Ev.dIxBy_eq, Ev.tst_bl, Ev.tst_exc, Ev.dT_eq, Ev.tNot_eq, Ev.tAnd_eq, Ev.tOr_eq, Ev.dNot_eq, Ev.andV_bl, Ev.orV_bl, Ev.dAnd_eq, Ev.dOr_eq, Ev.negV_int, Ev.dNeg_eq, Ev.dIf_eq, Ev.chV_bl, Ev.dChain_eq, Ev.dCall_eq, Ev.dIsa_eq, Ev.dYes_eq, Ev.dLc_eq, Ev.dLc2_eq, Ev.itV_lst, Ev.itV_tup, Ev.itV_str, Ev.itV_dct, Ev.dIt_eq, Ev.rngV_int, Ev.dRng1_eq, Ev.rngV2_int, Ev.dRng2_eq, Ev.zipV_eq, Ev.dZip_eq, Ev.dEnum_eq, Ev.dSl_eq, Ev.dNoP_eq, Ev.parV_int, Ev.dP_eq, Ev.dctV_dct, Ev.dGet2_eq, Ev.dGet1_eq, Ev.dDct0_eq, Ev.pNil_eq, Ev.pCons_eq, Ev.dDct_eq, Ev.dM1_eq, Ev.mtyIn_cl, Ev.mtyIn_ct, Ev.mtyIn_il, Ev.mtyIn_js, Ev.mCount_o, Ev.mIndex_o, Ev.mJoin_o, Ev.dRev_eq, Ev.oRev_lst, Ev.oRev_tup, Ev.oRev_str, Ev.dLR1_eq, Ev.dLR2_eq, Ev.augV_f, Ev.dAug_eq, Ev.augW_o, Ev.augX_f, Ev.dTry_eq, Ev.tryV_nx, Ev.tryV_rt, Ev.tryV_exc, Ev.excV_t, Ev.excV_f, Ev.dSeq_eq, Ev.dNop_eq, Ev.dBreak_eq, Ev.dCont_eq, Ev.dRetN_eq, Ev.dRaise_eq, Ev.fz_eq, Ev.dIfS_eq, Ev.dDrop_eq, Ev.rtV_s, Ev.rtV_f, Ev.dRet_eq, Ev.rtSlt_s, Ev.rtSlt_o, Ev.dRetV_eq, Ev.dSet_eq, Ev.put1_s, Ev.put1_f, Ev.dTgt_eq, Ev.dFor_eq, Ev.dWhile_eq, Ev.xNil_eq, Ev.noW_s, Ev.noW_f, Ev.xCons_eq, Ev.optX_some, Ev.dPar_eq, Ev.putX_nil, Ev.putX_s, Ev.putX_f, Ev.dPut_eq, Ev.put2_eq, Ev.putV_dct, Ev.putV_lst, Ev.putV_hnd, Ev.hndPut_0, Ev.hndPut_1, Ev.hasV_s0, Ev.hasV_o0, Ev.hasV_succ, Ev.dApp_eq, Ev.appV_o, Ev.tset_nm, Ev.tset_tp, Ev.tsets_nil, Ev.tsets_nm, Ev.tsets_tp, Ev.oAdd_int, Ev.oSub_int, Ev.oDiv_int, Ev.oMod_int, Ev.oMul_int, Ev.oLt_int, Ev.oLe_int, Ev.oGt_int, Ev.oGe_int, Ev.oEq_int, Ev.oNe_int, Ev.oLen_lst, Ev.oLen_tup, Ev.oTuple_lst, Ev.oTuple_tup, Ev.oList_lst, Ev.oList_tup, Ev.oInt_int, Ev.oIs_nn, Ev.oIs_in, Ev.oIs_bn, Ev.oIs_sn, Ev.oIs_tn, Ev.oIs_ln, Ev.oIs_bb, Ev.oIsN_nn, Ev.oIsN_in, Ev.oIsN_tn, Ev.oIsN_bb, Ev.oMax_2, Ev.oMin_2, Ev.oIx_tup, Ev.oIx_lst, Ev.isaV_non_int, Ev.isaV_non_bool, Ev.isaV_non_tuple, Ev.isaV_non_list, Ev.isaV_non_str, Ev.isaV_non_dict, Ev.isaV_bl_int, Ev.isaV_bl_bool, Ev.isaV_bl_tuple, Ev.isaV_bl_list, Ev.isaV_bl_str, Ev.isaV_bl_dict, Ev.isaV_int_int, Ev.isaV_int_bool, Ev.isaV_int_tuple, Ev.isaV_int_list, Ev.isaV_int_str, Ev.isaV_int_dict, Ev.isaV_str_int, Ev.isaV_str_bool, Ev.isaV_str_tuple, Ev.isaV_str_list, Ev.isaV_str_str, Ev.isaV_str_dict, Ev.isaV_tup_int, Ev.isaV_tup_bool, Ev.isaV_tup_tuple, Ev.isaV_tup_list, Ev.isaV_tup_str, Ev.isaV_tup_dict, Ev.isaV_lst_int, Ev.isaV_lst_bool, Ev.isaV_lst_tuple, Ev.isaV_lst_list, Ev.isaV_lst_str, Ev.isaV_lst_dict, Ev.isaV_dct_int, Ev.isaV_dct_bool, Ev.isaV_dct_tuple, Ev.isaV_dct_list, Ev.isaV_dct_str, Ev.isaV_dct_dict, Ev.oStr_str, Ev.rng_map, Ev.oIx_hnd0, Ev.oIx_hnd1, Ev.lcTurn_eq, Ev.lcTurn2_eq, Ev.wipeE_nil, Ev.wipeE_cons, Ev.noO_nil, Ev.noO_o, Ev.noO_s, Ev.noO_n, Ev.noO_set, Ev.lcGo_nil, Ev.lcGo_cons', Ev.fzE_s0, Ev.fzE_n0, Ev.fzE_o0, Ev.fzE_succ, Ev.rsat_ok, Ev.ssat_nx, Ev.ssat_rt, Ev.ssat_bk, Ev.ssat_ct, Ev.rsat_bind, Ev.rsat_fz, Ev.rsat_nox, Ev.tstP_bl, Ev.rsat_tst, Ev.ssat_sb, Ev.ssat_sq, Ev.rsat_fin, List.getElem?_cons_zero, List.getElem?_cons_succ, List.set_cons_zero, List.set_cons_succ, List.map_cons, List.map_nil, List.length_cons, List.length_nil, List.length_map, List.replicate_succ, List.replicate_zero, List.cons_append, List.nil_append, entry_eq, Option.map_some, Option.map_none, Option.getD_some, Option.getD_none, Option.bind_some, Bool.not_true, Bool.not_false, Bool.false_eq_true, decide_eq_true_eq, Bool.not_eq_true, Bool.not_eq_true', decide_eq_false_iff_not, if_true, if_false, ite_true, ite_false, decide_true, decide_false, Int.toNat_natCast, ne_eq, not_true_eq_false, not_false_eq_true, true_and, and_true, and_self, reduceCtorEq, Nat.zero_add, Nat.reduceAdd, Nat.reduceSub, Nat.reduceLeDiff, Nat.reduceEqDiff, List.length_range, Int.cast_ofNat_Int, Int.reduceLE, Int.reduceLT, Int.le_refl, Nat.le_refl, Int.reduceAdd, Int.reduceSub, Int.reduceMul, Int.reduceNeg, Int.toNat_natCast, Int.natCast_zero, Int.reduceEq, Int.reduceNe, List.flatMap_cons, List.flatMap_nil, $xs,*])
theorem log_small {m : Nat} (h : m < 2 ^ 200) : m.log2 < 9000 := by
  by_cases h0 : m = 0
  · subst h0; decide
  · have := (Nat.log2_lt h0).mpr h
    omega
/-! ### the law's draws -/
section
variable (n : Nat)
theorem log_lit {m : Int} (h : m.natAbs < 2 ^ 200) : m.natAbs.log2 < 9000 := log_small h
/-- a draw of a number below a bound -/
theorem roll_sat (m : Nat) (h0 : 0 < m) (hm : m < 1000000) {x y : Int} {Q : D × Bool → Ev.G → Prop} (h : ∀ (v : Nat) (x' y' : Int), v < m → Q (.int (v : Nat), false) (some (x', y'))) : (F (n + 1) i__law_roll [.hnd 0, .int (m : Nat)] (some (x, y))).Sat Q := by
  have hm0 : (0 : Int) < (m : Int) := by omega
  have hlg : (m : Int).natAbs.log2 < 9000 := log_small (by omega)
  have fin : ∀ (z : Int) (x' y' : Int), Q (.int (z % m), false) (some (x', y')) := fun z x' y' => by
    have h1 : 0 ≤ z % (m : Int) := Int.emod_nonneg _ (by omega)
    have h2 : z % (m : Int) < m := Int.emod_lt_of_pos _ hm0
    obtain ⟨v, hv⟩ := Int.eq_ofNat_of_zero_le h1
    rw [hv] at h2 ⊢
    exact h v x' y' (by omega)
  rw [o__law_roll, d__law_roll]
  simp! []
  by_cases hx : 0 < x
  · simp! [hx, hm0, hlg]
    exact fin _ _ _
  · simp! [hx]
    rw [mulOk_r (by decide)]
    simp! [Int.reduceLT]
    rw [mulOk_mod (by decide) (by decide)]
    simp! [Int.reduceLT, hm0]
    rw [if_pos (log_lit (by decide))]
    simp! [hm0]
    exact fin _ _ _
/-- one of several things -/
theorem some_lst {α : Type} (e : α → D) (l : List α) (h0 : 0 < l.length) (hm : l.length < 1000000) {x y : Int} {Q : D × Bool → Ev.G → Prop} (h : ∀ a ∈ l, ∀ x' y' : Int, Q (e a, false) (some (x', y'))) : (F (n + 2) i__law_some [.hnd 0, .lst (l.map e)] (some (x, y))).Sat Q := by
  rw [o__law_some, d__law_some]
  simp! []
  refine roll_sat n l.length h0 hm fun v x' y' hv => ?_
  simp! [atN, List.getElem?_map, List.getElem?_eq_getElem hv]
  exact h _ (List.getElem_mem _) _ _
theorem some_tup {α : Type} (e : α → D) (l : List α) (h0 : 0 < l.length) (hm : l.length < 1000000) {x y : Int} {Q : D × Bool → Ev.G → Prop} (h : ∀ a ∈ l, ∀ x' y' : Int, Q (e a, false) (some (x', y'))) : (F (n + 2) i__law_some [.hnd 0, .tup (l.map e)] (some (x, y))).Sat Q := by
  rw [o__law_some, d__law_some]
  simp! []
  refine roll_sat n l.length h0 hm fun v x' y' hv => ?_
  simp! [atN, List.getElem?_map, List.getElem?_eq_getElem hv]
  exact h _ (List.getElem_mem _) _ _
/-- plain data, so deep at most -/
def Pl : Nat → D → Prop
  | _, .non => True
  | _, .bl _ => True
  | _, .int _ => True
  | _, .str z => (D.str z).shp = true
  | k + 1, .tup l => l.length ≤ 1000000 ∧ ∀ d ∈ l, Pl k d
  | _, _ => False
theorem same_flat (d : D) (g : Ev.G) (h : Pl 0 d) : F (n + 1) i__law_same [d, d] g = .ok (.bl true, false) g := by
  rw [o__law_same, d__law_same]
  cases d with
  | non => simp! []
  | bl b => cases b <;> simp! [beq_self_eq_true]
  | int i => simp! []
  | str s => simp! [oEq_refl (D.str s) h]
  | _ => exact h.elim
theorem same_refl : ∀ (k n : Nat) (d : D) (g : Ev.G), Pl k d → F (n + k + 1) i__law_same [d, d] g = .ok (.bl true, false) g := by
  intro k
  induction k with
  | zero => intro n d g h; exact same_flat n d g h
  | succ k ih =>
    intro n d g h
    cases d with
    | tup l =>
      obtain ⟨hl, h⟩ := h
      rw [show n + (k + 1) + 1 = (n + k + 1) + 1 from rfl, o__law_same, d__law_same]
      simp! [smallI_nat _ (show l.length < 1000000000 by omega), List.length_range, LN_le (show l.length ≤ 10000000 by omega)]
      rw [lc_map fun _ => .bl true]
      · simp! [oAll_map, all_tt]
      · intro a ha
        rw [List.mem_range] at ha
        simp! [atN, List.getElem?_eq_getElem ha, ih n _ g (h _ (List.getElem_mem ha))]
    | non => exact same_flat _ _ g trivial
    | bl b => exact same_flat _ _ g trivial
    | int i => exact same_flat _ _ g trivial
    | str s => exact same_flat _ _ g h
    | _ => exact h.elim
end
section
theorem cup_ok (n : Nat) (ns : List Int) (hl : ns.length ≤ 63) : ∃ x y : Int, F (n + 1) i__law_cup [.lst (ns.map .int)] none = .ok (.lst [.int x, .int y], true) none := by
  suffices H : (F (n + 1) i__law_cup [.lst (ns.map .int)] none).Sat fun r g' => (∃ x y : Int, r = (.lst [.int x, .int y], true)) ∧ g' = none by
    obtain ⟨a, g, e, ⟨x, y, rfl⟩, rfl⟩ := H.get
    exact ⟨x, y, e⟩
  rw [o__law_cup, d__law_cup]
  obtain ⟨c, hc⟩ : ∃ c : Int, L2.atI (ns.map D.int ++ [D.int 0]) 0 = some (.int c) := by
    rw [at0]
    cases ns with
    | nil => exact ⟨0, rfl⟩
    | cons a r => exact ⟨a, rfl⟩
  have h10 : ∀ a b : Fl, oPow (.int 10, a) (.int 18, b) = some (.int 1000000000000000000, .s) := fun a b => by rfl
  have habs : ∀ i : Int, oAbs [.int i] = some (.int (if i < 0 then -i else i), .s) := fun i => rfl
  simp! [LN_le (show 1 ≤ 10000000 by omega), LN_le (show 2 ≤ 10000000 by omega), oAdd_lst, LN_le (show ns.length + 1 ≤ 10000000 by omega), hc, habs, h10]
  generalize (if c < 0 then -c else c) = d
  by_cases q : 1000000000000000000 ≤ d
  · simp! [q]
    rw [if_pos (by decide)]
    simp! [LN_le (show 2 ≤ 10000000 by omega)]
    rw [mulOk_r (by decide)]
    simp! [LN_le (show 2 ≤ 10000000 by omega)]
    exact ⟨_, _, rfl⟩
  · simp! [q]
    rw [mulOk_r (by decide)]
    simp! [LN_le (show 2 ≤ 10000000 by omega)]
    exact ⟨_, _, rfl⟩
/-- the law, from its first statement and the rest -/
theorem says_of (nn : Nat) (f0 fr : DenS) (h0 : ∀ (ns : List Int) (x y : Int), F 40 i__law_cup [.lst (ns.map .int)] none = .ok (.lst [.int x, .int y], true) none → f0 (F 40) (entry nn [.lst (ns.map .int)]) none = .nx ((entry nn [.lst (ns.map .int)]).set 1 (.o (.lst [.int x, .int y]))) none)
    (h1 : ∀ (s : D) (x y : Int), (fr (F 40) ((entry nn [s]).set 1 (.s (.hnd 0))) (some (x, y))).Sat ⟨fun _ _ => False, fun d b _ => d = .bl true ∧ b = false, fun _ _ => False, fun _ _ => False⟩) : Ev.LawSays (F 40) nn 1 f0 fr 63 := by
  intro ns hns
  obtain ⟨x, y, e⟩ := cup_ok 39 ns hns
  refine ⟨x, y, h0 ns x y e, ?_⟩
  have H := h1 (.lst (ns.map .int)) x y
  cases q : fr (F 40) ((entry nn [.lst (ns.map .int)]).set 1 (.s (.hnd 0))) (some (x, y)) with
  | rt d b g => rw [q] at H; obtain ⟨rfl, rfl⟩ := H; exact ⟨g, rfl⟩
  | nx => rw [q] at H; exact H.elim
  | bk => rw [q] at H; exact H.elim
  | ct => rw [q] at H; exact H.elim
  | exc => rw [q] at H; exact H.elim
  | bad => rw [q] at H; exact H.elim
end
section
theorem c1r (v : Nat) : (v : Int) + (1 : Int) = ((v + 1 : Nat) : Int) := by omega
end
section
theorem join1 : ∀ w : List Nat, joinN [] (w.map fun c => [c]) = w
  | [] => rfl
  | [a] => rfl
  | a :: b :: r => by
    have ih := join1 (b :: r)
    show [a] ++ ([] ++ joinN [] ((b :: r).map fun c => [c])) = _
    rw [ih]; rfl
theorem strs1 : ∀ w : List Nat, D.strs (w.map fun c => D.str [c]) = some (w.map fun c => [c])
  | [] => rfl
  | a :: r => by rw [List.map_cons, D.strs, strs1 r]; rfl
theorem join_ok (w : List Nat) (h : w.length ≤ 1000) (f1 f2 : Fl) : oJoin (.str [], f1) (.lst (w.map fun c => D.str [c]), f2) = some (.str w, .s) := by
  unfold oJoin
  show ((D.strs (w.map fun c => D.str [c])).bind fun ps => _) = _
  rw [strs1, Option.bind_some]
  have e : (((w.map fun c => [c]).map (·.length)).sum + (w.map fun c => [c]).length * ([] : List Nat).length) ≤ 16777216 := by
    have h1 : ((w.map fun c => [c]).map (·.length)).sum = w.length := by
      rw [List.map_map]
      clear h
      induction w with
      | nil => rfl
      | cons a r ih => rw [List.map_cons, List.sum_cons, ih, List.length_cons]; show 1 + _ = _; omega
    rw [h1]
    simp
    omega
  rw [if_pos e, join1]
theorem word_sat (n m : Nat) (hm : m ≤ 900) {x y : Int} {Q : D × Bool → Ev.G → Prop} (h : ∀ w : List Nat, Word w → w.length ≤ m → ∀ x' y' : Int, Q (.str w, false) (some (x', y'))) : (F (n + 3) i__law_word [.hnd 0, .int (m : Nat)] (some (x, y))).Sat Q := by
  rw [o__law_word, d__law_word]
  simp! [c1r]
  refine roll_sat (n + 1) (m + 1) (by omega) (by omega) fun v x' y' hv => ?_
  simp! [smallI_nat v (by omega), LN_le (show v ≤ 10000000 by omega)]
  refine sat_lcR (fun k acc g' => (∃ x y, g' = some (x, y)) ∧ ∃ w : List Nat, acc = w.map (fun c => D.str [c]) ∧ w.length = k ∧ Word w) ⟨⟨_, _, rfl⟩, [], rfl, rfl, fun l hl => absurd hl (by simp)⟩ ?_ ?_
  · rintro k hk acc g' ⟨⟨x, y, rfl⟩, w, rfl, rfl, hw⟩
    simp! [lcTurn, dYes, LN_le (show 3 ≤ 10000000 by omega)]
    refine some_lst n (fun c : Nat => D.str [c]) [97, 98, 99] (by decide) (by decide) fun c hc x y => ?_
    simp! []
    refine ⟨⟨_, _, rfl⟩, w ++ [c], by simp, by simp, fun l hl => ?_⟩
    rcases List.mem_append.mp hl with hl | hl
    · exact hw l hl
    · simp at hl hc; subst hl; exact hc
  · rintro acc g' ⟨⟨x, y, rfl⟩, w, rfl, hk, hw⟩
    simp! [mtyIn, join_ok w (by omega)]
    exact h w hw (by omega) _ _
end
end Kw
end

section
set_option maxHeartbeats 400000
namespace Kw
open PySem PySem.Spec L2 Ev
open PyProof.Rows hiding St
local macro_rules | `(tactic| simp! [$xs,*]) => `(tactic| simp (implicitDefEqProofs := false) only [Ev.bind_ok, Ev.bind_exc, Ev.bind_bad, Ev.sb_ok, Ev.sb_exc, Ev.sq_nx, Ev.sq_rt, Ev.sq_bk, Ev.sq_ct, Ev.sq_exc, Ev.fin_rt, Ev.fin_nx, Ev.fin_exc, Ev.fz_s', Ev.fz_f', Ev.fz_exc', Ev.nox_ok, Ev.dFz_eq, Ev.dC_eq, Ev.dNil_eq, Ev.dCons_eq, Ev.dVar_eq, Ev.slt_s, Ev.slt_o, Ev.optR_some, Ev.optE_some, Ev.optF_some, Ev.dTup_eq, Ev.dLst_eq, Ev.dBin_eq, Ev.dBif_eq, Ev.dIxBy_eq, Ev.tst_bl, Ev.tst_exc, Ev.dT_eq, Ev.tNot_eq, Ev.tAnd_eq, Ev.tOr_eq, Ev.dNot_eq, Ev.andV_bl, Ev.orV_bl, Ev.dAnd_eq, Ev.dOr_eq, Ev.negV_int, Ev.dNeg_eq, Ev.dIf_eq, Ev.chV_bl, Ev.dChain_eq, Ev.dCall_eq, Ev.dIsa_eq, Ev.dYes_eq, Ev.dLc_eq, Ev.dLc2_eq, Ev.itV_lst, Ev.itV_tup, Ev.itV_str, Ev.itV_dct, Ev.dIt_eq, Ev.rngV_int, Ev.dRng1_eq, Ev.rngV2_int, Ev.dRng2_eq, Ev.zipV_eq, Ev.dZip_eq, Ev.dEnum_eq, Ev.dSl_eq, Ev.dNoP_eq, Ev.parV_int, Ev.dP_eq, Ev.dctV_dct, Ev.dGet2_eq, Ev.dGet1_eq, Ev.dDct0_eq, Ev.pNil_eq, Ev.pCons_eq, Ev.dDct_eq, Ev.dM1_eq, Ev.mtyIn_cl, Ev.mtyIn_ct, Ev.mtyIn_il, Ev.mtyIn_js, Ev.mCount_o, Ev.mIndex_o, Ev.mJoin_o, Ev.dRev_eq, Ev.oRev_lst, Ev.oRev_tup, Ev.oRev_str, Ev.dLR1_eq, Ev.dLR2_eq, Ev.augV_f, Ev.dAug_eq, Ev.augW_o, Ev.augX_f, Ev.dTry_eq, Ev.tryV_nx, Ev.tryV_rt, Ev.tryV_exc, Ev.excV_t, Ev.excV_f, Ev.dSeq_eq, Ev.dNop_eq, Ev.dBreak_eq, Ev.dCont_eq, Ev.dRetN_eq, Ev.dRaise_eq, Ev.fz_eq, Ev.dIfS_eq, Ev.dDrop_eq, Ev.rtV_s, Ev.rtV_f, Ev.dRet_eq, Ev.rtSlt_s, Ev.rtSlt_o, Ev.dRetV_eq, Ev.dSet_eq, Ev.put1_s, Ev.put1_f, Ev.dTgt_eq, Ev.dFor_eq, Ev.dWhile_eq, Ev.xNil_eq, Ev.noW_s, Ev.noW_f, Ev.xCons_eq, Ev.optX_some, Ev.dPar_eq, Ev.putX_nil, Ev.putX_s, Ev.putX_f, Ev.dPut_eq, Ev.put2_eq, Ev.putV_dct, Ev.putV_lst, Ev.putV_hnd, Ev.hndPut_0, Ev.hndPut_1, Ev.hasV_s0, Ev.hasV_o0, Ev.hasV_succ, Ev.dApp_eq, Ev.appV_o, Ev.tset_nm, Ev.tset_tp, Ev.tsets_nil, Ev.tsets_nm, Ev.tsets_tp, Ev.oAdd_int, Ev.oSub_int, Ev.oDiv_int, Ev.oMod_int, Ev.oMul_int, Ev.oLt_int, Ev.oLe_int, Ev.oGt_int, Ev.oGe_int, Ev.oEq_int, Ev.oNe_int, Ev.oLen_lst, Ev.oLen_tup, Ev.oTuple_lst, Ev.oTuple_tup, Ev.oList_lst, Ev.oList_tup, Ev.oInt_int, Ev.oIs_nn, Ev.oIs_in, Ev.oIs_bn, Ev.oIs_sn, Ev.oIs_tn, Ev.oIs_ln, Ev.oIs_bb, Ev.oIsN_nn, Ev.oIsN_in, Ev.oIsN_tn, Ev.oIsN_bb, Ev.oMax_2, Ev.oMin_2, Ev.oIx_tup, Ev.oIx_lst, Ev.isaV_non_int, Ev.isaV_non_bool, Ev.isaV_non_tuple, Ev.isaV_non_list, Ev.isaV_non_str, Ev.isaV_non_dict, Ev.isaV_bl_int, Ev.isaV_bl_bool, Ev.isaV_bl_tuple, Ev.isaV_bl_list, Ev.isaV_bl_str, Ev.isaV_bl_dict, Ev.isaV_int_int, Ev.isaV_int_bool, Ev.isaV_int_tuple, Ev.isaV_int_list, Ev.isaV_int_str, Ev.isaV_int_dict, Ev.isaV_str_int, Ev.isaV_str_bool, Ev.isaV_str_tuple, Ev.isaV_str_list, Ev.isaV_str_str, Ev.isaV_str_dict, Ev.isaV_tup_int, Ev.isaV_tup_bool, Ev.isaV_tup_tuple, Ev.isaV_tup_list, Ev.isaV_tup_str, Ev.isaV_tup_dict, Ev.isaV_lst_int, Ev.isaV_lst_bool, Ev.isaV_lst_tuple, Ev.isaV_lst_list, Ev.isaV_lst_str, Ev.isaV_lst_dict, Ev.isaV_dct_int, Ev.isaV_dct_bool, Ev.isaV_dct_tuple, Ev.isaV_dct_list, Ev.isaV_dct_str, Ev.isaV_dct_dict, Ev.oStr_str, Ev.rng_map, Ev.oIx_hnd0, Ev.oIx_hnd1, Ev.lcTurn_eq, Ev.lcTurn2_eq, Ev.wipeE_nil, Ev.wipeE_cons, Ev.noO_nil, Ev.noO_o, Ev.noO_s, Ev.noO_n, Ev.noO_set, Ev.lcGo_nil, Ev.lcGo_cons', Ev.fzE_s0, Ev.fzE_n0, Ev.fzE_o0, Ev.fzE_succ, Ev.rsat_ok, Ev.ssat_nx, Ev.ssat_rt, Ev.ssat_bk, Ev.ssat_ct, Ev.rsat_bind, Ev.rsat_fz, Ev.rsat_nox, Ev.tstP_bl, Ev.rsat_tst, Ev.ssat_sb, Ev.ssat_sq, Ev.rsat_fin, List.getElem?_cons_zero, List.getElem?_cons_succ, List.set_cons_zero, List.set_cons_succ, List.map_cons, List.map_nil, List.length_cons, List.length_nil, List.length_map, List.replicate_succ, List.replicate_zero, List.cons_append, List.nil_append, entry_eq, Option.map_some, Option.map_none, Option.getD_some, Option.getD_none, Option.bind_some, Bool.not_true, Bool.not_false, Bool.false_eq_true, decide_eq_true_eq, Bool.not_eq_true, Bool.not_eq_true', decide_eq_false_iff_not, if_true, if_false, ite_true, ite_false, decide_true, decide_false, Int.toNat_natCast, ne_eq, not_true_eq_false, not_false_eq_true, true_and, and_true, and_self, reduceCtorEq, Nat.zero_add, Nat.reduceAdd, Nat.reduceSub, Nat.reduceLeDiff, Nat.reduceEqDiff, List.length_range, Int.cast_ofNat_Int, Int.reduceLE, Int.reduceLT, Int.le_refl, Nat.le_refl, Int.reduceAdd, Int.reduceSub, Int.reduceMul, Int.reduceNeg, Int.toNat_natCast, Int.natCast_zero, Int.reduceEq, Int.reduceNe, List.flatMap_cons, List.flatMap_nil, $xs,*])
section
def d_r1 : DenS := (dIfS (dT (dBin oLe (dBif oMax (dCons (dBif oAbs (dCons (dIxBy oIx (dVar 3) (dC (.int 0))) dNil)) (dCons (dBif oAbs (dCons (dIxBy oIx (dVar 3) (dC (.int 1))) dNil)) dNil))) (dC (.int 6)))) (fz 3 (dIfS (tNot' (dT (dCall i__law_same (dCons (dFz (dTup (dCons (dFz (dCall i_fewest_rolls (dCons (dFz (dVar 3)) dNil))) (dCons (dFz (dCall i_first_word (dCons (dFz (dVar 3)) dNil))) dNil)))) (dCons (dFz (dTup (dCons (dFz (dBif oLen (dCons (dIxBy oIx (dVar 1) (dVar 3)) dNil))) (dCons (dFz (dIxBy oIx (dVar 1) (dVar 3))) dNil)))) dNil))))) (dRet (dC (.bl false))) dNop)) dNop)
def d_r2 : DenS := (fz 4 (dIfS (tNot' (dT (dCall i__law_same (dCons (dFz (dCall i_first_alike (dCons (dFz (dVar 4)) dNil))) (dCons (dFz (dIxBy oIx (dVar 1) (dIxBy oIx (dIxBy oIx (dCall i__law_stands (dCons (dFz (dVar 4)) dNil)) (dNeg (dC (.int 1)))) (dC (.int 1))))) dNil))))) (dRet (dC (.bl false))) dNop))
def d_r3 : DenS := (fz 0 (dPar [5, 6] (xCons (dIxBy oIx (dIxBy oIx (dCall i__law_stands (dCons (dFz (dCall i__law_word (dCons (dFz (dVar 0)) (dCons (dFz (dC (.int 4))) dNil)))) dNil)) (dNeg (dC (.int 1)))) (dC (.int 1))) (xCons (dIxBy oIx (dIxBy oIx (dCall i__law_stands (dCons (dFz (dCall i__law_word (dCons (dFz (dVar 0)) (dCons (dFz (dC (.int 3))) dNil)))) dNil)) (dNeg (dC (.int 1)))) (dC (.int 1))) xNil))))
def d_r4 : DenS := (dSeq (dSet 3 (dTup (dCons (dFz (dBin oSub (dIxBy oIx (dVar 6) (dC (.int 0))) (dIxBy oIx (dVar 5) (dC (.int 0))))) (dCons (dFz (dBin oSub (dIxBy oIx (dVar 6) (dC (.int 1))) (dIxBy oIx (dVar 5) (dC (.int 1))))) (dCons (dFz (dIxBy oIx (dVar 6) (dC (.int 2)))) dNil)))))
  (dSeq (dIfS (dT (dBin oEq (dIxBy oIx (dVar 5) (dC (.int 2))) (dC (.int 1)))) (dSet 3 (dTup (dCons (dFz (dBin oSub (dIxBy oIx (dVar 5) (dC (.int 0))) (dIxBy oIx (dVar 6) (dC (.int 0))))) (dCons (dFz (dBin oSub (dIxBy oIx (dVar 5) (dC (.int 1))) (dIxBy oIx (dVar 6) (dC (.int 1))))) (dCons (dFz (dBin oSub (dC (.int 1)) (dIxBy oIx (dVar 6) (dC (.int 2))))) dNil))))) dNop)
  (fz 5 (fz 6 (dRet (dCall i__law_same (dCons (dFz (dTup (dCons (dFz (dCall i_rolls_between (dCons (dFz (dVar 5)) (dCons (dFz (dVar 6)) dNil)))) (dCons (dFz (dCall i_rolls_between (dCons (dFz (dVar 6)) (dCons (dFz (dVar 5)) dNil)))) dNil)))) (dCons (dFz (dTup (dCons (dFz (dBif oLen (dCons (dIxBy oIx (dVar 1) (dVar 3)) dNil))) (dCons (dFz (dBif oLen (dCons (dIxBy oIx (dVar 1) (dVar 3)) dNil))) dNil)))) dNil))))))))
theorem r_right : d__law_right = dSeq (dFor (dRng1 (dCons (dFz (dC (.int 6))) dNil)) (.nm 2) (dSeq (fz 0 (dSet 3 (dCall i__law_some (dCons (dFz (dVar 0)) (dCons (dFz (dBif oSort (dCons (dVar 1) dNil))) dNil))))) d_r1))
  (dSeq (fz 0 (dSet 4 (dCall i__law_word (dCons (dFz (dVar 0)) (dCons (dFz (dC (.int 7))) dNil))))) (dSeq d_r2 (dSeq d_r3 d_r4))) := rfl
theorem r1_all (g : Ev.G) (z : Slt) : (sN.map fun s => d_r1 (F 39) [.s (.hnd 0), .s fD, z, .s (sp s), .n, .n, .n] g) = sN.map fun s => .nx [.s (.hnd 0), .s fD, z, .s (sp s), .n, .n, .n] g := by kernel_rfl
theorem first_all (n : Nat) (g : Ev.G) : (fN.map fun p => F (n + 4) i_first_in [sp p.1] g) = fN.map fun p => .ok (.str p.2, false) g := by kernel_rfl
end
end Kw
end

section
set_option maxHeartbeats 400000
namespace Kw
open PySem PySem.Spec L2 Ev
open PyProof.Rows hiding St
local macro_rules | `(tactic| simp! [$xs,*]) => `(tactic| simp (implicitDefEqProofs := false) only [Ev.bind_ok, Ev.bind_exc, Ev.bind_bad, Ev.sb_ok, Ev.sb_exc, Ev.sq_nx, Ev.sq_rt, Ev.sq_bk, Ev.sq_ct, Ev.sq_exc, Ev.fin_rt, Ev.fin_nx, Ev.fin_exc, Ev.fz_s', Ev.fz_f', Ev.fz_exc', Ev.nox_ok, Ev.dFz_eq, Ev.dC_eq, Ev.dNil_eq, Ev.dCons_eq, Ev.dVar_eq, Ev.slt_s, Ev.slt_o, Ev.optR_some, Ev.optE_some, Ev.optF_some, Ev.dTup_eq, Ev.dLst_eq, Ev.dBin_eq, Ev.dBif_eq, Ev.dIxBy_eq, Ev.tst_bl, Ev.tst_exc, Ev.dT_eq, Ev.tNot_eq, Ev.tAnd_eq, Ev.tOr_eq, Ev.dNot_eq, Ev.andV_bl, Ev.orV_bl, Ev.dAnd_eq, Ev.dOr_eq, Ev.negV_int, Ev.dNeg_eq, Ev.dIf_eq, Ev.chV_bl, Ev.dChain_eq, Ev.dCall_eq, Ev.dIsa_eq, Ev.dYes_eq, Ev.dLc_eq, Ev.dLc2_eq, Ev.itV_lst, Ev.itV_tup, Ev.itV_str, Ev.itV_dct, Ev.dIt_eq, Ev.rngV_int, Ev.dRng1_eq, Ev.rngV2_int, Ev.dRng2_eq, Ev.zipV_eq, Ev.dZip_eq, Ev.dEnum_eq, Ev.dSl_eq, Ev.dNoP_eq, Ev.parV_int, Ev.dP_eq, Ev.dctV_dct, Ev.dGet2_eq, Ev.dGet1_eq, Ev.dDct0_eq, Ev.pNil_eq, Ev.pCons_eq, Ev.dDct_eq, Ev.dM1_eq, Ev.mtyIn_cl, Ev.mtyIn_ct, Ev.mtyIn_il, Ev.mtyIn_js, Ev.mCount_o, Ev.mIndex_o, Ev.mJoin_o, Ev.dRev_eq, Ev.oRev_lst, Ev.oRev_tup, Ev.oRev_str, Ev.dLR1_eq, Ev.dLR2_eq, Ev.augV_f, Ev.dAug_eq, Ev.augW_o, Ev.augX_f, Ev.dTry_eq, Ev.tryV_nx, Ev.tryV_rt, Ev.tryV_exc, Ev.excV_t, Ev.excV_f, Ev.dSeq_eq, Ev.dNop_eq, Ev.dBreak_eq, Ev.dCont_eq, Ev.dRetN_eq, Ev.dRaise_eq, Ev.fz_eq, Ev.dIfS_eq, Ev.dDrop_eq, Ev.rtV_s, Ev.rtV_f, Ev.dRet_eq, Ev.rtSlt_s, Ev.rtSlt_o, Ev.dRetV_eq, Ev.dSet_eq, Ev.put1_s, Ev.put1_f, Ev.dTgt_eq, Ev.dFor_eq, Ev.dWhile_eq, Ev.xNil_eq, Ev.noW_s, Ev.noW_f, Ev.xCons_eq, Ev.optX_some, Ev.dPar_eq, Ev.putX_nil, Ev.putX_s, Ev.putX_f, Ev.dPut_eq, Ev.put2_eq, Ev.putV_dct, Ev.putV_lst, Ev.putV_hnd, Ev.hndPut_0, Ev.hndPut_1, Ev.hasV_s0, Ev.hasV_o0, Ev.hasV_succ, Ev.dApp_eq, Ev.appV_o, Ev.tset_nm, Ev.tset_tp, Ev.tsets_nil, Ev.tsets_nm, Ev.tsets_tp, Ev.oAdd_int, Ev.oSub_int, Ev.oDiv_int, Ev.oMod_int, Ev.oMul_int, Ev.oLt_int, Ev.oLe_int, Ev.oGt_int, Ev.oGe_int, Ev.oEq_int, Ev.oNe_int, Ev.oLen_lst, Ev.oLen_tup, Ev.oTuple_lst, Ev.oTuple_tup, Ev.oList_lst, Ev.oList_tup, Ev.oInt_int, Ev.oIs_nn, Ev.oIs_in, Ev.oIs_bn, Ev.oIs_sn, Ev.oIs_tn, Ev.oIs_ln, Ev.oIs_bb, Ev.oIsN_nn, Ev.oIsN_in, Ev.oIsN_tn, Ev.oIsN_bb, Ev.oMax_2, Ev.oMin_2, Ev.oIx_tup, Ev.oIx_lst, Ev.isaV_non_int, Ev.isaV_non_bool, Ev.isaV_non_tuple, Ev.isaV_non_list, Ev.isaV_non_str, Ev.isaV_non_dict, Ev.isaV_bl_int, Ev.isaV_bl_bool, Ev.isaV_bl_tuple, Ev.isaV_bl_list, Ev.isaV_bl_str, Ev.isaV_bl_dict, Ev.isaV_int_int, Ev.isaV_int_bool, Ev.isaV_int_tuple, Ev.isaV_int_list, Ev.isaV_int_str, Ev.isaV_int_dict, Ev.isaV_str_int, Ev.isaV_str_bool, Ev.isaV_str_tuple, Ev.isaV_str_list, Ev.isaV_str_str, Ev.isaV_str_dict, Ev.isaV_tup_int, Ev.isaV_tup_bool, Ev.isaV_tup_tuple, Ev.isaV_tup_list, Ev.isaV_tup_str, Ev.isaV_tup_dict, Ev.isaV_lst_int, Ev.isaV_lst_bool, Ev.isaV_lst_tuple, Ev.isaV_lst_list, Ev.isaV_lst_str, Ev.isaV_lst_dict, Ev.isaV_dct_int, Ev.isaV_dct_bool, Ev.isaV_dct_tuple, Ev.isaV_dct_list, Ev.isaV_dct_str, Ev.isaV_dct_dict, Ev.oStr_str, Ev.rng_map, Ev.oIx_hnd0, Ev.oIx_hnd1, Ev.lcTurn_eq, Ev.lcTurn2_eq, Ev.wipeE_nil, Ev.wipeE_cons, Ev.noO_nil, Ev.noO_o, Ev.noO_s, Ev.noO_n, Ev.noO_set, Ev.lcGo_nil, Ev.lcGo_cons', Ev.fzE_s0, Ev.fzE_n0, Ev.fzE_o0, Ev.fzE_succ, Ev.rsat_ok, Ev.ssat_nx, Ev.ssat_rt, Ev.ssat_bk, Ev.ssat_ct, Ev.rsat_bind, Ev.rsat_fz, Ev.rsat_nox, Ev.tstP_bl, Ev.rsat_tst, Ev.ssat_sb, Ev.ssat_sq, Ev.rsat_fin, List.getElem?_cons_zero, List.getElem?_cons_succ, List.set_cons_zero, List.set_cons_succ, List.map_cons, List.map_nil, List.length_cons, List.length_nil, List.length_map, List.replicate_succ, List.replicate_zero, List.cons_append, List.nil_append, entry_eq, Option.map_some, Option.map_none, Option.getD_some, Option.getD_none, Option.bind_some, Bool.not_true, Bool.not_false, Bool.false_eq_true, decide_eq_true_eq, Bool.not_eq_true, Bool.not_eq_true', decide_eq_false_iff_not, if_true, if_false, ite_true, ite_false, decide_true, decide_false, Int.toNat_natCast, ne_eq, not_true_eq_false, not_false_eq_true, true_and, and_true, and_self, reduceCtorEq, Nat.zero_add, Nat.reduceAdd, Nat.reduceSub, Nat.reduceLeDiff, Nat.reduceEqDiff, List.length_range, Int.cast_ofNat_Int, Int.reduceLE, Int.reduceLT, Int.le_refl, Nat.le_refl, Int.reduceAdd, Int.reduceSub, Int.reduceMul, Int.reduceNeg, Int.toNat_natCast, Int.natCast_zero, Int.reduceEq, Int.reduceNe, List.flatMap_cons, List.flatMap_nil, $xs,*])
section
def nearN (j : Nat) : List Sp := (fN.filter fun p => decide (p.2.length ≤ j)).map (·.1)
theorem r4_all (g : Ev.G) (z1 z2 z3 : Slt) : ((nearN 4).map fun a => (nearN 3).map fun b => d_r4 (F 39) [.s (.hnd 0), .s fD, z1, z2, z3, .s (sp a), .s (sp b)] g) = (nearN 4).map fun _ => (nearN 3).map fun _ => .rt (.bl true) false g := by kernel_rfl
theorem r4 (g : Ev.G) (z1 z2 z3 : Slt) {a b : Sp} (ha : a ∈ nearN 4) (hb : b ∈ nearN 3) : d_r4 (F 39) [.s (.hnd 0), .s fD, z1, z2, z3, .s (sp a), .s (sp b)] g = .rt (.bl true) false g :=
  List.map_inj_left.mp (List.map_inj_left.mp (r4_all g z1 z2 z3) a ha) b hb
end
end Kw
end

section
set_option maxHeartbeats 400000
namespace Kw
open PySem PySem.Spec L2 Ev
open PyProof.Rows hiding St
local macro_rules | `(tactic| simp! [$xs,*]) => `(tactic| simp (implicitDefEqProofs := false) only [Ev.bind_ok, Ev.bind_exc, Ev.bind_bad, Ev.sb_ok, Ev.sb_exc, Ev.sq_nx, Ev.sq_rt, Ev.sq_bk, Ev.sq_ct, Ev.sq_exc, Ev.fin_rt, Ev.fin_nx, Ev.fin_exc, Ev.fz_s', Ev.fz_f', Ev.fz_exc', Ev.nox_ok, Ev.dFz_eq, Ev.dC_eq, Ev.dNil_eq, Ev.dCons_eq, Ev.dVar_eq, Ev.slt_s, Ev.slt_o, Ev.optR_some, Ev.optE_some, Ev.optF_some, Ev.dTup_eq, Ev.dLst_eq, Ev.dBin_eq, Ev.dBif_eq, Ev.dIxBy_eq, Ev.tst_bl, Ev.tst_exc, Ev.dT_eq, Ev.tNot_eq, Ev.tAnd_eq, Ev.tOr_eq, Ev.dNot_eq, Ev.andV_bl, Ev.orV_bl, Ev.dAnd_eq, Ev.dOr_eq, Ev.negV_int, Ev.dNeg_eq, Ev.dIf_eq, Ev.chV_bl, Ev.dChain_eq, Ev.dCall_eq, Ev.dIsa_eq, Ev.dYes_eq, Ev.dLc_eq, Ev.dLc2_eq, Ev.itV_lst, Ev.itV_tup, Ev.itV_str, Ev.itV_dct, Ev.dIt_eq, Ev.rngV_int, Ev.dRng1_eq, Ev.rngV2_int, Ev.dRng2_eq, Ev.zipV_eq, Ev.dZip_eq, Ev.dEnum_eq, Ev.dSl_eq, Ev.dNoP_eq, Ev.parV_int, Ev.dP_eq, Ev.dctV_dct, Ev.dGet2_eq, Ev.dGet1_eq, Ev.dDct0_eq, Ev.pNil_eq, Ev.pCons_eq, Ev.dDct_eq, Ev.dM1_eq, Ev.mtyIn_cl, Ev.mtyIn_ct, Ev.mtyIn_il, Ev.mtyIn_js, Ev.mCount_o, Ev.mIndex_o, Ev.mJoin_o, Ev.dRev_eq, Ev.oRev_lst, Ev.oRev_tup, Ev.oRev_str, Ev.dLR1_eq, Ev.dLR2_eq, Ev.augV_f, Ev.dAug_eq, Ev.augW_o, Ev.augX_f, Ev.dTry_eq, Ev.tryV_nx, Ev.tryV_rt, Ev.tryV_exc, Ev.excV_t, Ev.excV_f, Ev.dSeq_eq, Ev.dNop_eq, Ev.dBreak_eq, Ev.dCont_eq, Ev.dRetN_eq, Ev.dRaise_eq, Ev.fz_eq, Ev.dIfS_eq, Ev.dDrop_eq, Ev.rtV_s, Ev.rtV_f, Ev.dRet_eq, Ev.rtSlt_s, Ev.rtSlt_o, Ev.dRetV_eq, Ev.dSet_eq, Ev.put1_s, Ev.put1_f, Ev.dTgt_eq, Ev.dFor_eq, Ev.dWhile_eq, Ev.xNil_eq, Ev.noW_s, Ev.noW_f, Ev.xCons_eq, Ev.optX_some, Ev.dPar_eq, Ev.putX_nil, Ev.putX_s, Ev.putX_f, Ev.dPut_eq, Ev.put2_eq, Ev.putV_dct, Ev.putV_lst, Ev.putV_hnd, Ev.hndPut_0, Ev.hndPut_1, Ev.hasV_s0, Ev.hasV_o0, Ev.hasV_succ, Ev.dApp_eq, Ev.appV_o, Ev.tset_nm, Ev.tset_tp, Ev.tsets_nil, Ev.tsets_nm, Ev.tsets_tp, Ev.oAdd_int, Ev.oSub_int, Ev.oDiv_int, Ev.oMod_int, Ev.oMul_int, Ev.oLt_int, Ev.oLe_int, Ev.oGt_int, Ev.oGe_int, Ev.oEq_int, Ev.oNe_int, Ev.oLen_lst, Ev.oLen_tup, Ev.oTuple_lst, Ev.oTuple_tup, Ev.oList_lst, Ev.oList_tup, Ev.oInt_int, Ev.oIs_nn, Ev.oIs_in, Ev.oIs_bn, Ev.oIs_sn, Ev.oIs_tn, Ev.oIs_ln, Ev.oIs_bb, Ev.oIsN_nn, Ev.oIsN_in, Ev.oIsN_tn, Ev.oIsN_bb, Ev.oMax_2, Ev.oMin_2, Ev.oIx_tup, Ev.oIx_lst, Ev.isaV_non_int, Ev.isaV_non_bool, Ev.isaV_non_tuple, Ev.isaV_non_list, Ev.isaV_non_str, Ev.isaV_non_dict, Ev.isaV_bl_int, Ev.isaV_bl_bool, Ev.isaV_bl_tuple, Ev.isaV_bl_list, Ev.isaV_bl_str, Ev.isaV_bl_dict, Ev.isaV_int_int, Ev.isaV_int_bool, Ev.isaV_int_tuple, Ev.isaV_int_list, Ev.isaV_int_str, Ev.isaV_int_dict, Ev.isaV_str_int, Ev.isaV_str_bool, Ev.isaV_str_tuple, Ev.isaV_str_list, Ev.isaV_str_str, Ev.isaV_str_dict, Ev.isaV_tup_int, Ev.isaV_tup_bool, Ev.isaV_tup_tuple, Ev.isaV_tup_list, Ev.isaV_tup_str, Ev.isaV_tup_dict, Ev.isaV_lst_int, Ev.isaV_lst_bool, Ev.isaV_lst_tuple, Ev.isaV_lst_list, Ev.isaV_lst_str, Ev.isaV_lst_dict, Ev.isaV_dct_int, Ev.isaV_dct_bool, Ev.isaV_dct_tuple, Ev.isaV_dct_list, Ev.isaV_dct_str, Ev.isaV_dct_dict, Ev.oStr_str, Ev.rng_map, Ev.oIx_hnd0, Ev.oIx_hnd1, Ev.lcTurn_eq, Ev.lcTurn2_eq, Ev.wipeE_nil, Ev.wipeE_cons, Ev.noO_nil, Ev.noO_o, Ev.noO_s, Ev.noO_n, Ev.noO_set, Ev.lcGo_nil, Ev.lcGo_cons', Ev.fzE_s0, Ev.fzE_n0, Ev.fzE_o0, Ev.fzE_succ, Ev.rsat_ok, Ev.ssat_nx, Ev.ssat_rt, Ev.ssat_bk, Ev.ssat_ct, Ev.rsat_bind, Ev.rsat_fz, Ev.rsat_nox, Ev.tstP_bl, Ev.rsat_tst, Ev.ssat_sb, Ev.ssat_sq, Ev.rsat_fin, List.getElem?_cons_zero, List.getElem?_cons_succ, List.set_cons_zero, List.set_cons_succ, List.map_cons, List.map_nil, List.length_cons, List.length_nil, List.length_map, List.replicate_succ, List.replicate_zero, List.cons_append, List.nil_append, entry_eq, Option.map_some, Option.map_none, Option.getD_some, Option.getD_none, Option.bind_some, Bool.not_true, Bool.not_false, Bool.false_eq_true, decide_eq_true_eq, Bool.not_eq_true, Bool.not_eq_true', decide_eq_false_iff_not, if_true, if_false, ite_true, ite_false, decide_true, decide_false, Int.toNat_natCast, ne_eq, not_true_eq_false, not_false_eq_true, true_and, and_true, and_self, reduceCtorEq, Nat.zero_add, Nat.reduceAdd, Nat.reduceSub, Nat.reduceLeDiff, Nat.reduceEqDiff, List.length_range, Int.cast_ofNat_Int, Int.reduceLE, Int.reduceLT, Int.le_refl, Nat.le_refl, Int.reduceAdd, Int.reduceSub, Int.reduceMul, Int.reduceNeg, Int.toNat_natCast, Int.natCast_zero, Int.reduceEq, Int.reduceNe, List.flatMap_cons, List.flatMap_nil, $xs,*])
section
def mvT (l : Nat) (p : Sp) : Sp := if p.2.2 = 0 then (if l = 97 then (p.1, p.2.1 - 1, 1) else if l = 98 then (p.1 - 1, p.2.1, 1) else (p.1, p.2.1, 1)) else (if l = 97 then (p.1, p.2.1 + 1, 0) else if l = 98 then (p.1 + 1, p.2.1, 0) else (p.1, p.2.1, 0))
def spT (s : St) : Sp := (s.x, s.y, kd s.up)
theorem mv_spT (l : Nat) (s : St) : spT (mv l s) = mvT l (spT s) := by
  obtain ⟨c0, c1, c2, t, x, y, u⟩ := s
  cases u
  · unfold mv mvT spT
    dsimp only [kd]
    by_cases h1 : l = 97
    · simp [h1]
    · by_cases h2 : l = 98
      · simp [h2]
      · simp [h1, h2]
  · unfold mv mvT spT
    dsimp only [kd]
    by_cases h1 : l = 97
    · simp [h1]
    · by_cases h2 : l = 98
      · simp [h2]
      · simp [h1, h2]
theorem near_all : (fN.all fun p => decide (6 < p.2.length) || [97, 98, 99].all fun l => fN.any fun q => decide (q.1 = mvT l p.1) && decide (q.2.length ≤ p.2.length + 1)) = true := by decide +kernel
def Near (j : Nat) (s : Sp) : Prop := ∃ p ∈ fN, p.1 = s ∧ p.2.length ≤ j
theorem near0 : Near 0 (spT home) := ⟨((0, 0, 0), []), by unfold fN; exact List.mem_cons_self, rfl, Nat.le_refl _⟩
theorem near_step {j : Nat} {s : Sp} {l : Nat} (hl : l = 97 ∨ l = 98 ∨ l = 99) (hj : j ≤ 6) (h : Near j s) : Near (j + 1) (mvT l s) := by
  obtain ⟨p, hp, rfl, hn⟩ := h
  have h1 := List.all_eq_true.mp near_all p hp
  rw [Bool.or_eq_true, decide_eq_true_eq] at h1
  rcases h1 with h1 | h1
  · omega
  · have h2 := List.all_eq_true.mp h1 l (by rcases hl with rfl | rfl | rfl <;> simp)
    obtain ⟨q, hq, e⟩ := List.any_eq_true.mp h2
    rw [Bool.and_eq_true, decide_eq_true_eq, decide_eq_true_eq] at e
    exact ⟨q, hq, e.1, by omega⟩
theorem near_word : ∀ (w : List Nat) (s : St) (j : Nat), Word w → j + w.length ≤ 7 → Near j (spT s) → Near (j + w.length) (spT (endS s w))
  | [], _, _, _, _, h => h
  | a :: r, s, j, hw, hl, h => by
    rw [List.length_cons] at hl
    have h1 := near_step (hw a List.mem_cons_self) (by omega) h
    rw [← mv_spT] at h1
    have h2 := near_word r (mv a s) (j + 1) (fun l hl => hw l (List.mem_cons_of_mem _ hl)) (by omega) h1
    rw [List.length_cons, endS, show j + (r.length + 1) = j + 1 + r.length by omega]
    exact h2
theorem near_end {w : List Nat} (hw : Word w) (hl : w.length ≤ 7) : Near w.length (spT (endS home w)) := by
  have := near_word w home 0 hw (by omega) near0
  rwa [Nat.zero_add] at this
theorem spot_eq (s : St) : spotD s = sp (spT s) := rfl
end
end Kw
end

section
set_option maxHeartbeats 400000
namespace Kw
open PySem PySem.Spec L2 Ev
open PyProof.Rows hiding St
local macro_rules | `(tactic| simp! [$xs,*]) => `(tactic| simp (implicitDefEqProofs := false) only [Ev.bind_ok, Ev.bind_exc, Ev.bind_bad, Ev.sb_ok, Ev.sb_exc, Ev.sq_nx, Ev.sq_rt, Ev.sq_bk, Ev.sq_ct, Ev.sq_exc, Ev.fin_rt, Ev.fin_nx, Ev.fin_exc, Ev.fz_s', Ev.fz_f', Ev.fz_exc', Ev.nox_ok, Ev.dFz_eq, Ev.dC_eq, Ev.dNil_eq, Ev.dCons_eq, Ev.dVar_eq, Ev.slt_s, Ev.slt_o, Ev.optR_some, Ev.optE_some, Ev.optF_some, Ev.dTup_eq, Ev.dLst_eq, Ev.dBin_eq, Ev.dBif_eq, Ev.dIxBy_eq, Ev.tst_bl, Ev.tst_exc, Ev.dT_eq, Ev.tNot_eq, Ev.tAnd_eq, Ev.tOr_eq, Ev.dNot_eq, Ev.andV_bl, Ev.orV_bl, Ev.dAnd_eq, Ev.dOr_eq, Ev.negV_int, Ev.dNeg_eq, Ev.dIf_eq, Ev.chV_bl, Ev.dChain_eq, Ev.dCall_eq, Ev.dIsa_eq, Ev.dYes_eq, Ev.dLc_eq, Ev.dLc2_eq, Ev.itV_lst, Ev.itV_tup, Ev.itV_str, Ev.itV_dct, Ev.dIt_eq, Ev.rngV_int, Ev.dRng1_eq, Ev.rngV2_int, Ev.dRng2_eq, Ev.zipV_eq, Ev.dZip_eq, Ev.dEnum_eq, Ev.dSl_eq, Ev.dNoP_eq, Ev.parV_int, Ev.dP_eq, Ev.dctV_dct, Ev.dGet2_eq, Ev.dGet1_eq, Ev.dDct0_eq, Ev.pNil_eq, Ev.pCons_eq, Ev.dDct_eq, Ev.dM1_eq, Ev.mtyIn_cl, Ev.mtyIn_ct, Ev.mtyIn_il, Ev.mtyIn_js, Ev.mCount_o, Ev.mIndex_o, Ev.mJoin_o, Ev.dRev_eq, Ev.oRev_lst, Ev.oRev_tup, Ev.oRev_str, Ev.dLR1_eq, Ev.dLR2_eq, Ev.augV_f, Ev.dAug_eq, Ev.augW_o, Ev.augX_f, Ev.dTry_eq, Ev.tryV_nx, Ev.tryV_rt, Ev.tryV_exc, Ev.excV_t, Ev.excV_f, Ev.dSeq_eq, Ev.dNop_eq, Ev.dBreak_eq, Ev.dCont_eq, Ev.dRetN_eq, Ev.dRaise_eq, Ev.fz_eq, Ev.dIfS_eq, Ev.dDrop_eq, Ev.rtV_s, Ev.rtV_f, Ev.dRet_eq, Ev.rtSlt_s, Ev.rtSlt_o, Ev.dRetV_eq, Ev.dSet_eq, Ev.put1_s, Ev.put1_f, Ev.dTgt_eq, Ev.dFor_eq, Ev.dWhile_eq, Ev.xNil_eq, Ev.noW_s, Ev.noW_f, Ev.xCons_eq, Ev.optX_some, Ev.dPar_eq, Ev.putX_nil, Ev.putX_s, Ev.putX_f, Ev.dPut_eq, Ev.put2_eq, Ev.putV_dct, Ev.putV_lst, Ev.putV_hnd, Ev.hndPut_0, Ev.hndPut_1, Ev.hasV_s0, Ev.hasV_o0, Ev.hasV_succ, Ev.dApp_eq, Ev.appV_o, Ev.tset_nm, Ev.tset_tp, Ev.tsets_nil, Ev.tsets_nm, Ev.tsets_tp, Ev.oAdd_int, Ev.oSub_int, Ev.oDiv_int, Ev.oMod_int, Ev.oMul_int, Ev.oLt_int, Ev.oLe_int, Ev.oGt_int, Ev.oGe_int, Ev.oEq_int, Ev.oNe_int, Ev.oLen_lst, Ev.oLen_tup, Ev.oTuple_lst, Ev.oTuple_tup, Ev.oList_lst, Ev.oList_tup, Ev.oInt_int, Ev.oIs_nn, Ev.oIs_in, Ev.oIs_bn, Ev.oIs_sn, Ev.oIs_tn, Ev.oIs_ln, Ev.oIs_bb, Ev.oIsN_nn, Ev.oIsN_in, Ev.oIsN_tn, Ev.oIsN_bb, Ev.oMax_2, Ev.oMin_2, Ev.oIx_tup, Ev.oIx_lst, Ev.isaV_non_int, Ev.isaV_non_bool, Ev.isaV_non_tuple, Ev.isaV_non_list, Ev.isaV_non_str, Ev.isaV_non_dict, Ev.isaV_bl_int, Ev.isaV_bl_bool, Ev.isaV_bl_tuple, Ev.isaV_bl_list, Ev.isaV_bl_str, Ev.isaV_bl_dict, Ev.isaV_int_int, Ev.isaV_int_bool, Ev.isaV_int_tuple, Ev.isaV_int_list, Ev.isaV_int_str, Ev.isaV_int_dict, Ev.isaV_str_int, Ev.isaV_str_bool, Ev.isaV_str_tuple, Ev.isaV_str_list, Ev.isaV_str_str, Ev.isaV_str_dict, Ev.isaV_tup_int, Ev.isaV_tup_bool, Ev.isaV_tup_tuple, Ev.isaV_tup_list, Ev.isaV_tup_str, Ev.isaV_tup_dict, Ev.isaV_lst_int, Ev.isaV_lst_bool, Ev.isaV_lst_tuple, Ev.isaV_lst_list, Ev.isaV_lst_str, Ev.isaV_lst_dict, Ev.isaV_dct_int, Ev.isaV_dct_bool, Ev.isaV_dct_tuple, Ev.isaV_dct_list, Ev.isaV_dct_str, Ev.isaV_dct_dict, Ev.oStr_str, Ev.rng_map, Ev.oIx_hnd0, Ev.oIx_hnd1, Ev.lcTurn_eq, Ev.lcTurn2_eq, Ev.wipeE_nil, Ev.wipeE_cons, Ev.noO_nil, Ev.noO_o, Ev.noO_s, Ev.noO_n, Ev.noO_set, Ev.lcGo_nil, Ev.lcGo_cons', Ev.fzE_s0, Ev.fzE_n0, Ev.fzE_o0, Ev.fzE_succ, Ev.rsat_ok, Ev.ssat_nx, Ev.ssat_rt, Ev.ssat_bk, Ev.ssat_ct, Ev.rsat_bind, Ev.rsat_fz, Ev.rsat_nox, Ev.tstP_bl, Ev.rsat_tst, Ev.ssat_sb, Ev.ssat_sq, Ev.rsat_fin, List.getElem?_cons_zero, List.getElem?_cons_succ, List.set_cons_zero, List.set_cons_succ, List.map_cons, List.map_nil, List.length_cons, List.length_nil, List.length_map, List.replicate_succ, List.replicate_zero, List.cons_append, List.nil_append, entry_eq, Option.map_some, Option.map_none, Option.getD_some, Option.getD_none, Option.bind_some, Bool.not_true, Bool.not_false, Bool.false_eq_true, decide_eq_true_eq, Bool.not_eq_true, Bool.not_eq_true', decide_eq_false_iff_not, if_true, if_false, ite_true, ite_false, decide_true, decide_false, Int.toNat_natCast, ne_eq, not_true_eq_false, not_false_eq_true, true_and, and_true, and_self, reduceCtorEq, Nat.zero_add, Nat.reduceAdd, Nat.reduceSub, Nat.reduceLeDiff, Nat.reduceEqDiff, List.length_range, Int.cast_ofNat_Int, Int.reduceLE, Int.reduceLT, Int.le_refl, Nat.le_refl, Int.reduceAdd, Int.reduceSub, Int.reduceMul, Int.reduceNeg, Int.toNat_natCast, Int.natCast_zero, Int.reduceEq, Int.reduceNe, List.flatMap_cons, List.flatMap_nil, $xs,*])
section
variable (n : Nat) (g : Ev.G)
def fK : List (D × D) := fN.map fun p => (sp p.1, .str p.2)
theorem look_all : (fN.map fun p => D.look fK (sp p.1)) = fN.map fun p => some (.str p.2) := by kernel_rfl
theorem look_ok {p : Sp × List Nat} (h : p ∈ fN) : D.look fK (sp p.1) = some (.str p.2) := List.map_inj_left.mp look_all p h
theorem fit_ok (s : Sp) : D.fit fK (sp s) = true := rfl
theorem in_abc {c : Nat} (h : c = 97 ∨ c = 98 ∨ c = 99) (f1 f2 : Fl) : oIn (.str [c], f1) (.str [97, 98, 99], f2) = some (.bl true, .s) := by
  rcases h with rfl | rfl | rfl <;> rfl
theorem fits_word_ok (w : List Nat) (hw : Word w) (hl : w.length ≤ 40) : F (n + 1) i_fits_word [.str w] g = .ok (.bl true, false) g := by
  rw [o_fits_word, d_fits_word]
  have e : ∀ ρ : Env', (lcGo (lcTurn (.nm 2) dYes (dBin oIn (dVar 2) (dC (.str [97, 98, 99]))) (F n) [.s (.str w), .n, .n]) (w.map fun c => D.str [c]) g) = .ok (w.map fun _ => D.bl true) g := fun _ => by
    refine lc_map (fun _ => D.bl true) fun c hc => ?_
    simp! [lcTurn, dYes, in_abc (hw c hc)]
  have e2 := e []
  have e3 : ((w.length : Nat) : Int) ≤ 40 := by omega
  have e4 : oLen [.str w] = some (.int (w.length : Nat), .s) := by
    unfold oLen
    exact if_pos (LN_le (by omega))
  simp! [e2, LN_le (show w.length ≤ 10000000 by omega), e3, oAll_map, all_tt, e4]
theorem need_word_ok (w : List Nat) (hw : Word w) (hl : w.length ≤ 40) : F (n + 2) i_need_word [.str w] g = .ok (.non, false) g := by
  rw [o_need_word, d_need_word]
  simp! [fits_word_ok n g w hw hl]
theorem first_ok (n : Nat) (g : Ev.G) {p : Sp × List Nat} (h : p ∈ fN) : F (n + 4) i_first_in [sp p.1] g = .ok (.str p.2, false) g := List.map_inj_left.mp (first_all n g) p h
theorem end_at (w : List Nat) (s : St) : L2.atI ((al s w).map stD) (-1) = some (stD (endS s w)) := by
  obtain ⟨p, hp⟩ := al_last w s
  rw [hp, List.map_append]
  exact atLast _ _
theorem a21 (a b : D) : L2.atI [a, b] 1 = some b := rfl
theorem alike_ok (w : List Nat) (hw : Word w) (hl : w.length ≤ 40) {p : Sp × List Nat} (hp : p ∈ fN) (he : p.1 = spT (endS home w)) : F (n + 5) i_first_alike [.str w] g = .ok (.str p.2, false) g := by
  have e1 := first_ok n g hp
  rw [he] at e1
  change F (n + 4) i_first_in [spotD (endS home w)] g = _ at e1
  rw [o_first_alike, d_first_alike]
  simp! [need_word_ok (n + 2) g w hw hl, along_ok (n + 1) g w hw (by omega), end_at, stD, a21, e1]
theorem shp_all : (fN.all fun p => (D.str p.2).shp) = true := by kernel_rfl
theorem shp_ok {p : Sp × List Nat} (h : p ∈ fN) : (D.str p.2).shp = true := List.all_eq_true.mp shp_all p h
theorem r2 (w : List Nat) (hw : Word w) (hl : w.length ≤ 7) (z2 z3 : Slt) : d_r2 (F 39) [.s (.hnd 0), .s fD, z2, z3, .s (.str w), .n, .n] g = .nx [.s (.hnd 0), .s fD, z2, z3, .s (.str w), .n, .n] g := by
  obtain ⟨p, hp, he, hn⟩ := near_end hw hl
  have e1 := alike_ok 34 g w hw (by omega) hp he
  have e2 := look_ok hp
  rw [he] at e2
  change D.look fK (spotD (endS home w)) = _ at e2
  have e3 : D.fit fK (spotD (endS home w)) = true := fit_ok (spT (endS home w))
  have e4 : fD = .dct fK := rfl
  have sm : F 39 i__law_same [.str p.2, .str p.2] g = .ok (.bl true, false) g := same_refl 0 38 _ g (shp_ok hp)
  simp only [Nat.reduceAdd] at e1
  rw [d_r2, e4]
  simp! [e1, stands_ok 36 g w hw (by omega), end_at, stD, a21, oIx, oIxS, oIxD, e2, e3, sm, if_true]
end
end Kw
end

section
set_option maxHeartbeats 400000
namespace Kw
open PySem PySem.Spec L2 Ev
open PyProof.Rows hiding St
local macro_rules | `(tactic| simp! [$xs,*]) => `(tactic| simp (implicitDefEqProofs := false) only [Ev.bind_ok, Ev.bind_exc, Ev.bind_bad, Ev.sb_ok, Ev.sb_exc, Ev.sq_nx, Ev.sq_rt, Ev.sq_bk, Ev.sq_ct, Ev.sq_exc, Ev.fin_rt, Ev.fin_nx, Ev.fin_exc, Ev.fz_s', Ev.fz_f', Ev.fz_exc', Ev.nox_ok, Ev.dFz_eq, Ev.dC_eq, Ev.dNil_eq, Ev.dCons_eq, Ev.dVar_eq, Ev.slt_s, Ev.slt_o, Ev.optR_some, Ev.optE_some, Ev.optF_some, Ev.dTup_eq, Ev.dLst_eq, Ev.dBin_eq, Ev.dBif_eq, Ev.dIxBy_eq, Ev.tst_bl, Ev.tst_exc, Ev.dT_eq, Ev.tNot_eq, Ev.tAnd_eq, Ev.tOr_eq, Ev.dNot_eq, Ev.andV_bl, Ev.orV_bl, Ev.dAnd_eq, Ev.dOr_eq, Ev.negV_int, Ev.dNeg_eq, Ev.dIf_eq, Ev.chV_bl, Ev.dChain_eq, Ev.dCall_eq, Ev.dIsa_eq, Ev.dYes_eq, Ev.dLc_eq, Ev.dLc2_eq, Ev.itV_lst, Ev.itV_tup, Ev.itV_str, Ev.itV_dct, Ev.dIt_eq, Ev.rngV_int, Ev.dRng1_eq, Ev.rngV2_int, Ev.dRng2_eq, Ev.zipV_eq, Ev.dZip_eq, Ev.dEnum_eq, Ev.dSl_eq, Ev.dNoP_eq, Ev.parV_int, Ev.dP_eq, Ev.dctV_dct, Ev.dGet2_eq, Ev.dGet1_eq, Ev.dDct0_eq, Ev.pNil_eq, Ev.pCons_eq, Ev.dDct_eq, Ev.dM1_eq, Ev.mtyIn_cl, Ev.mtyIn_ct, Ev.mtyIn_il, Ev.mtyIn_js, Ev.mCount_o, Ev.mIndex_o, Ev.mJoin_o, Ev.dRev_eq, Ev.oRev_lst, Ev.oRev_tup, Ev.oRev_str, Ev.dLR1_eq, Ev.dLR2_eq, Ev.augV_f, Ev.dAug_eq, Ev.augW_o, Ev.augX_f, Ev.dTry_eq, Ev.tryV_nx, Ev.tryV_rt, Ev.tryV_exc, Ev.excV_t, Ev.excV_f, Ev.dSeq_eq, Ev.dNop_eq, Ev.dBreak_eq, Ev.dCont_eq, Ev.dRetN_eq, Ev.dRaise_eq, Ev.fz_eq, Ev.dIfS_eq, Ev.dDrop_eq, Ev.rtV_s, Ev.rtV_f, Ev.dRet_eq, Ev.rtSlt_s, Ev.rtSlt_o, Ev.dRetV_eq, Ev.dSet_eq, Ev.put1_s, Ev.put1_f, Ev.dTgt_eq, Ev.dFor_eq, Ev.dWhile_eq, Ev.xNil_eq, Ev.noW_s, Ev.noW_f, Ev.xCons_eq, Ev.optX_some, Ev.dPar_eq, Ev.putX_nil, Ev.putX_s, Ev.putX_f, Ev.dPut_eq, Ev.put2_eq, Ev.putV_dct, Ev.putV_lst, Ev.putV_hnd, Ev.hndPut_0, Ev.hndPut_1, Ev.hasV_s0, Ev.hasV_o0, Ev.hasV_succ, Ev.dApp_eq, Ev.appV_o, Ev.tset_nm, Ev.tset_tp, Ev.tsets_nil, Ev.tsets_nm, Ev.tsets_tp, Ev.oAdd_int, Ev.oSub_int, Ev.oDiv_int, Ev.oMod_int, Ev.oMul_int, Ev.oLt_int, Ev.oLe_int, Ev.oGt_int, Ev.oGe_int, Ev.oEq_int, Ev.oNe_int, Ev.oLen_lst, Ev.oLen_tup, Ev.oTuple_lst, Ev.oTuple_tup, Ev.oList_lst, Ev.oList_tup, Ev.oInt_int, Ev.oIs_nn, Ev.oIs_in, Ev.oIs_bn, Ev.oIs_sn, Ev.oIs_tn, Ev.oIs_ln, Ev.oIs_bb, Ev.oIsN_nn, Ev.oIsN_in, Ev.oIsN_tn, Ev.oIsN_bb, Ev.oMax_2, Ev.oMin_2, Ev.oIx_tup, Ev.oIx_lst, Ev.isaV_non_int, Ev.isaV_non_bool, Ev.isaV_non_tuple, Ev.isaV_non_list, Ev.isaV_non_str, Ev.isaV_non_dict, Ev.isaV_bl_int, Ev.isaV_bl_bool, Ev.isaV_bl_tuple, Ev.isaV_bl_list, Ev.isaV_bl_str, Ev.isaV_bl_dict, Ev.isaV_int_int, Ev.isaV_int_bool, Ev.isaV_int_tuple, Ev.isaV_int_list, Ev.isaV_int_str, Ev.isaV_int_dict, Ev.isaV_str_int, Ev.isaV_str_bool, Ev.isaV_str_tuple, Ev.isaV_str_list, Ev.isaV_str_str, Ev.isaV_str_dict, Ev.isaV_tup_int, Ev.isaV_tup_bool, Ev.isaV_tup_tuple, Ev.isaV_tup_list, Ev.isaV_tup_str, Ev.isaV_tup_dict, Ev.isaV_lst_int, Ev.isaV_lst_bool, Ev.isaV_lst_tuple, Ev.isaV_lst_list, Ev.isaV_lst_str, Ev.isaV_lst_dict, Ev.isaV_dct_int, Ev.isaV_dct_bool, Ev.isaV_dct_tuple, Ev.isaV_dct_list, Ev.isaV_dct_str, Ev.isaV_dct_dict, Ev.oStr_str, Ev.rng_map, Ev.oIx_hnd0, Ev.oIx_hnd1, Ev.lcTurn_eq, Ev.lcTurn2_eq, Ev.wipeE_nil, Ev.wipeE_cons, Ev.noO_nil, Ev.noO_o, Ev.noO_s, Ev.noO_n, Ev.noO_set, Ev.lcGo_nil, Ev.lcGo_cons', Ev.fzE_s0, Ev.fzE_n0, Ev.fzE_o0, Ev.fzE_succ, Ev.rsat_ok, Ev.ssat_nx, Ev.ssat_rt, Ev.ssat_bk, Ev.ssat_ct, Ev.rsat_bind, Ev.rsat_fz, Ev.rsat_nox, Ev.tstP_bl, Ev.rsat_tst, Ev.ssat_sb, Ev.ssat_sq, Ev.rsat_fin, List.getElem?_cons_zero, List.getElem?_cons_succ, List.set_cons_zero, List.set_cons_succ, List.map_cons, List.map_nil, List.length_cons, List.length_nil, List.length_map, List.replicate_succ, List.replicate_zero, List.cons_append, List.nil_append, entry_eq, Option.map_some, Option.map_none, Option.getD_some, Option.getD_none, Option.bind_some, Bool.not_true, Bool.not_false, Bool.false_eq_true, decide_eq_true_eq, Bool.not_eq_true, Bool.not_eq_true', decide_eq_false_iff_not, if_true, if_false, ite_true, ite_false, decide_true, decide_false, Int.toNat_natCast, ne_eq, not_true_eq_false, not_false_eq_true, true_and, and_true, and_self, reduceCtorEq, Nat.zero_add, Nat.reduceAdd, Nat.reduceSub, Nat.reduceLeDiff, Nat.reduceEqDiff, List.length_range, Int.cast_ofNat_Int, Int.reduceLE, Int.reduceLT, Int.le_refl, Nat.le_refl, Int.reduceAdd, Int.reduceSub, Int.reduceMul, Int.reduceNeg, Int.toNat_natCast, Int.natCast_zero, Int.reduceEq, Int.reduceNe, List.flatMap_cons, List.flatMap_nil, $xs,*])
section
theorem near_mem {j : Nat} {s : Sp} (h : Near j s) (hj : j ≤ 7) {i : Nat} (hi : j ≤ i) : s ∈ nearN i := by
  obtain ⟨p, hp, rfl, hn⟩ := h
  unfold nearN
  exact List.mem_map.mpr ⟨p, List.mem_filter.mpr ⟨hp, by rw [decide_eq_true_eq]; omega⟩, rfl⟩
theorem r1 (g : Ev.G) (z : Slt) {s : Sp} (h : s ∈ sN) : d_r1 (F 39) [.s (.hnd 0), .s fD, z, .s (sp s), .n, .n, .n] g = .nx [.s (.hnd 0), .s fD, z, .s (sp s), .n, .n, .n] g := List.map_inj_left.mp (r1_all g z) s h
theorem right_sat (x y : Int) : (F 40 i__law_right [.hnd 0, fD] (some (x, y))).Sat fun r g' => r = (.bl true, false) ∧ ∃ x y, g' = some (x, y) := by
  rw [o__law_right 39, r_right]
  simp! [smallI_nat 6 (by omega), show smallI 6 = true from rfl, show (6 : Int).toNat = 6 from rfl]
  refine sat_rng (fun j ρ g' => (∃ x y, g' = some (x, y)) ∧ ∃ z w, ρ = [.s (.hnd 0), .s fD, z, w, .n, .n, .n]) ⟨⟨_, _, rfl⟩, _, _, rfl⟩ ?_ ?_
  · rintro j hj ρ g' ⟨⟨x, y, rfl⟩, z, w, rfl⟩
    refine ⟨_, tset_nm .., ?_⟩
    simp! [sort_ok]
    refine some_lst 37 sp sN (by decide) (by decide) fun s hs x y => ?_
    simp! [r1 _ _ hs]
    exact ⟨⟨_, _, rfl⟩, _, _, rfl⟩
  · rintro ρ g' ⟨⟨x, y, rfl⟩, z, w, rfl⟩
    simp! []
    refine word_sat 36 7 (by omega) fun u hu hl x y => ?_
    simp! [r2 _ u hu hl, d_r3]
    refine word_sat 36 4 (by omega) fun u1 hu1 hl1 x y => ?_
    simp! [stands_ok 36 _ u1 hu1 (by omega), end_at, stD, a21]
    refine word_sat 36 3 (by omega) fun u2 hu2 hl2 x y => ?_
    simp! [stands_ok 36 _ u2 hu2 (by omega), end_at, stD, a21]
    have e := r4 (some (x, y)) z w (.s (.str u)) (near_mem (near_end hu1 (by omega)) (by omega) hl1) (near_mem (near_end hu2 (by omega)) (by omega) hl2)
    rw [spot_eq, spot_eq, e]
    exact ⟨rfl, _, _, rfl⟩
end
end Kw
end

section
set_option maxHeartbeats 400000
namespace Kw
open PySem PySem.Spec L2 Ev
open PyProof.Rows hiding St
local macro_rules | `(tactic| simp! [$xs,*]) => `(tactic| simp (implicitDefEqProofs := false) only [Ev.bind_ok, Ev.bind_exc, Ev.bind_bad, Ev.sb_ok, Ev.sb_exc, Ev.sq_nx, Ev.sq_rt, Ev.sq_bk, Ev.sq_ct, Ev.sq_exc, Ev.fin_rt, Ev.fin_nx, Ev.fin_exc, Ev.fz_s', Ev.fz_f', Ev.fz_exc', Ev.nox_ok, Ev.dFz_eq, Ev.dC_eq, Ev.dNil_eq, Ev.dCons_eq, Ev.dVar_eq, Ev.slt_s, Ev.slt_o, Ev.optR_some, Ev.optE_some, Ev.optF_some, Ev.dTup_eq, Ev.dLst_eq, Ev.dBin_eq, Ev.dBif_eq, Ev.dIxBy_eq, Ev.tst_bl, Ev.tst_exc, Ev.dT_eq, Ev.tNot_eq, Ev.tAnd_eq, Ev.tOr_eq, Ev.dNot_eq, Ev.andV_bl, Ev.orV_bl, Ev.dAnd_eq, Ev.dOr_eq, Ev.negV_int, Ev.dNeg_eq, Ev.dIf_eq, Ev.chV_bl, Ev.dChain_eq, Ev.dCall_eq, Ev.dIsa_eq, Ev.dYes_eq, Ev.dLc_eq, Ev.dLc2_eq, Ev.itV_lst, Ev.itV_tup, Ev.itV_str, Ev.itV_dct, Ev.dIt_eq, Ev.rngV_int, Ev.dRng1_eq, Ev.rngV2_int, Ev.dRng2_eq, Ev.zipV_eq, Ev.dZip_eq, Ev.dEnum_eq, Ev.dSl_eq, Ev.dNoP_eq, Ev.parV_int, Ev.dP_eq, Ev.dctV_dct, Ev.dGet2_eq, Ev.dGet1_eq, Ev.dDct0_eq, Ev.pNil_eq, Ev.pCons_eq, Ev.dDct_eq, Ev.dM1_eq, Ev.mtyIn_cl, Ev.mtyIn_ct, Ev.mtyIn_il, Ev.mtyIn_js, Ev.mCount_o, Ev.mIndex_o, Ev.mJoin_o, Ev.dRev_eq, Ev.oRev_lst, Ev.oRev_tup, Ev.oRev_str, Ev.dLR1_eq, Ev.dLR2_eq, Ev.augV_f, Ev.dAug_eq, Ev.augW_o, Ev.augX_f, Ev.dTry_eq, Ev.tryV_nx, Ev.tryV_rt, Ev.tryV_exc, Ev.excV_t, Ev.excV_f, Ev.dSeq_eq, Ev.dNop_eq, Ev.dBreak_eq, Ev.dCont_eq, Ev.dRetN_eq, Ev.dRaise_eq, Ev.fz_eq, Ev.dIfS_eq, Ev.dDrop_eq, Ev.rtV_s, Ev.rtV_f, Ev.dRet_eq, Ev.rtSlt_s, Ev.rtSlt_o, Ev.dRetV_eq, Ev.dSet_eq, Ev.put1_s, Ev.put1_f, Ev.dTgt_eq, Ev.dFor_eq, Ev.dWhile_eq, Ev.xNil_eq, Ev.noW_s, Ev.noW_f, Ev.xCons_eq, Ev.optX_some, Ev.dPar_eq, Ev.putX_nil, Ev.putX_s, Ev.putX_f, Ev.dPut_eq, Ev.put2_eq, Ev.putV_dct, Ev.putV_lst, Ev.putV_hnd, Ev.hndPut_0, Ev.hndPut_1, Ev.hasV_s0, Ev.hasV_o0, Ev.hasV_succ, Ev.dApp_eq, Ev.appV_o, Ev.tset_nm, Ev.tset_tp, Ev.tsets_nil, Ev.tsets_nm, Ev.tsets_tp, Ev.oAdd_int, Ev.oSub_int, Ev.oDiv_int, Ev.oMod_int, Ev.oMul_int, Ev.oLt_int, Ev.oLe_int, Ev.oGt_int, Ev.oGe_int, Ev.oEq_int, Ev.oNe_int, Ev.oLen_lst, Ev.oLen_tup, Ev.oTuple_lst, Ev.oTuple_tup, Ev.oList_lst, Ev.oList_tup, Ev.oInt_int, Ev.oIs_nn, Ev.oIs_in, Ev.oIs_bn, Ev.oIs_sn, Ev.oIs_tn, Ev.oIs_ln, Ev.oIs_bb, Ev.oIsN_nn, Ev.oIsN_in, Ev.oIsN_tn, Ev.oIsN_bb, Ev.oMax_2, Ev.oMin_2, Ev.oIx_tup, Ev.oIx_lst, Ev.isaV_non_int, Ev.isaV_non_bool, Ev.isaV_non_tuple, Ev.isaV_non_list, Ev.isaV_non_str, Ev.isaV_non_dict, Ev.isaV_bl_int, Ev.isaV_bl_bool, Ev.isaV_bl_tuple, Ev.isaV_bl_list, Ev.isaV_bl_str, Ev.isaV_bl_dict, Ev.isaV_int_int, Ev.isaV_int_bool, Ev.isaV_int_tuple, Ev.isaV_int_list, Ev.isaV_int_str, Ev.isaV_int_dict, Ev.isaV_str_int, Ev.isaV_str_bool, Ev.isaV_str_tuple, Ev.isaV_str_list, Ev.isaV_str_str, Ev.isaV_str_dict, Ev.isaV_tup_int, Ev.isaV_tup_bool, Ev.isaV_tup_tuple, Ev.isaV_tup_list, Ev.isaV_tup_str, Ev.isaV_tup_dict, Ev.isaV_lst_int, Ev.isaV_lst_bool, Ev.isaV_lst_tuple, Ev.isaV_lst_list, Ev.isaV_lst_str, Ev.isaV_lst_dict, Ev.isaV_dct_int, Ev.isaV_dct_bool, Ev.isaV_dct_tuple, Ev.isaV_dct_list, Ev.isaV_dct_str, Ev.isaV_dct_dict, Ev.oStr_str, Ev.rng_map, Ev.oIx_hnd0, Ev.oIx_hnd1, Ev.lcTurn_eq, Ev.lcTurn2_eq, Ev.wipeE_nil, Ev.wipeE_cons, Ev.noO_nil, Ev.noO_o, Ev.noO_s, Ev.noO_n, Ev.noO_set, Ev.lcGo_nil, Ev.lcGo_cons', Ev.fzE_s0, Ev.fzE_n0, Ev.fzE_o0, Ev.fzE_succ, Ev.rsat_ok, Ev.ssat_nx, Ev.ssat_rt, Ev.ssat_bk, Ev.ssat_ct, Ev.rsat_bind, Ev.rsat_fz, Ev.rsat_nox, Ev.tstP_bl, Ev.rsat_tst, Ev.ssat_sb, Ev.ssat_sq, Ev.rsat_fin, List.getElem?_cons_zero, List.getElem?_cons_succ, List.set_cons_zero, List.set_cons_succ, List.map_cons, List.map_nil, List.length_cons, List.length_nil, List.length_map, List.replicate_succ, List.replicate_zero, List.cons_append, List.nil_append, entry_eq, Option.map_some, Option.map_none, Option.getD_some, Option.getD_none, Option.bind_some, Bool.not_true, Bool.not_false, Bool.false_eq_true, decide_eq_true_eq, Bool.not_eq_true, Bool.not_eq_true', decide_eq_false_iff_not, if_true, if_false, ite_true, ite_false, decide_true, decide_false, Int.toNat_natCast, ne_eq, not_true_eq_false, not_false_eq_true, true_and, and_true, and_self, reduceCtorEq, Nat.zero_add, Nat.reduceAdd, Nat.reduceSub, Nat.reduceLeDiff, Nat.reduceEqDiff, List.length_range, Int.cast_ofNat_Int, Int.reduceLE, Int.reduceLT, Int.le_refl, Nat.le_refl, Int.reduceAdd, Int.reduceSub, Int.reduceMul, Int.reduceNeg, Int.toNat_natCast, Int.natCast_zero, Int.reduceEq, Int.reduceNe, List.flatMap_cons, List.flatMap_nil, $xs,*])
section
def d_t3 : DenS := (fz 4 (fz 5 (dSet 6 (dTup (dCons (dFz (dCall i_fewest_rolls (dCons (dFz (dTup (dCons (dFz (dVar 4)) (dCons (dFz (dC (.int 0))) (dCons (dFz (dC (.int 1))) dNil))))) dNil))) (dCons (dFz (dCall i_fewest_rolls (dCons (dFz (dTup (dCons (dFz (dBin oSub (dC (.int 0)) (dVar 4))) (dCons (dFz (dC (.int 0))) (dCons (dFz (dC (.int 1))) dNil))))) dNil))) (dCons (dFz (dCall i_rolls_between (dCons (dFz (dVar 5)) (dCons (dFz (dTup (dCons (dFz (dVar 4)) (dCons (dFz (dC (.int 0))) (dCons (dFz (dC (.int 0))) dNil))))) dNil)))) (dCons (dFz (dCall i_rolls_between (dCons (dFz (dVar 5)) (dCons (dFz (dVar 5)) dNil)))) dNil))))))))
def d_t4 : DenS := (fz 6 (dIfS (tNot' (dT (dCall i__law_same (dCons (dFz (dVar 6)) (dCons (dFz (dTup (dCons (dFz (dBin oAdd (dBin oMulA (dC (.int 2)) (dVar 4)) (dC (.int 1)))) (dCons (dFz (dBin oSub (dBin oMulA (dC (.int 2)) (dVar 4)) (dC (.int 1)))) (dCons (dFz (dBin oSub (dBin oMulA (dC (.int 2)) (dVar 4)) (dC (.int 1)))) (dCons (dFz (dC (.int 0))) dNil)))))) dNil))))) (dRet (dC (.bl false))) dNop))
theorem r_T3 : d_lawT3 = dSeq d_t3 (dSeq d_t4 d_lawT5) := rfl
def told3 (e : Int) : D := .tup [.int (2 * e + 1), .int (2 * e - 1), .int (2 * e - 1), .int 0]
theorem lt6 {v : Nat} (h : v < 6) : v = 0 ∨ v = 1 ∨ v = 2 ∨ v = 3 ∨ v = 4 ∨ v = 5 := by omega
theorem lt7 {k : Nat} (h : k < 7) : k = 0 ∨ k = 1 ∨ k = 2 ∨ k = 3 ∨ k = 4 ∨ k = 5 ∨ k = 6 := by omega
theorem t3 (v : Nat) (h : v < 6) (s a b z6 z7 : Slt) (g : Ev.G) : d_t3 (F 40) [s, .s (.hnd 0), a, b, .s (.int (1 + (v : Int))), .s (.tup [.int 0, .int 0, .int 1]), z6, z7] g = .nx [s, .s (.hnd 0), a, b, .s (.int (1 + (v : Int))), .s (.tup [.int 0, .int 0, .int 1]), .s (told3 (1 + v)), z7] g := by
  rcases lt6 h with rfl | rfl | rfl | rfl | rfl | rfl <;> kernel_rfl
theorem t4 (v : Nat) (h : v < 6) (s a b z7 : Slt) (g : Ev.G) : d_t4 (F 40) [s, .s (.hnd 0), a, b, .s (.int (1 + (v : Int))), .s (.tup [.int 0, .int 0, .int 1]), .s (told3 (1 + v)), z7] g = .nx [s, .s (.hnd 0), a, b, .s (.int (1 + (v : Int))), .s (.tup [.int 0, .int 0, .int 1]), .s (told3 (1 + v)), z7] g := by
  rcases lt6 h with rfl | rfl | rfl | rfl | rfl | rfl <;> kernel_rfl
theorem t6 (k : Nat) (h : k < 7) (s a b c d e : Slt) (g : Ev.G) : d_lawT6 (F 40) [s, .s (.hnd 0), a, b, c, d, e, .s (.int k)] g = .rt (.bl true) false g := by
  rcases lt7 h with rfl | rfl | rfl | rfl | rfl | rfl | rfl <;> kernel_rfl
end
end Kw
end

section
set_option maxHeartbeats 400000
namespace Kw
open PySem PySem.Spec L2 Ev
open PyProof.Rows hiding St
local macro_rules | `(tactic| simp! [$xs,*]) => `(tactic| simp (implicitDefEqProofs := false) only [Ev.bind_ok, Ev.bind_exc, Ev.bind_bad, Ev.sb_ok, Ev.sb_exc, Ev.sq_nx, Ev.sq_rt, Ev.sq_bk, Ev.sq_ct, Ev.sq_exc, Ev.fin_rt, Ev.fin_nx, Ev.fin_exc, Ev.fz_s', Ev.fz_f', Ev.fz_exc', Ev.nox_ok, Ev.dFz_eq, Ev.dC_eq, Ev.dNil_eq, Ev.dCons_eq, Ev.dVar_eq, Ev.slt_s, Ev.slt_o, Ev.optR_some, Ev.optE_some, Ev.optF_some, Ev.dTup_eq, Ev.dLst_eq, Ev.dBin_eq, Ev.dBif_eq, Ev.dIxBy_eq, Ev.tst_bl, Ev.tst_exc, Ev.dT_eq, Ev.tNot_eq, Ev.tAnd_eq, Ev.tOr_eq, Ev.dNot_eq, Ev.andV_bl, Ev.orV_bl, Ev.dAnd_eq, Ev.dOr_eq, Ev.negV_int, Ev.dNeg_eq, Ev.dIf_eq, Ev.chV_bl, Ev.dChain_eq, Ev.dCall_eq, Ev.dIsa_eq, Ev.dYes_eq, Ev.dLc_eq, Ev.dLc2_eq, Ev.itV_lst, Ev.itV_tup, Ev.itV_str, Ev.itV_dct, Ev.dIt_eq, Ev.rngV_int, Ev.dRng1_eq, Ev.rngV2_int, Ev.dRng2_eq, Ev.zipV_eq, Ev.dZip_eq, Ev.dEnum_eq, Ev.dSl_eq, Ev.dNoP_eq, Ev.parV_int, Ev.dP_eq, Ev.dctV_dct, Ev.dGet2_eq, Ev.dGet1_eq, Ev.dDct0_eq, Ev.pNil_eq, Ev.pCons_eq, Ev.dDct_eq, Ev.dM1_eq, Ev.mtyIn_cl, Ev.mtyIn_ct, Ev.mtyIn_il, Ev.mtyIn_js, Ev.mCount_o, Ev.mIndex_o, Ev.mJoin_o, Ev.dRev_eq, Ev.oRev_lst, Ev.oRev_tup, Ev.oRev_str, Ev.dLR1_eq, Ev.dLR2_eq, Ev.augV_f, Ev.dAug_eq, Ev.augW_o, Ev.augX_f, Ev.dTry_eq, Ev.tryV_nx, Ev.tryV_rt, Ev.tryV_exc, Ev.excV_t, Ev.excV_f, Ev.dSeq_eq, Ev.dNop_eq, Ev.dBreak_eq, Ev.dCont_eq, Ev.dRetN_eq, Ev.dRaise_eq, Ev.fz_eq, Ev.dIfS_eq, Ev.dDrop_eq, Ev.rtV_s, Ev.rtV_f, Ev.dRet_eq, Ev.rtSlt_s, Ev.rtSlt_o, Ev.dRetV_eq, Ev.dSet_eq, Ev.put1_s, Ev.put1_f, Ev.dTgt_eq, Ev.dFor_eq, Ev.dWhile_eq, Ev.xNil_eq, Ev.noW_s, Ev.noW_f, Ev.xCons_eq, Ev.optX_some, Ev.dPar_eq, Ev.putX_nil, Ev.putX_s, Ev.putX_f, Ev.dPut_eq, Ev.put2_eq, Ev.putV_dct, Ev.putV_lst, Ev.putV_hnd, Ev.hndPut_0, Ev.hndPut_1, Ev.hasV_s0, Ev.hasV_o0, Ev.hasV_succ, Ev.dApp_eq, Ev.appV_o, Ev.tset_nm, Ev.tset_tp, Ev.tsets_nil, Ev.tsets_nm, Ev.tsets_tp, Ev.oAdd_int, Ev.oSub_int, Ev.oDiv_int, Ev.oMod_int, Ev.oMul_int, Ev.oLt_int, Ev.oLe_int, Ev.oGt_int, Ev.oGe_int, Ev.oEq_int, Ev.oNe_int, Ev.oLen_lst, Ev.oLen_tup, Ev.oTuple_lst, Ev.oTuple_tup, Ev.oList_lst, Ev.oList_tup, Ev.oInt_int, Ev.oIs_nn, Ev.oIs_in, Ev.oIs_bn, Ev.oIs_sn, Ev.oIs_tn, Ev.oIs_ln, Ev.oIs_bb, Ev.oIsN_nn, Ev.oIsN_in, Ev.oIsN_tn, Ev.oIsN_bb, Ev.oMax_2, Ev.oMin_2, Ev.oIx_tup, Ev.oIx_lst, Ev.isaV_non_int, Ev.isaV_non_bool, Ev.isaV_non_tuple, Ev.isaV_non_list, Ev.isaV_non_str, Ev.isaV_non_dict, Ev.isaV_bl_int, Ev.isaV_bl_bool, Ev.isaV_bl_tuple, Ev.isaV_bl_list, Ev.isaV_bl_str, Ev.isaV_bl_dict, Ev.isaV_int_int, Ev.isaV_int_bool, Ev.isaV_int_tuple, Ev.isaV_int_list, Ev.isaV_int_str, Ev.isaV_int_dict, Ev.isaV_str_int, Ev.isaV_str_bool, Ev.isaV_str_tuple, Ev.isaV_str_list, Ev.isaV_str_str, Ev.isaV_str_dict, Ev.isaV_tup_int, Ev.isaV_tup_bool, Ev.isaV_tup_tuple, Ev.isaV_tup_list, Ev.isaV_tup_str, Ev.isaV_tup_dict, Ev.isaV_lst_int, Ev.isaV_lst_bool, Ev.isaV_lst_tuple, Ev.isaV_lst_list, Ev.isaV_lst_str, Ev.isaV_lst_dict, Ev.isaV_dct_int, Ev.isaV_dct_bool, Ev.isaV_dct_tuple, Ev.isaV_dct_list, Ev.isaV_dct_str, Ev.isaV_dct_dict, Ev.oStr_str, Ev.rng_map, Ev.oIx_hnd0, Ev.oIx_hnd1, Ev.lcTurn_eq, Ev.lcTurn2_eq, Ev.wipeE_nil, Ev.wipeE_cons, Ev.noO_nil, Ev.noO_o, Ev.noO_s, Ev.noO_n, Ev.noO_set, Ev.lcGo_nil, Ev.lcGo_cons', Ev.fzE_s0, Ev.fzE_n0, Ev.fzE_o0, Ev.fzE_succ, Ev.rsat_ok, Ev.ssat_nx, Ev.ssat_rt, Ev.ssat_bk, Ev.ssat_ct, Ev.rsat_bind, Ev.rsat_fz, Ev.rsat_nox, Ev.tstP_bl, Ev.rsat_tst, Ev.ssat_sb, Ev.ssat_sq, Ev.rsat_fin, List.getElem?_cons_zero, List.getElem?_cons_succ, List.set_cons_zero, List.set_cons_succ, List.map_cons, List.map_nil, List.length_cons, List.length_nil, List.length_map, List.replicate_succ, List.replicate_zero, List.cons_append, List.nil_append, entry_eq, Option.map_some, Option.map_none, Option.getD_some, Option.getD_none, Option.bind_some, Bool.not_true, Bool.not_false, Bool.false_eq_true, decide_eq_true_eq, Bool.not_eq_true, Bool.not_eq_true', decide_eq_false_iff_not, if_true, if_false, ite_true, ite_false, decide_true, decide_false, Int.toNat_natCast, ne_eq, not_true_eq_false, not_false_eq_true, true_and, and_true, and_self, reduceCtorEq, Nat.zero_add, Nat.reduceAdd, Nat.reduceSub, Nat.reduceLeDiff, Nat.reduceEqDiff, List.length_range, Int.cast_ofNat_Int, Int.reduceLE, Int.reduceLT, Int.le_refl, Nat.le_refl, Int.reduceAdd, Int.reduceSub, Int.reduceMul, Int.reduceNeg, Int.toNat_natCast, Int.natCast_zero, Int.reduceEq, Int.reduceNe, List.flatMap_cons, List.flatMap_nil, $xs,*])
section
theorem says : Ev.LawSays (F 40) 8 1 d_law0 d_law1 63 := by
  refine says_of 8 _ _ (fun ns x y e => by rw [d_law0]; simp! [e]) fun s x y => ?_
  show (d_law1 (F 40) [.s s, .s (.hnd 0), .n, .n, .n, .n, .n, .n] (some (x, y))).Sat _
  rw [d_law1, d_lawT0]
  simp! [waves 36, d_lawT1]
  refine (right_sat x y).mono fun r g h => ?_
  obtain ⟨rfl, x, y, rfl⟩ := h
  simp! [d_lawT2]
  refine roll_sat 39 6 (by decide) (by decide) fun v x y hv => ?_
  simp! [LN_le (show 3 ≤ 10000000 by omega), r_T3, t3 v hv, t4 v hv, d_lawT5]
  refine roll_sat 39 7 (by decide) (by decide) fun k x y hk => ?_
  simp! [t6 k hk]
end
end Kw
end

section
set_option maxHeartbeats 0
namespace Kw
open PySem PySem.Spec PyProof.Rows L2
abbrev R : PySem.W.OpenRow := PySem.W.OpenLaw.row PySem.Challenge.rw_diceyard_k84_whole_fewest_rolls
abbrev hk : PySem.W.Hook := Ev.hookE 4 (Ev.faOf p) (Ev.fnOf p) [] (Ev.treesOf p)
def ob (s : PySem.W.SharedT) : Ev.AlE := Ev.obsE 4 (Ev.faOf p) (Ev.fnOf p) [] (Ev.treesOf p) (HandSHeadRun.getT s)
theorem ob_eq (s : PySem.W.SharedT) : ob s = hk.obs s.abs := Ev.obsE_eq (HandSHeadRun.getT_eq s)
def names : List PySem.Str := (p.main.scope.names.map (·.1)).filter fun x => !(x == ("law" : PySem.Str) || x == ("__name__" : PySem.Str) || x == ("ValueError" : PySem.Str))
set_option Elab.async false in
theorem run (w : World) : HandSHeadRun.RunEq R (PySem.W.view R.prog [42]) hk ob 4000 names w := by
  refine PySem.W.byRow2 "special-get-raises" (P := fun w => HandSHeadRun.RunEq R (PySem.W.view R.prog [42]) hk ob 4000 names w) (fun w => ?_) (fun w => ?_) w
  · intro os
    kernel_rfl
  · intro os
    kernel_rfl
theorem told : Ev.Told p (fun i => L[i]?) := Ev.told_of L_eq (by kernel_rfl) (by kernel_rfl)
def law : Stmt := p.main.body.getD 42 (.Pass ⟨0, 0, 0, 0⟩)
theorem law_row : Ev.lawRow (Ev.tabOf p) law = some (d_law0, d_law1) := by kernel_rfl
theorem lawOk : Ev.LawOk (Ev.tabOf p) (Ev.mkD law) 8 1 d_law0 d_law1 := Ev.lawOk_of law_row (by kernel_rfl) (by kernel_rfl) (by kernel_rfl) (by decide) (by decide)
theorem lawBind (kV doc pm : Value) (an : Option Addr) (cdv ct : Value) (us : List Value) (hl : us.length = 1) : bindArgs (PySem.W.fnOf (Ev.mkD law).name (Ev.mkD law).qual (Ev.mkD law).params (Ev.mkD law).body (Ev.mkD law).scope .none kV doc pm an cdv ct) ⟨us, []⟩ = pure ((["script"] : List Str).zip us) := by
  obtain ⟨_, _, _, _, _, _, _, _, _, _, h⟩ := lawOk.ex
  exact h kV doc pm an cdv ct us hl
end Kw
open PySem PySem.W PySem.Calls PyProof.Rows
theorem PySem.Challenge.cw_diceyard_k84_whole_fewest_rolls_holds : PySem.Challenge.rw_diceyard_k84_whole_fewest_rolls.Holds := by
  w_on; o_law
  refine HandSHeadRun.head_any (r := OpenLaw.row PySem.Challenge.rw_diceyard_k84_whole_fewest_rolls) (q := view (OpenLaw.row PySem.Challenge.rw_diceyard_k84_whole_fewest_rolls).prog [42]) (H := Kw.hk) (ob := Kw.ob) (M := 4000) (loose := Kw.names) (d := HandSHeadRun.topDef (OpenLaw.row PySem.Challenge.rw_diceyard_k84_whole_fewest_rolls).prog 42) (kwd := []) Kw.ob_eq
    (by kernel_rfl) (fun s => by kernel_rfl) Kw.run (by kernel_rfl) (by kernel_rfl) (by kernel_rfl) (by rfl) (by first | assumption | decide +kernel) (by decide +kernel) ⟨rfl, rfl, rfl, rfl, rfl, by decide +kernel⟩ ?hw ?hc
  case hw => w_witness2
  case hc =>
    refine Ev.walk_w (l := PySem.Challenge.rw_diceyard_k84_whole_fewest_rolls) (n := 63) (k := 83) rfl (by decide) (by kernel_rfl) ⟨rfl, by decide, by decide⟩ ?F
    intro w mg fa h Y G hmg0
    obtain ⟨K, KX, c⟩ := Y
    have hmg : mg ("law" : PySem.Str) = some (.ref fa) := by
      have e : (HandSHeadRun.topDef (OpenLaw.row PySem.Challenge.rw_diceyard_k84_whole_fewest_rolls).prog 42).name = ("law" : PySem.Str) := by kernel_rfl
      rw [← e]
      exact hmg0
    obtain ⟨fd, hb, hF⟩ := Ev.law_of (P := (PySem.Challenge.rw_diceyard_k84_whole_fewest_rolls).prog) (w := w) (lv := 40) KX G c.1.t.d c.2 Kw.told (il := 26) (sl := Kw.law) (by kernel_rfl) (by kernel_rfl) hmg Kw.lawOk Kw.says Kw.lawBind
    exact ⟨K, fd, KX, hb, hF⟩
end
