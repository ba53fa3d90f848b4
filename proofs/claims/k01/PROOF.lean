import PyProof.Rows.All
import Wide.All
import OpenK.AllK
import Wide.FinOn
import HandS.ForMost
import HandS.Exc
import HandS.ExcOwn
import HandS.WordsExc
import HandS.TryOnly
import HandS.CallSlots
import HandS.IsInst
import HandS.Flow
import HandS.Style
import HandS.SortInts
import HandS.Wide
import HandS.Zip
import HandS.Deep
import HandS.TupLe
import HandS.More
import HandS.Conv
import HandS.Ends
import HandS.TupAny
import HandS.SetFor
import HandS.Small
import PyProof.ReprRoads
import PyProof.ReprLen
import KE.KDictZip
import HandS.Iter
import HandS.TupSets
import PySem.Challenge.RW_ordersapart_k01_what_is_an_order
set_option Elab.async false
set_option linter.all false
set_option maxRecDepth 1000000
/-! Z1: trees that a frame owns, what is frozen, the two heaps. -/
namespace Z
open PySem L2

def kD : Key → PyData
  | .inl i => .int i
  | .inr s => .str s

mutual
/-- the value v stands, frozen in F, for the data d -/
inductive Dq (K : PySem.W.Frag) (F : Hp) : V → PyData → Prop
  | non : Dq K F .non .none
  | bl (b : Bool) : Dq K F (.bl b) (.bool b)
  | int (i : Int) : Dq K F (.int i) (.int i)
  | str (x : Str) : Dq K F (.str x) (.str x)
  | lst {a : Addr} {xs : List V} {ds : List PyData} : F a = some (.lst xs) → DqL K F xs ds → Dq K F (.ref a) (.list ds)
  | tup {a : Addr} {xs : List V} {ds : List PyData} : SqT K F a xs → DqL K F xs ds → Dq K F (.ref a) (.tuple ds)
  | dct {a : Addr} {kvs : List (Key × V)} {des : List (PyData × PyData)} : F a = some (.dK kvs) → DqE K F kvs des → Dq K F (.ref a) (.dict des)
inductive DqL (K : PySem.W.Frag) (F : Hp) : List V → List PyData → Prop
  | nil : DqL K F [] []
  | cons {v : V} {vs : List V} {d : PyData} {ds : List PyData} : Dq K F v d → DqL K F vs ds → DqL K F (v :: vs) (d :: ds)
inductive DqE (K : PySem.W.Frag) (F : Hp) : List (Key × V) → List (PyData × PyData) → Prop
  | nil : DqE K F [] []
  | cons {k : Key} {v : V} {vs : List (Key × V)} {d : PyData} {ds : List (PyData × PyData)} : Dq K F v d → DqE K F vs ds → DqE K F ((k, v) :: vs) ((kD k, d) :: ds)
end

/-- F' has all of F -/
def Le (F F' : Hp) : Prop := ∀ a o, F a = some o → F' a = some o
theorem Le.refl (F : Hp) : Le F F := fun _ _ h => h
theorem Le.trans {F G H : Hp} (a : Le F G) (b : Le G H) : Le F H := fun c o h => b c o (a c o h)
theorem Le.new {F : Hp} {a : Addr} {o : HO} (h : F a = none) : Le F (upd F a o) := fun b u e => by
  rw [upd_ne (ne_of_none e h)]
  exact e
theorem Le.none {F F' : Hp} (l : Le F F') {a : Addr} (h : F' a = none) : F a = none := by
  cases q : F a with
  | none => rfl
  | some o =>
    rw [l a o q] at h
    cases h
theorem Le.sqt {K : PySem.W.Frag} {F F' : Hp} {a : Addr} {xs : List V} (l : Le F F') (h : SqT K F a xs) : SqT K F' a xs := by
  rcases h with (h | ⟨o, h⟩) | h
  · exact .inl (.inl (l _ _ h))
  · exact .inl (.inr ⟨o, l _ _ h⟩)
  · exact .inr h
theorem Le.sql {K : PySem.W.Frag} {F F' : Hp} {a : Addr} {xs : List V} (l : Le F F') (h : SqL K F a xs) : SqL K F' a xs := by
  rcases h with (h | ⟨o, h⟩) | h
  · exact .inl (.inl (l _ _ h))
  · exact .inl (.inr ⟨o, l _ _ h⟩)
  · exact .inr h

section
variable {K : PySem.W.Frag} {F F' : Hp}
mutual
theorem Dq.le (l : Le F F') : ∀ {v : V} {d : PyData}, Dq K F v d → Dq K F' v d
  | _, _, .non => .non
  | _, _, .bl b => .bl b
  | _, _, .int i => .int i
  | _, _, .str x => .str x
  | _, _, .lst h hs => .lst (l _ _ h) (DqL.le l hs)
  | _, _, .tup h hs => .tup (l.sqt h) (DqL.le l hs)
  | _, _, .dct h hs => .dct (l _ _ h) (DqE.le l hs)
theorem DqL.le (l : Le F F') : ∀ {v : List V} {d : List PyData}, DqL K F v d → DqL K F' v d
  | _, _, .nil => .nil
  | _, _, .cons h hs => .cons (Dq.le l h) (DqL.le l hs)
theorem DqE.le (l : Le F F') : ∀ {v : List (Key × V)} {d : List (PyData × PyData)}, DqE K F v d → DqE K F' v d
  | _, _, .nil => .nil
  | _, _, .cons h hs => .cons (Dq.le l h) (DqE.le l hs)
end
theorem DqL.length : ∀ {vs : List V} {ds : List PyData}, DqL K F vs ds → vs.length = ds.length
  | _, _, .nil => rfl
  | _, _, .cons _ h => by rw [List.length_cons, List.length_cons, DqL.length h]
theorem DqL.get : ∀ {vs : List V} {ds : List PyData} {i : Nat} {d : PyData}, DqL K F vs ds → ds[i]? = some d → ∃ v, vs[i]? = some v ∧ Dq K F v d
  | _, _, _, _, .nil, e => by simp at e
  | _, _, 0, _, .cons h _, e => by
    simp at e
    subst e
    exact ⟨_, rfl, h⟩
  | _, _, i + 1, d, .cons _ t, e => by
    obtain ⟨u, h1, h2⟩ := DqL.get (i := i) (d := d) t (by simpa using e)
    exact ⟨u, by simpa using h1, h2⟩
theorem DqL.getV : ∀ {vs : List V} {ds : List PyData} {i : Nat} {v : V}, DqL K F vs ds → vs[i]? = some v → ∃ d, ds[i]? = some d ∧ Dq K F v d
  | _, _, _, _, .nil, e => by simp at e
  | _, _, 0, _, .cons h _, e => by
    simp at e
    subst e
    exact ⟨_, rfl, h⟩
  | _, _, i + 1, v, .cons _ t, e => by
    obtain ⟨u, h1, h2⟩ := DqL.getV (i := i) (v := v) t (by simpa using e)
    exact ⟨u, by simpa using h1, h2⟩
theorem DqL.append : ∀ {vs ws : List V} {ds es : List PyData}, DqL K F vs ds → DqL K F ws es → DqL K F (vs ++ ws) (ds ++ es)
  | _, _, _, _, .nil, h => h
  | _, _, _, _, .cons a t, h => .cons a (DqL.append t h)
theorem DqL.take : ∀ {vs : List V} {ds : List PyData} (n : Nat), DqL K F vs ds → DqL K F (vs.take n) (ds.take n)
  | _, _, 0, _ => by simpa using .nil
  | _, _, _ + 1, .nil => .nil
  | _, _, n + 1, .cons a t => .cons a (DqL.take n t)
theorem DqL.drop : ∀ {vs : List V} {ds : List PyData} (n : Nat), DqL K F vs ds → DqL K F (vs.drop n) (ds.drop n)
  | _, _, 0, h => by simpa using h
  | _, _, _ + 1, .nil => .nil
  | _, _, n + 1, .cons _ t => DqL.drop n t
theorem DqL.reverse {vs : List V} {ds : List PyData} (h : DqL K F vs ds) : DqL K F vs.reverse ds.reverse := by
  induction vs generalizing ds with
  | nil => cases h; exact .nil
  | cons v vs ih =>
    cases h with
    | cons a t =>
      rw [List.reverse_cons, List.reverse_cons]
      exact (ih t).append (.cons a .nil)
theorem DqL.ofInts : ∀ ns : List Int, DqL K F (ns.map V.int) (ns.map PyData.int)
  | [] => .nil
  | n :: r => .cons (.int n) (DqL.ofInts r)
theorem DqL.ints : ∀ {vs : List V} {ns : List Int}, DqL K F vs (ns.map PyData.int) → vs = ns.map V.int
  | _, [], .nil => rfl
  | _, _ :: _, .cons h t => by
    cases h
    rw [DqL.ints t]
    rfl
theorem DqL.snoc {vs : List V} {ds : List PyData} {v : V} {d : PyData} (h : DqL K F vs ds) (q : Dq K F v d) : DqL K F (vs ++ [v]) (ds ++ [d]) := h.append (.cons q .nil)
end

/-! ### leaves, trees -/
/-- what never changes: data, the script, an error that was caught -/
inductive LF where
  | d (x : PyData) | s (ns : List Int) | e (c : Nat)
def LfOk (K : PySem.W.Frag) (F : Hp) (v : V) : LF → Prop
  | .d x => Dq K F v x
  | .s ns => ∃ a, v = .ref a ∧ SqL K F a (ns.map V.int)
  | .e _ => False
theorem LfOk.le {K : PySem.W.Frag} {F F' : Hp} (l : Le F F') {v : V} : ∀ {x : LF}, LfOk K F v x → LfOk K F' v x
  | .d _, h => Dq.le l h
  | .s _, ⟨a, e, h⟩ => ⟨a, e, l.sql h⟩
  | .e _, h => h

/-- a tree as it is reckoned with -/
inductive IV where
  | lf (l : LF)
  | nd (t : Bool) (xs : List IV)
  | dk (kvs : List (Key × PyData))
/-- the same with its places -/
inductive AT where
  | lf (v : V) (l : LF)
  | nd (a : Addr) (t : Bool) (xs : List AT)
  | dk (a : Addr) (kvs : List (Key × V × PyData))

abbrev IV.d (x : PyData) : IV := .lf (.d x)
abbrev IV.ls (xs : List IV) : IV := .nd true xs
abbrev IV.tp (xs : List IV) : IV := .nd false xs

def mkHO (t : Bool) (vs : List V) : HO := if t then .lst vs else .tup vs
def AT.val : AT → V
  | .lf v _ => v
  | .nd a _ _ => .ref a
  | .dk a _ => .ref a
mutual
def AT.er : AT → IV
  | .lf _ l => .lf l
  | .nd _ t xs => .nd t (AT.erL xs)
  | .dk _ kvs => .dk (kvs.map fun e => (e.1, e.2.2))
def AT.erL : List AT → List IV
  | [] => []
  | x :: xs => x.er :: AT.erL xs
end
mutual
def AT.nodes : AT → List (Addr × HO)
  | .lf _ _ => []
  | .nd a t xs => (a, mkHO t (xs.map AT.val)) :: AT.nodesL xs
  | .dk a kvs => [(a, .dK (kvs.map fun e => (e.1, e.2.1)))]
def AT.nodesL : List AT → List (Addr × HO)
  | [] => []
  | x :: xs => x.nodes ++ AT.nodesL xs
end
mutual
def AT.leaves : AT → List (V × LF)
  | .lf v l => [(v, l)]
  | .nd _ _ xs => AT.leavesL xs
  | .dk _ kvs => kvs.map fun e => (e.2.1, .d e.2.2)
def AT.leavesL : List AT → List (V × LF)
  | [] => []
  | x :: xs => x.leaves ++ AT.leavesL xs
end
theorem AT.erL_map : ∀ xs : List AT, AT.erL xs = xs.map AT.er
  | [] => by simp [AT.erL]
  | x :: xs => by simp [AT.erL, AT.erL_map xs]
theorem AT.nodesL_append : ∀ xs ys : List AT, AT.nodesL (xs ++ ys) = AT.nodesL xs ++ AT.nodesL ys
  | [], ys => by simp [AT.nodesL]
  | x :: xs, ys => by simp [AT.nodesL, AT.nodesL_append xs ys]
theorem AT.leavesL_append : ∀ xs ys : List AT, AT.leavesL (xs ++ ys) = AT.leavesL xs ++ AT.leavesL ys
  | [], ys => by simp [AT.leavesL]
  | x :: xs, ys => by simp [AT.leavesL, AT.leavesL_append xs ys]

/-! ### the data of a tree -/
mutual
def IV.toD : IV → Option PyData
  | .lf (.d x) => some x
  | .lf _ => none
  | .nd t xs => match IV.toDL xs with
    | some ds => some (if t then .list ds else .tuple ds)
    | none => none
  | .dk kvs => some (.dict (kvs.map fun e => (kD e.1, e.2)))
def IV.toDL : List IV → Option (List PyData)
  | [] => some []
  | x :: xs => match x.toD, IV.toDL xs with
    | some d, some ds => some (d :: ds)
    | _, _ => none
end
theorem IV.toDL_d : ∀ ds : List PyData, IV.toDL (ds.map IV.d) = some ds
  | [] => by simp [IV.toDL]
  | d :: ds => by simp [IV.toDL, IV.toD, IV.toDL_d ds]

/-! ### the state's bag: the nodes that are owned, the leaves that are frozen -/
structure Gh where
  F0 : Hp
  H0 : Hp
  I0 : List Addr
structure CB (K : PySem.W.Frag) (g : Gh) (F H : Hp) (N : List (Addr × HO)) (L : List (V × LF)) : Prop where
  sub : Le F H
  nd : (N.map (·.1)).Nodup
  at_ : ∀ p ∈ N, H p.1 = some p.2
  off : ∀ p ∈ N, F p.1 = none
  lf : ∀ q ∈ L, LfOk K F q.1 q.2
  keep : ∀ a o, g.H0 a = some o → a ∉ g.I0 → H a = some o
  keepF : Le g.F0 F
  newN : ∀ p ∈ N, p.1 ∈ g.I0 ∨ g.H0 p.1 = none
  newF : ∀ a o, F a = some o → g.F0 a = some o ∨ a ∈ g.I0 ∨ g.H0 a = none

/-- a part of a bag -/
def Sb {α : Type} (A B : List α) : Prop := ∃ R, B.Perm (A ++ R)
theorem Sb.refl {α : Type} (A : List α) : Sb A A := ⟨[], by simp⟩
theorem Sb.of_perm {α : Type} {A B : List α} (h : B.Perm A) : Sb A B := ⟨[], by simpa using h⟩
theorem Sb.mem {α : Type} {A B : List α} (h : Sb A B) {x : α} (hx : x ∈ A) : x ∈ B := by
  obtain ⟨R, p⟩ := h
  exact p.symm.subset (List.mem_append_left R hx)
theorem Sb.trans {α : Type} {A B C : List α} (h : Sb A B) (k : Sb B C) : Sb A C := by
  obtain ⟨R, p⟩ := h
  obtain ⟨S, q⟩ := k
  refine ⟨R ++ S, q.trans ?_⟩
  rw [← List.append_assoc]
  exact p.append_right S
theorem Sb.right {α : Type} (A B : List α) : Sb B (A ++ B) := ⟨A, List.perm_append_comm⟩
theorem Sb.left {α : Type} (A B : List α) : Sb A (A ++ B) := ⟨B, List.Perm.refl _⟩
theorem Sb.app {α : Type} {A B C D : List α} (h : Sb A B) (k : Sb C D) : Sb (A ++ C) (B ++ D) := by
  obtain ⟨R, p⟩ := h
  obtain ⟨S, q⟩ := k
  refine ⟨R ++ S, (p.append q).trans ?_⟩
  simp only [List.append_assoc]
  refine List.Perm.append_left A ?_
  rw [← List.append_assoc, ← List.append_assoc]
  exact List.perm_append_comm.append_right S
theorem Sb.tail {α : Type} {A B C : List α} (h : Sb A B) : Sb (C ++ A) (C ++ B) := (Sb.refl C).app h
theorem Sb.head {α : Type} {A B C : List α} (h : Sb A B) : Sb (A ++ C) (B ++ C) := h.app (Sb.refl C)
theorem perm3 {α : Type} (A B C : List α) : (A ++ (B ++ C)).Perm (B ++ (A ++ C)) := by
  rw [← List.append_assoc, ← List.append_assoc]
  exact List.perm_append_comm.append_right C
theorem Sb.swap {α : Type} (A B C : List α) : Sb (B ++ (A ++ C)) (A ++ (B ++ C)) := .of_perm (perm3 A B C)

section
variable {K : PySem.W.Frag} {g : Gh} {F H : Hp} {N N' : List (Addr × HO)} {L L' : List (V × LF)} {a : Addr} {o : HO} {v : V} {vs : List V} {ds : List PyData}
theorem CB.sb (c : CB K g F H N L) (n : Sb N' N) (l : ∀ q ∈ L', q ∈ L) : CB K g F H N' L' where
  sub := c.sub
  nd := by
    obtain ⟨R, p⟩ := n
    have q := (p.map (·.1)).nodup_iff.mp c.nd
    rw [List.map_append] at q
    exact (List.nodup_append.mp q).1
  at_ := fun p hp => c.at_ p (n.mem hp)
  off := fun p hp => c.off p (n.mem hp)
  lf := fun q hq => c.lf q (l q hq)
  keep := c.keep
  keepF := c.keepF
  newN := fun p hp => c.newN p (n.mem hp)
  newF := c.newF
theorem CB.sb2 (c : CB K g F H N L) (n : Sb N' N) (l : Sb L' L) : CB K g F H N' L' := c.sb n fun _ hq => l.mem hq
/-- a new leaf -/
theorem CB.leaf (c : CB K g F H N L) {l : LF} (h : LfOk K F v l) : CB K g F H N ((v, l) :: L) :=
  ⟨c.sub, c.nd, c.at_, c.off, fun q hq => (List.mem_cons.mp hq).elim (fun e => e ▸ h) (c.lf q), c.keep, c.keepF, c.newN, c.newF⟩
theorem CB.h0 (c : CB K g F H N L) (h : H a = none) : a ∉ g.I0 → g.H0 a = none := fun hi => by
  cases q : g.H0 a with
  | none => rfl
  | some o =>
    have e := c.keep a o q hi
    rw [h] at e
    cases e
/-- a new object, owned -/
theorem CB.alloc (c : CB K g F H N L) (h : H a = none) : CB K g F (upd H a o) ((a, o) :: N) L where
  sub := fun b u e => by
    have q := c.sub b u e
    rw [upd_ne (ne_of_none q h)]
    exact q
  nd := by
    rw [List.map_cons]
    refine List.nodup_cons.mpr ⟨fun hm => ?_, c.nd⟩
    obtain ⟨p, hp, e⟩ := List.mem_map.mp hm
    have q := c.at_ p hp
    rw [e, h] at q
    cases q
  at_ := fun p hp => by
    rcases List.mem_cons.mp hp with rfl | hp
    · exact upd_same
    · have q := c.at_ p hp
      rw [upd_ne (ne_of_none q h)]
      exact q
  off := fun p hp => by
    rcases List.mem_cons.mp hp with rfl | hp
    · exact c.sub.none h
    · exact c.off p hp
  lf := c.lf
  keep := fun b u e hi => by
    have q := c.keep b u e hi
    rw [upd_ne (ne_of_none q h)]
    exact q
  keepF := c.keepF
  newN := fun p hp => by
    rcases List.mem_cons.mp hp with rfl | hp
    · by_cases hi : a ∈ g.I0
      · exact .inl hi
      · exact .inr (c.h0 h hi)
    · exact c.newN p hp
  newF := c.newF
/-- an owned node becomes frozen -/
theorem CB.frz (c : CB K g F H ((a, o) :: N) L) : CB K g (upd F a o) H N L ∧ Le F (upd F a o) := by
  have hF : F a = none := c.off _ List.mem_cons_self
  have hH : H a = some o := c.at_ _ List.mem_cons_self
  have nd := c.nd
  rw [List.map_cons] at nd
  obtain ⟨hna, nd'⟩ := List.nodup_cons.mp nd
  have l : Le F (upd F a o) := Le.new hF
  refine ⟨⟨fun b u e => ?_, nd', fun p hp => c.at_ p (List.mem_cons_of_mem _ hp), fun p hp => ?_, fun q hq => (c.lf q hq).le l, c.keep, c.keepF.trans l, fun p hp => c.newN p (List.mem_cons_of_mem _ hp), fun b u e => ?_⟩, l⟩
  · by_cases hb : b = a
    · subst hb
      rw [upd_same] at e
      cases e
      exact hH
    · rw [upd_ne hb] at e
      exact c.sub b u e
  · have hpa : p.1 ≠ a := fun q => hna (List.mem_map.mpr ⟨p, hp, q⟩)
    rw [upd_ne hpa]
    exact c.off p (List.mem_cons_of_mem _ hp)
  · by_cases hb : b = a
    · subst hb
      exact .inr (c.newN _ List.mem_cons_self)
    · rw [upd_ne hb] at e
      exact c.newF b u e
/-- an owned node is written -/
theorem CB.wr (c : CB K g F H ((a, o) :: N) L) (o' : HO) : CB K g F (upd H a o') ((a, o') :: N) L := by
  have hF : F a = none := c.off _ List.mem_cons_self
  have nd := c.nd
  rw [List.map_cons] at nd
  obtain ⟨hna, nd'⟩ := List.nodup_cons.mp nd
  have hw := c.newN _ List.mem_cons_self
  refine ⟨fun b u e => ?_, by rw [List.map_cons]; exact nd, fun p hp => ?_, fun p hp => ?_, c.lf, fun b u e hi => ?_, c.keepF, fun p hp => ?_, c.newF⟩
  · have hb : b ≠ a := ne_of_none e hF
    rw [upd_ne hb]
    exact c.sub b u e
  · rcases List.mem_cons.mp hp with rfl | hp
    · exact upd_same
    · have hpa : p.1 ≠ a := fun q => hna (List.mem_map.mpr ⟨p, hp, q⟩)
      rw [upd_ne hpa]
      exact c.at_ p (List.mem_cons_of_mem _ hp)
  · rcases List.mem_cons.mp hp with rfl | hp
    · exact hF
    · exact c.off p (List.mem_cons_of_mem _ hp)
  · have hb : b ≠ a := fun q => by
      subst q
      rcases hw with h | h
      · exact hi h
      · have h' : g.H0 b = none := h
        rw [e] at h'
        cases h'
    rw [upd_ne hb]
    exact c.keep b u e hi
  · rcases List.mem_cons.mp hp with rfl | hp
    · exact hw
    · exact c.newN p (List.mem_cons_of_mem _ hp)
/-- a new frozen object -/
theorem CB.allocF (c : CB K g F H N L) (h : H a = none) : CB K g (upd F a o) (upd H a o) N L ∧ Le F (upd F a o) := (c.alloc h).frz
end

/-! ### a tree freezes -/
theorem ho_t (vs : List V) : mkHO true vs = .lst vs := rfl
theorem ho_f (vs : List V) : mkHO false vs = .tup vs := rfl
theorem dqe_of {K : PySem.W.Frag} {F : Hp} : ∀ {kvs : List (Key × V × PyData)}, (∀ q ∈ kvs.map (fun e => ((e.2.1, LF.d e.2.2) : V × LF)), LfOk K F q.1 q.2) → DqE K F (kvs.map fun e => (e.1, e.2.1)) (kvs.map fun e => (kD e.1, e.2.2))
  | [], _ => .nil
  | e :: r, h => .cons (show LfOk K F e.2.1 (LF.d e.2.2) from h (e.2.1, LF.d e.2.2) List.mem_cons_self) (dqe_of fun q hq => h q (List.mem_cons_of_mem _ hq))
mutual
theorem CB.freeze {K : PySem.W.Frag} {g : Gh} {H : Hp} {N : List (Addr × HO)} {L : List (V × LF)} : ∀ (t : AT) {F : Hp} {d : PyData}, CB K g F H (t.nodes ++ N) (t.leaves ++ L) → t.er.toD = some d → ∃ F', CB K g F' H N L ∧ Le F F' ∧ Dq K F' t.val d
  | .lf v (.d x), F, d, c, e => by
    simp only [AT.er, IV.toD, Option.some.injEq] at e
    subst e
    exact ⟨F, c.sb (.refl _) fun q hq => List.mem_append_right _ hq, .refl F, c.lf (v, .d x) (by simp [AT.leaves])⟩
  | .lf v (.s ns), F, d, c, e => by simp [AT.er, IV.toD] at e
  | .lf v (.e k), F, d, c, e => by simp [AT.er, IV.toD] at e
  | .nd a t xs, F, d, c, e => by
    simp only [AT.er, IV.toD] at e
    cases hx : IV.toDL (AT.erL xs) with
    | none => rw [hx] at e; simp at e
    | some ds =>
      rw [hx] at e
      simp only [Option.some.injEq] at e
      have c' : CB K g F H (AT.nodesL xs ++ ((a, mkHO t (xs.map AT.val)) :: N)) (AT.leavesL xs ++ L) := by
        refine c.sb ?_ fun q hq => by simpa [AT.leaves] using hq
        simp only [AT.nodes]
        refine .of_perm ?_
        exact List.perm_middle.symm
      obtain ⟨F1, c1, l1, q1⟩ := CB.freezeL xs c' hx
      obtain ⟨c2, l2⟩ := c1.frz
      refine ⟨_, c2, l1.trans l2, ?_⟩
      subst e
      have e1 : (upd F1 a (mkHO t (xs.map AT.val))) a = some (mkHO t (xs.map AT.val)) := upd_same
      cases t with
      | true => exact .lst e1 (q1.le l2)
      | false => exact .tup (SqT.of e1) (q1.le l2)
  | .dk a kvs, F, d, c, e => by
    simp only [AT.er, IV.toD, Option.some.injEq] at e
    subst e
    have c' : CB K g F H ((a, .dK (kvs.map fun e => (e.1, e.2.1))) :: N) ((kvs.map fun e => (e.2.1, LF.d e.2.2)) ++ L) := c
    have hl := fun q hq => c'.lf q (List.mem_append_left _ hq)
    obtain ⟨c2, l2⟩ := c'.frz
    refine ⟨_, c2.sb (.refl _) fun q hq => List.mem_append_right _ hq, l2, ?_⟩
    rw [List.map_map]
    exact .dct upd_same ((dqe_of hl).le l2)
theorem CB.freezeL {K : PySem.W.Frag} {g : Gh} {H : Hp} {N : List (Addr × HO)} {L : List (V × LF)} : ∀ (ts : List AT) {F : Hp} {ds : List PyData}, CB K g F H (AT.nodesL ts ++ N) (AT.leavesL ts ++ L) → IV.toDL (AT.erL ts) = some ds → ∃ F', CB K g F' H N L ∧ Le F F' ∧ DqL K F' (ts.map AT.val) ds
  | [], F, ds, c, e => by
    simp only [AT.erL, IV.toDL, Option.some.injEq] at e
    subst e
    exact ⟨F, c, .refl F, .nil⟩
  | t :: ts, F, ds, c, e => by
    simp only [AT.erL, IV.toDL] at e
    cases h1 : t.er.toD with
    | none => rw [h1] at e; simp at e
    | some d =>
      cases h2 : IV.toDL (AT.erL ts) with
      | none => rw [h1, h2] at e; simp at e
      | some ds' =>
        rw [h1, h2] at e
        simp only [Option.some.injEq] at e
        subst e
        have c' : CB K g F H (t.nodes ++ (AT.nodesL ts ++ N)) (t.leaves ++ (AT.leavesL ts ++ L)) := by
          simpa [AT.nodesL, AT.leavesL, List.append_assoc] using c
        obtain ⟨F1, c1, l1, q1⟩ := CB.freeze t c' h1
        obtain ⟨F2, c2, l2, q2⟩ := CB.freezeL ts c1 h2
        exact ⟨F2, c2, l1.trans l2, .cons (q1.le l2) q2⟩
end
end Z
/-! Z2: paths, environments, the judgement of an expression. -/
namespace Z
open PySem L2

/-! ### paths -/
def IV.kids : IV → List IV
  | .nd _ xs => xs
  | _ => []
def AT.kids : AT → List AT
  | .nd _ _ xs => xs
  | _ => []
def IV.getP : IV → List Nat → Option IV
  | t, [] => some t
  | t, i :: p => match t.kids[i]? with
    | some x => x.getP p
    | none => none
def AT.getP : AT → List Nat → Option AT
  | t, [] => some t
  | t, i :: p => match t.kids[i]? with
    | some x => x.getP p
    | none => none
def IV.setK : IV → Nat → IV → IV
  | .nd t xs, i, u => .nd t (xs.set i u)
  | t, _, _ => t
def AT.setK : AT → Nat → AT → AT
  | .nd a t xs, i, u => .nd a t (xs.set i u)
  | t, _, _ => t
def IV.setP : IV → List Nat → IV → IV
  | _, [], u => u
  | t, i :: p, u => match t.kids[i]? with
    | some x => t.setK i (x.setP p u)
    | none => t
def AT.setP : AT → List Nat → AT → AT
  | _, [], u => u
  | t, i :: p, u => match t.kids[i]? with
    | some x => t.setK i (x.setP p u)
    | none => t
theorem AT.er_kids (t : AT) : t.er.kids = t.kids.map AT.er := by
  cases t <;> simp [AT.er, IV.kids, AT.kids, AT.erL_map]
theorem AT.er_getP : ∀ (p : List Nat) (t : AT), t.er.getP p = (t.getP p).map AT.er
  | [], t => by simp [IV.getP, AT.getP]
  | i :: p, t => by
    simp only [IV.getP, AT.getP, AT.er_kids, List.getElem?_map]
    cases t.kids[i]? with
    | none => rfl
    | some x => simpa using AT.er_getP p x
theorem AT.er_setK (t : AT) (i : Nat) (u : AT) : (t.setK i u).er = t.er.setK i u.er := by
  cases t <;> simp [AT.er, IV.setK, AT.setK, AT.erL_map, List.map_set]
theorem AT.er_setP : ∀ (p : List Nat) (t u : AT), (t.setP p u).er = t.er.setP p u.er
  | [], t, u => by simp [IV.setP, AT.setP]
  | i :: p, t, u => by
    simp only [IV.setP, AT.setP, AT.er_kids, List.getElem?_map]
    cases h : t.kids[i]? with
    | none => rfl
    | some x =>
      simp only [Option.map_some]
      rw [AT.er_setK, AT.er_setP p x u]
theorem AT.val_setK (t : AT) (i : Nat) (u : AT) : (t.setK i u).val = t.val := by cases t <;> rfl
theorem AT.val_setP : ∀ (p : List Nat) (t u s : AT), t.getP p = some s → u.val = s.val → (t.setP p u).val = t.val
  | [], t, u, s, h, e => by
    simp only [AT.getP, Option.some.injEq] at h
    subst h
    exact e
  | i :: p, t, u, s, h, e => by
    simp only [AT.getP] at h
    simp only [AT.setP]
    cases hx : t.kids[i]? with
    | none => rfl
    | some x => exact AT.val_setK _ _ _
/-- a node's part of a list of trees -/
theorem nodesL_split {xs : List AT} {i : Nat} {x : AT} (h : xs[i]? = some x) :
    ∃ R S, (∀ y, (AT.nodesL (xs.set i y)).Perm (y.nodes ++ R)) ∧ (∀ y, (AT.leavesL (xs.set i y)).Perm (y.leaves ++ S)) := by
  refine ⟨AT.nodesL (xs.take i) ++ AT.nodesL (xs.drop (i + 1)), AT.leavesL (xs.take i) ++ AT.leavesL (xs.drop (i + 1)), fun y => ?_, fun y => ?_⟩
  · rw [List.set_eq_take_append_cons_drop, if_pos (List.getElem?_eq_some_iff.mp h).1, AT.nodesL_append]
    simp only [AT.nodesL]
    exact perm3 _ _ _
  · rw [List.set_eq_take_append_cons_drop, if_pos (List.getElem?_eq_some_iff.mp h).1, AT.leavesL_append]
    simp only [AT.leavesL]
    exact perm3 _ _ _
theorem set_self {α : Type} {xs : List α} {i : Nat} {x : α} (h : xs[i]? = some x) : xs.set i x = xs := by
  obtain ⟨h1, h2⟩ := List.getElem?_eq_some_iff.mp h
  rw [← h2]
  exact List.set_getElem_self h1
theorem vals_set {xs : List AT} {i : Nat} {x y : AT} (h : xs[i]? = some x) (e : y.val = x.val) : (xs.set i y).map AT.val = xs.map AT.val := by
  rw [List.map_set, e]
  exact set_self (by rw [List.getElem?_map, h]; rfl)
/-- the tree around a place -/
theorem AT.focus : ∀ (p : List Nat) (t s : AT), t.getP p = some s → t.setP p s = t ∧ ∃ Nc Lc, ∀ u, u.val = s.val → ((t.setP p u).nodes).Perm (u.nodes ++ Nc) ∧ ((t.setP p u).leaves).Perm (u.leaves ++ Lc)
  | [], t, s, h => by
    simp only [AT.getP, Option.some.injEq] at h
    subst h
    exact ⟨rfl, [], [], fun u _ => ⟨by simp [AT.setP], by simp [AT.setP]⟩⟩
  | i :: p, t, s, h => by
    cases t with
    | lf v l => simp [AT.getP, AT.kids] at h
    | dk a kvs => simp [AT.getP, AT.kids] at h
    | nd a b xs =>
      simp only [AT.getP, AT.kids] at h
      cases hx : xs[i]? with
      | none => rw [hx] at h; simp at h
      | some x =>
        rw [hx] at h
        obtain ⟨e, Nc, Lc, ih⟩ := AT.focus p x s h
        obtain ⟨R, S, h1, h2⟩ := nodesL_split hx
        refine ⟨?_, (a, mkHO b (xs.map AT.val)) :: (Nc ++ R), Lc ++ S, fun u hu => ?_⟩
        · simp only [AT.setP, AT.kids, hx, AT.setK]
          rw [e, set_self hx]
        · obtain ⟨q1, q2⟩ := ih u hu
          have hv : (x.setP p u).val = x.val := AT.val_setP p x u s h hu
          simp only [AT.setP, AT.kids, hx, AT.setK, AT.nodes, AT.leaves]
          rw [vals_set hx hv]
          constructor
          · refine List.Perm.trans ?_ (List.perm_middle.symm)
            refine List.Perm.cons _ ?_
            refine (h1 _).trans ?_
            rw [← List.append_assoc]
            exact q1.append_right R
          · refine (h2 _).trans ?_
            rw [← List.append_assoc]
            exact q2.append_right S

/-! ### environments -/
inductive Sl (τ : Type) where
  | un
  | iv (t : τ)
  | lk (t : τ)
  | al (j : Nat) (p : List Nat)
abbrev Env' := List (Sl IV)
abbrev AEnv := List (Sl AT)
def Sl.map {τ υ : Type} (f : τ → υ) : Sl τ → Sl υ
  | .un => .un
  | .iv t => .iv (f t)
  | .lk t => .lk (f t)
  | .al j p => .al j p
def erE (env : AEnv) : Env' := env.map (Sl.map AT.er)
def Sl.tr {τ : Type} : Sl τ → Option τ
  | .iv t => some t
  | .lk t => some t
  | _ => none
def rootOf {τ : Type} (env : List (Sl τ)) (j : Nat) : Option τ := match env[j]? with
  | some s => s.tr
  | none => none
def rsv {τ : Type} (env : List (Sl τ)) (i : Nat) : Option (Nat × List Nat) := match env[i]? with
  | some (.iv _) => some (i, [])
  | some (.lk _) => some (i, [])
  | some (.al j p) => some (j, p)
  | _ => none
def ctn (env : Env') (i : Nat) (q : List Nat) : Option IV := match rsv env i with
  | some (j, p) => match rootOf env j with
    | some t => t.getP (p ++ q)
    | none => none
  | none => none
def ctnA (env : AEnv) (i : Nat) (q : List Nat) : Option AT := match rsv env i with
  | some (j, p) => match rootOf env j with
    | some t => t.getP (p ++ q)
    | none => none
  | none => none
theorem erE_get (env : AEnv) (i : Nat) : (erE env)[i]? = env[i]?.map (Sl.map AT.er) := by simp [erE]
theorem rsv_er (env : AEnv) (i : Nat) : rsv (erE env) i = rsv env i := by
  simp only [rsv, erE_get]
  cases env[i]? with
  | none => rfl
  | some s => cases s <;> rfl
theorem rootOf_er (env : AEnv) (j : Nat) : rootOf (erE env) j = (rootOf env j).map AT.er := by
  simp only [rootOf, erE_get]
  cases env[j]? with
  | none => rfl
  | some s => cases s <;> rfl
theorem ctn_er (env : AEnv) (i : Nat) (q : List Nat) : ctn (erE env) i q = (ctnA env i q).map AT.er := by
  simp only [ctn, ctnA, rsv_er]
  cases rsv env i with
  | none => rfl
  | some jp =>
    obtain ⟨j, p⟩ := jp
    simp only [rootOf_er]
    cases rootOf env j with
    | none => rfl
    | some t => simpa using AT.er_getP _ t

def Sl.nodes : Sl AT → List (Addr × HO)
  | .iv t => t.nodes
  | .lk t => t.nodes
  | _ => []
def Sl.leaves : Sl AT → List (V × LF)
  | .iv t => t.leaves
  | .lk t => t.leaves
  | _ => []
def nodesE : AEnv → List (Addr × HO)
  | [] => []
  | s :: r => s.nodes ++ nodesE r
def leavesE : AEnv → List (V × LF)
  | [] => []
  | s :: r => s.leaves ++ leavesE r
theorem nodesE_append : ∀ xs ys : AEnv, nodesE (xs ++ ys) = nodesE xs ++ nodesE ys
  | [], ys => by simp [nodesE]
  | x :: xs, ys => by simp [nodesE, nodesE_append xs ys]
theorem leavesE_append : ∀ xs ys : AEnv, leavesE (xs ++ ys) = leavesE xs ++ leavesE ys
  | [], ys => by simp [leavesE]
  | x :: xs, ys => by simp [leavesE, leavesE_append xs ys]
theorem env_split {env : AEnv} {i : Nat} {s : Sl AT} (h : env[i]? = some s) :
    ∃ R S, (∀ y : Sl AT, (nodesE (env.set i y)).Perm (y.nodes ++ R)) ∧ (∀ y : Sl AT, (leavesE (env.set i y)).Perm (y.leaves ++ S)) := by
  refine ⟨nodesE (env.take i) ++ nodesE (env.drop (i + 1)), leavesE (env.take i) ++ leavesE (env.drop (i + 1)), fun y => ?_, fun y => ?_⟩
  · rw [List.set_eq_take_append_cons_drop, if_pos (List.getElem?_eq_some_iff.mp h).1, nodesE_append]
    simp only [nodesE]
    exact perm3 _ _ _
  · rw [List.set_eq_take_append_cons_drop, if_pos (List.getElem?_eq_some_iff.mp h).1, leavesE_append]
    simp only [leavesE]
    exact perm3 _ _ _
theorem nodes_tr {s : Sl AT} {t : AT} (h : s.tr = some t) : s.nodes = t.nodes ∧ s.leaves = t.leaves := by
  cases s <;> simp [Sl.tr] at h <;> subst h <;> exact ⟨rfl, rfl⟩
/-- what a variable holds is a part of the bag -/
theorem root_sb {env : AEnv} {j : Nat} {t : AT} (h : rootOf env j = some t) : Sb t.nodes (nodesE env) ∧ ∀ q ∈ t.leaves, q ∈ leavesE env := by
  simp only [rootOf] at h
  cases hs : env[j]? with
  | none => rw [hs] at h; simp at h
  | some s =>
    rw [hs] at h
    obtain ⟨R, S, h1, h2⟩ := env_split hs
    obtain ⟨e1, e2⟩ := nodes_tr h
    have p1 := h1 s
    have p2 := h2 s
    rw [set_self hs] at p1 p2
    rw [e1] at p1
    rw [e2] at p2
    exact ⟨⟨R, p1⟩, fun q hq => p2.symm.subset (List.mem_append_left _ hq)⟩
theorem getP_sb {t s : AT} {p : List Nat} (h : t.getP p = some s) : Sb s.nodes t.nodes ∧ ∀ q ∈ s.leaves, q ∈ t.leaves := by
  obtain ⟨e, Nc, Lc, k⟩ := AT.focus p t s h
  obtain ⟨p1, p2⟩ := k s rfl
  rw [e] at p1 p2
  exact ⟨⟨Nc, p1⟩, fun q hq => p2.symm.subset (List.mem_append_left _ hq)⟩
theorem ctn_sb {env : AEnv} {i : Nat} {q : List Nat} {t : AT} (h : ctnA env i q = some t) : Sb t.nodes (nodesE env) ∧ ∀ q ∈ t.leaves, q ∈ leavesE env := by
  simp only [ctnA] at h
  cases hr : rsv env i with
  | none => rw [hr] at h; simp at h
  | some jp =>
    obtain ⟨j, p⟩ := jp
    rw [hr] at h
    simp only at h
    cases ht : rootOf env j with
    | none => rw [ht] at h; simp at h
    | some r =>
      rw [ht] at h
      obtain ⟨a1, a2⟩ := root_sb ht
      obtain ⟨b1, b2⟩ := getP_sb h
      exact ⟨b1.trans a1, fun q hq => a2 q (b2 q hq)⟩

/-! ### the slots' values -/
/-- the frame's values are what the environment says -/
def SR (env : AEnv) (σ : St) : Prop := env.length = σ.length ∧ ∀ i t, ctnA env i [] = some t → σ[i]? = some (some t.val)
theorem SR.at (h : SR env σ) {t : AT} (e : ctnA env i [] = some t) : σ[i]? = some (some t.val) := h.2 i t e

/-! ### results -/
inductive R (α : Type) where
  | ok (a : α) (e : Env')
  | ex (c : Nat) (e : Env')
  | bad
def R.bind {α β : Type} (r : R α) (f : α → Env' → R β) : R β := match r with
  | .ok a e => f a e
  | .ex c e => .ex c e
  | .bad => .bad
abbrev M (α : Type) := Env' → R α
/-- what an expression gives: a new tree, or what variable i holds at q -/
inductive Opd (τ : Type) where
  | tm (t : τ)
  | vr (i : Nat) (q : List Nat)
abbrev O := Opd IV
abbrev AO := Opd AT
def Opd.er : AO → O
  | .tm t => .tm t.er
  | .vr i q => .vr i q
def Opd.nodes : AO → List (Addr × HO)
  | .tm t => t.nodes
  | .vr _ _ => []
def Opd.leaves : AO → List (V × LF)
  | .tm t => t.leaves
  | .vr _ _ => []
/-- the tree of an operand -/
def O.tree (o : O) (e : Env') : Option IV := match o with
  | .tm t => some t
  | .vr i q => ctn e i q
def AO.tree (o : AO) (e : AEnv) : Option AT := match o with
  | .tm t => some t
  | .vr i q => ctnA e i q
theorem tree_er (o : AO) (e : AEnv) : O.tree o.er (erE e) = (AO.tree o e).map AT.er := by
  cases o with
  | tm t => rfl
  | vr i q => exact ctn_er e i q
/-- an operand is still the same behind a further reckoning of kind b -/
def O.stays (b : Bool) : O → Bool
  | .tm _ => true
  | .vr _ [] => true
  | .vr _ (_ :: _) => b

def LkS (env env' : AEnv) : Prop := ∀ (i : Nat) (t : AT), env[i]? = some (Sl.lk t) → env'[i]? = some (Sl.lk t)
theorem LkS.refl (env : AEnv) : LkS env env := fun _ _ h => h
theorem LkS.trans {a b c : AEnv} (h : LkS a b) (k : LkS b c) : LkS a c := fun i t e => k i t (h i t e)

/-- where a frame stands: the bag's beginning, the wish of an error, the errors' classes -/
structure Fx where
  g : Gh
  W : WX
  xc : Nat → Value
/-- the reading of an expression that is reckoned by m; b: it changes no variable and no object -/
def tE (K : PySem.W.Frag) (Φ : Fx) (b : Bool) (m : M O) : TE := fun σ H Q => ∃ F env Np Lp, CB K Φ.g F H (nodesE env ++ Np) (leavesE env ++ Lp) ∧ SR env σ ∧ match m (erE env) with
  | .ok o e' => ∀ v H' F' env' ao, CB K Φ.g F' H' (nodesE env' ++ (Opd.nodes ao ++ Np)) (leavesE env' ++ (Opd.leaves ao ++ Lp)) → SR env' σ → erE env' = e' → Opd.er ao = o →
      (∃ t, AO.tree ao env' = some t ∧ t.val = v) → (b = true → env' = env ∧ Le H H') → LkS env env' → Q v H'
  | .ex c e' => ∀ H' F' env', CB K Φ.g F' H' (nodesE env' ++ Np) (leavesE env' ++ Lp) → SR env' σ → erE env' = e' → Φ.W (Φ.xc c) none σ H'
  | .bad => False
abbrev SE (X : Cx) (Φ : Fx) (b : Bool) (e : Expr) (m : M O) : Prop := PE X e (tE X.K Φ b m)
theorem PE.imp {X : Cx} {e : Expr} {t t' : TE} (h : PE X e t) (k : ∀ σ H Q, t' σ H Q → t σ H Q) : PE X e t' := ⟨fun pins s σ H Q I q => h.run pins s σ H Q I (k σ H Q q)⟩
theorem SE.impure {X : Cx} {Φ : Fx} {b : Bool} {e : Expr} {m : M O} (h : SE X Φ b e m) : SE X Φ false e m := by
  refine PE.imp h fun σ H Q q => ?_
  obtain ⟨F, env, Np, Lp, c, s, q⟩ := q
  refine ⟨F, env, Np, Lp, c, s, ?_⟩
  cases hm : m (erE env) with
  | ok o e' =>
    rw [hm] at q
    exact fun v H' F' env' ao a1 a2 a3 a4 a5 a6 a7 => q v H' F' env' ao a1 a2 a3 a4 a5 (fun z => nomatch z) a7
  | ex c e' =>
    rw [hm] at q
    exact q
  | bad =>
    rw [hm] at q
    exact q

/-- an owned tree stands in the whole heap for its data -/
theorem CB.deep {K : PySem.W.Frag} {g : Gh} {F H : Hp} {N : List (Addr × HO)} {L : List (V × LF)} (c : CB K g F H N L) {t : AT} {d : PyData} (n : Sb t.nodes N) (l : ∀ q ∈ t.leaves, q ∈ L) (e : t.er.toD = some d) : Dq K H t.val d := by
  have c' : CB K g F H (t.nodes ++ []) (t.leaves ++ []) := c.sb (by simpa using n) (by simpa using l)
  obtain ⟨F', c2, _, q⟩ := CB.freeze t c' e
  exact q.le c2.sub
theorem CB.tree {K : PySem.W.Frag} {g : Gh} {F H : Hp} {Np : List (Addr × HO)} {Lp : List (V × LF)} {env : AEnv} {ao : AO} {t : AT} {d : PyData}
    (c : CB K g F H (nodesE env ++ (Opd.nodes ao ++ Np)) (leavesE env ++ (Opd.leaves ao ++ Lp))) (h : AO.tree ao env = some t) (e : t.er.toD = some d) : Dq K H t.val d := by
  cases ao with
  | tm u =>
    cases h
    exact c.deep ((Sb.left _ _).trans (Sb.right _ _)) (fun q hq => List.mem_append_right _ (List.mem_append_left _ hq)) e
  | vr i q =>
    obtain ⟨h1, h2⟩ := ctn_sb h
    exact c.deep (h1.trans (Sb.left _ _)) (fun q hq => List.mem_append_left _ (h2 q hq)) e
/-- the data of an operand -/
def O.dat (o : O) (e : Env') : Option PyData := match O.tree o e with
  | some t => t.toD
  | none => none
theorem dat_of {ao : AO} {env : AEnv} {d : PyData} (h : O.dat ao.er (erE env) = some d) : ∃ t, AO.tree ao env = some t ∧ t.er.toD = some d := by
  simp only [O.dat, tree_er] at h
  cases ht : AO.tree ao env with
  | none => rw [ht] at h; simp at h
  | some t =>
    rw [ht] at h
    exact ⟨t, rfl, h⟩
/-- an operand's value stays behind a further reckoning -/
theorem val_stays {ao : AO} {b : Bool} {env env' : AEnv} {σ : St} {v : V} {t : AT} (hs : O.stays b ao.er = true) (s1 : SR env σ) (s2 : SR env' σ) (hb : b = true → env' = env ∧ X)
    (h : ∃ u, AO.tree ao env = some u ∧ u.val = v) (h' : AO.tree ao env' = some t) : t.val = v := by
  obtain ⟨u, hu, rfl⟩ := h
  cases ao with
  | tm w =>
    cases hu
    cases h'
    rfl
  | vr i q =>
    cases q with
    | nil =>
      have e1 := s1.at hu
      have e2 := s2.at h'
      rw [e1] at e2
      simpa using e2.symm
    | cons k r =>
      have hb' := (hb hs).1
      subst hb'
      rw [hu] at h'
      cases h'
      rfl
end Z
/-! Z3: expressions: names, constants, operators, tests. -/
namespace Z
open PySem L2

/-- what is wanted of a result r, reckoned at H and env over the bag Np, Lp -/
def Ct (K : PySem.W.Frag) (Φ : Fx) (b : Bool) (σ : St) (Q : VK) (H : Hp) (env : AEnv) (Np : List (Addr × HO)) (Lp : List (V × LF)) (r : R O) : Prop := match r with
  | .ok o e' => ∀ v H' F' env' ao, CB K Φ.g F' H' (nodesE env' ++ (Opd.nodes ao ++ Np)) (leavesE env' ++ (Opd.leaves ao ++ Lp)) → SR env' σ → erE env' = e' → Opd.er ao = o →
      (∃ t, AO.tree ao env' = some t ∧ t.val = v) → (b = true → env' = env ∧ Le H H') → LkS env env' → Q v H'
  | .ex c e' => ∀ H' F' env', CB K Φ.g F' H' (nodesE env' ++ Np) (leavesE env' ++ Lp) → SR env' σ → erE env' = e' → Φ.W (Φ.xc c) none σ H'
  | .bad => False
theorem tE_iff {K : PySem.W.Frag} {Φ : Fx} {b : Bool} {m : M O} {σ : St} {H : Hp} {Q : VK} : tE K Φ b m σ H Q ↔ ∃ F env Np Lp, CB K Φ.g F H (nodesE env ++ Np) (leavesE env ++ Lp) ∧ SR env σ ∧ Ct K Φ b σ Q H env Np Lp (m (erE env)) := Iff.rfl

section
variable {K : PySem.W.Frag} {Φ : Fx} {b b1 b2 : Bool} {σ : St} {H : Hp} {Q Q' : VK} {F : Hp} {env : AEnv} {Np : List (Addr × HO)} {Lp : List (V × LF)}
/-- a part of an expression is reckoned first -/
theorem seqC {m : M O} {f : O → Env' → R O} (c : CB K Φ.g F H (nodesE env ++ Np) (leavesE env ++ Lp)) (s : SR env σ) (q : Ct K Φ b σ Q H env Np Lp (R.bind (m (erE env)) f)) (hb : b = true → b1 = true)
    (k : ∀ v H' F' env' ao, CB K Φ.g F' H' (nodesE env' ++ (Opd.nodes ao ++ Np)) (leavesE env' ++ (Opd.leaves ao ++ Lp)) → SR env' σ → (∃ t, AO.tree ao env' = some t ∧ t.val = v) →
      (b1 = true → env' = env ∧ Le H H') → Ct K Φ b σ Q H' env' Np Lp (f (Opd.er ao) (erE env')) → Q' v H') : tE K Φ b1 m σ H Q' := by
  refine ⟨F, env, Np, Lp, c, s, ?_⟩
  cases hm : m (erE env) with
  | ok o e' =>
    rw [hm] at q
    intro v H' F' env' ao a1 a2 a3 a4 a5 a6 a7
    refine k v H' F' env' ao a1 a2 a5 a6 ?_
    rw [a4, a3]
    have q' : Ct K Φ b σ Q H env Np Lp (f o e') := q
    revert q'
    cases f o e' with
    | ok o2 e2 =>
      intro q' v2 H2 F2 env2 ao2 d1 d2 d3 d4 d5 d6 d7
      refine q' v2 H2 F2 env2 ao2 d1 d2 d3 d4 d5 (fun hbt => ?_) (a7.trans d7)
      obtain ⟨x1, x2⟩ := a6 (hb hbt)
      obtain ⟨y1, y2⟩ := d6 hbt
      exact ⟨y1.trans x1, x2.trans y2⟩
    | ex c e2 => exact fun q' => q'
    | bad => exact fun q' => q'
  | ex c e' =>
    rw [hm] at q
    exact q
  | bad =>
    rw [hm] at q
    exact q
/-- the same with something that is pending -/
theorem seqA {m : M O} {f : O → Env' → R O} {A : List (Addr × HO)} {B : List (V × LF)} (c : CB K Φ.g F H (nodesE env ++ (A ++ Np)) (leavesE env ++ (B ++ Lp))) (s : SR env σ) (q : Ct K Φ b σ Q H env Np Lp (R.bind (m (erE env)) f)) (hb : b = true → b1 = true)
    (k : ∀ v H' F' env' ao, CB K Φ.g F' H' (nodesE env' ++ (Opd.nodes ao ++ (A ++ Np))) (leavesE env' ++ (Opd.leaves ao ++ (B ++ Lp))) → SR env' σ → (∃ t, AO.tree ao env' = some t ∧ t.val = v) →
      (b1 = true → env' = env ∧ Le H H') → Ct K Φ b σ Q H' env' Np Lp (f (Opd.er ao) (erE env')) → Q' v H') : tE K Φ b1 m σ H Q' := by
  refine ⟨F, env, A ++ Np, B ++ Lp, c, s, ?_⟩
  cases hm : m (erE env) with
  | ok o e' =>
    rw [hm] at q
    intro v H' F' env' ao a1 a2 a3 a4 a5 a6 a7
    refine k v H' F' env' ao a1 a2 a5 a6 ?_
    rw [a4, a3]
    have q' : Ct K Φ b σ Q H env Np Lp (f o e') := q
    revert q'
    cases f o e' with
    | ok o2 e2 =>
      intro q' v2 H2 F2 env2 ao2 d1 d2 d3 d4 d5 d6 d7
      refine q' v2 H2 F2 env2 ao2 d1 d2 d3 d4 d5 (fun hbt => ?_) (a7.trans d7)
      obtain ⟨x1, x2⟩ := a6 (hb hbt)
      obtain ⟨y1, y2⟩ := d6 hbt
      exact ⟨y1.trans x1, x2.trans y2⟩
    | ex c e2 => exact fun q' => q'
    | bad => exact fun q' => q'
  | ex c e' =>
    rw [hm] at q
    exact fun H' F' env' a1 a2 a3 => q H' F' env' (a1.sb2 (Sb.right _ _).tail (Sb.right _ _).tail) a2 a3
  | bad =>
    rw [hm] at q
    exact q
/-- the same as a statement about tE -/
theorem seqE {m : M O} {f : O → Env' → R O} (q : tE K Φ b (fun e => R.bind (m e) f) σ H Q) (hb : b = true → b1 = true)
    (k : ∀ v H' F' env env' ao Np Lp, CB K Φ.g F' H' (nodesE env' ++ (Opd.nodes ao ++ Np)) (leavesE env' ++ (Opd.leaves ao ++ Lp)) → SR env' σ → (∃ t, AO.tree ao env' = some t ∧ t.val = v) →
      (b1 = true → env' = env ∧ Le H H') → Ct K Φ b σ Q H' env' Np Lp (f (Opd.er ao) (erE env')) → Q' v H') : tE K Φ b1 m σ H Q' := by
  obtain ⟨F, env, Np, Lp, c, s, q⟩ := q
  exact seqC c s q hb fun v H' F' env' ao a1 a2 a3 a4 a5 => k v H' F' env env' ao Np Lp a1 a2 a3 a4 a5
/-- the end: a frozen or plain datum is told -/
theorem Ct.dat {d : PyData} {v : V} {Np0 : List (Addr × HO)} {Lp0 : List (V × LF)} (q : Ct K Φ b σ Q H env Np Lp (.ok (.tm (.d d)) (erE env))) (c : CB K Φ.g F H (nodesE env ++ (Np0 ++ Np)) (leavesE env ++ (Lp0 ++ Lp))) (s : SR env σ) (h : Dq K F v d) : Q v H := by
  refine q v H F env (.tm (.lf v (.d d))) ?_ s rfl rfl ⟨_, rfl, rfl⟩ (fun _ => ⟨rfl, .refl H⟩) (.refl env)
  have c2 := c.leaf (l := .d d) h
  refine c2.sb ?_ fun q hq => ?_
  · simp only [Opd.nodes, AT.nodes, List.nil_append]
    exact (Sb.right _ _).tail
  · simp only [Opd.leaves, AT.leaves] at hq
    rcases List.mem_append.mp hq with z | z
    · exact List.mem_cons_of_mem _ (List.mem_append_left _ z)
    · rcases List.mem_append.mp z with z | z
      · rw [List.mem_singleton.mp z]
        exact List.mem_cons_self
      · exact List.mem_cons_of_mem _ (List.mem_append_right _ (List.mem_append_right _ z))
end

/-- plain data: no object stands behind it -/
def flat : PyData → Bool
  | .none => true
  | .bool _ => true
  | .int _ => true
  | .str _ => true
  | _ => false
theorem Dq.flat {K : PySem.W.Frag} {F F' : Hp} {v : V} {d : PyData} (h : Dq K F v d) (f : Z.flat d = true) : Dq K F' v d := by
  cases h <;> first | exact .non | exact .bl _ | exact .int _ | exact .str _ | cases f

/-! ### names, constants -/
def varM (i : Nat) : M O := fun e => match ctn e i [] with
  | some _ => .ok (.vr i []) e
  | none => .bad
def cstM (d : PyData) : M O := fun e => .ok (.tm (.d d)) e
section
variable {X : Cx} {Φ : Fx} {b b1 b2 : Bool} {pos : Pos}
theorem se_varE {i : Nat} {e : Expr} (h : PE X e (tVar i)) : SE X Φ true e (varM i) := by
  refine PE.imp h fun σ H Q q => ?_
  obtain ⟨F, env, Np, Lp, c, s, q⟩ := q
  simp only [varM, ctn_er] at q
  cases ht : ctnA env i [] with
  | none => rw [ht] at q; exact q.elim
  | some t =>
    rw [ht] at q
    exact ⟨t.val, s.at ht, q t.val H F env (.vr i []) (by simpa [Opd.nodes, Opd.leaves] using c) s rfl rfl ⟨t, ht, rfl⟩ (fun _ => ⟨rfl, .refl H⟩) (.refl env)⟩
theorem se_var (i : Nat) {x : Str} (hN : X.N[i]? = some x := by rfl) (hv : Vis X.env.scope x := by first | exact Or.inl rfl | exact Or.inr (Or.inl rfl) | exact Or.inr (Or.inr rfl)) (hd : (x == ("__debug__" : Str)) = false := by decide)
    (hcd : (x == ("__classdict__" : Str)) = false := by decide) : SE X Φ true (.Name x pos) (varM i) := se_varE (pe_var hN hv hd hcd)
theorem se_cst {e : Expr} {v : V} {d : PyData} (h : PE X e (tC v)) (hd : ∀ F, Dq X.K F v d) : SE X Φ true e (cstM d) := by
  refine PE.imp h fun σ H Q q => ?_
  obtain ⟨F, env, Np, Lp, c, s, q⟩ := q
  exact Ct.dat (Np0 := []) (Lp0 := []) q (by simpa using c) s (hd F)
theorem se_int {i : Int} {j : Nat} : SE X Φ true (.Constant (.int i) j pos) (cstM (.int i)) := se_cst pe_int fun _ => .int _
theorem se_bool {i : Bool} {j : Nat} : SE X Φ true (.Constant (.bool i) j pos) (cstM (.bool i)) := se_cst pe_bl fun _ => .bl _
theorem se_none {j : Nat} : SE X Φ true (.Constant .none j pos) (cstM .none) := se_cst pe_non fun _ => .non
theorem se_str {x : Str} {j : Nat} : SE X Φ true (.Constant (.str x) j pos) (cstM (.str x)) := se_cst pe_str fun _ => .str _
/-- a module's constant -/
theorem se_glob {x : Str} {v : V} {u : Value} {d : PyData} (hg : Gl X x) (hm : X.mg x = some u) (r : RelV v u) (hd : ∀ F, Dq X.K F v d) (hdb : (x == ("__debug__" : Str)) = false := by decide) : SE X Φ true (.Name x pos) (cstM d) := se_cst (pe_glob hg hm r hdb) hd

/-- over a greater bag -/
theorem Ct.more {K : PySem.W.Frag} {σ : St} {H : Hp} {Q : VK} {env : AEnv} {Np A : List (Addr × HO)} {Lp B : List (V × LF)} {rr : R O} : Ct K Φ b σ Q H env Np Lp rr → Ct K Φ b σ Q H env (A ++ Np) (B ++ Lp) rr := by
  cases rr with
  | ok o e' =>
    intro q1 v H' F' env' ao a1 a2 a3 a4 a5 a6 a7
    exact q1 v H' F' env' ao (a1.sb2 ((Sb.right _ _).tail).tail ((Sb.right _ _).tail).tail) a2 a3 a4 a5 a6 a7
  | ex c e' =>
    intro q1 H' F' env' a1 a2 a3
    exact q1 H' F' env' (a1.sb2 (Sb.right _ _).tail (Sb.right _ _).tail) a2 a3
  | bad => exact fun q1 => q1
/-- two parts, one behind the other -/
def twoM (b2 : Bool) (ma mb : M O) (f : O → O → Env' → R O) : M O := fun e => R.bind (ma e) fun o1 e1 => R.bind (mb e1) fun o2 e2 => if O.stays b2 o1 then f o1 o2 e2 else .bad
theorem two {K : PySem.W.Frag} {σ : St} {H : Hp} {Q : VK} {ma mb : M O} {f : O → O → Env' → R O} {P : V → V → Hp → Prop} (q : tE K Φ (b1 && b2) (twoM b2 ma mb f) σ H Q)
    (k : ∀ v1 v2 H2 F2 env2 ao1 ao2 Np Lp, CB K Φ.g F2 H2 (nodesE env2 ++ (Opd.nodes ao2 ++ (Opd.nodes ao1 ++ Np))) (leavesE env2 ++ (Opd.leaves ao2 ++ (Opd.leaves ao1 ++ Lp))) → SR env2 σ →
      (∀ t, AO.tree ao1 env2 = some t → t.val = v1) → (∃ t, AO.tree ao2 env2 = some t ∧ t.val = v2) → Ct K Φ (b1 && b2) σ Q H2 env2 Np Lp (f (Opd.er ao1) (Opd.er ao2) (erE env2)) → P v1 v2 H2) :
    tE K Φ b1 ma σ H fun v1 H1 => tE K Φ b2 mb σ H1 fun v2 H2 => P v1 v2 H2 := by
  refine seqE q (fun z => (Bool.and_eq_true_iff.mp z).1) fun v1 H1 F1 env env1 ao1 Np Lp c1 s1 t1 p1 q1 => ?_
  refine seqA (Q := Q) (b := b1 && b2) (f := fun o2 e2 => if O.stays b2 (Opd.er ao1) then f (Opd.er ao1) o2 e2 else .bad) c1 s1 q1 (fun z => (Bool.and_eq_true_iff.mp z).2) fun v2 H2 F2 env2 ao2 c2 s2 t2 p2 q2 => ?_
  cases hs : O.stays b2 (Opd.er ao1) with
  | false => rw [hs] at q2; exact q2.elim
  | true =>
    rw [hs] at q2
    exact k v1 v2 H2 F2 env2 ao1 ao2 Np Lp c2 s2 (fun t ht => val_stays hs s1 s2 p2 t1 ht) t2 q2
theorem tE.imp {K : PySem.W.Frag} {σ : St} {H : Hp} {Q Q' : VK} {m : M O} (q : tE K Φ b m σ H Q) (k : ∀ v H, Q v H → Q' v H) : tE K Φ b m σ H Q' := by
  obtain ⟨F, env, Np, Lp, c, s, q⟩ := q
  refine ⟨F, env, Np, Lp, c, s, ?_⟩
  revert q
  cases m (erE env) with
  | ok o e' => exact fun q v H' F' env' ao a1 a2 a3 a4 a5 a6 a7 => k _ _ (q v H' F' env' ao a1 a2 a3 a4 a5 a6 a7)
  | ex c e' => exact fun q => q
  | bad => exact fun q => q

/-! ### operators upon data -/
/-- what an operator on values does, by what their data are: f tells plain data -/
def Op2 (K : PySem.W.Frag) (r : R2) (f : PyData → PyData → Option PyData) : Prop :=
  ∀ (x y : V) (d1 d2 d : PyData) (H : Hp) (Q : VK), Dq K H x d1 → Dq K H y d2 → f d1 d2 = some d → (∀ v, Dq K H v d → Q v H) → r x y H Q
/-- plain data as a result -/
def outM (d : Option PyData) (e : Env') : R O := match d with
  | some d => if flat d then .ok (.tm (.d d)) e else .bad
  | none => .bad
theorem Ct.out {K : PySem.W.Frag} {σ : St} {H F : Hp} {Q : VK} {env : AEnv} {Np : List (Addr × HO)} {Lp : List (V × LF)} {x : Option PyData} (q : Ct K Φ b σ Q H env Np Lp (outM x (erE env)))
    (c : CB K Φ.g F H (nodesE env ++ Np) (leavesE env ++ Lp)) (s : SR env σ) : ∃ d, x = some d ∧ ∀ v H', Dq K H' v d → Q v H := by
  cases x with
  | none => exact q.elim
  | some d =>
    simp only [outM] at q
    cases hf : flat d with
    | false => rw [hf] at q; exact q.elim
    | true =>
      rw [hf] at q
      exact ⟨d, rfl, fun v H' hv => Ct.dat (Np0 := []) (Lp0 := []) q (by simpa using c) s (hv.flat hf)⟩
theorem CB.drop1 {K : PySem.W.Frag} {g : Gh} {F H : Hp} {N A B : List (Addr × HO)} {L C D : List (V × LF)} (c : CB K g F H (N ++ (A ++ B)) (L ++ (C ++ D))) : CB K g F H (N ++ B) (L ++ D) := c.sb2 (Sb.right _ _).tail (Sb.right _ _).tail
theorem CB.drop2 {K : PySem.W.Frag} {g : Gh} {F H : Hp} {N A A' B : List (Addr × HO)} {L C C' D : List (V × LF)} (c : CB K g F H (N ++ (A ++ (A' ++ B))) (L ++ (C ++ (C' ++ D)))) : CB K g F H (N ++ B) (L ++ D) := c.sb2 ((Sb.right _ _).trans (Sb.right _ _)).tail ((Sb.right _ _).trans (Sb.right _ _)).tail
def dat2 (f : PyData → PyData → Option PyData) (a b : Option PyData) : Option PyData := match a, b with
  | some x, some y => f x y
  | _, _ => none
def op2M (b2 : Bool) (f : PyData → PyData → Option PyData) (ma mb : M O) : M O := twoM b2 ma mb fun o1 o2 e2 => outM (dat2 f (O.dat o1 e2) (O.dat o2 e2)) e2
theorem tree_stays {K : PySem.W.Frag} {g : Gh} {F H : Hp} {env : AEnv} {ao1 ao2 : AO} {Np : List (Addr × HO)} {Lp : List (V × LF)} (c : CB K g F H (nodesE env ++ (Opd.nodes ao2 ++ (Opd.nodes ao1 ++ Np))) (leavesE env ++ (Opd.leaves ao2 ++ (Opd.leaves ao1 ++ Lp)))) :
    CB K g F H (nodesE env ++ (Opd.nodes ao1 ++ (Opd.nodes ao2 ++ Np))) (leavesE env ++ (Opd.leaves ao1 ++ (Opd.leaves ao2 ++ Lp))) := c.sb2 (Sb.tail (Sb.swap _ _ _)) (Sb.tail (Sb.swap _ _ _))
theorem op2_run {K : PySem.W.Frag} {r : R2} {f : PyData → PyData → Option PyData} (hr : Op2 K r f) {ma mb : M O} (σ : St) (H : Hp) (Q : VK) (q : tE K Φ (b1 && b2) (op2M b2 f ma mb) σ H Q) : tOp r (tE K Φ b1 ma) (tE K Φ b2 mb) σ H Q := by
  refine two q fun v1 v2 H2 F2 env2 ao1 ao2 Np Lp c s t1 t2 q => ?_
  obtain ⟨d, hd, k⟩ := q.out c.drop2 s
  cases h1 : O.dat (Opd.er ao1) (erE env2) with
  | none => rw [h1] at hd; cases hd
  | some d1 =>
    cases h2 : O.dat (Opd.er ao2) (erE env2) with
    | none => rw [h1, h2] at hd; cases hd
    | some d2 =>
      rw [h1, h2] at hd
      obtain ⟨u1, g1, k1⟩ := dat_of h1
      obtain ⟨u2, g2, k2⟩ := dat_of h2
      have r1 := (tree_stays c).tree g1 k1
      have r2 := c.tree g2 k2
      rw [t1 u1 g1] at r1
      obtain ⟨u, z1, z2⟩ := t2
      rw [z1] at g2
      cases g2
      rw [z2] at r2
      exact hr v1 v2 d1 d2 d H2 Q r1 r2 hd fun v hv => k v H2 hv
theorem se_op2 {op : Operator} {r : R2} {f : PyData → PyData → Option PyData} {x y : Expr} {ma mb : M O} (ho : OpR X (binaryOp op) r) (hr : Op2 X.K r f) (ha : SE X Φ b1 x ma) (hb : SE X Φ b2 y mb) : SE X Φ (b1 && b2) (.BinOp x op y pos) (op2M b2 f ma mb) :=
  PE.imp (pe_op ho ha hb) fun σ H Q q => op2_run hr σ H Q q
theorem se_cmp2 {op : CmpOp} {r : R2} {f : PyData → PyData → Option PyData} {x y : Expr} {ma mb : M O} (ho : OpR X (compareOp op) r) (hr : Op2 X.K r f) (ha : SE X Φ b1 x ma) (hb : SE X Φ b2 y mb) (hm : behindInMarks op y = false) : SE X Φ (b1 && b2) (.Compare x [op] [y] pos) (op2M b2 f ma mb) :=
  PE.imp (pe_cmpR ho ha hb hm) fun σ H Q q => op2_run hr σ H Q q
end
end Z
/-! Z4: tests, and / or / not, chains, the tables of the operators. -/
namespace Z
open PySem L2

/-! ### tests -/
def CtT (K : PySem.W.Frag) (Φ : Fx) (σ : St) (Q : Bool → Hp → Prop) (env : AEnv) (Np : List (Addr × HO)) (Lp : List (V × LF)) (r : R Bool) : Prop := match r with
  | .ok k e' => ∀ H' F' env', CB K Φ.g F' H' (nodesE env' ++ Np) (leavesE env' ++ Lp) → SR env' σ → erE env' = e' → LkS env env' → Q k H'
  | .ex c e' => ∀ H' F' env', CB K Φ.g F' H' (nodesE env' ++ Np) (leavesE env' ++ Lp) → SR env' σ → erE env' = e' → Φ.W (Φ.xc c) none σ H'
  | .bad => False
def tT (K : PySem.W.Frag) (Φ : Fx) (m : M Bool) : TT := fun σ H Q => ∃ F env Np Lp, CB K Φ.g F H (nodesE env ++ Np) (leavesE env ++ Lp) ∧ SR env σ ∧ CtT K Φ σ Q env Np Lp (m (erE env))
abbrev STt (X : Cx) (Φ : Fx) (e : Expr) (m : M Bool) : Prop := PT X e (tT X.K Φ m)
theorem PT.imp {X : Cx} {e : Expr} {t t' : TT} (h : PT X e t) (k : ∀ σ H Q, t' σ H Q → t σ H Q) : PT X e t' := ⟨fun pins s σ H Q I q => h.run pins s σ H Q I (k σ H Q q)⟩
theorem PW.imp {X : Cx} {e : Expr} {t t' : TT} (h : PW X e t) (k : ∀ σ H Q, t' σ H Q → t σ H Q) : PW X e t' := ⟨fun w pins s σ H Q I q => h.run w pins s σ H Q I (k σ H Q q)⟩

section
variable {X : Cx} {K : PySem.W.Frag} {Φ : Fx} {b b1 b2 b3 : Bool} {σ : St} {H F : Hp} {env : AEnv} {Np Np0 : List (Addr × HO)} {Lp Lp0 : List (V × LF)} {pos : Pos} {e : Expr}
theorem CtT.lks {Q : Bool → Hp → Prop} {env1 : AEnv} {rr : R Bool} (h : LkS env env1) : CtT K Φ σ Q env Np Lp rr → CtT K Φ σ Q env1 Np Lp rr → CtT K Φ σ Q env Np Lp rr := fun x _ => x
theorem CtT.from {Q : Bool → Hp → Prop} {env1 : AEnv} {rr : R Bool} (h : LkS env env1) : CtT K Φ σ Q env Np Lp rr → CtT K Φ σ Q env1 Np Lp rr := by
  cases rr with
  | ok k e' => exact fun q H' F' env' a1 a2 a3 a4 => q H' F' env' a1 a2 a3 (h.trans a4)
  | ex c e' => exact fun q => q
  | bad => exact fun q => q
theorem CtT.more {Q : Bool → Hp → Prop} {A : List (Addr × HO)} {B : List (V × LF)} {rr : R Bool} : CtT K Φ σ Q env Np Lp rr → CtT K Φ σ Q env (A ++ Np) (B ++ Lp) rr := by
  cases rr with
  | ok o e' =>
    intro q1 H' F' env' a1 a2 a3 a4
    exact q1 H' F' env' (a1.sb2 (Sb.right _ _).tail (Sb.right _ _).tail) a2 a3 a4
  | ex c e' =>
    intro q1 H' F' env' a1 a2 a3
    exact q1 H' F' env' (a1.sb2 (Sb.right _ _).tail (Sb.right _ _).tail) a2 a3
  | bad => exact fun q1 => q1
/-- an expression first, then a test's end -/
theorem seqET {m : M O} {f : O → Env' → R Bool} {Q : Bool → Hp → Prop} {Q' : VK} (c : CB K Φ.g F H (nodesE env ++ Np) (leavesE env ++ Lp)) (s : SR env σ) (q : CtT K Φ σ Q env Np Lp (R.bind (m (erE env)) f))
    (k : ∀ v H' F' env' ao, CB K Φ.g F' H' (nodesE env' ++ (Opd.nodes ao ++ Np)) (leavesE env' ++ (Opd.leaves ao ++ Lp)) → SR env' σ → (∃ t, AO.tree ao env' = some t ∧ t.val = v) →
      (b = true → env' = env ∧ Le H H') → CtT K Φ σ Q env' Np Lp (f (Opd.er ao) (erE env')) → Q' v H') : tE K Φ b m σ H Q' := by
  refine ⟨F, env, Np, Lp, c, s, ?_⟩
  revert q
  cases m (erE env) with
  | ok o e' =>
    intro q v H' F' env' ao a1 a2 a3 a4 a5 a6 a7
    refine k v H' F' env' ao a1 a2 a5 a6 ?_
    rw [a4, a3]
    exact CtT.from a7 q
  | ex c e' => exact fun q => q
  | bad => exact fun q => q
/-- a test first, then a test's end -/
theorem seqTT {m : M Bool} {f : Bool → Env' → R Bool} {Q Q' : Bool → Hp → Prop} (c : CB K Φ.g F H (nodesE env ++ Np) (leavesE env ++ Lp)) (s : SR env σ) (q : CtT K Φ σ Q env Np Lp (R.bind (m (erE env)) f))
    (k : ∀ c H' F' env', CB K Φ.g F' H' (nodesE env' ++ Np) (leavesE env' ++ Lp) → SR env' σ → CtT K Φ σ Q env' Np Lp (f c (erE env')) → Q' c H') : tT K Φ m σ H Q' := by
  refine ⟨F, env, Np, Lp, c, s, ?_⟩
  revert q
  cases m (erE env) with
  | ok o e' =>
    intro q H' F' env' a1 a2 a3 a4
    refine k o H' F' env' a1 a2 ?_
    rw [a3]
    exact CtT.from a4 q
  | ex c e' => exact fun q => q
  | bad => exact fun q => q
/-- a test first, then an expression's end -/
theorem seqTE {m : M Bool} {f : Bool → Env' → R O} {Q : VK} {Q' : Bool → Hp → Prop} (c : CB K Φ.g F H (nodesE env ++ Np) (leavesE env ++ Lp)) (s : SR env σ) (q : Ct K Φ false σ Q H env Np Lp (R.bind (m (erE env)) f))
    (k : ∀ c H' F' env', CB K Φ.g F' H' (nodesE env' ++ Np) (leavesE env' ++ Lp) → SR env' σ → Ct K Φ false σ Q H' env' Np Lp (f c (erE env')) → Q' c H') : tT K Φ m σ H Q' := by
  refine ⟨F, env, Np, Lp, c, s, ?_⟩
  revert q
  cases m (erE env) with
  | ok o e' =>
    intro q H' F' env' a1 a2 a3 a4
    refine k o H' F' env' a1 a2 ?_
    rw [a3]
    revert q
    simp only [R.bind]
    cases f o e' with
    | ok o2 e2 => exact fun q v2 H2 F2 env2 ao2 d1 d2 d3 d4 d5 d6 d7 => q v2 H2 F2 env2 ao2 d1 d2 d3 d4 d5 (fun z => nomatch z) (a4.trans d7)
    | ex c e2 => exact fun q => q
    | bad => exact fun q => q
  | ex c e' => exact fun q => q
  | bad => exact fun q => q

def isB (x : Option PyData) (e : Env') : R Bool := match x with
  | some (.bool k) => .ok k e
  | _ => .bad
def tstM (m : M O) : M Bool := fun e => R.bind (m e) fun o e' => isB (O.dat o e') e'
theorem tst_end {Q : Bool → Hp → Prop} {v : V} {ao : AO} (c : CB K Φ.g F H (nodesE env ++ (Opd.nodes ao ++ Np)) (leavesE env ++ (Opd.leaves ao ++ Lp))) (s : SR env σ) (t : ∃ t, AO.tree ao env = some t ∧ t.val = v)
    (q : CtT K Φ σ Q env Np Lp (isB (O.dat (Opd.er ao) (erE env)) (erE env))) : ∃ k, v = .bl k ∧ Q k H := by
  cases h : O.dat (Opd.er ao) (erE env) with
  | none => rw [h] at q; exact q.elim
  | some d =>
    rw [h] at q
    cases d with
    | bool k =>
      obtain ⟨u, g1, k1⟩ := dat_of h
      have r := c.tree g1 k1
      obtain ⟨w, z1, z2⟩ := t
      rw [g1] at z1
      cases z1
      rw [z2] at r
      cases r
      exact ⟨k, rfl, q H F env (c.sb2 (Sb.right _ _).tail (Sb.right _ _).tail) s rfl (.refl _)⟩
    | _ => exact q.elim
theorem st_val {m : M O} (h : SE X Φ b e m) (he : ∀ whole, isTrue e X.env whole = (do let v ← whole; standAt e.pos; holding [v] (truthy v)) := by intro _; rfl) : STt X Φ e (tstM m) := by
  refine PT.imp (pt_val h he) fun σ H Q q => ?_
  obtain ⟨F, env, Np, Lp, c, s, q⟩ := q
  exact seqET c s q fun v H' F' env' ao c' s' t' _ q' => tst_end c' s' t' q'
theorem st_cmp2 {op : CmpOp} {r : R2} {f : PyData → PyData → Option PyData} {x y : Expr} {ma mb : M O} (ho : OpR X (compareOp op) r) (hr : Op2 X.K r f) (ha : SE X Φ b1 x ma) (hb : SE X Φ b2 y mb) (hm : behindInMarks op y = false) : STt X Φ (.Compare x [op] [y] pos) (tstM (op2M b2 f ma mb)) := by
  refine PT.imp (pt_cmpR ho ha hb hm) fun σ H Q q => ?_
  obtain ⟨F, env, Np, Lp, c, s, q⟩ := q
  refine op2_run (b1 := b1) (b2 := b2) hr σ H _ ?_
  exact seqET c s q fun v H' F' env' ao c' s' t' _ q' => tst_end c' s' t' q'
def notT (m : M Bool) : M Bool := fun e => R.bind (m e) fun k e' => .ok (!k) e'
theorem st_not {m : M Bool} (h : STt X Φ e m) : STt X Φ (.UnaryOp .Not e pos) (notT m) := by
  refine PT.imp (pt_not h) fun σ H Q q => ?_
  obtain ⟨F, env, Np, Lp, c, s, q⟩ := q
  exact seqTT c s q fun k H' F' env' c' s' q' => q' H' F' env' c' s' rfl (.refl _)
def andT (ma mb : M Bool) : M Bool := fun e => R.bind (ma e) fun k e' => if k then mb e' else .ok false e'
def orT (ma mb : M Bool) : M Bool := fun e => R.bind (ma e) fun k e' => if k then .ok true e' else mb e'
abbrev SW (X : Cx) (Φ : Fx) (e : Expr) (m : M Bool) : Prop := PW X e (tT X.K Φ m)
theorem sw_and1 {m : M Bool} (h : STt X Φ e m) : SW X Φ (.BoolOp .And [e] pos) m := pw_and1 h
theorem sw_or1 {m : M Bool} (h : STt X Φ e m) : SW X Φ (.BoolOp .Or [e] pos) m := pw_or1 h
theorem sw_and {x : Expr} {rest : List Expr} {ma mb : M Bool} (ha : STt X Φ e ma) (hb : SW X Φ (.BoolOp .And (x :: rest) pos) mb) : SW X Φ (.BoolOp .And (e :: x :: rest) pos) (andT ma mb) := by
  refine PW.imp (pw_and ha hb) fun σ H Q q => ?_
  obtain ⟨F, env, Np, Lp, c, s, q⟩ := q
  refine seqTT c s q fun k H' F' env' c' s' q' => ?_
  cases k with
  | true => exact ⟨F', env', Np, Lp, c', s', q'⟩
  | false => exact q' H' F' env' c' s' rfl (.refl _)
theorem sw_or {x : Expr} {rest : List Expr} {ma mb : M Bool} (ha : STt X Φ e ma) (hb : SW X Φ (.BoolOp .Or (x :: rest) pos) mb) : SW X Φ (.BoolOp .Or (e :: x :: rest) pos) (orT ma mb) := by
  refine PW.imp (pw_or ha hb) fun σ H Q q => ?_
  obtain ⟨F, env, Np, Lp, c, s, q⟩ := q
  refine seqTT c s q fun k H' F' env' c' s' q' => ?_
  cases k with
  | true => exact q' H' F' env' c' s' rfl (.refl _)
  | false => exact ⟨F', env', Np, Lp, c', s', q'⟩
theorem st_bo {m : M Bool} (h : SW X Φ e m) : STt X Φ e m := PW.pt h

/-! ### the same as values -/
def asB (x : Option PyData) (e : Env') (f : Bool → R O) : R O := match x with
  | some (.bool k) => f k
  | _ => .bad
def andM (ma mb : M O) : M O := fun e => R.bind (ma e) fun o e' => asB (O.dat o e') e' fun k => if k then mb e' else .ok (.tm (.d (.bool false))) e'
def orM (ma mb : M O) : M O := fun e => R.bind (ma e) fun o e' => asB (O.dat o e') e' fun k => if k then .ok (.tm (.d (.bool true))) e' else mb e'
def notM (ma : M O) : M O := fun e => R.bind (ma e) fun o e' => asB (O.dat o e') e' fun k => .ok (.tm (.d (.bool (!k)))) e'
theorem asB_end {Q : VK} {v : V} {ao : AO} {f : Bool → R O} (c : CB K Φ.g F H (nodesE env ++ (Opd.nodes ao ++ Np)) (leavesE env ++ (Opd.leaves ao ++ Lp))) (t : ∃ t, AO.tree ao env = some t ∧ t.val = v)
    (q : Ct K Φ b σ Q H env Np Lp (asB (O.dat (Opd.er ao) (erE env)) (erE env) f)) : ∃ k, v = .bl k ∧ Ct K Φ b σ Q H env Np Lp (f k) := by
  cases h : O.dat (Opd.er ao) (erE env) with
  | none => rw [h] at q; exact q.elim
  | some d =>
    rw [h] at q
    cases d with
    | bool k =>
      obtain ⟨u, g1, k1⟩ := dat_of h
      have r := c.tree g1 k1
      obtain ⟨w, z1, z2⟩ := t
      rw [g1] at z1
      cases z1
      rw [z2] at r
      cases r
      exact ⟨k, rfl, q⟩
    | _ => exact q.elim
theorem Ct.dat0 {Q : VK} {d : PyData} {v : V} (q : Ct K Φ b σ Q H env Np Lp (.ok (.tm (.d d)) (erE env))) (c : CB K Φ.g F H (nodesE env ++ Np) (leavesE env ++ Lp)) (s : SR env σ) (h : Dq K F v d) : Q v H := Ct.dat (Np0 := []) (Lp0 := []) q (by simpa using c) s h
/-- a lesser claim -/
theorem Ct.st {Q : VK} {rr : R O} (h : b = true → b1 = true) (q : Ct K Φ b σ Q H env Np Lp rr) : Ct K Φ b1 σ Q H env Np Lp rr := by
  revert q
  cases rr with
  | ok o e' => exact fun q v2 H2 F2 env2 ao2 d1 d2 d3 d4 d5 d6 d7 => q v2 H2 F2 env2 ao2 d1 d2 d3 d4 d5 (fun z => d6 (h z)) d7
  | ex c e' => exact fun q => q
  | bad => exact fun q => q
theorem band1 {a b : Bool} (z : (a && b) = true) : a = true := (Bool.and_eq_true_iff.mp z).1
theorem band2 {a b : Bool} (z : (a && b) = true) : b = true := (Bool.and_eq_true_iff.mp z).2
theorem se_and {x : Expr} {rest : List Expr} {ma mb : M O} (ha : SE X Φ b1 e ma) (hb : SE X Φ b2 (.BoolOp .And (x :: rest) pos) mb) : SE X Φ (b1 && b2) (.BoolOp .And (e :: x :: rest) pos) (andM ma mb) := by
  refine PE.imp (pe_and ha hb) fun σ H Q q => ?_
  refine seqE q band1 fun v1 H1 F1 env env1 ao Np Lp c1 s1 t1 p1 q1 => ?_
  obtain ⟨k, rfl, q2⟩ := asB_end c1 t1 q1
  refine ⟨k, rfl, ?_⟩
  cases k with
  | true => exact ⟨F1, env1, Np, Lp, c1.drop1, s1, q2.st band2⟩
  | false => exact q2.dat0 c1.drop1 s1 (.bl false)
theorem se_or {x : Expr} {rest : List Expr} {ma mb : M O} (ha : SE X Φ b1 e ma) (hb : SE X Φ b2 (.BoolOp .Or (x :: rest) pos) mb) : SE X Φ (b1 && b2) (.BoolOp .Or (e :: x :: rest) pos) (orM ma mb) := by
  refine PE.imp (pe_or ha hb) fun σ H Q q => ?_
  refine seqE q band1 fun v1 H1 F1 env env1 ao Np Lp c1 s1 t1 p1 q1 => ?_
  obtain ⟨k, rfl, q2⟩ := asB_end c1 t1 q1
  refine ⟨k, rfl, ?_⟩
  cases k with
  | true => exact q2.dat0 c1.drop1 s1 (.bl true)
  | false => exact ⟨F1, env1, Np, Lp, c1.drop1, s1, q2.st band2⟩
theorem se_bo1 {op : BoolOp} {ma : M O} (ha : SE X Φ b e ma) : SE X Φ b (.BoolOp op [e] pos) ma := pe_one ha
theorem se_not {ma : M O} (ha : SE X Φ b e ma) : SE X Φ b (.UnaryOp .Not e pos) (notM ma) := by
  refine PE.imp (pe_not ha) fun σ H Q q => ?_
  refine seqE q id fun v1 H1 F1 env env1 ao Np Lp c1 s1 t1 p1 q1 => ?_
  obtain ⟨k, rfl, q2⟩ := asB_end c1 t1 q1
  exact ⟨k, rfl, q2.dat0 c1.drop1 s1 (.bl _)⟩
def ifM (mt : M Bool) (ma mb : M O) : M O := fun e => R.bind (mt e) fun k e' => if k then ma e' else mb e'
theorem se_if {x y : Expr} {mt : M Bool} {ma mb : M O} (ht : STt X Φ e mt) (ha : SE X Φ b1 x ma) (hb : SE X Φ b2 y mb) : SE X Φ false (.IfExp e x y pos) (ifM mt ma mb) := by
  refine PE.imp (pe_ifExp ht ha hb) fun σ H Q q => ?_
  obtain ⟨F, env, Np, Lp, c, s, q⟩ := q
  refine seqTE c s q fun k H' F' env' c' s' q' => ?_
  cases k with
  | true =>
    have q2 : Ct X.K Φ false σ Q H' env' Np Lp (ma (erE env')) := q'
    exact ⟨F', env', Np, Lp, c', s', q2.st fun z => absurd z Bool.false_ne_true⟩
  | false =>
    have q2 : Ct X.K Φ false σ Q H' env' Np Lp (mb (erE env')) := q'
    exact ⟨F', env', Np, Lp, c', s', q2.st fun z => absurd z Bool.false_ne_true⟩
/-- one operand -/
def un1M (f : PyData → Option PyData) (ma : M O) : M O := fun e => R.bind (ma e) fun o e' => outM (dat2 (fun x _ => f x) (O.dat o e') (some .none)) e'
def Op1 (K : PySem.W.Frag) (r : V → Hp → VK → Prop) (f : PyData → Option PyData) : Prop :=
  ∀ (x : V) (d1 d : PyData) (H : Hp) (Q : VK), Dq K H x d1 → f d1 = some d → (∀ v, Dq K H v d → Q v H) → r x H Q
theorem op1_end {Q : VK} {v : V} {ao : AO} {r : V → Hp → VK → Prop} {f : PyData → Option PyData} (hr : Op1 K r f) (c : CB K Φ.g F H (nodesE env ++ (Opd.nodes ao ++ Np)) (leavesE env ++ (Opd.leaves ao ++ Lp))) (s : SR env σ)
    (t : ∃ t, AO.tree ao env = some t ∧ t.val = v) (q : Ct K Φ b σ Q H env Np Lp (outM (dat2 (fun x _ => f x) (O.dat (Opd.er ao) (erE env)) (some .none)) (erE env))) : r v H Q := by
  obtain ⟨d, hd, k⟩ := q.out c.drop1 s
  cases h : O.dat (Opd.er ao) (erE env) with
  | none => rw [h] at hd; cases hd
  | some d1 =>
    rw [h] at hd
    obtain ⟨u, g1, k1⟩ := dat_of h
    have r1 := c.tree g1 k1
    obtain ⟨w, z1, z2⟩ := t
    rw [g1] at z1
    cases z1
    rw [z2] at r1
    exact hr v d1 d H Q r1 hd fun v hv => k v H hv
theorem se_un1 {op : UnaryOp} {r : V → Hp → VK → Prop} {f : PyData → Option PyData} {ma : M O} (ho : UnR X (unaryOp op) r) (hr : Op1 X.K r f) (ha : SE X Φ b e ma) : SE X Φ b (.UnaryOp op e pos) (un1M f ma) := by
  refine PE.imp (pe_un ho ha) fun σ H Q q => ?_
  exact seqE q id fun v1 H1 F1 env env1 ao Np Lp c1 s1 t1 p1 q1 => op1_end hr c1 s1 t1 q1

/-! ### chains of two comparisons, of plain data -/
def flatO (x : Option PyData) : Option PyData := match x with
  | some d => if flat d then some d else none
  | none => none
def withD (x : Option PyData) (f : PyData → R O) : R O := match x with
  | some d => f d
  | none => .bad
theorem withD_end {Q : VK} {v : V} {ao : AO} {f : PyData → R O} (c : CB K Φ.g F H (nodesE env ++ (Opd.nodes ao ++ Np)) (leavesE env ++ (Opd.leaves ao ++ Lp))) (t : ∃ t, AO.tree ao env = some t ∧ t.val = v)
    (q : Ct K Φ b σ Q H env Np Lp (withD (flatO (O.dat (Opd.er ao) (erE env))) f)) : ∃ d, flat d = true ∧ (∀ F', Dq K F' v d) ∧ Ct K Φ b σ Q H env Np Lp (f d) := by
  cases h : O.dat (Opd.er ao) (erE env) with
  | none => rw [h] at q; exact q.elim
  | some d =>
    rw [h] at q
    simp only [flatO] at q
    cases hf : flat d with
    | false => rw [hf] at q; exact q.elim
    | true =>
      rw [hf] at q
      obtain ⟨u, g1, k1⟩ := dat_of h
      have r := c.tree g1 k1
      obtain ⟨w, z1, z2⟩ := t
      rw [g1] at z1
      cases z1
      rw [z2] at r
      exact ⟨d, hf, fun F' => r.flat hf, q⟩
def chM (f f' : PyData → PyData → Option PyData) (ma mb mc : M O) : M O := fun e => R.bind (ma e) fun o1 e1 => withD (flatO (O.dat o1 e1)) fun d1 => R.bind (mb e1) fun o2 e2 => withD (flatO (O.dat o2 e2)) fun d2 =>
  asB (f d1 d2) e2 fun k => if k then R.bind (mc e2) fun o3 e3 => withD (flatO (O.dat o3 e3)) fun d3 => outM (f' d2 d3) e3 else .ok (.tm (.d (.bool false))) e2
theorem ch_run {r r' : R2} {f f' : PyData → PyData → Option PyData} (hr : Op2 K r f) (hr' : Op2 K r' f') {ma mb mc : M O} {Q : VK} (q : tE K Φ (b1 && (b2 && b3)) (chM f f' ma mb mc) σ H Q) : tChain r r' (tE K Φ b1 ma) (tE K Φ b2 mb) (tE K Φ b3 mc) σ H Q := by
  refine seqE q band1 fun v1 H1 F1 env env1 ao1 Np Lp c1 s1 t1 p1 q1 => ?_
  obtain ⟨d1, hf1, r1, q1⟩ := withD_end c1 t1 q1
  refine seqC c1.drop1 s1 q1 (fun z => band1 (band2 z)) fun v2 H2 F2 env2 ao2 c2 s2 t2 p2 q2 => ?_
  obtain ⟨d2, hf2, r2, q2⟩ := withD_end c2 t2 q2
  cases hk : f d1 d2 with
  | none => rw [hk] at q2; exact q2.elim
  | some d =>
    rw [hk] at q2
    cases d with
    | bool k =>
      refine hr v1 v2 d1 d2 (.bool k) H2 _ (r1 _) (r2 _) hk fun v hv => ?_
      cases hv
      refine ⟨k, rfl, ?_⟩
      cases k with
      | true =>
        refine seqC c2.drop1 s2 q2 (fun z => band2 (band2 z)) fun v3 H3 F3 env3 ao3 c3 s3 t3 p3 q3 => ?_
        obtain ⟨d3, hf3, r3, q3⟩ := withD_end c3 t3 q3
        obtain ⟨d, hd, kk⟩ := q3.out c3.drop1 s3
        exact hr' v2 v3 d2 d3 d H3 Q (r2 _) (r3 _) hd fun v hv => kk v H3 hv
      | false => exact q2.dat0 c2.drop1 s2 (.bl false)
    | _ => exact q2.elim
theorem se_ch {op op' : CmpOp} {r r' : R2} {f f' : PyData → PyData → Option PyData} {x y z : Expr} {ma mb mc : M O} (ho : OpR X (compareOp op) r) (ho' : OpR X (compareOp op') r') (hr : Op2 X.K r f) (hr' : Op2 X.K r' f') (ha : SE X Φ b1 x ma) (hb : SE X Φ b2 y mb) (hc : SE X Φ b3 z mc)
    (hm : lastMarks [op, op'] [y, z] = false := by with_unfolding_all rfl) : SE X Φ (b1 && (b2 && b3)) (.Compare x [op, op'] [y, z] pos) (chM f f' ma mb mc) := PE.imp (pe_chain ho ho' ha hb hc hm) fun _ _ _ q => ch_run hr hr' q
theorem st_ch {op op' : CmpOp} {r r' : R2} {f f' : PyData → PyData → Option PyData} {x y z : Expr} {ma mb mc : M O} (ho : OpR X (compareOp op) r) (ho' : OpR X (compareOp op') r') (hr : Op2 X.K r f) (hr' : Op2 X.K r' f') (ha : SE X Φ b1 x ma) (hb : SE X Φ b2 y mb) (hc : SE X Φ b3 z mc)
    (hm : lastMarks [op, op'] [y, z] = false := by with_unfolding_all rfl) : STt X Φ (.Compare x [op, op'] [y, z] pos) (tstM (chM f f' ma mb mc)) := by
  refine PT.imp (pt_chain ho ho' ha hb hc hm) fun σ H Q q => ?_
  obtain ⟨F, env, Np, Lp, c, s, q⟩ := q
  refine ch_run (b1 := b1) (b2 := b2) (b3 := b3) hr hr' ?_
  exact seqET c s q fun v H' F' env' ao c' s' t' _ q' => tst_end c' s' t' q'
end
end Z
/-! ZG: promises where nothing is being written out around. -/
namespace Z
open PySem L2 PySem.Spec PyProof.Rows
/-- room, and no repr around -/
structure Room (k : Nat) (A : Around) : Prop where
  r : L2.Room k A
  gu : A.guards = some []
theorem Room.mono {j k : Nat} {A : Around} (h : Room k A) (z : j ≤ k) : Room j A := ⟨h.r.mono z, h.gu⟩
theorem Room.units {k : Nat} {A : Around} (h : Room k A) : A.units + 64 < cLine := h.r.units
theorem Room.un {k : Nat} {A : Around} (h : Room k A) : A.units + 16 * k + 200 < cLine := h.r.un
theorem Room.deep {k : Nat} {A : Around} (h : Room (k + 1) A) (en : Env) : Room k (A.deeper en) := ⟨h.r.deeper en, h.gu⟩
section
variable {P : Program} {w : World} {K : PySem.W.Frag} {mg : Str → Option Value} {base : Heap} {CX : CXT} {j k : Nat} {fa : Addr} {fd : FuncData} {ps N : List Str} {sp sp' : Sp} {A : Around} {outer : List Env} {s s' : Shared} {H : Hp} {args : Args} {us : List Value} {vs : List V} {Q : VK} {E : XK}
/-- a def's promise -/
structure FnOk (P : Program) (w : World) (K : PySem.W.Frag) (mg : Str → Option Value) (base : Heap) (CX : CXT) (k : Nat) (fa : Addr) (fd : FuncData) (ps : List Str) (sp : Sp) : Prop where
  many : ∀ {vs H Q E}, sp vs H Q E → vs.length = ps.length
  goes : ∀ {A outer s H args us vs Q E}, Room k A → Env0 P w K mg base A outer s H → BindsTo s fd args (ps.zip us) → Vals vs us → sp vs H Q E → codeAny (model P w) A (Code.call (Value.ref fa) args) (CR CX outer P w H s Q E) s
theorem FnOk.mono (F : FnOk P w K mg base CX j fa fd ps sp) (h : j ≤ k) : FnOk P w K mg base CX k fa fd ps sp := ⟨F.many, fun r => F.goes (r.mono h)⟩
theorem FnOk.imp (F : FnOk P w K mg base CX k fa fd ps sp) (h : ∀ vs H Q E, sp' vs H Q E → sp vs H Q E) : FnOk P w K mg base CX k fa fd ps sp' := ⟨fun q => F.many (h _ _ _ _ q), fun r e b v q => F.goes r e b v (h _ _ _ _ q)⟩
/-- a def by its body -/
theorem fnG {x qual : Str} {st : Stmt} (Fn : Fun K x qual st fa fd) (S : FnScope N ps (defScope st)) (hl : ∀ vs H Q E, sp vs H Q E → vs.length = ps.length)
    (hb : ∀ (cdv : Value) (A : Around) (outer : List Env) (s : Shared) (H : Hp) (vs : List V) (Q : VK) (E : XK), Room k (A.deeper (envOfC qual (defScope st) s.heap.objs.size fa cdv)) → sp vs H Q E →
      ∃ t, PSs (cxOf CX P w K mg base N qual (defScope st) fa cdv A outer s H E) (defBody st) t ∧ t { nx := fun _ H' => Q .non H', rt := Q } (start N vs) H) : FnOk P w K mg base CX (k + 1) fa fd ps sp := by
  obtain ⟨oc, od, kv, dc, pm, an, cdv, ct, osl, rfl, found, codeOk⟩ := Fn.ex
  refine ⟨fun q => hl _ _ _ _ q, fun {A outer s H args us vs Q E} room e0 bind rel q => ?_⟩
  have same : ∀ {b : Addr} {o : Obj}, base.get? b = some o → s.heap.get? b = some o := fun z => (e0.bs _ _ z).1
  have inK : K.In s.heap := e0.mod.kin.keeps fun _ _ z => same z
  have slots : ∀ y ∈ ps.zip us, (defScope st).names.lookup y.1 = some .local ∨ ((defScope st).names.lookup y.1 = some .cell ∧ ((cellsFrom (s.heap.objs.size + 1) (defScope st).names []).lookup y.1).isSome = true) := by
    intro y hy
    refine (S.par y.1 (List.of_mem_zip (b := y.2) hy).1).imp id fun z => ⟨z, PySem.W.cellsFrom_some _ _ _ (.inl z)⟩
  refine codeAny_call_function room.r.depth (inK _ _ found) rfl S.co S.gen rfl (PySem.W.codeRec_of inK codeOk) (bind _ _ _ _ (wpAny_newFunctionEnv_cells S.kind slots ?_))
  rintro env rfl s1 laid
  refine ⟨(e0.mod.nolimit.keeps fun _ _ z => same z).keeps laid.toInCall.keep, codeAny_func ?_⟩
  obtain ⟨t, walks, q'⟩ := hb cdv A outer s H vs Q E (room.deep _) q
  refine wpAny_mono (walks.run [] s1 (start N vs) H _ (inv_start S room.r.hd e0 (hl _ _ _ _ q) rel laid) q') ?_ fun _ _ z => z
  intro fl s2 z
  have told : ∀ (v : V) (u : Value) (σ' : L2.St) (H' : Hp), Inv (cxOf CX P w K mg base N qual (defScope st) fa cdv A outer s H E) [] σ' H' s2 → RelV v u → Q v H' → CE outer P w H s Q u s2 := fun v u σ' H' i r q => ⟨v, H', i.os, i.bare, i.base, i.hok, r, q⟩
  cases fl with
  | next =>
    obtain ⟨σ', H', i, y⟩ := z
    exact told .non .none σ' H' i rfl y
  | ret u =>
    obtain ⟨v, σ', H', i, r, y⟩ := z
    exact told v u σ' H' i r y
  | cont =>
    obtain ⟨_, _, _, y⟩ := z
    exact y.elim
  | brk =>
    obtain ⟨_, _, _, y⟩ := z
    exact y.elim
end
section
variable {X : Cx} {CX : CXT} {k : Nat} {fa : Addr} {fd : FuncData} {ps : List Str} {sp : Sp} {E : L2.St → XK} {n : Str} {p pos : Pos} {e : Expr} {es : List Expr} {t : TA} {pins : List (Addr × Obj)} {σ : L2.St} {H : Hp} {s : Shared} {Q : VK} {us : List Value} {vs : List V}
theorem runG (F : FnOk X.prog X.w X.K X.mg X.base CX k fa fd ps sp) (hr : Room k X.A) (hb : Binds X.K fd ps []) (I : Inv X pins σ H s) (rel : Vals vs us) (hx : PassesAt CX X σ (E σ)) (q : sp vs H Q (E σ)) : wpAny (model X.prog X.w) X.A (call (Value.ref fa) us) (EP X pins σ Q) X.xe s := by
  have many : (us ++ []).length = ps.length := by
    rw [List.append_nil, ← rel.length]
    exact F.many q
  have bind := hb s us I.kIn many
  rw [List.append_nil] at bind
  refine wpAny_call (codeAny_mono (F.goes hr I.env0 bind rel q) ?_)
  rintro (x | fl) s' z
  · exact hx pins H s x s' I z
  · cases fl with
    | ret u => exact I.after z
    | _ => exact z.elim
theorem pe_callG (F : FnOk X.prog X.w X.K X.mg X.base CX k fa fd ps sp) (hr : Room k X.A) (hg : Gl X n) (hm : X.mg n = some (.ref fa)) (hk : PySem.W.keepIn X.K (.ref fa) = true) (hb : Binds X.K fd ps []) (hx : ∀ σ, PassesAt CX X σ (E σ)) (ha : PA X (e :: es) t)
    (hdb : (n == ("__debug__" : Str)) = false) (he : starEach (e :: es) X.env = (false, eval e X.env) :: starEach es X.env) (hpl : (backTo pos (starEach es X.env)).any (·.1) = false) : PE X (.Call (.Name n p) (e :: es) [] pos) fun σ H Q => t σ H fun vs H1 => sp vs H1 Q (E σ) :=
  ⟨fun pins s σ H Q I q => wpAny_Call_Name_kw (ld_glob I hg hm (PySem.W.callWith_K (h₀ := X.base) I.ok.mod.kin hk (thn (ha.run pos pins s σ H _ I q) fun us s1 ⟨_, _, I1, rel, q1⟩ => ⟨I1.kIn, runG F hr hb I1 rel (hx σ) q1⟩) he hpl) hdb)⟩
theorem pe_callG0 {E0 : XK} (F : FnOk X.prog X.w X.K X.mg X.base CX k fa fd ps sp) (hr : Room k X.A) (hg : Gl X n) (hm : X.mg n = some (.ref fa)) (hk : PySem.W.keepIn X.K (.ref fa) = true) (hb : Binds X.K fd ps []) (hx : Passes CX X E0) (hdb : (n == ("__debug__" : Str)) = false) : PE X (.Call (.Name n p) [] [] pos) fun _ H Q => sp [] H Q E0 :=
  ⟨fun pins s σ H Q I q => wpAny_Call_Name_kw (ld_glob I hg hm (PySem.W.callWith_K0 I.kIn hk (runG (E := fun _ => E0) (us := []) F hr hb I .nil (fun pins H s e s' I z => hx pins σ H s e s' I z) q)) hdb)⟩
end
section
variable {P : Program} {w : World} {K : PySem.W.Frag} {mg mb : Str → Option Value} {CX : CXT} {k : Nat} {fa a : Addr} {fd : FuncData} {x : Str} {sp : Sp} {s : Shared} {vs : List Value} {ns : List Int} {H : Hp}
abbrev LawEnd (s : Shared) : Result → Shared → Prop := fun r s' => r = .ok (.ret (.bool true)) ∧ OldK s.heap s'.heap ∧ s'.os = s.os ∧ AllBare s'.gens
/-- the script's own object -/
abbrev scO (vs : List Value) : Obj := { cls := .type "list", data := .seq vs.toArray }
theorem law_from (F : ∀ base : Heap, K.In base → base.Ns mainGlobals mg → FnOk P w K mg base CX k fa fd [x] sp) (hr : Room k callerA) (hbind : ∀ (s : Shared) (u : Value), BindsTo s fd ⟨[u], []⟩ [(x, u)])
    (inK : K.In s.heap) (top : s.heap.Ns mainGlobals mg) (bu : s.heap.Ns builtinsNs mb) (bus : ∀ y : Str, y ≠ "__name__" → mb y = bootBuiltins y) (free : s.heap.NoLimit) (bare : s.gens = #[]) (script : s.heap.get? a = some (scO vs))
    (only : Only H) (ok : HOk P w H s.heap) (just : ∀ b, H b ≠ none → b = a ∧ K.lookup a = none) (q : sp [.ref a] H (fun v _ => v = .bl true) fun _ _ _ => False) (quiet : ∀ e s', CX [] H s (fun _ _ _ => False) e s' → False) :
    codeAny (model P w) callerA (.call (.ref fa) ⟨[.ref a], []⟩) (LawEnd s) s := by
  -- what is no script is not tracked
  have none_of : ∀ {b : Addr} {o : Obj}, s.heap.get? b = some o → (b = a → o = scO vs → K.lookup a = none → False) → H b = none := fun {b o} e no => by
    rcases hb : H b with _ | u
    · rfl
    · obtain ⟨rfl, hk⟩ := just b (by simp [hb])
      exact (no rfl (Option.some.inj (e.symm.trans script)) hk).elim
  have ns : ∀ {b : Addr} {m : Str → Option Value}, s.heap.Ns b m → (hidT s.heap H).Ns b m := by
    rintro b m ⟨o, es, ep, e, d, r⟩
    refine ⟨o, es, ep, hidT_get e (none_of e fun _ z _ => ?_), d, r⟩
    subst z
    cases d
  have inK' : K.In (hidT s.heap H) := fun b o e => hidT_get (inK b o e) (none_of (inK b o e) fun z _ hk => by
    subst z
    exact nomatch hk.symm.trans e)
  have e0 : Env0 P w K mg (hidT s.heap H) callerA [] s H := by
    refine ⟨rfl, ⟨inK', ns top, ⟨mb, ns bu, bus⟩, ?_⟩, fun _ _ e => of_hidT e, Nat.le_of_eq (hidT_size _ _), trivial, fun b (z : b ∈ ([] : List Addr)) => (nomatch z), ok, AllBare.of_eq bare⟩
    obtain ⟨m, h1, h2⟩ := free
    exact ⟨m, ns h1, h2⟩
  refine codeAny_mono ((F _ inK' (ns top)).goes (us := [.ref a]) (vs := [.ref a]) hr e0 (hbind s (.ref a)) (.cons rfl .nil) q) ?_
  rintro (e | fl) s' z
  · exact (quiet e s' z).elim
  cases fl with
  | ret u =>
    obtain ⟨v, H', os, bare', un, ok', rel, rfl⟩ := z
    cases (show u = Value.bool true from rel)
    refine ⟨rfl, OldK.of_keep fun b o e => ?_, os, bare'⟩
    rcases hb : H b with _ | u
    · exact un.keep b o e hb (fun z => nomatch z) (fun z => nomatch z)
    · rcases only b with z | ⟨ob, xs, z⟩
      · simp [z] at hb
      · have h1 := (ok b _ z).1
        have h2 := (ok' b _ (un.frzs b ob _ z)).1
        rw [e] at h1
        rw [h2, ← h1]
  | _ => exact z.elim
theorem law_of (F : ∀ base : Heap, K.In base → base.Ns mainGlobals mg → FnOk P w K mg base CX k fa fd [x] sp) (hr : Room k callerA) (hbind : ∀ (s : Shared) (u : Value), BindsTo s fd ⟨[u], []⟩ [(x, u)])
    (inK : K.In s.heap) (top : s.heap.Ns mainGlobals mg) (bu : s.heap.Ns builtinsNs mb) (bus : ∀ y : Str, y ≠ "__name__" → mb y = bootBuiltins y) (free : s.heap.NoLimit) (bare : s.gens = #[]) (script : s.heap.get? a = some (scO vs)) (whole : IntsAre vs ns) (few : ns.length ≤ sizeLine)
    (q : ∀ H : Hp, SqL K H a (ns.map V.int) → sp [.ref a] H (fun v _ => v = .bl true) fun _ _ _ => False) (quiet : ∀ H e s', CX [] H s (fun _ _ _ => False) e s' → False) : codeAny (model P w) callerA (.call (.ref fa) ⟨[.ref a], []⟩) (LawEnd s) s := by
  have rel := vals_ints whole
  rcases hk : K.lookup a with _ | o
  · -- tracked as what it is
    let H : Hp := fun b => if b = a then some (.frz (scO vs) (.lst (ns.map V.int))) else none
    have at_ : ∀ {b u}, H b = some u → b = a ∧ u = .frz (scO vs) (.lst (ns.map V.int)) := fun {b u} z => by
      by_cases hb : b = a
      · simp only [H, hb, if_true, Option.some.injEq] at z
        exact ⟨hb, z.symm⟩
      · simp [H, hb] at z
    refine law_from F hr hbind inK top bu bus free bare script (H := H) (fun b => ?_) (fun b u z => ?_) (fun b z => ?_) (q H (.inl (.inr ⟨scO vs, by simp [H]⟩))) (quiet H)
    · by_cases hb : b = a
      · exact .inr ⟨scO vs, ns.map V.int, by simp [H, hb]⟩
      · exact .inl (by simp [H, hb])
    · obtain ⟨rfl, rfl⟩ := at_ z
      exact ⟨script, by simpa using few, vs, _, rel, script⟩
    · rcases hb : H b with _ | u
      · exact (z hb).elim
      · exact ⟨(at_ hb).1, hk⟩
  · have e := inK a o hk
    rw [script] at e
    cases e
    exact law_from F hr hbind inK top bu bus free bare script (H := fun _ => none) (fun _ => .inl rfl) (fun _ _ z => nomatch z) (fun _ z => (z rfl).elim) (q _ (.inr ⟨scO vs, vs.toArray, _, hk, rfl, rfl, rfl, by simpa [whole.length] using few, by simpa using rel⟩)) (quiet _)
end
theorem walkG {l : PySem.W.OpenLaw} {n k : Nat} {q : Program} {loose : List Str} {XP : (Str → Option Value) → Heap → Prop} {YP : World → Heap → Prop} {d : DefRec} {K : Params → PySem.W.Frag} {CX : World → CXT} {sp : World → Sp} {x : Str} (hn : l.most = some n) (few : n ≤ sizeLine) (hdf : d.params.defaults = []) (hr : Room k callerA)
    (hY : ∀ (w : World) (h : Heap), YP w h → (K w.params).In h) (F : ∀ (w : World) (mg : Str → Option Value) (fa : Addr) (h : Heap), (K w.params).In h → h.Ns mainGlobals mg → mg d.name = some (.ref fa) →
      ∃ fd : FuncData, (∀ (s : Shared) (u : Value), BindsTo s fd ⟨[u], []⟩ [(x, u)]) ∧ ∀ base : Heap, (K w.params).In base → base.Ns mainGlobals mg → FnOk l.prog w (K w.params) mg base (CX w) k fa fd [x] (sp w))
    (hsp : ∀ (w : World) (H : Hp) (a : Addr) (ns : List Int), ns.length ≤ n → SqL (K w.params) H a (ns.map V.int) → sp w [.ref a] H (fun v _ => v = .bl true) fun _ _ _ => False) (quiet : ∀ (w : World) (H : Hp) (s : Shared) (e : Value) (s' : Shared), CX w [] H s (fun _ _ _ => False) e s' → False) :
    PySem.W.WalkO q loose XP YP l.row.toRowW d [] (fun f vs => PySem.call f vs) := by
  apply Att.attach_call hn hdf
  intro w s₀ s mg mb fa o pm cd doc a vs ns G Y ho hd hcd hmg script whole many bare
  obtain ⟨fd, bind, good⟩ := F w mg fa _ (hY w _ Y) G.T.g hmg
  exact law_of good hr bind (hY w _ Y) G.T.g G.T.b G.T.builtins G.T.nolimit bare script whole (Nat.le_trans many few) (fun H => hsp w H a ns many) fun H e s' => quiet w H s e s'
end Z
/-! Z5: the operators' tables and what they rest on. -/
namespace Z
open PySem L2

theorem OpR.or {X : Cx} {f : Value → Value → Sem Value} {r r' : R2} (h : OpR X f r) (h' : OpR X f r') : OpR X f (fun x y H Q => r x y H Q ∨ r' x y H Q) := by
  intro pins s σ H x y v u Q I rx ry q
  rcases q with q | q
  · exact h pins s σ H x y v u Q I rx ry q
  · exact h' pins s σ H x y v u Q I rx ry q

/-! ### ints -/
def fI (C : Int → Int → Bool) (g : Int → Int → PyData) : PyData → PyData → Option PyData
  | .int i, .int j => if C i j then some (g i j) else none
  | _, _ => none
theorem op2_rI {K : PySem.W.Frag} {C : Int → Int → Bool} {C' : Int → Int → Prop} {g : Int → Int → PyData} {gv : Int → Int → V} (hC : ∀ i j, C i j = true → C' i j) (hg : ∀ i j F, Dq K F (gv i j) (g i j)) : Op2 K (rI C' gv) (fI C g) := by
  intro x y d1 d2 d H Q h1 h2 hf k
  cases d1 <;> cases d2 <;> simp only [fI] at hf <;> try contradiction
  rename_i i j
  cases h1
  cases h2
  cases hc : C i j with
  | false => rw [hc] at hf; cases hf
  | true =>
    rw [hc] at hf
    cases hf
    exact ⟨i, j, rfl, rfl, hC i j hc, k _ (hg i j H)⟩
theorem op2_rI0 {K : PySem.W.Frag} {g : Int → Int → PyData} {gv : Int → Int → V} (hg : ∀ i j F, Dq K F (gv i j) (g i j)) : Op2 K (rI0 gv) (fI (fun _ _ => true) g) := by
  intro x y d1 d2 d H Q h1 h2 hf k
  cases d1 <;> cases d2 <;> simp only [fI] at hf <;> try contradiction
  rename_i i j
  cases h1
  cases h2
  simp only [if_true, Option.some.injEq] at hf
  subst hf
  exact ⟨i, j, rfl, rfl, k _ (hg i j H)⟩
abbrev fInt (g : Int → Int → Int) := fI (fun _ _ => true) fun i j => .int (g i j)
abbrev fIntC (C : Int → Int → Bool) (g : Int → Int → Int) := fI C fun i j => .int (g i j)
abbrev fCmp (g : Int → Int → Bool) := fI (fun _ _ => true) fun i j => .bool (g i j)
def sOk (a b : Str) : Bool := decide (a.length + b.length ≤ 1000000)
/-- + of ints, of texts -/
def fAdd : PyData → PyData → Option PyData
  | .int i, .int j => some (.int (i + j))
  | .str a, .str b => if sOk a b then some (.str (a ++ b)) else none
  | _, _ => none
def rAddU : R2 := fun x y H Q => rI0 (fun i j => .int (i + j)) x y H Q ∨ (∃ i j, x = .str i ∧ y = .str j ∧ i.length + j.length ≤ sizeLine ∧ Q (.str (i ++ j)) H)
theorem sOk_line {n : Nat} (h : n ≤ 1000000) : n ≤ sizeLine := Nat.le_trans h (by decide)
theorem op2_add {K : PySem.W.Frag} : Op2 K rAddU fAdd := by
  intro x y d1 d2 d H Q h1 h2 hf k
  cases d1 <;> cases d2 <;> simp only [fAdd] at hf <;> try contradiction
  · rename_i i j
    cases h1
    cases h2
    simp only [Option.some.injEq] at hf
    subst hf
    exact .inl ⟨i, j, rfl, rfl, k _ (.int _)⟩
  · rename_i a b'
    cases h1
    cases h2
    cases hc : sOk a b' with
    | false => rw [hc] at hf; cases hf
    | true =>
      rw [hc] at hf
      cases hf
      exact .inr ⟨a, b', rfl, rfl, sOk_line (of_decide_eq_true hc), k _ (.str _)⟩
def mulOk (i j : Int) : Bool := decide (-(2 ^ 64) < i ∧ i < 2 ^ 64) || decide (-(2 ^ 64) < j ∧ j < 2 ^ 64)
theorem mulOk_c {i j : Int} (h : mulOk i j = true) : CMul i j := by
  simp only [mulOk, Bool.or_eq_true, decide_eq_true_eq] at h
  exact h
def divOk (_ j : Int) : Bool := decide (0 < j ∧ j < 2 ^ 200)
theorem divOk_c {i j : Int} (h : divOk i j = true) : CDivW i j := by
  simp only [divOk, decide_eq_true_eq] at h
  exact wide_div (b := 200) h.1 (by omega) (by decide) (by decide)
def modOk (_ j : Int) : Bool := decide (0 < j)
theorem modOk_c {i j : Int} (h : modOk i j = true) : 0 < j := by simpa [modOk] using h
def powOk (i j : Int) : Bool := decide (0 ≤ j ∧ j ≤ 1000000 ∧ i.natAbs < 2 ^ 64)
theorem powOk_c {i j : Int} (h : powOk i j = true) : CPow i j := by simpa [powOk, CPow] using h
def shrOk (_ j : Int) : Bool := decide (0 ≤ j)
theorem shrOk_c {i j : Int} (h : shrOk i j = true) : 0 ≤ j := by simpa [shrOk] using h
abbrev fSub := fInt (· - ·)
abbrev fMul := fIntC mulOk (· * ·)
abbrev fDiv := fIntC divOk (· / ·)
abbrev fMod := fIntC modOk (· % ·)
abbrev fPow := fIntC powOk fun i j => i ^ j.toNat
abbrev fShl := fIntC powOk fun i j => i * 2 ^ j.toNat
abbrev fShr := fIntC shrOk fun i j => i / 2 ^ j.toNat
abbrev fAnd := fInt Builtin.bitAnd
abbrev fOr := fInt Builtin.bitOr
abbrev fLt := fCmp fun i j => decide (i < j)
abbrev fLe := fCmp fun i j => decide (i ≤ j)
abbrev fGt := fCmp fun i j => decide (j < i)
abbrev fGe := fCmp fun i j => decide (j ≤ i)

section
variable {X : Cx} {Φ : Fx} {b b1 b2 : Bool} {x y : Expr} {ma mb : M O} {pos : Pos}
theorem se_add (ha : SE X Φ b1 x ma) (hb : SE X Φ b2 y mb) : SE X Φ (b1 && b2) (.BinOp x .Add y pos) (op2M b2 fAdd ma mb) := se_op2 (OpR.or op_add op_add_str) op2_add ha hb
theorem se_sub (ha : SE X Φ b1 x ma) (hb : SE X Φ b2 y mb) : SE X Φ (b1 && b2) (.BinOp x .Sub y pos) (op2M b2 fSub ma mb) := se_op2 op_sub (op2_rI0 fun _ _ _ => .int _) ha hb
theorem se_mul (ha : SE X Φ b1 x ma) (hb : SE X Φ b2 y mb) : SE X Φ (b1 && b2) (.BinOp x .Mult y pos) (op2M b2 fMul ma mb) := se_op2 op_mul (op2_rI (fun _ _ h => mulOk_c h) fun _ _ _ => .int _) ha hb
theorem se_div (ha : SE X Φ b1 x ma) (hb : SE X Φ b2 y mb) : SE X Φ (b1 && b2) (.BinOp x .FloorDiv y pos) (op2M b2 fDiv ma mb) := se_op2 op_fdivW (op2_rI (fun i _ h => divOk_c (i := i) h) fun _ _ _ => .int _) ha hb
theorem se_mod (ha : SE X Φ b1 x ma) (hb : SE X Φ b2 y mb) : SE X Φ (b1 && b2) (.BinOp x .Mod y pos) (op2M b2 fMod ma mb) := se_op2 op_mod (op2_rI (fun i _ h => modOk_c (i := i) h) fun _ _ _ => .int _) ha hb
theorem se_pow (ha : SE X Φ b1 x ma) (hb : SE X Φ b2 y mb) : SE X Φ (b1 && b2) (.BinOp x .Pow y pos) (op2M b2 fPow ma mb) := se_op2 op_pow (op2_rI (fun _ _ h => powOk_c h) fun _ _ _ => .int _) ha hb
theorem se_shl (ha : SE X Φ b1 x ma) (hb : SE X Φ b2 y mb) : SE X Φ (b1 && b2) (.BinOp x .LShift y pos) (op2M b2 fShl ma mb) := se_op2 op_shl (op2_rI (fun _ _ h => powOk_c h) fun _ _ _ => .int _) ha hb
theorem se_shr (ha : SE X Φ b1 x ma) (hb : SE X Φ b2 y mb) : SE X Φ (b1 && b2) (.BinOp x .RShift y pos) (op2M b2 fShr ma mb) := se_op2 op_shr (op2_rI (fun i _ h => shrOk_c (i := i) h) fun _ _ _ => .int _) ha hb
theorem se_band (ha : SE X Φ b1 x ma) (hb : SE X Φ b2 y mb) : SE X Φ (b1 && b2) (.BinOp x .BitAnd y pos) (op2M b2 fAnd ma mb) := se_op2 op_and (op2_rI0 fun _ _ _ => .int _) ha hb
theorem se_bor (ha : SE X Φ b1 x ma) (hb : SE X Φ b2 y mb) : SE X Φ (b1 && b2) (.BinOp x .BitOr y pos) (op2M b2 fOr ma mb) := se_op2 op_or (op2_rI0 fun _ _ _ => .int _) ha hb
def fNeg : PyData → Option PyData
  | .int i => some (.int (-i))
  | _ => none
theorem se_neg (ha : SE X Φ b x ma) : SE X Φ b (.UnaryOp .USub x pos) (un1M fNeg ma) := se_un1 un_neg (fun z d1 d H Q h hf k => by
  cases d1 <;> simp only [fNeg] at hf <;> try contradiction
  cases h
  cases hf
  exact ⟨_, rfl, k _ (.int _)⟩) ha
end

/-! ### == of data -/
mutual
theorem Dq.dp {K : PySem.W.Frag} {F : Hp} : ∀ {v : V} {d : PyData}, Dq K F v d → d.canLay0 = true → Dp K F v d
  | _, _, .non, _ => .non
  | _, _, .bl b, _ => .bl b
  | _, _, .int i, _ => .int i
  | _, _, .str x, _ => .str x
  | _, _, .lst h hs, e => .lst (.inl (.inl h)) (DqL.dp hs (by simpa [PyData.canLay0] using e))
  | _, _, .tup h hs, e => .tup h (DqL.dp hs (by simpa [PyData.canLay0] using e))
  | _, _, .dct _ _, e => by simp [PyData.canLay0] at e
theorem DqL.dp {K : PySem.W.Frag} {F : Hp} : ∀ {v : List V} {d : List PyData}, DqL K F v d → PyData.canLayAll0 d = true → DpAll K F v d
  | _, _, .nil, _ => .nil
  | _, _, .cons h hs, e => by
    simp only [PyData.canLayAll0, Bool.and_eq_true] at e
    exact .cons (Dq.dp h e.1) (DqL.dp hs e.2)
end
def fEq : PyData → PyData → Option PyData := fun a b => if SeqAt.shaped a && SeqAt.shaped b then some (.bool (PyData.eqv a b)) else none
def fNe : PyData → PyData → Option PyData := fun a b => if SeqAt.shaped a && SeqAt.shaped b then some (.bool (!PyData.eqv a b)) else none
theorem Dq.dpS {K : PySem.W.Frag} {F : Hp} {v : V} {d : PyData} (h : Dq K F v d) (e : SeqAt.shaped d = true) : Dp K F v d := h.dp (SeqAt.canLay_of_shaped e)
theorem op2_eq {K : PySem.W.Frag} : Op2 K (rEqD K) fEq := by
  intro x y d1 d2 d H Q h1 h2 hf k
  simp only [fEq] at hf
  cases hs : SeqAt.shaped d1 && SeqAt.shaped d2 with
  | false => rw [hs] at hf; cases hf
  | true =>
    rw [hs] at hf
    cases hf
    exact ⟨d1, d2, h1.dpS (band1 hs), h2.dpS (band2 hs), band1 hs, band2 hs, k _ (.bl _)⟩
theorem op2_ne {K : PySem.W.Frag} : Op2 K (rNeD K) fNe := by
  intro x y d1 d2 d H Q h1 h2 hf k
  simp only [fNe] at hf
  cases hs : SeqAt.shaped d1 && SeqAt.shaped d2 with
  | false => rw [hs] at hf; cases hf
  | true =>
    rw [hs] at hf
    cases hf
    exact ⟨d1, d2, h1.dpS (band1 hs), h2.dpS (band2 hs), band1 hs, band2 hs, k _ (.bl _)⟩

/-! ### in, not in -/
def inD (d : PyData) : PyData → Option Bool
  | .list ds => if SeqAt.shaped d && SeqAt.shaped (.list ds) then some (ds.any fun z => PyData.eqv z d) else none
  | .tuple ds => if flat d && ds.all flat then some (ds.any fun z => PyData.eqv z d) else none
  | .str z => match d with
    | .str s => match s.cps.toList with
      | [c] => some (decide (c ∈ z.cps.toList))
      | _ => none
    | _ => none
  | _ => none
def fIn : PyData → PyData → Option PyData := fun d e => (inD d e).map .bool
def fNotIn : PyData → PyData → Option PyData := fun d e => (inD d e).map fun k => .bool (!k)
theorem Dq.flatV {K : PySem.W.Frag} {F : Hp} {v : V} {d : PyData} (h : Dq K F v d) (f : Z.flat d = true) : L2.flatV v = true := by cases h <;> first | rfl | cases f
theorem Dq.eqV {K : PySem.W.Frag} {F : Hp} {v w : V} {d e : PyData} (h : Dq K F v d) (f : Z.flat d = true) (h' : Dq K F w e) (f' : Z.flat e = true) : L2.eqV v w = PyData.eqv d e := by
  cases h <;> first | cases f | skip
  all_goals (cases h' <;> first | cases f' | skip)
  all_goals (simp [L2.eqV, PyData.eqv])
theorem DqL.inV {K : PySem.W.Frag} {F : Hp} {w : V} {e : PyData} (h' : Dq K F w e) (f' : Z.flat e = true) : ∀ {vs : List V} {ds : List PyData}, DqL K F vs ds → ds.all Z.flat = true → vs.all L2.flatV = true ∧ L2.inV w vs = ds.any fun z => PyData.eqv z e
  | _, _, .nil, _ => ⟨rfl, rfl⟩
  | _, _, .cons h hs, f => by
    rw [List.all_cons, Bool.and_eq_true] at f
    obtain ⟨i1, i2⟩ := DqL.inV h' f' hs f.2
    refine ⟨by rw [List.all_cons, h.flatV f.1, i1]; rfl, ?_⟩
    show (L2.eqV _ w || L2.inV w _) = _
    rw [h.eqV f.1 h' f', i2, List.any_cons]
def rInU (K : PySem.W.Frag) (neg : Bool) : R2 := fun x y H Q => (if neg then rNotInD K else rInD K) x y H Q ∨ (rIn K neg x y H Q ∨ ∃ (c : Nat) (z : Str), x = .str ⟨#[c]⟩ ∧ y = .str z ∧ Q (.bl (if neg then !decide (c ∈ z.cps.toList) else decide (c ∈ z.cps.toList))) H)
theorem op2_inG {K : PySem.W.Frag} (neg : Bool) : Op2 K (rInU K neg) (fun d e => (inD d e).map fun k => .bool (if neg then !k else k)) := by
  intro x y d1 d2 d H Q h1 h2 hf k
  cases d2 <;> simp only [inD, Option.map_none] at hf <;> try contradiction
  · -- a text
    rename_i z
    cases d1 <;> simp only [Option.map_none] at hf <;> try contradiction
    rename_i s
    cases h1
    cases h2
    cases hc : s.cps.toList with
    | nil => rw [hc] at hf; cases hf
    | cons c r =>
      rw [hc] at hf
      cases r with
      | cons _ _ => cases hf
      | nil =>
        simp only [Option.map_some, Option.some.injEq] at hf
        subst hf
        have e : s = ⟨#[c]⟩ := by
          cases s with
          | mk a =>
            congr 1
            exact Array.toList_inj.mp hc
        subst e
        exact .inr (.inr ⟨c, z, rfl, rfl, by cases neg <;> exact k _ (.bl _)⟩)
  · rename_i ds
    cases hs : SeqAt.shaped d1 && SeqAt.shaped (.list ds) with
    | false => rw [hs] at hf; cases hf
    | true =>
      rw [hs] at hf
      simp only [if_true, Option.map_some, Option.some.injEq] at hf
      subst hf
      refine .inl ?_
      cases neg with
      | true => exact ⟨d1, ds, h1.dpS (band1 hs), h2.dpS (band2 hs), band1 hs, band2 hs, k _ (.bl _)⟩
      | false => exact ⟨d1, ds, h1.dpS (band1 hs), h2.dpS (band2 hs), band1 hs, band2 hs, k _ (.bl _)⟩
  · rename_i ds
    cases hs : flat d1 && ds.all flat with
    | false => rw [hs] at hf; cases hf
    | true =>
      rw [hs] at hf
      simp only [if_true, Option.map_some, Option.some.injEq] at hf
      subst hf
      cases h2 with
      | tup ha hl =>
        rename_i a vs
        obtain ⟨i1, i2⟩ := hl.inV h1 (band1 hs) (band2 hs)
        refine .inr (.inl ⟨a, vs, rfl, .inr ha, h1.flatV (band1 hs), i1, ?_⟩)
        rw [i2]
        exact k _ (.bl _)
section
variable {X : Cx} {Φ : Fx} {b b1 b2 : Bool} {x y : Expr} {ma mb : M O} {pos : Pos}
theorem opr_in (hu : X.A.units + 65 < cLine) : OpR X (compareOp .In) (rInU X.K false) := OpR.or (op_inD hu) (OpR.or op_in_seq op_in_sign)
theorem opr_notIn (hu : X.A.units + 65 < cLine) : OpR X (compareOp .NotIn) (rInU X.K true) := OpR.or (op_notInD hu) (OpR.or op_notIn_seq op_notIn_sign)
theorem op2_in {K : PySem.W.Frag} : Op2 K (rInU K false) fIn := op2_inG false
theorem op2_notIn {K : PySem.W.Frag} : Op2 K (rInU K true) fNotIn := op2_inG true
theorem room65 {k : Nat} {A : Around} (hr : Room k A) : A.units + 65 < cLine := by
  have := hr.un
  omega

/-! ### is -/
def fIs : PyData → PyData → Option PyData
  | .bool i, .bool j => some (.bool (decide (i = j)))
  | .none, .none => some (.bool true)
  | .bool _, .none | .int _, .none | .str _, .none | .list _, .none | .tuple _, .none | .dict _, .none => some (.bool false)
  | _, _ => none
def fIsNot : PyData → PyData → Option PyData := fun a b => match fIs a b with
  | some (.bool k) => some (.bool (!k))
  | _ => none
def rIsU (neg : Bool) : R2 := fun x y H Q => (y = .non ∧ Q (.bl (if neg then !decide (x = .non) else decide (x = .non))) H) ∨ ∃ i j, x = .bl i ∧ y = .bl j ∧ Q (.bl (if neg then !decide (i = j) else decide (i = j))) H
theorem op2_isG {K : PySem.W.Frag} (neg : Bool) : Op2 K (rIsU neg) (if neg then fIsNot else fIs) := by
  intro x y d1 d2 d H Q h1 h2 hf k
  have main : ∀ kk, fIs d1 d2 = some (.bool kk) → (y = .non ∧ decide (x = .non) = kk) ∨ ∃ i j, x = .bl i ∧ y = .bl j ∧ decide (i = j) = kk := by
    intro kk hk
    cases d1 <;> cases d2 <;> simp only [fIs] at hk <;> try contradiction
    all_goals (cases h1; cases h2)
    all_goals (simp only [Option.some.injEq, PyData.bool.injEq] at hk; subst hk)
    all_goals first | exact .inl ⟨rfl, by simp⟩ | exact .inr ⟨_, _, rfl, rfl, rfl⟩
  have all : ∃ kk, fIs d1 d2 = some (.bool kk) ∧ d = .bool (if neg then !kk else kk) := by
    cases neg with
    | true =>
      simp only [if_true, fIsNot] at hf
      split at hf
      · rename_i kk hk
        exact ⟨kk, hk, by simpa using hf.symm⟩
      · cases hf
    | false =>
      have hf' : fIs d1 d2 = some d := hf
      cases d1 <;> cases d2 <;> simp only [fIs] at hf' <;> try contradiction
      all_goals exact ⟨_, rfl, (Option.some.inj hf').symm⟩
  obtain ⟨kk, hk, rfl⟩ := all
  rcases main kk hk with ⟨rfl, e⟩ | ⟨i, j, rfl, rfl, e⟩
  · refine .inl ⟨rfl, ?_⟩
    rw [e]
    exact k _ (.bl _)
  · refine .inr ⟨i, j, rfl, rfl, ?_⟩
    rw [e]
    exact k _ (.bl _)
theorem opr_is : OpR X (compareOp .Is) (rIsU false) := OpR.or op_isN op_is_bl
theorem opr_isNot : OpR X (compareOp .IsNot) (rIsU true) := OpR.or op_notN op_isnot_bl
theorem op2_is {K : PySem.W.Frag} : Op2 K (rIsU false) fIs := op2_isG false
theorem op2_isNot {K : PySem.W.Frag} : Op2 K (rIsU true) fIsNot := op2_isG true
theorem op2_lt {K : PySem.W.Frag} : Op2 K (rI0 fun i j => .bl (decide (i < j))) fLt := op2_rI0 fun _ _ _ => .bl _
theorem op2_le {K : PySem.W.Frag} : Op2 K (rI0 fun i j => .bl (decide (i ≤ j))) fLe := op2_rI0 fun _ _ _ => .bl _
theorem op2_gt {K : PySem.W.Frag} : Op2 K (rI0 fun i j => .bl (decide (j < i))) fGt := op2_rI0 fun _ _ _ => .bl _
theorem op2_ge {K : PySem.W.Frag} : Op2 K (rI0 fun i j => .bl (decide (j ≤ i))) fGe := op2_rI0 fun _ _ _ => .bl _
/-- a comparison's rule on values, with its table -/
structure CR2 (X : Cx) (op : CmpOp) (f : PyData → PyData → Option PyData) : Prop where
  ex : ∃ r, OpR X (compareOp op) r ∧ Op2 X.K r f
theorem cr_lt : CR2 X .Lt fLt := ⟨_, op_lt, op2_lt⟩
theorem cr_le : CR2 X .LtE fLe := ⟨_, op_le, op2_le⟩
theorem cr_gt : CR2 X .Gt fGt := ⟨_, op_gt, op2_gt⟩
theorem cr_ge : CR2 X .GtE fGe := ⟨_, op_ge, op2_ge⟩
theorem cr_eq {k : Nat} (hr : Room k X.A) : CR2 X .Eq fEq := ⟨_, op_eqD hr.units, op2_eq⟩
theorem cr_ne {k : Nat} (hr : Room k X.A) : CR2 X .NotEq fNe := ⟨_, op_neD hr.units, op2_ne⟩
theorem cr_in {k : Nat} (hr : Room k X.A) : CR2 X .In fIn := ⟨_, opr_in (room65 hr), op2_in⟩
theorem cr_ni {k : Nat} (hr : Room k X.A) : CR2 X .NotIn fNotIn := ⟨_, opr_notIn (room65 hr), op2_notIn⟩
theorem cr_is : CR2 X .Is fIs := ⟨_, opr_is, op2_is⟩
theorem cr_isn : CR2 X .IsNot fIsNot := ⟨_, opr_isNot, op2_isNot⟩
theorem se_cmp {op : CmpOp} {f : PyData → PyData → Option PyData} (hc : CR2 X op f) (ha : SE X Φ b1 x ma) (hb : SE X Φ b2 y mb) (hm : behindInMarks op y = false := by first | rfl | exact nomark _) : SE X Φ (b1 && b2) (.Compare x [op] [y] pos) (op2M b2 f ma mb) := by
  obtain ⟨r, h1, h2⟩ := hc.ex
  exact se_cmp2 h1 h2 ha hb hm
theorem st_cmp {op : CmpOp} {f : PyData → PyData → Option PyData} (hc : CR2 X op f) (ha : SE X Φ b1 x ma) (hb : SE X Φ b2 y mb) (hm : behindInMarks op y = false := by first | rfl | exact nomark _) : STt X Φ (.Compare x [op] [y] pos) (tstM (op2M b2 f ma mb)) := by
  obtain ⟨r, h1, h2⟩ := hc.ex
  exact st_cmp2 h1 h2 ha hb hm
theorem se_chn {op op' : CmpOp} {f f' : PyData → PyData → Option PyData} {b3 : Bool} {z : Expr} {mc : M O} (hc : CR2 X op f) (hc' : CR2 X op' f') (ha : SE X Φ b1 x ma) (hb : SE X Φ b2 y mb) (hz : SE X Φ b3 z mc)
    (hm : lastMarks [op, op'] [y, z] = false := by with_unfolding_all rfl) : SE X Φ (b1 && (b2 && b3)) (.Compare x [op, op'] [y, z] pos) (chM f f' ma mb mc) := by
  obtain ⟨r, h1, h2⟩ := hc.ex
  obtain ⟨r', h1', h2'⟩ := hc'.ex
  exact se_ch h1 h1' h2 h2' ha hb hz hm
theorem st_chn {op op' : CmpOp} {f f' : PyData → PyData → Option PyData} {b3 : Bool} {z : Expr} {mc : M O} (hc : CR2 X op f) (hc' : CR2 X op' f') (ha : SE X Φ b1 x ma) (hb : SE X Φ b2 y mb) (hz : SE X Φ b3 z mc)
    (hm : lastMarks [op, op'] [y, z] = false := by with_unfolding_all rfl) : STt X Φ (.Compare x [op, op'] [y, z] pos) (tstM (chM f f' ma mb mc)) := by
  obtain ⟨r, h1, h2⟩ := hc.ex
  obtain ⟨r', h1', h2'⟩ := hc'.ex
  exact st_ch h1 h1' h2 h2' ha hb hz hm
end
end Z
/-! Z6: subscripts, what is shared with a list, new lists. -/
namespace Z
open PySem L2

section
variable {K : PySem.W.Frag} {g : Gh} {F H : Hp} {N Np : List (Addr × HO)} {L Lp : List (V × LF)} {env : AEnv}
theorem tree_sb {ao : AO} {t : AT} (h : AO.tree ao env = some t) : Sb t.nodes (nodesE env ++ (Opd.nodes ao ++ Np)) ∧ ∀ q ∈ t.leaves, q ∈ leavesE env ++ (Opd.leaves ao ++ Lp) := by
  cases ao with
  | tm u =>
    cases h
    exact ⟨(Sb.left _ _).trans (Sb.right _ _), fun q hq => List.mem_append_right _ (List.mem_append_left _ hq)⟩
  | vr i q =>
    obtain ⟨h1, h2⟩ := ctn_sb h
    exact ⟨h1.trans (Sb.left _ _), fun q hq => List.mem_append_left _ (h2 q hq)⟩
theorem CB.node (c : CB K g F H N L) {a : Addr} {b : Bool} {xs : List AT} (n : Sb (AT.nd a b xs).nodes N) : H a = some (mkHO b (xs.map AT.val)) :=
  c.at_ _ (n.mem (by simp only [AT.nodes]; exact List.mem_cons_self))
theorem mem_nodesL {xs : List AT} {k : Nat} {x : AT} (h : xs[k]? = some x) : Sb x.nodes (AT.nodesL xs) ∧ ∀ q ∈ x.leaves, q ∈ AT.leavesL xs := by
  obtain ⟨R, S, h1, h2⟩ := nodesL_split h
  have p1 := h1 x
  have p2 := h2 x
  rw [set_self h] at p1 p2
  exact ⟨⟨R, p1⟩, fun q hq => p2.symm.subset (List.mem_append_left _ hq)⟩
theorem Sb.kid {a : Addr} {b : Bool} {xs : List AT} {k : Nat} {x : AT} (h : xs[k]? = some x) : Sb x.nodes (AT.nd a b xs).nodes := by
  simp only [AT.nodes]
  exact (mem_nodesL h).1.trans (Sb.right [_] _)
theorem getP_append : ∀ (p : List Nat) (t : AT) (k : Nat), t.getP (p ++ [k]) = (t.getP p).bind fun s => s.kids[k]?
  | [], t, k => by
    simp only [List.nil_append, AT.getP, Option.bind_some]
    cases t.kids[k]? <;> rfl
  | i :: p, t, k => by
    simp only [List.cons_append, AT.getP]
    cases t.kids[i]? with
    | none => rfl
    | some x => exact getP_append p x k
theorem ctnA_append {i : Nat} {q : List Nat} {k : Nat} : ctnA env i (q ++ [k]) = (ctnA env i q).bind fun s => s.kids[k]? := by
  simp only [ctnA]
  cases rsv env i with
  | none => rfl
  | some jp =>
    obtain ⟨j, p⟩ := jp
    simp only
    cases rootOf env j with
    | none => rfl
    | some t =>
      simp only
      rw [← List.append_assoc]
      exact getP_append _ _ _
end

/-! ### subscripts -/
def subO (o : O) (k : Nat) (x : IV) : O := match x with
  | .lf l => .tm (.lf l)
  | x => match o with
    | .tm _ => .tm x
    | .vr i q => .vr i (q ++ [k])
def okD (x : Option PyData) (e : Env') : R O := match x with
  | some d => .ok (.tm (.d d)) e
  | none => .bad
def elemI (o : O) (t : Option IV) (i : Int) (e : Env') : R O := match t with
  | some (.lf (.d (.list ds))) => okD (atI ds i) e
  | some (.lf (.d (.tuple ds))) => okD (atI ds i) e
  | some (.lf (.d (.str z))) => if decide (z.length ≤ 1000000) then okD ((atI z.cps.toList i).map fun c => .str ⟨#[c]⟩) e else .bad
  | some (.lf (.s ns)) => okD ((atI ns i).map .int) e
  | some (.nd _ xs) => match ixN xs.length i with
    | some k => match xs[k]? with
      | some x => .ok (subO o k x) e
      | none => .bad
    | none => .bad
  | _ => .bad
def elemR (o : O) (t : Option IV) (i : Option PyData) (e : Env') : R O := match i with
  | some (.int i) => elemI o t i e
  | _ => .bad
def idxM (b2 : Bool) (ma mb : M O) : M O := twoM b2 ma mb fun o1 o2 e => elemR o1 (O.tree o1 e) (O.dat o2 e) e
theorem atI_split {α : Type} {xs : List α} {i : Int} {x : α} (h : atI xs i = some x) : ∃ k, ixN xs.length i = some k ∧ xs[k]? = some x := by
  unfold atI at h
  cases hk : ixN xs.length i with
  | none => rw [hk] at h; cases h
  | some k =>
    rw [hk] at h
    exact ⟨k, rfl, h⟩
theorem atI_of {α : Type} {xs : List α} {i : Int} {k : Nat} {x : α} (h : ixN xs.length i = some k) (h' : xs[k]? = some x) : atI xs i = some x := by
  unfold atI
  rw [h]
  exact h'
theorem DqL.atI {K : PySem.W.Frag} {F : Hp} {vs : List V} {ds : List PyData} {i : Int} {d : PyData} (h : DqL K F vs ds) (e : L2.atI ds i = some d) : ∃ v, L2.atI vs i = some v ∧ Dq K F v d := by
  obtain ⟨k, h1, h2⟩ := atI_split e
  obtain ⟨v, h3, h4⟩ := h.get h2
  exact ⟨v, atI_of (by rw [h.length]; exact h1) h3, h4⟩
section
variable {X : Cx} {K : PySem.W.Frag} {Φ : Fx} {b b1 b2 : Bool} {σ : St} {H F : Hp} {Q : VK} {env : AEnv} {Np : List (Addr × HO)} {Lp : List (V × LF)} {x y : Expr} {ma mb : M O} {pos : Pos}
/-- a leaf is told -/
theorem Ct.leaf {l : LF} {v : V} (q : Ct K Φ b σ Q H env Np Lp (.ok (.tm (.lf l)) (erE env))) (c : CB K Φ.g F H (nodesE env ++ Np) (leavesE env ++ Lp)) (s : SR env σ) (h : LfOk K F v l) : Q v H := by
  refine q v H F env (.tm (.lf v l)) ?_ s rfl rfl ⟨_, rfl, rfl⟩ (fun _ => ⟨rfl, .refl H⟩) (.refl env)
  have c2 := c.leaf (l := l) h
  refine c2.sb (.refl _) fun q hq => ?_
  simp only [Opd.leaves, AT.leaves] at hq
  rcases List.mem_append.mp hq with z | z
  · exact List.mem_cons_of_mem _ (List.mem_append_left _ z)
  · rcases List.mem_append.mp z with z | z
    · rw [List.mem_singleton.mp z]
      exact List.mem_cons_self
    · exact List.mem_cons_of_mem _ (List.mem_append_right _ z)
theorem Ct.okD {x : Option PyData} (q : Ct K Φ b σ Q H env Np Lp (Z.okD x (erE env))) (c : CB K Φ.g F H (nodesE env ++ Np) (leavesE env ++ Lp)) (s : SR env σ) : ∃ d, x = some d ∧ ∀ v, Dq K F v d → Q v H := by
  cases x with
  | none => exact q.elim
  | some d => exact ⟨d, rfl, fun v hv => Ct.leaf (l := .d d) q c s hv⟩
/-- a leaf's datum -/
theorem CB.lfD {g : Gh} {N : List (Addr × HO)} {L : List (V × LF)} (c : CB K g F H N L) {v : V} {l : LF} (h : ∀ q ∈ (AT.lf v l).leaves, q ∈ L) : LfOk K F v l := c.lf (v, l) (h _ (by simp [AT.leaves]))
theorem se_idx (ha : SE X Φ b1 x ma) (hb : SE X Φ b2 y mb) (hp : PlainIx y := by exact fun _ _ => rfl) : SE X Φ (b1 && b2) (.Subscript x y pos) (idxM b2 ma mb) := by
  refine PE.imp (pe_ix ix_seq ha hb hp) fun σ H Q q => ?_
  refine two q fun v1 v2 H2 F2 env2 ao1 ao2 Np Lp c s t1 t2 q => ?_
  cases h1 : AO.tree ao1 env2 with
  | none =>
    rw [tree_er, h1] at q
    cases hd : O.dat (Opd.er ao2) (erE env2) with
    | none => rw [hd] at q; exact q.elim
    | some d2 => rw [hd] at q; cases d2 <;> exact q.elim
  | some t =>
    cases h2 : O.dat (Opd.er ao2) (erE env2) with
    | none =>
      rw [h2] at q
      exact q.elim
    | some d2 =>
      obtain ⟨u2, g2, k2⟩ := dat_of h2
      have r2 := c.tree g2 k2
      obtain ⟨w, z1, z2⟩ := t2
      rw [g2] at z1
      cases z1
      rw [z2] at r2
      have e1 := t1 t h1
      subst e1
      have c1 := tree_stays c
      obtain ⟨n1, l1⟩ := tree_sb (Np := Opd.nodes ao2 ++ Np) (Lp := Opd.leaves ao2 ++ Lp) h1
      rw [tree_er, h1, h2] at q
      cases d2 with
      | int i =>
        cases r2
        cases t with
        | lf v l =>
          have hl := c1.lfD l1
          cases l with
          | d z =>
            cases z with
            | list ds =>
              have q' : Ct X.K Φ (b1 && b2) σ Q H2 env2 Np Lp (Z.okD (atI ds i) (erE env2)) := q
              obtain ⟨d, hd, k⟩ := q'.okD c.drop2 s
              cases hl with
              | lst ha hs =>
                obtain ⟨v, hv, hq⟩ := hs.atI hd
                exact .inl ⟨_, _, i, v, rfl, rfl, .inl (.inl (c.sub _ _ ha)), hv, k v hq⟩
            | tuple ds =>
              have q' : Ct X.K Φ (b1 && b2) σ Q H2 env2 Np Lp (Z.okD (atI ds i) (erE env2)) := q
              obtain ⟨d, hd, k⟩ := q'.okD c.drop2 s
              cases hl with
              | tup ha hs =>
                obtain ⟨v, hv, hq⟩ := hs.atI hd
                exact .inr (.inl ⟨_, _, i, v, rfl, rfl, c.sub.sqt ha, hv, k v hq⟩)
            | str z =>
              cases hz : decide (z.length ≤ 1000000) with
              | false =>
                simp only [Option.map_some, AT.er, elemR, elemI, hz] at q
                exact q.elim
              | true =>
                simp only [Option.map_some, AT.er, elemR, elemI, hz] at q
                obtain ⟨d, hd, k⟩ := Ct.okD q c.drop2 s
                cases hc : atI z.cps.toList i with
                | none => rw [hc] at hd; cases hd
                | some ch =>
                  rw [hc] at hd
                  cases hd
                  cases hl
                  exact .inr (.inr ⟨z, i, ch, rfl, rfl, sOk_line (of_decide_eq_true hz), hc, k _ (.str _)⟩)
            | _ => exact q.elim
          | s ns =>
            have q' : Ct X.K Φ (b1 && b2) σ Q H2 env2 Np Lp (Z.okD ((atI ns i).map .int) (erE env2)) := q
            obtain ⟨d, hd, k⟩ := q'.okD c.drop2 s
            cases hc : atI ns i with
            | none => rw [hc] at hd; cases hd
            | some n =>
              rw [hc] at hd
              cases hd
              obtain ⟨a, ev, hs⟩ := hl
              obtain ⟨j, j1, j2⟩ := atI_split hc
              refine .inl ⟨a, _, i, .int n, ev, rfl, c.sub.sql hs, atI_of (k := j) (by rw [List.length_map]; exact j1) (by rw [List.getElem?_map, j2]; rfl), k _ (.int n)⟩
          | e z => exact q.elim
        | dk a kvs => exact q.elim
        | nd a bb xs =>
          have hH := c1.node n1
          have q' : Ct X.K Φ (b1 && b2) σ Q H2 env2 Np Lp (match ixN (AT.erL xs).length i with
            | some k => match (AT.erL xs)[k]? with
              | some x => .ok (subO (Opd.er ao1) k x) (erE env2)
              | none => .bad
            | none => .bad) := q
          rw [AT.erL_map, List.length_map] at q'
          cases hk : ixN xs.length i with
          | none => rw [hk] at q'; exact q'.elim
          | some k =>
            rw [hk] at q'
            simp only [List.getElem?_map] at q'
            cases hx : xs[k]? with
            | none => rw [hx] at q'; exact q'.elim
            | some w =>
              rw [hx] at q'
              simp only [Option.map_some] at q'
              have hat : atI (xs.map AT.val) i = some w.val := atI_of (k := k) (by rw [List.length_map]; exact hk) (by rw [List.getElem?_map, hx]; rfl)
              have fin : Q w.val H2 := by
                cases w with
                | lf v l =>
                  refine Ct.leaf (l := l) q' c.drop2 s (c1.lf (v, l) (l1 _ ?_))
                  simp only [AT.leaves]
                  exact (mem_nodesL hx).2 _ (by simp [AT.leaves])
                | nd a' b' xs' =>
                  cases ao1 with
                  | tm u =>
                    cases h1
                    refine q' _ H2 F2 env2 (.tm (.nd a' b' xs')) ?_ s rfl rfl ⟨_, rfl, rfl⟩ (fun _ => ⟨rfl, .refl _⟩) (.refl _)
                    exact c.sb (Sb.tail (((Sb.kid hx).app (Sb.refl Np)).trans (Sb.right _ _))) fun q hq => by
                      rcases List.mem_append.mp hq with z | z
                      · exact List.mem_append_left _ z
                      · refine List.mem_append_right _ (List.mem_append_right _ ?_)
                        rcases List.mem_append.mp z with z | z
                        · exact List.mem_append_left _ ((mem_nodesL hx).2 _ z)
                        · exact List.mem_append_right _ z
                  | vr j p =>
                    have e : ctnA env2 j (p ++ [k]) = some (.nd a' b' xs') := by
                      rw [ctnA_append, show ctnA env2 j p = _ from h1]
                      exact hx
                    exact q' _ H2 F2 env2 (.vr j (p ++ [k])) (by simpa [Opd.nodes, Opd.leaves] using c.drop2) s rfl rfl ⟨_, e, rfl⟩ (fun _ => ⟨rfl, .refl _⟩) (.refl _)
                | dk a' kvs =>
                  cases ao1 with
                  | tm u =>
                    cases h1
                    refine q' _ H2 F2 env2 (.tm (.dk a' kvs)) ?_ s rfl rfl ⟨_, rfl, rfl⟩ (fun _ => ⟨rfl, .refl _⟩) (.refl _)
                    exact c.sb (Sb.tail (((Sb.kid hx).app (Sb.refl Np)).trans (Sb.right _ _))) fun q hq => by
                      rcases List.mem_append.mp hq with z | z
                      · exact List.mem_append_left _ z
                      · refine List.mem_append_right _ (List.mem_append_right _ ?_)
                        rcases List.mem_append.mp z with z | z
                        · exact List.mem_append_left _ ((mem_nodesL hx).2 _ z)
                        · exact List.mem_append_right _ z
                  | vr j p =>
                    have e : ctnA env2 j (p ++ [k]) = some (.dk a' kvs) := by
                      rw [ctnA_append, show ctnA env2 j p = _ from h1]
                      exact hx
                    exact q' _ H2 F2 env2 (.vr j (p ++ [k])) (by simpa [Opd.nodes, Opd.leaves] using c.drop2) s rfl rfl ⟨_, e, rfl⟩ (fun _ => ⟨rfl, .refl _⟩) (.refl _)
              cases bb with
              | true => exact .inl ⟨a, _, i, w.val, rfl, rfl, .inl (.inl hH), hat, fin⟩
              | false => exact .inr (.inl ⟨a, _, i, w.val, rfl, rfl, .inl (.inl hH), hat, fin⟩)
      | _ => exact q.elim
end
end Z
/-! Z7: the items of a list, new lists, built-in functions. -/
namespace Z
open PySem L2

/-! ### items -/
def leafD : IV → Option PyData
  | .lf (.d x) => some x
  | _ => none
def leafDs : List IV → Option (List PyData)
  | [] => some []
  | x :: r => match leafD x, leafDs r with
    | some d, some ds => some (d :: ds)
    | _, _ => none
theorem leafDs_d : ∀ ds : List PyData, leafDs (ds.map IV.d) = some ds
  | [] => rfl
  | d :: ds => by simp [leafDs, leafD, leafDs_d ds]
def kidsT (o : O) : Option IV → Option (List PyData)
  | some (.lf (.d (.list ds))) => some ds
  | some (.lf (.s ns)) => some (ns.map .int)
  | some (.nd true xs) => match o with
    | .tm _ => IV.toDL xs
    | .vr _ _ => leafDs xs
  | _ => none
def O.kids (o : O) (e : Env') : Option (List PyData) := kidsT o (O.tree o e)
theorem leafDs_dql {K : PySem.W.Frag} {F : Hp} : ∀ {xs : List AT} {ds : List PyData}, leafDs (xs.map AT.er) = some ds → (∀ q ∈ AT.leavesL xs, LfOk K F q.1 q.2) → DqL K F (xs.map AT.val) ds
  | [], ds, e, _ => by
    simp only [List.map_nil, leafDs, Option.some.injEq] at e
    subst e
    exact .nil
  | x :: xs, ds, e, h => by
    simp only [List.map_cons, leafDs] at e
    cases x with
    | nd a t ys => simp [AT.er, leafD] at e
    | dk a kvs => simp [AT.er, leafD] at e
    | lf v l =>
      cases l with
      | s ns => simp [AT.er, leafD] at e
      | e n => simp [AT.er, leafD] at e
      | d y =>
        simp only [AT.er, leafD] at e
        cases hr : leafDs (xs.map AT.er) with
        | none => rw [hr] at e; simp at e
        | some es =>
          rw [hr] at e
          simp only [Option.some.injEq] at e
          subst e
          refine .cons (h (v, .d y) ?_) (leafDs_dql hr fun q hq => h q ?_)
          · simp [AT.leavesL, AT.leaves]
          · simp only [AT.leavesL]
            exact List.mem_append_right _ hq
section
variable {K : PySem.W.Frag} {g : Gh} {F H : Hp} {N Np : List (Addr × HO)} {L Lp : List (V × LF)} {env : AEnv}
/-- what is seen of a list's items: the list at a, its items frozen -/
theorem view {ao : AO} {t : AT} {ds : List PyData} (c : CB K g F H (nodesE env ++ (Opd.nodes ao ++ Np)) (leavesE env ++ (Opd.leaves ao ++ Lp))) (h : AO.tree ao env = some t) (e : O.kids (Opd.er ao) (erE env) = some ds) :
    ∃ F' a vs, Le F F' ∧ CB K g F' H (nodesE env ++ Np) (leavesE env ++ Lp) ∧ t.val = .ref a ∧ SqL K H a vs ∧ DqL K F' vs ds ∧ (H a = some (.lst vs) ∨ ∃ ns, t.er = .lf (.s ns)) := by
  simp only [O.kids, tree_er, h, Option.map_some] at e
  obtain ⟨n1, l1⟩ := tree_sb (Np := Np) (Lp := Lp) h
  cases t with
  | lf v l =>
    have hl := c.lfD l1
    cases l with
    | e n => simp [AT.er, kidsT] at e
    | s ns =>
      simp only [AT.er, kidsT, Option.some.injEq] at e
      subst e
      obtain ⟨a, ev, hs⟩ := hl
      exact ⟨F, a, _, .refl F, c.drop1, ev, c.sub.sql hs, DqL.ofInts ns, .inr ⟨ns, rfl⟩⟩
    | d y =>
      cases y with
      | list es =>
        simp only [AT.er, kidsT, Option.some.injEq] at e
        subst e
        cases hl with
        | lst ha hs => exact ⟨F, _, _, .refl F, c.drop1, rfl, .inl (.inl (c.sub _ _ ha)), hs, .inl (c.sub _ _ ha)⟩
      | _ => simp [AT.er, kidsT] at e
  | dk a kvs => simp [AT.er, kidsT] at e
  | nd a b xs =>
    cases b with
    | false => simp [AT.er, kidsT] at e
    | true =>
      have hH := c.node n1
      cases ao with
      | vr i q =>
        simp only [AT.er, kidsT, Opd.er, AT.erL_map] at e
        refine ⟨F, a, _, .refl F, c.drop1, rfl, .inl (.inl hH), leafDs_dql e fun q hq => c.lf q (l1 q (by simpa [AT.leaves] using hq)), .inl hH⟩
      | tm u =>
        cases h
        simp only [AT.er, kidsT, Opd.er] at e
        have c' : CB K g F H (AT.nodesL xs ++ (nodesE env ++ Np)) (AT.leavesL xs ++ (leavesE env ++ Lp)) := by
          refine c.sb2 ?_ ?_
          · simp only [Opd.nodes, AT.nodes]
            refine (Sb.swap _ _ _).trans (Sb.tail (Sb.head ?_))
            exact Sb.right [_] _
          · simp only [Opd.leaves, AT.leaves]
            exact Sb.swap _ _ _
        obtain ⟨F', c2, l2, q2⟩ := CB.freezeL xs c' e
        exact ⟨F', a, _, l2, c2, rfl, .inl (.inl hH), q2, .inl hH⟩
end
/-! ### new lists -/
def lsD (ds : List PyData) : IV := .nd true (ds.map IV.d)
def mkA : List V → List PyData → List AT
  | v :: vs, d :: ds => .lf v (.d d) :: mkA vs ds
  | _, _ => []
theorem mkA_val : ∀ {vs : List V} {ds : List PyData}, vs.length = ds.length → (mkA vs ds).map AT.val = vs
  | [], [], _ => rfl
  | v :: vs, d :: ds, h => by
    simp only [mkA, List.map_cons, AT.val]
    rw [mkA_val (by simpa using h)]
theorem mkA_er : ∀ {vs : List V} {ds : List PyData}, vs.length = ds.length → AT.erL (mkA vs ds) = ds.map IV.d
  | [], [], _ => by simp [mkA, AT.erL]
  | v :: vs, d :: ds, h => by
    simp only [mkA, AT.erL, List.map_cons, AT.er]
    rw [mkA_er (by simpa using h)]
theorem mkA_nodes : ∀ (vs : List V) (ds : List PyData), AT.nodesL (mkA vs ds) = []
  | [], _ => by simp [mkA, AT.nodesL]
  | _ :: _, [] => by simp [mkA, AT.nodesL]
  | v :: vs, d :: ds => by simp [mkA, AT.nodesL, AT.nodes, mkA_nodes vs ds]
theorem mkA_leaves {K : PySem.W.Frag} {F : Hp} : ∀ {vs : List V} {ds : List PyData}, DqL K F vs ds → ∀ q ∈ AT.leavesL (mkA vs ds), LfOk K F q.1 q.2
  | _, _, .nil => fun q hq => by simp [mkA, AT.leavesL] at hq
  | _, _, .cons h t => fun q hq => by
    simp only [mkA, AT.leavesL, AT.leaves, List.cons_append, List.nil_append] at hq
    rcases List.mem_cons.mp hq with rfl | hq
    · exact h
    · exact mkA_leaves t q hq
theorem CB.leaves {K : PySem.W.Frag} {g : Gh} {F H : Hp} {N : List (Addr × HO)} {L M : List (V × LF)} (c : CB K g F H N L) (h : ∀ q ∈ M, LfOk K F q.1 q.2) : CB K g F H N (M ++ L) :=
  ⟨c.sub, c.nd, c.at_, c.off, fun q hq => (List.mem_append.mp hq).elim (h q) (c.lf q), c.keep, c.keepF, c.newN, c.newF⟩
section
variable {X : Cx} {K : PySem.W.Frag} {Φ : Fx} {b b1 b2 : Bool} {σ : St} {H F : Hp} {Q : VK} {env : AEnv} {Np : List (Addr × HO)} {Lp : List (V × LF)} {x y : Expr} {ma mb : M O} {pos : Pos}
/-- a new list is told -/
theorem Ct.newL {ds : List PyData} {vs : List V} (q : Ct K Φ b σ Q H env Np Lp (.ok (.tm (lsD ds)) (erE env))) (c : CB K Φ.g F H (nodesE env ++ Np) (leavesE env ++ Lp)) (s : SR env σ) (h : DqL K F vs ds) {p : Addr} (hp : H p = none) : Q (.ref p) (upd H p (.lst vs)) := by
  have hl := h.length
  refine q (.ref p) _ F env (.tm (.nd p true (mkA vs ds))) ?_ s rfl ?_ ⟨_, rfl, rfl⟩ (fun _ => ⟨rfl, Le.new hp⟩) (.refl env)
  · have c2 := (c.leaves (mkA_leaves h)).alloc (a := p) (o := .lst vs) hp
    refine c2.sb2 ?_ ?_
    · simp only [Opd.nodes, AT.nodes, mkA_nodes, mkA_val hl, mkHO]
      exact .of_perm (List.perm_middle.symm)
    · simp only [Opd.leaves, AT.leaves]
      exact Sb.swap _ _ _
  · simp only [Opd.er, AT.er, lsD, mkA_er hl]
/-- new data that never change, an object of its own: a tuple -/
theorem Ct.newT {ds : List PyData} {vs : List V} (q : Ct K Φ b σ Q H env Np Lp (.ok (.tm (.d (.tuple ds))) (erE env))) (c : CB K Φ.g F H (nodesE env ++ Np) (leavesE env ++ Lp)) (s : SR env σ) (h : DqL K F vs ds) {p : Addr} (hp : H p = none) : Q (.ref p) (upd H p (.tup vs)) := by
  obtain ⟨c2, l2⟩ := c.allocF (a := p) (o := .tup vs) hp
  refine q (.ref p) _ (upd F p (.tup vs)) env (.tm (.lf (.ref p) (.d (.tuple ds)))) ?_ s rfl rfl ⟨_, rfl, rfl⟩ (fun _ => ⟨rfl, Le.new hp⟩) (.refl env)
  have c3 := c2.leaf (v := .ref p) (l := .d (.tuple ds)) (.tup (SqT.of upd_same) (h.le l2))
  refine c3.sb2 (.refl _) ?_
  simp only [Opd.leaves, AT.leaves]
  exact .of_perm (by simpa using (List.perm_middle (l₁ := leavesE env) (l₂ := Lp) (a := ((V.ref p : V), LF.d (.tuple ds)))).symm)

/-- one list in, another one out -/
def LsOp (K : PySem.W.Frag) (r : V → Hp → VK → Prop) (f : List PyData → Option (List PyData)) : Prop :=
  ∀ (a : Addr) (vs : List V) (ds es : List PyData) (F H : Hp) (Q : VK), SqL K H a vs → DqL K F vs ds → f ds = some es → (∀ ws p, DqL K F ws es → H p = none → Q (.ref p) (upd H p (.lst ws))) → r (.ref a) H Q
def bindL (f : List PyData → Option (List PyData)) (x : Option (List PyData)) (e : Env') : R O := match x with
  | some ds => match f ds with
    | some es => .ok (.tm (lsD es)) e
    | none => .bad
  | none => .bad
def ls1M (f : List PyData → Option (List PyData)) (ma : M O) : M O := fun e => R.bind (ma e) fun o e' => bindL f (O.kids o e') e'
theorem ls1_end {v : V} {ao : AO} {r : V → Hp → VK → Prop} {f : List PyData → Option (List PyData)} (hr : LsOp K r f) (c : CB K Φ.g F H (nodesE env ++ (Opd.nodes ao ++ Np)) (leavesE env ++ (Opd.leaves ao ++ Lp))) (s : SR env σ)
    (t : ∃ t, AO.tree ao env = some t ∧ t.val = v) (q : Ct K Φ b σ Q H env Np Lp (bindL f (O.kids (Opd.er ao) (erE env)) (erE env))) : r v H Q := by
  cases hk : O.kids (Opd.er ao) (erE env) with
  | none => rw [hk] at q; exact q.elim
  | some ds =>
    rw [hk] at q
    simp only [bindL] at q
    cases hf : f ds with
    | none => rw [hf] at q; exact q.elim
    | some es =>
      rw [hf] at q
      obtain ⟨t, ht, rfl⟩ := t
      obtain ⟨F', a, vs, l, c2, ev, hs, hd, _⟩ := view c ht hk
      rw [ev]
      exact hr a vs ds es F' H Q hs hd hf fun ws p hw hp => Ct.newL q c2 s hw hp

/-! ### built-in functions of one argument -/
theorem se_b1 {id : String} {n : Str} {r : List V → Hp → VK → Prop} {f : PyData → Option PyData} {p : Pos} (hc : CallR X (.builtin id) r) (hr : Op1 X.K (fun v => r [v]) f) (hg : Gl X n) (hm : X.mg n = none) (ha : SE X Φ b x ma) (hv : bootBuiltins n = some (.builtin id) := by decide +kernel)
    (hn : n ≠ "__name__" := by decide) (hdb : (n == ("__debug__" : Str)) = false := by decide) (hst : starEach [x] X.env = (false, eval x X.env) :: starEach [] X.env := by rfl) : SE X Φ b (.Call (.Name n p) [x] [] pos) (un1M f ma) := by
  refine PE.imp (pe_callB hc hg hm hv (pa_cons ha pa_nil hst) hn hdb hst rfl) fun σ H Q q => ?_
  exact seqE q (fun z => z) fun v1 H1 F1 env env1 ao Np Lp c1 s1 t1 p1 q1 => op1_end hr c1 s1 t1 q1
theorem se_t1 {id : String} {n : Str} {r : List V → Hp → VK → Prop} {f : PyData → Option PyData} {p : Pos} (hc : CallR X (.type id) r) (hr : Op1 X.K (fun v => r [v]) f) (hg : Gl X n) (hm : X.mg n = none) (ha : SE X Φ b x ma) (hv : bootBuiltins n = some (.type id) := by decide +kernel)
    (hn : n ≠ "__name__" := by decide) (hdb : (n == ("__debug__" : Str)) = false := by decide) (hst : starEach [x] X.env = (false, eval x X.env) :: starEach [] X.env := by rfl) : SE X Φ b (.Call (.Name n p) [x] [] pos) (un1M f ma) := by
  refine PE.imp (pe_callTy hc hg hm hv (pa_cons ha pa_nil hst) hn hdb hst rfl) fun σ H Q q => ?_
  exact seqE q (fun z => z) fun v1 H1 F1 env env1 ao Np Lp c1 s1 t1 p1 q1 => op1_end hr c1 s1 t1 q1
theorem se_bl1 {id : String} {n : Str} {r : List V → Hp → VK → Prop} {f : List PyData → Option (List PyData)} {p : Pos} (hc : CallR X (.builtin id) r) (hr : LsOp X.K (fun v => r [v]) f) (hg : Gl X n) (hm : X.mg n = none) (ha : SE X Φ b x ma) (hv : bootBuiltins n = some (.builtin id) := by decide +kernel)
    (hn : n ≠ "__name__" := by decide) (hdb : (n == ("__debug__" : Str)) = false := by decide) (hst : starEach [x] X.env = (false, eval x X.env) :: starEach [] X.env := by rfl) : SE X Φ b (.Call (.Name n p) [x] [] pos) (ls1M f ma) := by
  refine PE.imp (pe_callB hc hg hm hv (pa_cons ha pa_nil hst) hn hdb hst rfl) fun σ H Q q => ?_
  exact seqE q (fun z => z) fun v1 H1 F1 env env1 ao Np Lp c1 s1 t1 p1 q1 => ls1_end hr c1 s1 t1 q1
theorem se_tl1 {id : String} {n : Str} {r : List V → Hp → VK → Prop} {f : List PyData → Option (List PyData)} {p : Pos} (hc : CallR X (.type id) r) (hr : LsOp X.K (fun v => r [v]) f) (hg : Gl X n) (hm : X.mg n = none) (ha : SE X Φ b x ma) (hv : bootBuiltins n = some (.type id) := by decide +kernel)
    (hn : n ≠ "__name__" := by decide) (hdb : (n == ("__debug__" : Str)) = false := by decide) (hst : starEach [x] X.env = (false, eval x X.env) :: starEach [] X.env := by rfl) : SE X Φ b (.Call (.Name n p) [x] [] pos) (ls1M f ma) := by
  refine PE.imp (pe_callTy hc hg hm hv (pa_cons ha pa_nil hst) hn hdb hst rfl) fun σ H Q q => ?_
  exact seqE q (fun z => z) fun v1 H1 F1 env env1 ao Np Lp c1 s1 t1 p1 q1 => ls1_end hr c1 s1 t1 q1
end
/-! ### their tables -/
def intsOf : List PyData → Option (List Int)
  | [] => some []
  | .int i :: r => (intsOf r).map (i :: ·)
  | _ :: _ => none
theorem intsOf_int : ∀ ns : List Int, intsOf (ns.map .int) = some ns
  | [] => rfl
  | n :: r => by simp [intsOf, intsOf_int r]
theorem intsOf_eq : ∀ {ds : List PyData} {ns : List Int}, intsOf ds = some ns → ds = ns.map .int
  | [], ns, h => by
    simp only [intsOf, Option.some.injEq] at h
    subst h
    rfl
  | d :: r, ns, h => by
    cases d <;> simp only [intsOf] at h <;> try contradiction
    rename_i i
    cases hr : intsOf r with
    | none => rw [hr] at h; cases h
    | some ms =>
      rw [hr] at h
      simp only [Option.map_some, Option.some.injEq] at h
      subst h
      rw [intsOf_eq hr]
      rfl
/-- a table upon a list of ints -/
def fInts (f : List Int → Option Int) : PyData → Option PyData
  | .list ds => match intsOf ds with
    | some ns => (f ns).map .int
    | none => none
  | _ => none
theorem op1_ints {K : PySem.W.Frag} {r : List V → Hp → VK → Prop} {f : List Int → Option Int} (h : ∀ (a : Addr) (ns : List Int) (i : Int) (H : Hp) (Q : VK), SqL K H a (ns.map V.int) → f ns = some i → Q (.int i) H → r [.ref a] H Q) : Op1 K (fun v => r [v]) (fInts f) := by
  intro x d1 d H Q h1 hf k
  cases d1 <;> simp only [fInts] at hf <;> try contradiction
  rename_i ds
  cases hi : intsOf ds with
  | none => rw [hi] at hf; cases hf
  | some ns =>
    rw [hi] at hf
    simp only at hf
    cases hn : f ns with
    | none => rw [hn] at hf; cases hf
    | some i =>
      rw [hn] at hf
      cases hf
      rw [intsOf_eq hi] at h1
      cases h1 with
      | lst ha hs =>
        have e := hs.ints
        subst e
        exact h _ ns i H Q (.inl (.inl ha)) hn (k _ (.int i))
def sumI (ns : List Int) : Option Int := some ns.sum
def maxI (ns : List Int) : Option Int := ns.max?
def minI (ns : List Int) : Option Int := ns.min?
def fAbs : PyData → Option PyData
  | .int i => some (.int (if i < 0 then -i else i))
  | _ => none
def fInt1 : PyData → Option PyData
  | .int i => some (.int i)
  | .bool k => some (.int (if k then 1 else 0))
  | _ => none
def fStr1 : PyData → Option PyData
  | .int i => if decide (i.natAbs < 2 ^ 200) then some (.str (toString i)) else none
  | _ => none
def sortI (ns : List Int) : List Int := ns.mergeSort (· ≤ ·)
def sortD (ds : List PyData) : Option (List PyData) := match intsOf ds with
  | some ns => some ((sortI ns).map .int)
  | none => none
theorem sorted_unique {xs ys : List Int} (p : xs.Perm ys) (h1 : xs.Pairwise (· ≤ ·)) (h2 : ys.Pairwise (· ≤ ·)) : xs = ys :=
  List.Perm.eq_of_pairwise (fun a b _ _ h h' => Int.le_antisymm h h') h1 h2 p
theorem sortI_pw (ns : List Int) : (sortI ns).Pairwise (· ≤ ·) := by
  have h := List.pairwise_mergeSort (le := fun a b : Int => decide (a ≤ b)) (fun a b c h1 h2 => by simp at *; omega) (fun a b => by simp; omega) ns
  exact h.imp (by simp)
theorem sortI_perm (ns : List Int) : (sortI ns).Perm ns := List.mergeSort_perm ns _
section
variable {X : Cx} {Φ : Fx} {b : Bool} {x : Expr} {ma : M O} {pos p : Pos}
theorem se_sum (hc : X.calm = true) (hg : Gl X "sum") (hm : X.mg "sum" = none) (ha : SE X Φ b x ma) (hst : starEach [x] X.env = (false, eval x X.env) :: starEach [] X.env := by rfl) : SE X Φ b (.Call (.Name "sum" p) [x] [] pos) (un1M (fInts sumI) ma) :=
  se_b1 (cr_sum hc) (op1_ints fun a ns i H Q hs e q => ⟨a, ns, rfl, hs, by cases e; exact q⟩) hg hm ha (hst := hst)
theorem se_max1 (hc : X.calm = true) (hg : Gl X "max") (hm : X.mg "max" = none) (ha : SE X Φ b x ma) (hst : starEach [x] X.env = (false, eval x X.env) :: starEach [] X.env := by rfl) : SE X Φ b (.Call (.Name "max" p) [x] [] pos) (un1M (fInts maxI) ma) :=
  se_b1 (cr_max hc) (op1_ints fun a ns i H Q hs e q => by
    have e' : ns.max? = some i := e
    obtain ⟨h1, h2⟩ := List.max?_eq_some_iff.mp e'
    refine ⟨a, ns, rfl, hs, List.length_pos_of_mem h1, fun m hm hl => ?_⟩
    have : m = i := Int.le_antisymm (h2 m hm) (hl i h1)
    rw [this]
    exact q) hg hm ha (hst := hst)
theorem se_min1 (hc : X.calm = true) (hg : Gl X "min") (hm : X.mg "min" = none) (ha : SE X Φ b x ma) (hst : starEach [x] X.env = (false, eval x X.env) :: starEach [] X.env := by rfl) : SE X Φ b (.Call (.Name "min" p) [x] [] pos) (un1M (fInts minI) ma) :=
  se_b1 (cr_min hc) (op1_ints fun a ns i H Q hs e q => by
    have e' : ns.min? = some i := e
    obtain ⟨h1, h2⟩ := List.min?_eq_some_iff.mp e'
    refine ⟨a, ns, rfl, hs, List.length_pos_of_mem h1, fun m hm hl => ?_⟩
    have : m = i := Int.le_antisymm (hl i h1) (h2 m hm)
    rw [this]
    exact q) hg hm ha (hst := hst)
theorem se_abs (hg : Gl X "abs") (hm : X.mg "abs" = none) (ha : SE X Φ b x ma) (hst : starEach [x] X.env = (false, eval x X.env) :: starEach [] X.env := by rfl) : SE X Φ b (.Call (.Name "abs" p) [x] [] pos) (un1M fAbs ma) :=
  se_b1 call_abs (fun v d1 d H Q h1 hf k => by
    cases d1 <;> simp only [fAbs] at hf <;> try contradiction
    cases h1
    cases hf
    exact ⟨_, rfl, k _ (.int _)⟩) hg hm ha (hst := hst)
theorem se_int1 (hg : Gl X "int") (hm : X.mg "int" = none) (ha : SE X Φ b x ma) (hst : starEach [x] X.env = (false, eval x X.env) :: starEach [] X.env := by rfl) : SE X Φ b (.Call (.Name "int" p) [x] [] pos) (un1M fInt1 ma) :=
  se_t1 call_int1 (fun v d1 d H Q h1 hf k => by
    cases d1 <;> simp only [fInt1] at hf <;> try contradiction
    · cases h1
      cases hf
      exact .inr ⟨_, rfl, k _ (.int _)⟩
    · cases h1
      cases hf
      exact .inl ⟨_, rfl, k _ (.int _)⟩) hg hm ha (hst := hst)
theorem se_str1 (hg : Gl X "str") (hm : X.mg "str" = none) (ha : SE X Φ b x ma) (hst : starEach [x] X.env = (false, eval x X.env) :: starEach [] X.env := by rfl) : SE X Φ b (.Call (.Name "str" p) [x] [] pos) (un1M fStr1 ma) :=
  se_t1 call_str_int (fun v d1 d H Q h1 hf k => by
    cases d1 <;> simp only [fStr1] at hf <;> try contradiction
    rename_i i
    cases hi : decide (i.natAbs < 2 ^ 200) with
    | false => rw [hi] at hf; cases hf
    | true =>
      rw [hi] at hf
      cases hf
      cases h1
      exact ⟨i, rfl, Nat.lt_of_lt_of_le (PySem.Flt.log2_lt_of (by decide : 0 < 200) (of_decide_eq_true hi)) (by decide), k _ (.str _)⟩) hg hm ha (hst := hst)
theorem se_sorted (hg : Gl X "sorted") (hm : X.mg "sorted" = none) (ha : SE X Φ b x ma) (hst : starEach [x] X.env = (false, eval x X.env) :: starEach [] X.env := by rfl) : SE X Φ b (.Call (.Name "sorted" p) [x] [] pos) (ls1M sortD ma) :=
  se_bl1 cr_sortedI (fun a vs ds es F H Q hs hd hf k => by
    simp only [sortD] at hf
    cases hi : intsOf ds with
    | none => rw [hi] at hf; cases hf
    | some ns =>
      rw [hi] at hf
      cases hf
      rw [intsOf_eq hi] at hd
      have e := hd.ints
      subst e
      refine ⟨a, ns, rfl, hs, fun ns' p pm pw hp => ?_⟩
      have e2 : ns' = sortI ns := sorted_unique (pm.trans (sortI_perm ns).symm) pw (sortI_pw ns)
      subst e2
      exact k _ p (DqL.ofInts _) hp) hg hm ha (hst := hst)
theorem se_list (hg : Gl X "list") (hm : X.mg "list" = none) (ha : SE X Φ b x ma) (hst : starEach [x] X.env = (false, eval x X.env) :: starEach [] X.env := by rfl) : SE X Φ b (.Call (.Name "list" p) [x] [] pos) (ls1M some ma) :=
  se_tl1 call_list_of (fun a vs ds es F H Q hs hd hf k => by
    cases hf
    exact ⟨a, vs, rfl, .inl hs, fun l hl => k vs l hd hl⟩) hg hm ha (hst := hst)
end
end Z
/-! Z8: len, isinstance, slices, + and * of lists, argument lists, displays. -/
namespace Z
open PySem L2

/-! ### a tree's top -/
def Top (K : PySem.W.Frag) (H : Hp) : AT → Prop
  | .lf v l => LfOk K H v l
  | .nd a b xs => H a = some (mkHO b (xs.map AT.val))
  | .dk a kvs => H a = some (.dK (kvs.map fun e => (e.1, e.2.1)))
def Op1T (K : PySem.W.Frag) (r : V → Hp → VK → Prop) (f : IV → Option PyData) : Prop :=
  ∀ (t : AT) (d : PyData) (H : Hp) (Q : VK), Top K H t → f t.er = some d → (∀ v, Dq K H v d → Q v H) → r t.val H Q
def mapT (f : IV → Option PyData) : Option IV → Option PyData
  | some t => f t
  | none => none
def tr1M (f : IV → Option PyData) (ma : M O) : M O := fun e => R.bind (ma e) fun o e' => outM (mapT f (O.tree o e')) e'
section
variable {X : Cx} {K : PySem.W.Frag} {Φ : Fx} {b b1 b2 b3 : Bool} {σ : St} {H F : Hp} {Q : VK} {env : AEnv} {Np : List (Addr × HO)} {Lp : List (V × LF)} {x y : Expr} {ma mb : M O} {pos p : Pos}
theorem top_of {ao : AO} {t : AT} (c : CB K Φ.g F H (nodesE env ++ (Opd.nodes ao ++ Np)) (leavesE env ++ (Opd.leaves ao ++ Lp))) (h : AO.tree ao env = some t) : Top K H t := by
  obtain ⟨n1, l1⟩ := tree_sb (Np := Np) (Lp := Lp) h
  cases t with
  | lf v l => exact (c.lfD l1).le c.sub
  | nd a b xs => exact c.node n1
  | dk a kvs => exact c.at_ (a, .dK (kvs.map fun e => (e.1, e.2.1))) (n1.mem (by simp [AT.nodes]))
theorem tr1_end {v : V} {ao : AO} {r : V → Hp → VK → Prop} {f : IV → Option PyData} (hr : Op1T K r f) (c : CB K Φ.g F H (nodesE env ++ (Opd.nodes ao ++ Np)) (leavesE env ++ (Opd.leaves ao ++ Lp))) (s : SR env σ)
    (t : ∃ t, AO.tree ao env = some t ∧ t.val = v) (q : Ct K Φ b σ Q H env Np Lp (outM (mapT f (O.tree (Opd.er ao) (erE env))) (erE env))) : r v H Q := by
  obtain ⟨d, hd, k⟩ := q.out c.drop1 s
  obtain ⟨t, ht, rfl⟩ := t
  rw [tree_er, ht] at hd
  exact hr t d H Q (top_of c ht) hd fun v hv => k v H hv
def lenT : IV → Option PyData
  | .lf (.d (.list ds)) => some (.int ds.length)
  | .lf (.d (.tuple ds)) => some (.int ds.length)
  | .lf (.d (.str z)) => if decide (z.length ≤ 1000000) then some (.int z.length) else none
  | .lf (.d (.dict ds)) => some (.int ds.length)
  | .lf (.s ns) => some (.int ns.length)
  | .nd _ xs => some (.int xs.length)
  | .dk kvs => some (.int kvs.length)
  | _ => none
theorem DqE.length : ∀ {vs : List (Key × V)} {ds : List (PyData × PyData)}, DqE K F vs ds → vs.length = ds.length
  | _, _, .nil => rfl
  | _, _, .cons _ h => by rw [List.length_cons, List.length_cons, DqE.length h]
def rLenU (K : PySem.W.Frag) : List V → Hp → VK → Prop := fun xs H Q => (∃ p ys, xs = [.ref p] ∧ (SqL K H p ys ∨ SqT K H p ys) ∧ Q (.int ys.length) H) ∨ ((∃ z, xs = [.str z] ∧ z.length ≤ sizeLine ∧ Q (.int z.length) H) ∨ (∃ a kvs, xs = [V.ref a] ∧ H a = some (.dK kvs) ∧ Q (.int kvs.length) H))
theorem call_lenU : CallR X (.builtin "len") (rLenU X.K) := CallR.or call_len_seq (CallR.or call_len_str call_lenD)
theorem se_len (hg : Gl X "len") (hm : X.mg "len" = none) (ha : SE X Φ b x ma) (hst : starEach [x] X.env = (false, eval x X.env) :: starEach [] X.env := by rfl) : SE X Φ b (.Call (.Name "len" p) [x] [] pos) (tr1M lenT ma) := by
  refine PE.imp (pe_callB call_lenU hg hm PySem.boot_len (pa_cons ha pa_nil hst) (by decide) (by decide) hst rfl) fun σ H Q q => ?_
  refine seqE q (fun z => z) fun v1 H1 F1 env env1 ao Np Lp c1 s1 t1 p1 q1 => ?_
  refine tr1_end (r := fun v H Q => rLenU X.K [v] H Q) ?_ c1 s1 t1 q1
  intro t d H Q tp hf k
  cases t with
  | nd a bb xs =>
    simp only [AT.er, lenT, Option.some.injEq, AT.erL_map, List.length_map] at hf
    subst hf
    have e : ((xs.map AT.val).length : Int) = (xs.length : Int) := by rw [List.length_map]
    cases bb with
    | true => exact .inl ⟨a, _, rfl, .inl (.inl (.inl tp)), by rw [e]; exact k _ (.int _)⟩
    | false => exact .inl ⟨a, _, rfl, .inr (.inl (.inl tp)), by rw [e]; exact k _ (.int _)⟩
  | dk a kvs =>
    simp only [AT.er, lenT, Option.some.injEq, List.length_map] at hf
    subst hf
    exact .inr (.inr ⟨a, _, rfl, tp, by rw [List.length_map]; exact k _ (.int _)⟩)
  | lf v l =>
    cases l with
    | e n => simp [AT.er, lenT] at hf
    | s ns =>
      simp only [AT.er, lenT, Option.some.injEq] at hf
      subst hf
      obtain ⟨a, ev, hs⟩ := tp
      have e : ((ns.map V.int).length : Int) = (ns.length : Int) := by rw [List.length_map]
      exact .inl ⟨a, _, by rw [show (AT.lf v (.s ns)).val = v from rfl, ev], .inl hs, by rw [e]; exact k _ (.int _)⟩
    | d z =>
      cases z with
      | list ds =>
        simp only [AT.er, lenT, Option.some.injEq] at hf
        subst hf
        cases tp with
        | lst ha hs => exact .inl ⟨_, _, rfl, .inl (.inl (.inl ha)), by rw [hs.length]; exact k _ (.int _)⟩
      | tuple ds =>
        simp only [AT.er, lenT, Option.some.injEq] at hf
        subst hf
        cases tp with
        | tup ha hs => exact .inl ⟨_, _, rfl, .inr ha, by rw [hs.length]; exact k _ (.int _)⟩
      | dict ds =>
        simp only [AT.er, lenT, Option.some.injEq] at hf
        subst hf
        cases tp with
        | dct ha hs => exact .inr (.inr ⟨_, _, rfl, ha, by rw [hs.length]; exact k _ (.int _)⟩)
      | str z =>
        simp only [AT.er, lenT] at hf
        cases hz : decide (z.length ≤ 1000000) with
        | false => rw [hz] at hf; cases hf
        | true =>
          rw [hz] at hf
          cases hf
          cases tp
          exact .inr (.inl ⟨z, rfl, sOk_line (of_decide_eq_true hz), k _ (.int _)⟩)
      | _ => simp [AT.er, lenT] at hf

/-! ### isinstance -/
def tyT : IV → Option String
  | .lf (.d .none) => some "NoneType"
  | .lf (.d (.bool _)) => some "bool"
  | .lf (.d (.int _)) => some "int"
  | .lf (.d (.str _)) => some "str"
  | .lf (.d (.list _)) => some "list"
  | .lf (.d (.tuple _)) => some "tuple"
  | .lf (.d (.dict _)) => some "dict"
  | .lf (.s _) => some "list"
  | .nd true _ => some "list"
  | .nd false _ => some "tuple"
  | .dk _ => some "dict"
  | _ => none
def isT (n : String) (t : IV) : Option PyData := match tyT t with
  | some a => (kitB a n).map .bool
  | none => none
theorem tyx_of {t : AT} {a : String} (h : Top K H t) (e : tyT t.er = some a) : TyX K H t.val (.type a) := by
  cases t with
  | dk ad kvs =>
    simp only [AT.er, tyT, Option.some.injEq] at e
    subst e
    exact .base (.dK h)
  | nd ad b xs =>
    cases b with
    | true =>
      simp only [AT.er, tyT, Option.some.injEq] at e
      subst e
      exact .base (.lst h)
    | false =>
      simp only [AT.er, tyT, Option.some.injEq] at e
      subst e
      exact .base (.tup h)
  | lf v l =>
    cases l with
    | e n => simp [AT.er, tyT] at e
    | s ns =>
      simp only [AT.er, tyT, Option.some.injEq] at e
      subst e
      obtain ⟨ad, ev, hs⟩ := h
      show TyX K H v _
      subst ev
      rcases hs with (hs | ⟨o, hs⟩) | ⟨o, its, n, h1, h2, _⟩
      · exact .base (.lst hs)
      · exact .base (.frz hs)
      · exact .kList h1 h2
    | d z =>
      cases z <;> (simp only [AT.er, tyT, Option.some.injEq] at e; subst e)
      · cases h; exact .base .non
      · cases h; exact .base (.bl _)
      · cases h; exact .base (.int _)
      · cases h; exact .base (.str _)
      · cases h with
        | lst ha hs => exact .base (.lst ha)
      · cases h with
        | tup ha hs =>
          rcases ha with (hs | ⟨o, hs⟩) | ⟨o, its, n, h1, h2, _⟩
          · exact .base (.tup hs)
          · exact .fTuple hs
          · exact .kTuple h1 h2
      · cases h with
        | dct ha hs => exact .base (.dK ha)
/-- isinstance(x, T), T a built-in class -/
theorem se_isi {n : Str} {T : String} {q1 : Pos} (hg : Gl X "isinstance") (hm : X.mg "isinstance" = none) (hgT : Gl X n) (hmT : X.mg n = none) (ha : SE X Φ b x ma) (hvT : bootBuiltins n = some (.type T) := by decide +kernel) (hv : bootBuiltins "isinstance" = some (.builtin "isinstance") := by decide +kernel)
    (hn : n ≠ "__name__" := by decide) (hdb : (n == ("__debug__" : Str)) = false := by decide) (hst : starEach [x, .Name n q1] X.env = (false, eval x X.env) :: starEach [.Name n q1] X.env := by rfl) : SE X Φ b (.Call (.Name "isinstance" p) [x, .Name n q1] [] pos) (tr1M (isT T) ma) := by
  refine PE.imp (pe_callB call_isi hg hm hv (pa_cons ha (pa_cons (pe_bltn hgT hmT hvT (v := .ty T) rfl hn hdb) pa_nil) hst) (by decide) (by decide) hst rfl) fun σ H Q q => ?_
  refine seqE q (fun z => z) fun v1 H1 F1 env env1 ao Np Lp c1 s1 t1 p1 q1 => ?_
  refine tr1_end (r := fun v H Q => rIsi X.K [v, .ty T] H Q) ?_ c1 s1 t1 q1
  intro t d H Q tp hf k
  simp only [isT] at hf
  cases ht : tyT t.er with
  | none => rw [ht] at hf; cases hf
  | some a =>
    rw [ht] at hf
    simp only at hf
    cases hk : kitB a T with
    | none => rw [hk] at hf; cases hf
    | some r =>
      rw [hk] at hf
      cases hf
      exact ⟨t.val, .ty T, _, _, r, rfl, .ty T, tyx_of tp ht, kit_ty hk, k _ (.bl r)⟩

/-! ### tuple(list), list(range ..) -/
def tupM (ma : M O) : M O := fun e => R.bind (ma e) fun o e' => match O.kids o e' with
  | some ds => .ok (.tm (.d (.tuple ds))) e'
  | none => .bad
theorem se_tuple (hg : Gl X "tuple") (hm : X.mg "tuple" = none) (ha : SE X Φ b x ma) (hst : starEach [x] X.env = (false, eval x X.env) :: starEach [] X.env := by rfl) : SE X Φ b (.Call (.Name "tuple" p) [x] [] pos) (tupM ma) := by
  refine PE.imp (pe_callTy call_tuple_of hg hm (by decide +kernel) (pa_cons ha pa_nil hst) (by decide) (by decide) hst rfl) fun σ H Q q => ?_
  refine seqE q (fun z => z) fun v1 H1 F1 env env1 ao Np Lp c1 s1 t1 p1 q1 => ?_
  cases hk : O.kids (Opd.er ao) (erE env1) with
  | none => rw [hk] at q1; exact q1.elim
  | some ds =>
    rw [hk] at q1
    obtain ⟨t, ht, rfl⟩ := t1
    obtain ⟨F', a, vs, l, c2, ev, hs, hd, _⟩ := view c1 ht hk
    rw [ev]
    exact ⟨a, vs, rfl, .inl ⟨hs, fun l hl => Ct.newT q1 c2 s1 hd hl⟩⟩
def rgD (a b : Int) : List PyData := (List.range (b - a).toNat).map fun i => .int (a + (i : Nat))
theorem rgD_dql (a b : Int) : DqL K F (rgV a b) (rgD a b) := by
  unfold rgV rgD
  generalize List.range (b - a).toNat = l
  induction l with
  | nil => exact .nil
  | cons i r ih => exact .cons (.int _) ih
def rgOk (a b : Int) : Bool := decide (-(2 ^ 62) ≤ a ∧ a < 2 ^ 62 ∧ -(2 ^ 62) ≤ b ∧ b < 2 ^ 62 ∧ (b - a).toNat ≤ 1000000)
theorem rgOk_c {a b : Int} (h : rgOk a b = true) : RgOk a b := by
  simp only [rgOk, decide_eq_true_eq] at h
  exact ⟨h.1, h.2.1, h.2.2.1, h.2.2.2.1, Nat.le_trans h.2.2.2.2 (by decide)⟩
def rgR (a b : Option PyData) (e : Env') : R O := match a, b with
  | some (.int i), some (.int j) => if rgOk i j then .ok (.tm (lsD (rgD i j))) e else .bad
  | _, _ => .bad
def lrg1M (ma : M O) : M O := fun e => R.bind (ma e) fun o e' => rgR (some (.int 0)) (O.dat o e') e'
def lrg2M (b2 : Bool) (ma mb : M O) : M O := twoM b2 ma mb fun o1 o2 e => rgR (O.dat o1 e) (O.dat o2 e) e
theorem rgR_end {i : Option PyData} {j : Option PyData} (c : CB K Φ.g F H (nodesE env ++ Np) (leavesE env ++ Lp)) (s : SR env σ) (q : Ct K Φ b σ Q H env Np Lp (rgR i j (erE env))) :
    ∃ a c, i = some (.int a) ∧ j = some (.int c) ∧ RgOk a c ∧ ∀ q, H q = none → Q (.ref q) (upd H q (.lst (rgV a c))) := by
  cases i with
  | none => exact q.elim
  | some d =>
    cases j with
    | none => cases d <;> exact q.elim
    | some d' =>
      cases d <;> try exact q.elim
      cases d' <;> try exact q.elim
      rename_i a c'
      cases hr : rgOk a c' with
      | false =>
        simp only [rgR, hr] at q
        exact q.elim
      | true =>
        simp only [rgR, hr] at q
        exact ⟨a, c', rfl, rfl, rgOk_c hr, fun p hp => Ct.newL q c s (rgD_dql a c') hp⟩
theorem dat_int {ao : AO} {v : V} {i : Int} (c : CB K Φ.g F H (nodesE env ++ (Opd.nodes ao ++ Np)) (leavesE env ++ (Opd.leaves ao ++ Lp))) (t : ∀ t, AO.tree ao env = some t → t.val = v) (e : O.dat (Opd.er ao) (erE env) = some (.int i)) : v = .int i := by
  obtain ⟨u, g1, k1⟩ := dat_of e
  have r := c.tree g1 k1
  rw [t u g1] at r
  cases r
  rfl
theorem ex_all {ao : AO} {v : V} (t : ∃ t, AO.tree ao env = some t ∧ t.val = v) : ∀ t, AO.tree ao env = some t → t.val = v := fun u hu => by
  obtain ⟨t, h, e⟩ := t
  rw [hu] at h
  cases h
  exact e
theorem se_lrg1 {q1 : Pos} (hc : X.calm = true) (hg : Gl X "list") (hm : X.mg "list" = none) (hgr : Gl X "range") (hmr : X.mg "range" = none) (ha : SE X Φ b x ma) (hst : starEach [x] X.env = (false, eval x X.env) :: starEach [] X.env := by rfl)
    : SE X Φ b (.Call (.Name "list" p) [.Call (.Name "range" q1) [x] [] pos] [] pos') (lrg1M ma) := by
  refine PE.imp (pe_listRg hc hg hm (prg_1 hgr hmr ha hst)) fun σ H Q q => ?_
  refine seqE q (fun z => z) fun v1 H1 F1 env env1 ao Np Lp c1 s1 t1 p1 q1 => ?_
  obtain ⟨a, c, e1, e2, ok, k⟩ := rgR_end c1.drop1 s1 q1
  cases e1
  exact ⟨c, dat_int c1 (ex_all t1) e2, ok, k⟩
theorem se_lrg2 {q1 : Pos} (hc : X.calm = true) (hg : Gl X "list") (hm : X.mg "list" = none) (hgr : Gl X "range") (hmr : X.mg "range" = none) (ha : SE X Φ b1 x ma) (hb : SE X Φ b2 y mb) (hst : starEach [x, y] X.env = (false, eval x X.env) :: starEach [y] X.env := by rfl)
    (hst2 : starEach [y] X.env = (false, eval y X.env) :: starEach [] X.env := by rfl) (hp : (backTo pos (starEach [y] X.env)).any (·.1) = false := by rfl)
    : SE X Φ (b1 && b2) (.Call (.Name "list" p) [.Call (.Name "range" q1) [x, y] [] pos] [] pos') (lrg2M b2 ma mb) := by
  refine PE.imp (pe_listRg hc hg hm (prg_2 hgr hmr ha hb hst hst2 hp)) fun σ H Q q => ?_
  refine two q fun v1 v2 H2 F2 env2 ao1 ao2 Np Lp c s t1 t2 q => ?_
  obtain ⟨a, c', e1, e2, ok, k⟩ := rgR_end c.drop2 s q
  exact ⟨a, c', dat_int (tree_stays c) t1 e1, dat_int c (ex_all t2) e2, ok, k⟩

/-! ### built-in functions of two arguments -/
theorem se_b2 {id : String} {n : Str} {r : List V → Hp → VK → Prop} {f : PyData → PyData → Option PyData} (hc : CallR X (.builtin id) r) (hr : Op2 X.K (fun v w => r [v, w]) f) (hg : Gl X n) (hm : X.mg n = none) (ha : SE X Φ b1 x ma) (hb : SE X Φ b2 y mb) (hv : bootBuiltins n = some (.builtin id) := by decide +kernel)
    (hn : n ≠ "__name__" := by decide) (hdb : (n == ("__debug__" : Str)) = false := by decide) (hst : starEach [x, y] X.env = (false, eval x X.env) :: starEach [y] X.env := by rfl) (hst2 : starEach [y] X.env = (false, eval y X.env) :: starEach [] X.env := by rfl) (hp : (backTo pos (starEach [y] X.env)).any (·.1) = false := by rfl) :
    SE X Φ (b1 && b2) (.Call (.Name n p) [x, y] [] pos) (op2M b2 f ma mb) := by
  refine PE.imp (pe_callB hc hg hm hv (pa_cons ha (pa_cons hb pa_nil hst2) hst) hn hdb hst hp) fun σ H Q q => ?_
  exact op2_run hr σ H Q q
abbrev fMax2 := fInt fun i j => if j > i then j else i
abbrev fMin2 := fInt fun i j => if j < i then j else i
theorem se_max2 (hc : X.calm = true) (hg : Gl X "max") (hm : X.mg "max" = none) (ha : SE X Φ b1 x ma) (hb : SE X Φ b2 y mb) (hst : starEach [x, y] X.env = (false, eval x X.env) :: starEach [y] X.env := by rfl) (hst2 : starEach [y] X.env = (false, eval y X.env) :: starEach [] X.env := by rfl) (hp : (backTo pos (starEach [y] X.env)).any (·.1) = false := by rfl) :
    SE X Φ (b1 && b2) (.Call (.Name "max" p) [x, y] [] pos) (op2M b2 fMax2 ma mb) := se_b2 (call_max2 hc) (fun v w d1 d2 d H Q h1 h2 hf k => by
      obtain ⟨i, j, rfl, rfl, q⟩ := op2_rI0 (K := X.K) (g := fun i j => PyData.int (if j > i then j else i)) (gv := fun i j => V.int (if j > i then j else i)) (fun _ _ _ => .int _) v w d1 d2 d H Q h1 h2 hf k
      exact ⟨i, j, rfl, q⟩) hg hm ha hb (hst := hst) (hst2 := hst2) (hp := hp)
theorem se_min2 (hc : X.calm = true) (hg : Gl X "min") (hm : X.mg "min" = none) (ha : SE X Φ b1 x ma) (hb : SE X Φ b2 y mb) (hst : starEach [x, y] X.env = (false, eval x X.env) :: starEach [y] X.env := by rfl) (hst2 : starEach [y] X.env = (false, eval y X.env) :: starEach [] X.env := by rfl) (hp : (backTo pos (starEach [y] X.env)).any (·.1) = false := by rfl) :
    SE X Φ (b1 && b2) (.Call (.Name "min" p) [x, y] [] pos) (op2M b2 fMin2 ma mb) := se_b2 (call_min2 hc) (fun v w d1 d2 d H Q h1 h2 hf k => by
      obtain ⟨i, j, rfl, rfl, q⟩ := op2_rI0 (K := X.K) (g := fun i j => PyData.int (if j < i then j else i)) (gv := fun i j => V.int (if j < i then j else i)) (fun _ _ _ => .int _) v w d1 d2 d H Q h1 h2 hf k
      exact ⟨i, j, rfl, q⟩) hg hm ha hb (hst := hst) (hst2 := hst2) (hp := hp)
end
end Z
/-! Z9: + and * of lists, slices, argument lists, displays. -/
namespace Z
open PySem L2

def O.kidsL (o : O) (e : Env') : Option (List PyData) := match O.tree o e with
  | some (.lf (.s _)) => none
  | _ => O.kids o e
def lim (n : Nat) : Bool := decide (n ≤ 1000000)
theorem lim_line {n : Nat} (h : lim n = true) : n ≤ sizeLine := sOk_line (of_decide_eq_true h)
def catR (x y : Option (List PyData)) (e : Env') : R O := match x, y with
  | some ds, some es => if lim (ds.length + es.length) then .ok (.tm (lsD (ds ++ es))) e else .bad
  | _, _ => .bad
def plusR (d : Option PyData) (x y : Option (List PyData)) (e : Env') : R O := match d with
  | some d => outM (some d) e
  | none => catR x y e
def addM (b2 : Bool) (ma mb : M O) : M O := twoM b2 ma mb fun o1 o2 e => plusR (dat2 fAdd (O.dat o1 e) (O.dat o2 e)) (O.kidsL o1 e) (O.kidsL o2 e) e
section
variable {X : Cx} {K : PySem.W.Frag} {Φ : Fx} {b b1 b2 b3 : Bool} {σ : St} {H F : Hp} {Q : VK} {env : AEnv} {Np : List (Addr × HO)} {Lp : List (V × LF)} {x y : Expr} {ma mb : M O} {pos p : Pos}
theorem viewL {g : Gh} {ao : AO} {t : AT} {ds : List PyData} (c : CB K g F H (nodesE env ++ (Opd.nodes ao ++ Np)) (leavesE env ++ (Opd.leaves ao ++ Lp))) (h : AO.tree ao env = some t) (e : O.kidsL (Opd.er ao) (erE env) = some ds) :
    ∃ F' a vs, Le F F' ∧ CB K g F' H (nodesE env ++ Np) (leavesE env ++ Lp) ∧ t.val = .ref a ∧ H a = some (.lst vs) ∧ DqL K F' vs ds := by
  have e' : O.kids (Opd.er ao) (erE env) = some ds ∧ ∀ ns, t.er ≠ .lf (.s ns) := by
    simp only [O.kidsL] at e
    split at e
    · cases e
    · rename_i hx
      refine ⟨e, fun ns hn => hx ns ?_⟩
      rw [tree_er, h, Option.map_some, hn]
  obtain ⟨F', a, vs, l, c2, ev, hs, hd, z⟩ := view c h e'.1
  rcases z with z | ⟨ns, z⟩
  · exact ⟨F', a, vs, l, c2, ev, z, hd⟩
  · exact absurd z (e'.2 ns)
theorem kidsL_tree {ao : AO} {ds : List PyData} (e : O.kidsL (Opd.er ao) (erE env) = some ds) : ∃ t, AO.tree ao env = some t := by
  cases h : AO.tree ao env with
  | some t => exact ⟨t, rfl⟩
  | none =>
    simp only [O.kidsL, O.kids, tree_er, h, Option.map_none, kidsT] at e
    cases e
/-- two lists -/
theorem view2 {g : Gh} {ao1 ao2 : AO} {v1 v2 : V} {ds es : List PyData} (c : CB K g F H (nodesE env ++ (Opd.nodes ao2 ++ (Opd.nodes ao1 ++ Np))) (leavesE env ++ (Opd.leaves ao2 ++ (Opd.leaves ao1 ++ Lp))))
    (t1 : ∀ t, AO.tree ao1 env = some t → t.val = v1) (t2 : ∃ t, AO.tree ao2 env = some t ∧ t.val = v2) (e1 : O.kidsL (Opd.er ao1) (erE env) = some ds) (e2 : O.kidsL (Opd.er ao2) (erE env) = some es) :
    ∃ F' a vs a' ws, CB K g F' H (nodesE env ++ Np) (leavesE env ++ Lp) ∧ v1 = .ref a ∧ H a = some (.lst vs) ∧ DqL K F' vs ds ∧ v2 = .ref a' ∧ H a' = some (.lst ws) ∧ DqL K F' ws es := by
  obtain ⟨t, ht, rfl⟩ := t2
  obtain ⟨F1, a', ws, l1, c1, ev1, hs1, hd1⟩ := viewL c ht e2
  obtain ⟨u, hu⟩ := kidsL_tree e1
  obtain ⟨F2, a, vs, l2, c2, ev2, hs2, hd2⟩ := viewL c1 hu e1
  exact ⟨F2, a, vs, a', ws, c2, (t1 u hu).symm.trans ev2, hs2, hd2, ev1, hs1, hd1.le l2⟩
theorem opr_plus : OpR X (binaryOp .Add) (fun x y H Q => rAddU x y H Q ∨ rCat x y H Q) := OpR.or (OpR.or op_add op_add_str) op_cat
theorem se_plus (ha : SE X Φ b1 x ma) (hb : SE X Φ b2 y mb) : SE X Φ (b1 && b2) (.BinOp x .Add y pos) (addM b2 ma mb) := by
  refine PE.imp (pe_op opr_plus ha hb) fun σ H Q q => ?_
  refine two q fun v1 v2 H2 F2 env2 ao1 ao2 Np Lp c s t1 t2 q => ?_
  cases hd : dat2 fAdd (O.dat (Opd.er ao1) (erE env2)) (O.dat (Opd.er ao2) (erE env2)) with
  | some d =>
    rw [hd] at q
    have q : Ct X.K Φ (b1 && b2) σ Q H2 env2 Np Lp (outM (some d) (erE env2)) := q
    obtain ⟨d', hd', k⟩ := Ct.out q c.drop2 s
    cases hd'
    cases h1 : O.dat (Opd.er ao1) (erE env2) with
    | none => rw [h1] at hd; cases hd
    | some d1 =>
      cases h2 : O.dat (Opd.er ao2) (erE env2) with
      | none => rw [h1, h2] at hd; cases hd
      | some d2 =>
        rw [h1, h2] at hd
        obtain ⟨u1, g1, k1⟩ := dat_of h1
        obtain ⟨u2, g2, k2⟩ := dat_of h2
        have r1 := (tree_stays c).tree g1 k1
        have r2 := c.tree g2 k2
        rw [t1 u1 g1] at r1
        rw [ex_all t2 u2 g2] at r2
        exact .inl (op2_add v1 v2 d1 d2 d H2 Q r1 r2 hd fun v hv => k v H2 hv)
  | none =>
    rw [hd] at q
    cases h1 : O.kidsL (Opd.er ao1) (erE env2) with
    | none => rw [h1] at q; exact q.elim
    | some ds =>
      cases h2 : O.kidsL (Opd.er ao2) (erE env2) with
      | none => rw [h1, h2] at q; exact q.elim
      | some es =>
        rw [h1, h2] at q
        obtain ⟨F', a, vs, a', ws, c', e1, s1, d1, e2, s2, d2⟩ := view2 c t1 t2 h1 h2
        cases hl : lim (ds.length + es.length) with
        | false =>
          simp only [plusR, catR, hl] at q
          exact q.elim
        | true =>
          simp only [plusR, catR, hl] at q
          exact .inr ⟨a, a', vs, ws, e1, e2, s1, s2, by rw [d1.length, d2.length]; exact lim_line hl, fun p hp => Ct.newL q c' s (d1.append d2) hp⟩

/-! ### * -/
def repR (x : Option (List PyData)) (k : Option PyData) (e : Env') : R O := match x, k with
  | some ds, some (.int k) => if decide (-(2 ^ 63) ≤ k ∧ k < 2 ^ 63) && lim (ds.length * k.toNat) then .ok (.tm (lsD (List.replicate k.toNat ds).flatten)) e else .bad
  | _, _ => .bad
def timesR (d : Option PyData) (x : Option (List PyData)) (k : Option PyData) (e : Env') : R O := match d with
  | some d => outM (some d) e
  | none => repR x k e
def mulM (b2 : Bool) (ma mb : M O) : M O := twoM b2 ma mb fun o1 o2 e => timesR (dat2 fMul (O.dat o1 e) (O.dat o2 e)) (O.kidsL o1 e) (O.dat o2 e) e
theorem DqL.rep {vs : List V} {ds : List PyData} (h : DqL K F vs ds) : ∀ k : Nat, DqL K F (List.replicate k vs).flatten (List.replicate k ds).flatten
  | 0 => .nil
  | k + 1 => by
    rw [List.replicate_succ, List.replicate_succ, List.flatten_cons, List.flatten_cons]
    exact h.append (h.rep k)
theorem opr_times : OpR X (binaryOp .Mult) (fun x y H Q => rI CMul (fun i j => .int (i * j)) x y H Q ∨ rRep x y H Q) := OpR.or op_mul op_rep
theorem se_times (ha : SE X Φ b1 x ma) (hb : SE X Φ b2 y mb) : SE X Φ (b1 && b2) (.BinOp x .Mult y pos) (mulM b2 ma mb) := by
  refine PE.imp (pe_op opr_times ha hb) fun σ H Q q => ?_
  refine two q fun v1 v2 H2 F2 env2 ao1 ao2 Np Lp c s t1 t2 q => ?_
  cases hd : dat2 fMul (O.dat (Opd.er ao1) (erE env2)) (O.dat (Opd.er ao2) (erE env2)) with
  | some d =>
    rw [hd] at q
    have q : Ct X.K Φ (b1 && b2) σ Q H2 env2 Np Lp (outM (some d) (erE env2)) := q
    obtain ⟨d', hd', k⟩ := Ct.out q c.drop2 s
    cases hd'
    cases h1 : O.dat (Opd.er ao1) (erE env2) with
    | none => rw [h1] at hd; cases hd
    | some d1 =>
      cases h2 : O.dat (Opd.er ao2) (erE env2) with
      | none => rw [h1, h2] at hd; cases hd
      | some d2 =>
        rw [h1, h2] at hd
        obtain ⟨u1, g1, k1⟩ := dat_of h1
        obtain ⟨u2, g2, k2⟩ := dat_of h2
        have r1 := (tree_stays c).tree g1 k1
        have r2 := c.tree g2 k2
        rw [t1 u1 g1] at r1
        rw [ex_all t2 u2 g2] at r2
        exact .inl (op2_rI (fun _ _ h => mulOk_c h) (fun _ _ _ => .int _) v1 v2 d1 d2 d H2 Q r1 r2 hd fun v hv => k v H2 hv)
  | none =>
    rw [hd] at q
    cases h1 : O.kidsL (Opd.er ao1) (erE env2) with
    | none => rw [h1] at q; exact q.elim
    | some ds =>
      cases h2 : O.dat (Opd.er ao2) (erE env2) with
      | none => rw [h1, h2] at q; exact q.elim
      | some d2 =>
        rw [h1, h2] at q
        cases d2 with
        | int k =>
          cases hl : decide (-(2 ^ 63) ≤ k ∧ k < 2 ^ 63) && lim (ds.length * k.toNat) with
          | false =>
            simp only [timesR, repR, hl] at q
            exact q.elim
          | true =>
            simp only [timesR, repR, hl] at q
            have ev2 := dat_int c (ex_all t2) h2
            obtain ⟨u, hu⟩ := kidsL_tree h1
            obtain ⟨F', a, vs, l, c2, ev, hs, hd'⟩ := viewL (tree_stays c) hu h1
            obtain ⟨k1, k2⟩ := of_decide_eq_true (band1 hl)
            have c3 := c2.drop1
            exact .inr ⟨a, k, vs, (t1 u hu).symm.trans ev, ev2, hs, k1, k2, by rw [hd'.length]; exact lim_line (band2 hl), fun p hp => Ct.newL q c3 s (hd'.rep k.toNat) hp⟩
        | _ => exact q.elim

/-! ### slices -/
def cutG {α : Type} (xs : List α) (lo hi : Option Int) : List α := (xs.drop (HT.sIx xs.length 0 lo)).take (HT.sIx xs.length xs.length hi - HT.sIx xs.length 0 lo)
def intO (x : Option PyData) (e : Env') : R (Option Int) := match x with
  | some (.int i) => .ok (some i) e
  | _ => .bad
def partM : Option (Bool × M O) → M (Option Int)
  | none => fun e => .ok none e
  | some (_, m) => fun e => R.bind (m e) fun o e' => intO (O.dat o e') e'
def partB : Option (Bool × M O) → Bool
  | none => true
  | some (b, _) => b
def partT (K : PySem.W.Frag) (Φ : Fx) : Option (Bool × M O) → TO
  | none => tNoPart
  | some (b, m) => tPart (tE K Φ b m)
inductive SO (X : Cx) (Φ : Fx) : Option Expr → Option (Bool × M O) → Prop
  | none : SO X Φ none none
  | some {b : Bool} {e : Expr} {m : M O} (h : SE X Φ b e m) : SO X Φ (some e) (some (b, m))
theorem SO.po {e : Option Expr} {q : Option (Bool × M O)} (h : SO X Φ e q) : PO X e (partT X.K Φ q) := by
  cases h with
  | none => exact po_none
  | some h => exact po_some h
theorem seqPart {q : Option (Bool × M O)} {f : Option Int → Env' → R O} {Q' : Option Int → Hp → Prop} {A : List (Addr × HO)} {B : List (V × LF)} (c : CB K Φ.g F H (nodesE env ++ (A ++ Np)) (leavesE env ++ (B ++ Lp))) (s : SR env σ)
    (qq : Ct K Φ b σ Q H env Np Lp (R.bind (partM q (erE env)) f)) (hb : b = true → partB q = true)
    (k : ∀ o H' F' env', CB K Φ.g F' H' (nodesE env' ++ (A ++ Np)) (leavesE env' ++ (B ++ Lp)) → SR env' σ → (partB q = true → env' = env ∧ Le H H') → Ct K Φ b σ Q H' env' Np Lp (f o (erE env')) → Q' o H') : partT K Φ q σ H Q' := by
  cases q with
  | none => exact k none H F env c s (fun _ => ⟨rfl, .refl H⟩) qq
  | some bm =>
    obtain ⟨b', m⟩ := bm
    have e : R.bind (partM (some (b', m)) (erE env)) f = R.bind (m (erE env)) fun o e' => R.bind (intO (O.dat o e') e') f := by
      simp only [partM]
      cases m (erE env) <;> rfl
    rw [e] at qq
    refine seqA c s qq hb fun v H' F' env' ao c' s' t' p' q' => ?_
    cases h : O.dat (Opd.er ao) (erE env') with
    | none => rw [h] at q'; exact q'.elim
    | some d =>
      rw [h] at q'
      cases d with
      | int i => exact ⟨i, dat_int c' (ex_all t') h, k (some i) H' F' env' c'.drop1 s' p' q'⟩
      | _ => exact q'.elim
def cutR (t : Option IV) (ds : Option (List PyData)) (lo hi : Option Int) (e : Env') : R O := match t with
  | some (.lf (.d (.str z))) => if lim z.length then .ok (.tm (.d (.str (cutS z lo hi)))) e else .bad
  | _ => match ds with
    | some ds => .ok (.tm (lsD (cutG ds lo hi))) e
    | none => .bad
def cutM (ma : M O) (ql qh : Option (Bool × M O)) : M O := fun e => R.bind (ma e) fun o e1 => R.bind (partM ql e1) fun lo e2 => R.bind (partM qh e2) fun hi e3 =>
  if O.stays (partB ql && partB qh) o then cutR (O.tree o e3) (O.kids o e3) lo hi e3 else .bad
theorem DqL.cut {vs : List V} {ds : List PyData} (h : DqL K F vs ds) (lo hi : Option Int) : DqL K F (cutV vs lo hi) (cutG ds lo hi) := by
  unfold cutV cutG
  rw [h.length]
  exact (h.drop _).take _
theorem sl_u : SlR X (fun x lo hi H Q => rSlL X.K x lo hi H Q ∨ rSlS x lo hi H Q) := SlR.or sl_list sl_str
theorem se_cut {p2 : Pos} {lo hi : Option Expr} {ql qh : Option (Bool × M O)} (ha : SE X Φ b1 x ma) (hl : SO X Φ lo ql) (hh : SO X Φ hi qh) : SE X Φ (b1 && (partB ql && partB qh)) (.Subscript x (.Slice lo hi none p2) pos) (cutM ma ql qh) := by
  refine PE.imp (pe_slice sl_u ha hl.po hh.po) fun σ H Q q => ?_
  refine seqE q band1 fun v1 H1 F1 env env1 ao Np Lp c1 s1 t1 p1 q1 => ?_
  refine seqPart c1 s1 q1 (fun z => band1 (band2 z)) fun l H2 F2 env2 c2 s2 p2 q2 => ?_
  refine seqPart c2 s2 q2 (fun z => band2 (band2 z)) fun h H3 F3 env3 c3 s3 p3 q3 => ?_
  cases hs : O.stays (partB ql && partB qh) (Opd.er ao) with
  | false => rw [hs] at q3; exact q3.elim
  | true =>
    rw [hs] at q3
    have q3 : Ct X.K Φ (b1 && (partB ql && partB qh)) σ Q H3 env3 Np Lp (cutR (O.tree (Opd.er ao) (erE env3)) (O.kids (Opd.er ao) (erE env3)) l h (erE env3)) := q3
    cases ht : AO.tree ao env3 with
    | none =>
      rw [tree_er, ht] at q3
      have : O.kids (Opd.er ao) (erE env3) = none := by simp only [O.kids, tree_er, ht, Option.map_none, kidsT]
      rw [this] at q3
      exact q3.elim
    | some t =>
      have ev : t.val = v1 := val_stays (X := True) hs s1 s3 (fun z => by
        obtain ⟨x1, _⟩ := p2 (band1 z)
        obtain ⟨y1, _⟩ := p3 (band2 z)
        exact ⟨y1.trans x1, True.intro⟩) t1 ht
      have main : ∀ ds, O.kids (Opd.er ao) (erE env3) = some ds → Ct X.K Φ (b1 && (partB ql && partB qh)) σ Q H3 env3 Np Lp (.ok (.tm (lsD (cutG ds l h))) (erE env3)) → rSlL X.K v1 l h H3 Q := fun ds hk q => by
        obtain ⟨F', a, vs, le, c', ea, hsq, hd, _⟩ := view c3 ht hk
        exact ⟨a, vs, ev.symm.trans ea, hsq, fun p hp => Ct.newL q c' s3 (hd.cut l h) hp⟩
      rw [tree_er, ht, Option.map_some] at q3
      cases hk : O.kids (Opd.er ao) (erE env3) with
      | some ds =>
        refine .inl (main ds hk ?_)
        rw [hk] at q3
        have ns : ∀ z, t.er ≠ .lf (.d (.str z)) := fun z hz => by
          simp only [O.kids, tree_er, ht, Option.map_some, hz, kidsT] at hk
          cases hk
        revert q3
        generalize t.er = w at ns
        intro q3
        cases w with
        | lf lf' =>
          cases lf' with
          | d z =>
            cases z with
            | str z => exact absurd rfl (ns z)
            | _ => exact q3
          | _ => exact q3
        | _ => exact q3
      | none =>
        rw [hk] at q3
        cases t with
        | lf v lf' =>
          cases lf' with
          | d z =>
            cases z with
            | str z =>
              cases hz : lim z.length with
              | false =>
                simp only [AT.er, cutR, hz] at q3
                exact q3.elim
              | true =>
                simp only [AT.er, cutR, hz] at q3
                have hl := top_of c3 ht
                cases ev
                cases hl
                exact .inr ⟨z, rfl, lim_line hz, Ct.dat0 q3 c3.drop1 s3 (.str _)⟩
            | _ => exact q3.elim
          | _ => exact q3.elim
        | nd a bb xs => exact q3.elim
        | dk a kvs => exact q3.elim
/-- xs[::-1] -/
def revM (ma : M O) : M O := ls1M (fun ds => some ds.reverse) ma
theorem se_rev {k : Nat} {p1 p2 p3 : Pos} (ha : SE X Φ b x ma) : SE X Φ b (.Subscript x (.Slice none none (some (.UnaryOp .USub (.Constant (.int 1) k p1) p2)) p3) pos) (revM ma) := by
  refine PE.imp (pe_revL ha) fun σ H Q q => ?_
  refine seqE q (fun z => z) fun v1 H1 F1 env env1 ao Np Lp c1 s1 t1 p1 q1 => ?_
  exact ls1_end (r := fun v H Q => ∃ a xs, v = V.ref a ∧ SqL X.K H a xs ∧ ∀ p, H p = none → Q (.ref p) (upd H p (.lst xs.reverse))) (fun a vs ds es F H Q hs hd hf k => by
    cases hf
    exact ⟨a, vs, rfl, hs, fun p hp => k _ p hd.reverse hp⟩) c1 s1 t1 q1
end
end Z
/-! Z10: argument lists, displays. -/
namespace Z
open PySem L2

def nodesO : List AO → List (Addr × HO)
  | [] => []
  | o :: r => Opd.nodes o ++ nodesO r
def leavesO : List AO → List (V × LF)
  | [] => []
  | o :: r => Opd.leaves o ++ leavesO r
inductive VRs (env : AEnv) : List AO → List V → Prop
  | nil : VRs env [] []
  | cons {ao : AO} {v : V} {aos : List AO} {vs : List V} (h : ∀ t, AO.tree ao env = some t → t.val = v) (r : VRs env aos vs) : VRs env (ao :: aos) (v :: vs)
def CtA (K : PySem.W.Frag) (Φ : Fx) (b : Bool) (σ : St) (Q : List V → Hp → Prop) (H : Hp) (env : AEnv) (Np : List (Addr × HO)) (Lp : List (V × LF)) (r : R (List O)) : Prop := match r with
  | .ok os e' => ∀ vs H' F' env' aos, CB K Φ.g F' H' (nodesE env' ++ (nodesO aos ++ Np)) (leavesE env' ++ (leavesO aos ++ Lp)) → SR env' σ → erE env' = e' → aos.map Opd.er = os → VRs env' aos vs → (b = true → env' = env ∧ Le H H') → LkS env env' → Q vs H'
  | .ex c e' => ∀ H' F' env', CB K Φ.g F' H' (nodesE env' ++ Np) (leavesE env' ++ Lp) → SR env' σ → erE env' = e' → Φ.W (Φ.xc c) none σ H'
  | .bad => False
def tAs (K : PySem.W.Frag) (Φ : Fx) (b : Bool) (m : M (List O)) : TA := fun σ H Q => ∃ F env Np Lp, CB K Φ.g F H (nodesE env ++ Np) (leavesE env ++ Lp) ∧ SR env σ ∧ CtA K Φ b σ Q H env Np Lp (m (erE env))
abbrev SA (X : Cx) (Φ : Fx) (b : Bool) (es : List Expr) (m : M (List O)) : Prop := PA X es (tAs X.K Φ b m)
theorem PA.imp {X : Cx} {es : List Expr} {t t' : TA} (h : PA X es t) (k : ∀ σ H Q, t' σ H Q → t σ H Q) : PA X es t' := ⟨fun pos pins s σ H Q I q => h.run pos pins s σ H Q I (k σ H Q q)⟩
section
variable {X : Cx} {K : PySem.W.Frag} {Φ : Fx} {b b1 b2 b3 : Bool} {σ : St} {H F : Hp} {Q : VK} {env : AEnv} {Np A : List (Addr × HO)} {Lp B : List (V × LF)} {x y : Expr} {es : List Expr} {ma mb : M O} {mas : M (List O)} {pos p : Pos}
theorem seqEA {m : M O} {f : O → Env' → R (List O)} {QA : List V → Hp → Prop} {Q' : VK} (c : CB K Φ.g F H (nodesE env ++ (A ++ Np)) (leavesE env ++ (B ++ Lp))) (s : SR env σ) (q : CtA K Φ b σ QA H env Np Lp (R.bind (m (erE env)) f)) (hb : b = true → b1 = true)
    (k : ∀ v H' F' env' ao, CB K Φ.g F' H' (nodesE env' ++ (Opd.nodes ao ++ (A ++ Np))) (leavesE env' ++ (Opd.leaves ao ++ (B ++ Lp))) → SR env' σ → (∃ t, AO.tree ao env' = some t ∧ t.val = v) →
      (b1 = true → env' = env ∧ Le H H') → CtA K Φ b σ QA H' env' Np Lp (f (Opd.er ao) (erE env')) → Q' v H') : tE K Φ b1 m σ H Q' := by
  refine ⟨F, env, A ++ Np, B ++ Lp, c, s, ?_⟩
  cases hm : m (erE env) with
  | ok o e' =>
    rw [hm] at q
    intro v H' F' env' ao a1 a2 a3 a4 a5 a6 a7
    refine k v H' F' env' ao a1 a2 a5 a6 ?_
    rw [a4, a3]
    have q' : CtA K Φ b σ QA H env Np Lp (f o e') := q
    revert q'
    cases f o e' with
    | ok o2 e2 =>
      intro q' v2 H2 F2 env2 ao2 d1 d2 d3 d4 d5 d6 d7
      refine q' v2 H2 F2 env2 ao2 d1 d2 d3 d4 d5 (fun hbt => ?_) (a7.trans d7)
      obtain ⟨x1, x2⟩ := a6 (hb hbt)
      obtain ⟨y1, y2⟩ := d6 hbt
      exact ⟨y1.trans x1, x2.trans y2⟩
    | ex c e2 => exact fun q' => q'
    | bad => exact fun q' => q'
  | ex c e' =>
    rw [hm] at q
    exact fun H' F' env' a1 a2 a3 => q H' F' env' (a1.sb2 (Sb.right _ _).tail (Sb.right _ _).tail) a2 a3
  | bad =>
    rw [hm] at q
    exact q
theorem seqAA {m : M (List O)} {f : List O → Env' → R (List O)} {QA QA' : List V → Hp → Prop} (c : CB K Φ.g F H (nodesE env ++ (A ++ Np)) (leavesE env ++ (B ++ Lp))) (s : SR env σ) (q : CtA K Φ b σ QA H env Np Lp (R.bind (m (erE env)) f)) (hb : b = true → b1 = true)
    (k : ∀ vs H' F' env' aos, CB K Φ.g F' H' (nodesE env' ++ (nodesO aos ++ (A ++ Np))) (leavesE env' ++ (leavesO aos ++ (B ++ Lp))) → SR env' σ → VRs env' aos vs →
      (b1 = true → env' = env ∧ Le H H') → CtA K Φ b σ QA H' env' Np Lp (f (aos.map Opd.er) (erE env')) → QA' vs H') : tAs K Φ b1 m σ H QA' := by
  refine ⟨F, env, A ++ Np, B ++ Lp, c, s, ?_⟩
  cases hm : m (erE env) with
  | ok o e' =>
    rw [hm] at q
    intro v H' F' env' ao a1 a2 a3 a4 a5 a6 a7
    refine k v H' F' env' ao a1 a2 a5 a6 ?_
    rw [a4, a3]
    have q' : CtA K Φ b σ QA H env Np Lp (f o e') := q
    revert q'
    cases f o e' with
    | ok o2 e2 =>
      intro q' v2 H2 F2 env2 ao2 d1 d2 d3 d4 d5 d6 d7
      refine q' v2 H2 F2 env2 ao2 d1 d2 d3 d4 d5 (fun hbt => ?_) (a7.trans d7)
      obtain ⟨x1, x2⟩ := a6 (hb hbt)
      obtain ⟨y1, y2⟩ := d6 hbt
      exact ⟨y1.trans x1, x2.trans y2⟩
    | ex c e2 => exact fun q' => q'
    | bad => exact fun q' => q'
  | ex c e' =>
    rw [hm] at q
    exact fun H' F' env' a1 a2 a3 => q H' F' env' (a1.sb2 (Sb.right _ _).tail (Sb.right _ _).tail) a2 a3
  | bad =>
    rw [hm] at q
    exact q
/-- arguments first, then an expression's end -/
theorem seqAE {m : M (List O)} {f : List O → Env' → R O} {QA' : List V → Hp → Prop} (c : CB K Φ.g F H (nodesE env ++ (A ++ Np)) (leavesE env ++ (B ++ Lp))) (s : SR env σ) (q : Ct K Φ b σ Q H env Np Lp (R.bind (m (erE env)) f)) (hb : b = true → b1 = true)
    (k : ∀ vs H' F' env' aos, CB K Φ.g F' H' (nodesE env' ++ (nodesO aos ++ (A ++ Np))) (leavesE env' ++ (leavesO aos ++ (B ++ Lp))) → SR env' σ → VRs env' aos vs →
      (b1 = true → env' = env ∧ Le H H') → Ct K Φ b σ Q H' env' Np Lp (f (aos.map Opd.er) (erE env')) → QA' vs H') : tAs K Φ b1 m σ H QA' := by
  refine ⟨F, env, A ++ Np, B ++ Lp, c, s, ?_⟩
  cases hm : m (erE env) with
  | ok o e' =>
    rw [hm] at q
    intro v H' F' env' ao a1 a2 a3 a4 a5 a6 a7
    refine k v H' F' env' ao a1 a2 a5 a6 ?_
    rw [a4, a3]
    have q' : Ct K Φ b σ Q H env Np Lp (f o e') := q
    revert q'
    cases f o e' with
    | ok o2 e2 =>
      intro q' v2 H2 F2 env2 ao2 d1 d2 d3 d4 d5 d6 d7
      refine q' v2 H2 F2 env2 ao2 d1 d2 d3 d4 d5 (fun hbt => ?_) (a7.trans d7)
      obtain ⟨x1, x2⟩ := a6 (hb hbt)
      obtain ⟨y1, y2⟩ := d6 hbt
      exact ⟨y1.trans x1, x2.trans y2⟩
    | ex c e2 => exact fun q' => q'
    | bad => exact fun q' => q'
  | ex c e' =>
    rw [hm] at q
    exact fun H' F' env' a1 a2 a3 => q H' F' env' (a1.sb2 (Sb.right _ _).tail (Sb.right _ _).tail) a2 a3
  | bad =>
    rw [hm] at q
    exact q
def nilA : M (List O) := fun e => .ok [] e
def consA (b2 : Bool) (ma : M O) (mas : M (List O)) : M (List O) := fun e => R.bind (ma e) fun o e1 => R.bind (mas e1) fun os e2 => if O.stays b2 o then .ok (o :: os) e2 else .bad
theorem sa_nil : SA X Φ true [] nilA := by
  refine PA.imp pa_nil fun σ H Q q => ?_
  obtain ⟨F, env, Np, Lp, c, s, q⟩ := q
  exact q [] H F env [] c s rfl rfl .nil (fun _ => ⟨rfl, .refl H⟩) (.refl env)
theorem sa_cons (ha : SE X Φ b1 x ma) (hr : SA X Φ b2 es mas) (hst : starEach (x :: es) X.env = (false, eval x X.env) :: starEach es X.env := by rfl) : SA X Φ (b1 && b2) (x :: es) (consA b2 ma mas) := by
  refine PA.imp (pa_cons ha hr hst) fun σ H Q q => ?_
  obtain ⟨F, env, Np, Lp, c, s, q⟩ := q
  refine seqEA (A := []) (B := []) (by simpa using c) s q band1 fun v1 H1 F1 env1 ao c1 s1 t1 p1 q1 => ?_
  simp only [List.nil_append] at c1
  refine seqAA (A := Opd.nodes ao) (B := Opd.leaves ao) c1 s1 q1 band2 fun vs H2 F2 env2 aos c2 s2 t2 p2 q2 => ?_
  cases hs : O.stays b2 (Opd.er ao) with
  | false => rw [hs] at q2; exact q2.elim
  | true =>
    rw [hs] at q2
    refine q2 (v1 :: vs) H2 F2 env2 (ao :: aos) ?_ s2 rfl rfl (.cons (fun t ht => val_stays hs s1 s2 p2 t1 ht) t2) (fun _ => ⟨rfl, .refl _⟩) (.refl _)
    refine c2.sb2 ?_ ?_
    · simp only [nodesO, List.append_assoc]
      exact (Sb.swap _ _ _).tail
    · simp only [leavesO, List.append_assoc]
      exact (Sb.swap _ _ _).tail

/-! ### written lists and tuples -/
def toV (o : O) (e : Env') : Option IV := match o with
  | .tm t => some t
  | .vr i q => match ctn e i q with
    | some (.lf l) => some (.lf l)
    | _ => none
def toVs : List O → Env' → Option (List IV)
  | [], _ => some []
  | o :: r, e => match toV o e, toVs r e with
    | some t, some ts => some (t :: ts)
    | _, _ => none
def lstR (x : Option (List IV)) (e : Env') : R O := match x with
  | some ts => if lim ts.length then .ok (.tm (.nd true ts)) e else .bad
  | none => .bad
def tupR (x : Option (List IV)) (e : Env') : R O := match x with
  | some ts => if lim ts.length then (match leafDs ts with
    | some ds => .ok (.tm (.d (.tuple ds))) e
    | none => .ok (.tm (.nd false ts)) e) else .bad
  | none => .bad
def lstM (mas : M (List O)) : M O := fun e => R.bind (mas e) fun os e' => lstR (toVs os e') e'
def tplM (mas : M (List O)) : M O := fun e => R.bind (mas e) fun os e' => tupR (toVs os e') e'
/-- the trees of written items -/
theorem toVs_of {g : Gh} : ∀ {aos : List AO} {vs : List V} {ts : List IV}, VRs env aos vs → toVs (aos.map Opd.er) (erE env) = some ts →
    CB K g F H (nodesE env ++ (nodesO aos ++ Np)) (leavesE env ++ (leavesO aos ++ Lp)) → ∃ ats : List AT, ats.map AT.val = vs ∧ AT.erL ats = ts ∧ AT.nodesL ats = nodesO aos ∧ ∀ q ∈ AT.leavesL ats, q ∈ leavesE env ++ leavesO aos
  | [], vs, ts, h, e, c => by
    cases h
    simp only [List.map_nil, toVs, Option.some.injEq] at e
    subst e
    exact ⟨[], rfl, by simp [AT.erL], by simp [AT.nodesL, nodesO], by simp [AT.leavesL]⟩
  | ao :: aos, vs, ts, h, e, c => by
    cases h with
    | cons hv hr =>
      rename_i v vs
      simp only [List.map_cons, toVs] at e
      cases h1 : toV (Opd.er ao) (erE env) with
      | none => rw [h1] at e; simp at e
      | some t =>
        cases h2 : toVs (aos.map Opd.er) (erE env) with
        | none => rw [h1, h2] at e; simp at e
        | some ts' =>
          rw [h1, h2] at e
          simp only [Option.some.injEq] at e
          subst e
          have c' : CB K g F H (nodesE env ++ (nodesO aos ++ Np)) (leavesE env ++ (leavesO aos ++ Lp)) := by
            refine c.sb2 (Sb.tail ?_) (Sb.tail ?_)
            · simp only [nodesO]
              exact (Sb.right _ _).head
            · simp only [leavesO]
              exact (Sb.right _ _).head
          obtain ⟨ats, a1, a2, a3, a4⟩ := toVs_of hr h2 c'
          cases ao with
          | tm u =>
            simp only [Opd.er, toV, Option.some.injEq] at h1
            refine ⟨u :: ats, by rw [List.map_cons, a1, hv u rfl], by simp only [AT.erL, a2, h1], by simp only [AT.nodesL, nodesO, a3, Opd.nodes], fun q hq => ?_⟩
            simp only [AT.leavesL] at hq
            simp only [leavesO, Opd.leaves]
            rcases List.mem_append.mp hq with z | z
            · exact List.mem_append_right _ (List.mem_append_left _ z)
            · rcases List.mem_append.mp (a4 q z) with z | z
              · exact List.mem_append_left _ z
              · exact List.mem_append_right _ (List.mem_append_right _ z)
          | vr i r =>
            simp only [Opd.er, toV, ctn_er] at h1
            cases hc : ctnA env i r with
            | none => rw [hc] at h1; simp at h1
            | some u =>
              rw [hc] at h1
              cases u with
              | nd a bb xs => simp [AT.er] at h1
              | dk a kvs => simp [AT.er] at h1
              | lf w l =>
                simp only [Option.map_some, AT.er, Option.some.injEq] at h1
                subst h1
                have ew : w = v := hv (.lf w l) hc
                subst ew
                refine ⟨.lf w l :: ats, by rw [List.map_cons, a1]; rfl, by simp only [AT.erL, a2, AT.er], by simp only [AT.nodesL, nodesO, a3, Opd.nodes, AT.nodes], fun q hq => ?_⟩
                simp only [AT.leavesL, AT.leaves] at hq
                simp only [leavesO, Opd.leaves, List.nil_append]
                rcases List.mem_append.mp hq with z | z
                · exact List.mem_append_left _ ((ctn_sb hc).2 q (by simpa [AT.leaves] using z))
                · exact a4 q z
theorem Ct.newN {t : Bool} {ats : List AT} {aos : List AO} (q : Ct K Φ b σ Q H env Np Lp (.ok (.tm (.nd t (AT.erL ats))) (erE env))) (c : CB K Φ.g F H (nodesE env ++ (nodesO aos ++ Np)) (leavesE env ++ (leavesO aos ++ Lp))) (s : SR env σ)
    (hn : AT.nodesL ats = nodesO aos) (hl : ∀ q ∈ AT.leavesL ats, q ∈ leavesE env ++ leavesO aos) {p : Addr} (hp : H p = none) : Q (.ref p) (upd H p (mkHO t (ats.map AT.val))) := by
  refine q (.ref p) _ F env (.tm (.nd p t ats)) ?_ s rfl (by simp only [Opd.er, AT.er]) ⟨_, rfl, rfl⟩ (fun _ => ⟨rfl, Le.new hp⟩) (.refl env)
  have c2 := c.alloc (a := p) (o := mkHO t (ats.map AT.val)) hp
  refine c2.sb ?_ fun q hq => ?_
  · simp only [Opd.nodes, AT.nodes, hn]
    exact .of_perm (List.perm_middle.symm)
  · simp only [Opd.leaves, AT.leaves] at hq
    rcases List.mem_append.mp hq with z | z
    · exact List.mem_append_left _ z
    · rcases List.mem_append.mp z with z | z
      · rcases List.mem_append.mp (hl q z) with z | z
        · exact List.mem_append_left _ z
        · exact List.mem_append_right _ (List.mem_append_left _ z)
      · exact List.mem_append_right _ (List.mem_append_right _ z)
theorem erL_length : ∀ ats : List AT, (AT.erL ats).length = ats.length := fun ats => by rw [AT.erL_map, List.length_map]
theorem se_lst (ha : SA X Φ b es mas) : SE X Φ b (.List es pos) (lstM mas) := by
  refine PE.imp (pe_lst ha) fun σ H Q q => ?_
  obtain ⟨F, env, Np, Lp, c, s, q⟩ := q
  refine seqAE (A := []) (B := []) (by simpa using c) s q (fun z => z) fun vs H1 F1 env1 aos c1 s1 t1 p1 q1 => ?_
  simp only [List.nil_append] at c1
  cases hv : toVs (aos.map Opd.er) (erE env1) with
  | none => rw [hv] at q1; exact q1.elim
  | some ts =>
    rw [hv] at q1
    obtain ⟨ats, a1, a2, a3, a4⟩ := toVs_of t1 hv c1
    cases hl : lim ts.length with
    | false =>
      simp only [lstR, hl] at q1
      exact q1.elim
    | true =>
      simp only [lstR, hl] at q1
      subst a2
      subst a1
      refine ⟨by rw [List.length_map, ← erL_length]; exact lim_line hl, fun p hp => ?_⟩
      exact Ct.newN q1 c1 s1 a3 a4 hp
theorem se_tpl {k : Nat} (ha : SA X Φ b es mas) : SE X Φ b (.Tuple es k pos) (tplM mas) := by
  refine PE.imp (pe_tup ha) fun σ H Q q => ?_
  obtain ⟨F, env, Np, Lp, c, s, q⟩ := q
  refine seqAE (A := []) (B := []) (by simpa using c) s q (fun z => z) fun vs H1 F1 env1 aos c1 s1 t1 p1 q1 => ?_
  simp only [List.nil_append] at c1
  cases hv : toVs (aos.map Opd.er) (erE env1) with
  | none => rw [hv] at q1; exact q1.elim
  | some ts =>
    rw [hv] at q1
    obtain ⟨ats, a1, a2, a3, a4⟩ := toVs_of t1 hv c1
    cases hl : lim ts.length with
    | false =>
      simp only [tupR, hl] at q1
      exact q1.elim
    | true =>
      simp only [tupR, hl] at q1
      subst a2
      subst a1
      refine ⟨by rw [List.length_map, ← erL_length]; exact lim_line hl, fun p hp => ?_⟩
      cases hd : leafDs (AT.erL ats) with
      | some ds =>
        rw [hd] at q1
        rw [AT.erL_map] at hd
        refine Ct.newT q1 (c1.sb2 (Sb.right _ _).tail (Sb.right _ _).tail) s1 (leafDs_dql hd fun q hq => c1.lf q ?_) hp
        rcases List.mem_append.mp (a4 q hq) with z | z
        · exact List.mem_append_left _ z
        · exact List.mem_append_right _ (List.mem_append_left _ z)
      | none =>
        rw [hd] at q1
        exact Ct.newN q1 c1 s1 a3 a4 hp
end
end Z
/-! Z11: calls of the program's own functions. -/
namespace Z
open PySem L2

inductive FR where
  | ok (t : IV) (outs : List IV)
  | ex (c : Nat) (outs : List IV)
  | bad
abbrev Sem' := List IV → FR
/-- the trees at the places that are handed in and out -/
def pick {τ : Type} : List Bool → List τ → List τ
  | m :: ms, t :: ts => if m then t :: pick ms ts else pick ms ts
  | _, _ => []
def isLeaf : AT → Bool
  | .lf _ _ => true
  | _ => false
def argsOk : List Bool → List AT → Bool
  | [], [] => true
  | m :: ms, t :: ts => (m || isLeaf t) && argsOk ms ts
  | _, _ => false
abbrev gOf (F H : Hp) (N : List (Addr × HO)) : Gh := ⟨F, H, N.map (·.1)⟩
/-- the promise of a function that is reckoned by f -/
def spF (K : PySem.W.Frag) (xc : Nat → Value) (ms : List Bool) (f : Sem') : Sp := fun vs H Q E => ∃ (F : Hp) (ats : List AT), vs = ats.map AT.val ∧ argsOk ms ats = true ∧ CB K (gOf F H (AT.nodesL ats)) F H (AT.nodesL ats) (AT.leavesL ats) ∧ match f (AT.erL ats) with
  | .ok t outs => ∀ (H' F' : Hp) (at' : AT) (outs' : List AT), CB K (gOf F H (AT.nodesL ats)) F' H' (at'.nodes ++ AT.nodesL outs') (at'.leaves ++ AT.leavesL outs') → at'.er = t → AT.erL outs' = outs → outs'.map AT.val = (pick ms ats).map AT.val → Q at'.val H'
  | .ex c outs => ∀ (H' F' : Hp) (outs' : List AT), CB K (gOf F H (AT.nodesL ats)) F' H' (AT.nodesL outs') (AT.leavesL outs') → AT.erL outs' = outs → outs'.map AT.val = (pick ms ats).map AT.val → E (xc c) none H'
  | .bad => False
theorem argsOk_len : ∀ {ms : List Bool} {ats : List AT}, argsOk ms ats = true → ats.length = ms.length
  | [], [], _ => rfl
  | [], _ :: _, h => by simp [argsOk] at h
  | _ :: _, [], h => by simp [argsOk] at h
  | m :: ms, t :: ts, h => by
    simp only [argsOk, Bool.and_eq_true] at h
    rw [List.length_cons, List.length_cons, argsOk_len h.2]
theorem spF_len {K : PySem.W.Frag} {xc : Nat → Value} {ms : List Bool} {f : Sem'} {vs : List V} {H : Hp} {Q : VK} {E : XK} (h : spF K xc ms f vs H Q E) : vs.length = ms.length := by
  obtain ⟨F, ats, rfl, h1, _⟩ := h
  rw [List.length_map]
  exact argsOk_len h1

/-! ### the bag over a call -/
section
variable {K : PySem.W.Frag} {g : Gh} {F Fp F' H H' : Hp} {Nio Nb Nr Nc : List (Addr × HO)} {L Lc : List (V × LF)}
theorem nodup_app {α : Type} {A B : List α} (ha : A.Nodup) (hb : B.Nodup) (h : ∀ x ∈ A, x ∉ B) : (A ++ B).Nodup := List.nodup_append.mpr ⟨ha, hb, fun a h1 b h2 e => h a h1 (e ▸ h2)⟩
theorem CB.perm (c : CB K g F H Nio L) (p : Nio.Perm Nr) : CB K g F H Nr L := c.sb (.of_perm p) fun _ h => h
theorem CB.newH (c : CB K g F H Nio L) {a : Addr} (h : H a = none) : a ∈ g.I0 ∨ g.H0 a = none := by
  by_cases hi : a ∈ g.I0
  · exact .inl hi
  · exact .inr (c.h0 h hi)
/-- behind a call; what was lent (Nb) is given up -/
theorem CB.call1 (c : CB K g F H (Nio ++ (Nb ++ Nr)) L) (hle : Le F Fp) (hs : ∀ a o, Fp a = some o → F a = some o ∨ a ∈ Nb.map (·.1)) (cc : CB K (gOf Fp H Nio) F' H' Nc Lc) : CB K g F' H' (Nc ++ Nr) (Lc ++ L) ∧ Le F F' := by
  have hio : ∀ p ∈ Nio, p ∈ Nio ++ (Nb ++ Nr) := fun p hp => List.mem_append_left _ hp
  have hb : ∀ p ∈ Nb, p ∈ Nio ++ (Nb ++ Nr) := fun p hp => List.mem_append_right _ (List.mem_append_left _ hp)
  have hr : ∀ p ∈ Nr, p ∈ Nio ++ (Nb ++ Nr) := fun p hp => List.mem_append_right _ (List.mem_append_right _ hp)
  have nd := c.nd
  rw [List.map_append, List.map_append] at nd
  obtain ⟨nd1, nd2, nd3⟩ := List.nodup_append.mp nd
  obtain ⟨nd4, nd5, nd6⟩ := List.nodup_append.mp nd2
  have rio : ∀ p ∈ Nr, p.1 ∉ Nio.map (·.1) := fun p hp hm => nd3 _ hm _ (List.mem_append_right _ (List.mem_map.mpr ⟨p, hp, rfl⟩)) rfl
  have rb : ∀ p ∈ Nr, p.1 ∉ Nb.map (·.1) := fun p hp hm => nd6 _ hm _ (List.mem_map.mpr ⟨p, hp, rfl⟩) rfl
  have ioI : ∀ a, a ∈ Nio.map (·.1) → a ∈ g.I0 ∨ g.H0 a = none := fun a ha => by
    obtain ⟨p, hp, e⟩ := List.mem_map.mp ha
    subst e
    exact c.newN p (hio p hp)
  have hF : Le F F' := hle.trans cc.keepF
  refine ⟨⟨cc.sub, ?_, fun p hp => ?_, fun p hp => ?_, fun q hq => ?_, fun a o e hi => ?_, c.keepF.trans hF, fun p hp => ?_, fun a o e => ?_⟩, hF⟩
  · rw [List.map_append]
    refine nodup_app cc.nd nd5 fun a h1 h2 => ?_
    obtain ⟨p, hp, e⟩ := List.mem_map.mp h1
    obtain ⟨r, hrr, e'⟩ := List.mem_map.mp h2
    subst e
    rcases cc.newN p hp with z | z
    · exact rio r hrr (by rw [e']; exact z)
    · have h3 := c.at_ r (hr r hrr)
      rw [e'] at h3
      have z' : H p.1 = none := z
      rw [h3] at z'
      cases z'
  · rcases List.mem_append.mp hp with hp | hp
    · exact cc.at_ p hp
    · exact cc.keep p.1 p.2 (c.at_ p (hr p hp)) (rio p hp)
  · rcases List.mem_append.mp hp with hp | hp
    · exact cc.off p hp
    · cases q : F' p.1 with
      | none => rfl
      | some o =>
        rcases cc.newF p.1 o q with z | z | z
        · rcases hs _ _ z with z | z
          · have h3 := c.off p (hr p hp)
            rw [z] at h3
            cases h3
          · exact absurd z (rb p hp)
        · exact absurd z (rio p hp)
        · have h3 := c.at_ p (hr p hp)
          have z' : H p.1 = none := z
          rw [h3] at z'
          cases z'
  · rcases List.mem_append.mp hq with hq | hq
    · exact cc.lf q hq
    · exact (c.lf q hq).le hF
  · refine cc.keep a o (c.keep a o e hi) fun hm => ?_
    rcases ioI a hm with z | z
    · exact hi z
    · rw [e] at z
      cases z
  · rcases List.mem_append.mp hp with hp | hp
    · rcases cc.newN p hp with z | z
      · exact ioI _ z
      · exact c.newH z
    · exact c.newN p (hr p hp)
  · rcases cc.newF a o e with z | z | z
    · rcases hs _ _ z with z | z
      · exact c.newF a o z
      · obtain ⟨p, hp, e'⟩ := List.mem_map.mp z
        subst e'
        exact .inr (c.newN p (hb p hp))
    · exact .inr (ioI a z)
    · exact .inr (c.newH z)
def flatL (q : V × LF) : Bool := match q.2 with
  | .d x => flat x
  | _ => false
theorem lfOk_flat {q : V × LF} (h : LfOk K F q.1 q.2) (f : flatL q = true) : LfOk K F' q.1 q.2 := by
  obtain ⟨v, l⟩ := q
  cases l with
  | d x => exact Dq.flat h f
  | s ns => cases f
  | e n => cases f
/-- behind a call that hands out nothing of what was lent -/
theorem CB.call2 (c : CB K g F H (Nio ++ (Nb ++ Nr)) L) (hle : Le F Fp) (hs : ∀ a o, Fp a = some o → F a = some o ∨ a ∈ Nb.map (·.1)) (cc : CB K (gOf Fp H Nio) F' H' Nc Lc) (hf : ∀ q ∈ Lc, flatL q = true) : ∃ F'', CB K g F'' H' (Nc ++ (Nb ++ Nr)) (Lc ++ L) ∧ Le F F'' := by
  have hio : ∀ p ∈ Nio, p ∈ Nio ++ (Nb ++ Nr) := fun p hp => List.mem_append_left _ hp
  have hbr : ∀ p ∈ Nb ++ Nr, p ∈ Nio ++ (Nb ++ Nr) := fun p hp => List.mem_append_right _ hp
  have nd := c.nd
  rw [List.map_append] at nd
  obtain ⟨nd1, nd2, nd3⟩ := List.nodup_append.mp nd
  have rio : ∀ p ∈ Nb ++ Nr, p.1 ∉ Nio.map (·.1) := fun p hp hm => nd3 _ hm _ (List.mem_map.mpr ⟨p, hp, rfl⟩) rfl
  have ioI : ∀ a, a ∈ Nio.map (·.1) → a ∈ g.I0 ∨ g.H0 a = none := fun a ha => by
    obtain ⟨p, hp, e⟩ := List.mem_map.mp ha
    subst e
    exact c.newN p (hio p hp)
  have hF : Le F (fun a => if a ∈ Nb.map (·.1) then none else F' a) := fun a o e => by
    have hn : a ∉ Nb.map (·.1) := fun hm => by
      obtain ⟨p, hp, e'⟩ := List.mem_map.mp hm
      subst e'
      have h3 := c.off p (hbr p (List.mem_append_left _ hp))
      rw [e] at h3
      cases h3
    show (if a ∈ Nb.map (·.1) then none else F' a) = some o
    rw [if_neg hn]
    exact cc.keepF _ _ (hle _ _ e)
  have back : ∀ a o, (if a ∈ Nb.map (·.1) then none else F' a) = some o → a ∉ Nb.map (·.1) ∧ F' a = some o := fun a o e => by
    by_cases h : a ∈ Nb.map (·.1)
    · rw [if_pos h] at e
      cases e
    · rw [if_neg h] at e
      exact ⟨h, e⟩
  refine ⟨_, ⟨fun a o e => cc.sub a o (back a o e).2, ?_, fun p hp => ?_, fun p hp => ?_, fun q hq => ?_, fun a o e hi => ?_, c.keepF.trans hF, fun p hp => ?_, fun a o e => ?_⟩, hF⟩
  · rw [List.map_append]
    refine nodup_app cc.nd nd2 fun a h1 h2 => ?_
    obtain ⟨p, hp, e⟩ := List.mem_map.mp h1
    obtain ⟨r, hrr, e'⟩ := List.mem_map.mp h2
    subst e
    rcases cc.newN p hp with z | z
    · exact rio r hrr (by rw [e']; exact z)
    · have h3 := c.at_ r (hbr r hrr)
      rw [e'] at h3
      have z' : H p.1 = none := z
      rw [h3] at z'
      cases z'
  · rcases List.mem_append.mp hp with hp | hp
    · exact cc.at_ p hp
    · exact cc.keep p.1 p.2 (c.at_ p (hbr p hp)) (rio p hp)
  · show (if p.1 ∈ Nb.map (·.1) then none else F' p.1) = none
    by_cases hm : p.1 ∈ Nb.map (·.1)
    · rw [if_pos hm]
    · rw [if_neg hm]
      rcases List.mem_append.mp hp with hp | hp
      · exact cc.off p hp
      · cases q : F' p.1 with
        | none => rfl
        | some o =>
          rcases cc.newF p.1 o q with z | z | z
          · rcases hs _ _ z with z | z
            · have h3 := c.off p (hbr p hp)
              rw [z] at h3
              cases h3
            · exact absurd z hm
          · exact absurd z (rio p hp)
          · have h3 := c.at_ p (hbr p hp)
            have z' : H p.1 = none := z
            rw [h3] at z'
            cases z'
  · rcases List.mem_append.mp hq with hq | hq
    · exact lfOk_flat (cc.lf q hq) (hf q hq)
    · exact (c.lf q hq).le hF
  · refine cc.keep a o (c.keep a o e hi) fun hm => ?_
    rcases ioI a hm with z | z
    · exact hi z
    · rw [e] at z
      cases z
  · rcases List.mem_append.mp hp with hp | hp
    · rcases cc.newN p hp with z | z
      · exact ioI _ z
      · exact c.newH z
    · exact c.newN p (hbr p hp)
  · obtain ⟨hn, e⟩ := back a o e
    rcases cc.newF a o e with z | z | z
    · rcases hs _ _ z with z | z
      · exact c.newF a o z
      · exact absurd z hn
    · exact .inr (ioI a z)
    · exact .inr (c.newH z)
/-- the frozen heap with what is lent -/
def lend (F : Hp) (Nb : List (Addr × HO)) (H : Hp) : Hp := fun a => if a ∈ Nb.map (·.1) then H a else F a
theorem lend_le (c : CB K g F H Nio L) (hb : ∀ p ∈ Nb, p ∈ Nio) : Le F (lend F Nb H) := fun a o e => by
  unfold lend
  have hn : a ∉ Nb.map (·.1) := fun hm => by
    obtain ⟨p, hp, e'⟩ := List.mem_map.mp hm
    subst e'
    have h3 := c.off p (hb p hp)
    rw [e] at h3
    cases h3
  rw [if_neg hn]
  exact e
theorem lend_s (a : Addr) (o : HO) (h : lend F Nb H a = some o) : F a = some o ∨ a ∈ Nb.map (·.1) := by
  unfold lend at h
  by_cases hm : a ∈ Nb.map (·.1)
  · exact .inr hm
  · rw [if_neg hm] at h
    exact .inl h
/-- the callee's beginning -/
theorem CB.entry (c : CB K g F H (Nio ++ (Nb ++ Nr)) L) (hl : ∀ q ∈ Lc, LfOk K (lend F Nb H) q.1 q.2) : CB K (gOf (lend F Nb H) H Nio) (lend F Nb H) H Nio Lc where
  sub := fun a o e => by
    rcases lend_s a o e with z | z
    · exact c.sub a o z
    · unfold lend at e
      rw [if_pos z] at e
      exact e
  nd := by
    have nd := c.nd
    rw [List.map_append] at nd
    exact (List.nodup_append.mp nd).1
  at_ := fun p hp => c.at_ p (List.mem_append_left _ hp)
  off := fun p hp => by
    have nd := c.nd
    rw [List.map_append, List.map_append] at nd
    have hn : p.1 ∉ Nb.map (·.1) := fun hm => (List.nodup_append.mp nd).2.2 _ (List.mem_map.mpr ⟨p, hp, rfl⟩) _ (List.mem_append_left _ hm) rfl
    unfold lend
    rw [if_neg hn]
    exact c.off p (List.mem_append_left _ hp)
  lf := hl
  keep := fun a o e _ => e
  keepF := .refl _
  newN := fun p hp => .inl (List.mem_map.mpr ⟨p, hp, rfl⟩)
  newF := fun a o e => .inl e
end
/-! ### a tree is data in a heap that has its nodes -/
mutual
theorem AT.dq {K : PySem.W.Frag} {Fp : Hp} : ∀ (t : AT) {d : PyData}, (∀ p ∈ t.nodes, Fp p.1 = some p.2) → (∀ q ∈ t.leaves, LfOk K Fp q.1 q.2) → t.er.toD = some d → Dq K Fp t.val d
  | .lf v (.d x), d, hn, hl, e => by
    simp only [AT.er, IV.toD, Option.some.injEq] at e
    subst e
    exact hl (v, .d x) (by simp [AT.leaves])
  | .lf v (.s ns), d, hn, hl, e => by simp [AT.er, IV.toD] at e
  | .lf v (.e k), d, hn, hl, e => by simp [AT.er, IV.toD] at e
  | .nd a t xs, d, hn, hl, e => by
    simp only [AT.er, IV.toD] at e
    cases hx : IV.toDL (AT.erL xs) with
    | none => rw [hx] at e; simp at e
    | some ds =>
      rw [hx] at e
      simp only [Option.some.injEq] at e
      have h1 := hn (a, mkHO t (xs.map AT.val)) (by simp [AT.nodes])
      have h2 := AT.dqL xs (fun p hp => hn p (by simp only [AT.nodes]; exact List.mem_cons_of_mem _ hp)) (fun q hq => hl q (by simpa [AT.leaves] using hq)) hx
      subst e
      cases t with
      | true => exact .lst h1 h2
      | false => exact .tup (SqT.of h1) h2
  | .dk a kvs, d, hn, hl, e => by
    simp only [AT.er, IV.toD, Option.some.injEq] at e
    subst e
    rw [List.map_map]
    exact .dct (hn (a, .dK (kvs.map fun e => (e.1, e.2.1))) (by simp [AT.nodes])) (dqe_of fun q hq => hl q (by simpa [AT.leaves] using hq))
theorem AT.dqL {K : PySem.W.Frag} {Fp : Hp} : ∀ (ts : List AT) {ds : List PyData}, (∀ p ∈ AT.nodesL ts, Fp p.1 = some p.2) → (∀ q ∈ AT.leavesL ts, LfOk K Fp q.1 q.2) → IV.toDL (AT.erL ts) = some ds → DqL K Fp (ts.map AT.val) ds
  | [], ds, hn, hl, e => by
    simp only [AT.erL, IV.toDL, Option.some.injEq] at e
    subst e
    exact .nil
  | t :: ts, ds, hn, hl, e => by
    simp only [AT.erL, IV.toDL] at e
    cases h1 : t.er.toD with
    | none => rw [h1] at e; simp at e
    | some d =>
      cases h2 : IV.toDL (AT.erL ts) with
      | none => rw [h1, h2] at e; simp at e
      | some ds' =>
        rw [h1, h2] at e
        simp only [Option.some.injEq] at e
        subst e
        exact .cons (AT.dq t (fun p hp => hn p (by simp only [AT.nodesL]; exact List.mem_append_left _ hp)) (fun q hq => hl q (by simp only [AT.leavesL]; exact List.mem_append_left _ hq)) h1)
          (AT.dqL ts (fun p hp => hn p (by simp only [AT.nodesL]; exact List.mem_append_right _ hp)) (fun q hq => hl q (by simp only [AT.leavesL]; exact List.mem_append_right _ hq)) h2)
end
end Z
/-! Z12: f(a, b, ..). -/
namespace Z
open PySem L2

/-! ### what is handed in and out leaves the environment and comes back -/
def takeG {τ : Type} (gp : τ → List Nat → Option τ) : List Bool → List (Opd τ) → List (Sl τ) → Option (List (Nat × List Nat × τ) × List (Sl τ))
  | [], [], e => some ([], e)
  | m :: ms, o :: os, e => if m then (match o with
      | .vr i q => match rsv e i with
        | some (j, p) => match e[j]? with
          | some (.iv root) => match gp root (p ++ q) with
            | some _ => match takeG gp ms os (e.set j .un) with
              | some (hs, e0) => some ((j, p ++ q, root) :: hs, e0)
              | none => none
            | none => none
          | _ => none
        | none => none
      | .tm _ => none) else takeG gp ms os e
  | _, _, _ => none
def kl {τ : Type} (j : Nat) : Sl τ → Sl τ
  | .al i p => if i = j then .un else .al i p
  | .un => .un
  | .iv t => .iv t
  | .lk t => .lk t
def killA {τ : Type} (j : Nat) (e : List (Sl τ)) : List (Sl τ) := e.map (kl j)
theorem kl_tr {τ : Type} (j : Nat) (s : Sl τ) : (kl j s).tr = s.tr := by
  cases s with
  | al i p =>
    simp only [kl]
    split <;> rfl
  | _ => rfl
theorem kl_map {τ υ : Type} (f : τ → υ) (j : Nat) (s : Sl τ) : (kl j s).map f = kl j (s.map f) := by
  cases s with
  | al i p =>
    show Sl.map f (if i = j then .un else .al i p) = if i = j then .un else .al i p
    by_cases h : i = j
    · rw [if_pos h, if_pos h]
      rfl
    · rw [if_neg h, if_neg h]
      rfl
  | _ => rfl
theorem kl_nodes (j : Nat) (s : Sl AT) : (kl j s).nodes = s.nodes ∧ (kl j s).leaves = s.leaves := by
  cases s with
  | al i p =>
    simp only [kl]
    split <;> exact ⟨rfl, rfl⟩
  | _ => exact ⟨rfl, rfl⟩
def putG {τ : Type} (sp : τ → List Nat → τ → τ) : List (Nat × List Nat × τ) → List τ → List (Sl τ) → List (Sl τ)
  | (j, p, root) :: hs, u :: us, e => (killA j (putG sp hs us e)).set j (.iv (sp root p u))
  | _, _, e => e
def erH (h : Nat × List Nat × AT) : Nat × List Nat × IV := (h.1, h.2.1, h.2.2.er)
theorem set_er (e : AEnv) (j : Nat) (s : Sl AT) : erE (e.set j s) = (erE e).set j (s.map AT.er) := by simp [erE, List.map_set]
theorem killA_er (j : Nat) (e : AEnv) : erE (killA j e) = killA j (erE e) := by
  simp only [erE, killA, List.map_map]
  exact List.map_congr_left fun s _ => kl_map _ _ _
theorem takeG_er : ∀ (ms : List Bool) (os : List AO) (e : AEnv), takeG IV.getP ms (os.map Opd.er) (erE e) = (takeG AT.getP ms os e).map fun r => (r.1.map erH, erE r.2)
  | [], [], e => rfl
  | [], _ :: _, e => rfl
  | _ :: _, [], e => rfl
  | m :: ms, o :: os, e => by
    cases m with
    | false =>
      simp only [List.map_cons, takeG, Bool.false_eq_true, if_false]
      exact takeG_er ms os e
    | true =>
      cases o with
      | tm t => rfl
      | vr i q =>
        simp only [List.map_cons, takeG, Opd.er, if_true, rsv_er]
        cases rsv e i with
        | none => rfl
        | some jp =>
          obtain ⟨j, p⟩ := jp
          simp only [erE_get]
          cases hj : e[j]? with
          | none => rfl
          | some s =>
            cases s with
            | un => rfl
            | lk t => rfl
            | al a b => rfl
            | iv root =>
              simp only [Option.map_some, Sl.map, AT.er_getP]
              cases root.getP (p ++ q) with
              | none => rfl
              | some s' =>
                simp only [Option.map_some]
                have ih := takeG_er ms os (e.set j .un)
                rw [set_er] at ih
                rw [show Sl.map AT.er Sl.un = (Sl.un : Sl IV) from rfl] at ih
                rw [ih]
                cases takeG AT.getP ms os (e.set j .un) with
                | none => rfl
                | some r => rfl
theorem putG_er : ∀ (hs : List (Nat × List Nat × AT)) (us : List AT) (e : AEnv), erE (putG AT.setP hs us e) = putG IV.setP (hs.map erH) (AT.erL us) (erE e)
  | [], us, e => by cases us <;> rfl
  | h :: hs, [], e => by
    obtain ⟨j, p, r⟩ := h
    simp only [putG, List.map_cons, erH, AT.erL]
  | (j, p, root) :: hs, u :: us, e => by
    simp only [putG, List.map_cons, erH, AT.erL]
    rw [set_er, killA_er, putG_er hs us e]
    simp only [Sl.map, AT.er_setP]
theorem nodesE_kill (j : Nat) : ∀ e : AEnv, nodesE (killA j e) = nodesE e ∧ leavesE (killA j e) = leavesE e
  | [] => ⟨rfl, rfl⟩
  | s :: e => by
    obtain ⟨h1, h2⟩ := nodesE_kill j e
    obtain ⟨k1, k2⟩ := kl_nodes j s
    constructor
    · show (kl j s).nodes ++ nodesE (killA j e) = s.nodes ++ nodesE e
      rw [h1, k1]
    · show (kl j s).leaves ++ leavesE (killA j e) = s.leaves ++ leavesE e
      rw [h2, k2]
theorem env_set {e : AEnv} {j : Nat} {s s' : Sl AT} (h : e[j]? = some s) (hn : s.nodes = []) (hl : s.leaves = []) : (nodesE (e.set j s')).Perm (s'.nodes ++ nodesE e) ∧ (leavesE (e.set j s')).Perm (s'.leaves ++ leavesE e) := by
  obtain ⟨R, S, h1, h2⟩ := env_split h
  have p1 := h1 s
  have p2 := h2 s
  rw [set_self h] at p1 p2
  rw [hn, List.nil_append] at p1
  rw [hl, List.nil_append] at p2
  exact ⟨(h1 s').trans (p1.symm.append_left _), (h2 s').trans (p2.symm.append_left _)⟩
theorem killA_get {τ : Type} (j i : Nat) (e : List (Sl τ)) : (killA j e)[i]? = e[i]?.map (kl j) := by simp [killA]
theorem rootOf_kill {τ : Type} (j i : Nat) (e : List (Sl τ)) : rootOf (killA j e) i = rootOf e i := by
  simp only [rootOf, killA_get]
  cases e[i]? with
  | none => rfl
  | some s => exact kl_tr j s
theorem rootOf_set {τ : Type} {j i : Nat} {e : List (Sl τ)} {s : Sl τ} (h : j ≠ i) : rootOf (e.set j s) i = rootOf e i := by simp only [rootOf, List.getElem?_set_ne h]
/-- the values of an environment that is changed at a root, aliases to it forgotten -/
theorem SR.put {e : AEnv} {σ : St} (h : SR e σ) {j : Nat} {t : AT} {s : Sl AT} (hs : s = .iv t ∨ s = .lk t) (hv : σ[j]? = some (some t.val)) : SR ((killA j e).set j s) σ := by
  have hlen : (killA j e).length = e.length := by simp [killA]
  refine ⟨by rw [List.length_set, hlen]; exact h.1, fun i u hu => ?_⟩
  have hj : j < (killA j e).length := by
    rw [hlen, h.1]
    exact (List.getElem?_eq_some_iff.mp hv).1
  by_cases hij : i = j
  · subst hij
    have : u = t := by
      rcases hs with rfl | rfl <;> (simp [ctnA, rsv, rootOf, List.getElem?_set_self hj, Sl.tr, AT.getP] at hu; exact hu.symm)
    rw [this]
    exact hv
  · have hji : j ≠ i := fun q => hij q.symm
    refine h.2 i u ?_
    simp only [ctnA, rsv, List.getElem?_set_ne hji, killA_get] at hu ⊢
    cases hi : e[i]? with
    | none => rw [hi] at hu; simp at hu
    | some w =>
      rw [hi] at hu
      cases w with
      | un => simp [kl] at hu
      | iv w => simpa [kl, rootOf_set hji, rootOf_kill] using hu
      | lk w => simpa [kl, rootOf_set hji, rootOf_kill] using hu
      | al k p =>
        simp only [Option.map_some, kl] at hu
        by_cases hk : k = j
        · rw [if_pos hk] at hu
          simp at hu
        · rw [if_neg hk] at hu
          simpa [rootOf_set (fun q => hk q.symm), rootOf_kill] using hu
theorem SR.un {e : AEnv} {σ : St} (h : SR e σ) (j : Nat) : SR (e.set j .un) σ := by
  refine ⟨by rw [List.length_set]; exact h.1, fun i u hu => h.2 i u ?_⟩
  by_cases hij : i = j
  · subst hij
    simp only [ctnA, rsv] at hu
    cases hi : (e.set i Sl.un)[i]? with
    | none => rw [hi] at hu; simp at hu
    | some w =>
      rw [hi] at hu
      obtain ⟨h1, h2⟩ := List.getElem?_eq_some_iff.mp hi
      rw [List.getElem_set_self] at h2
      subst h2
      simp at hu
  · have hji : j ≠ i := fun q => hij q.symm
    simp only [ctnA, rsv, List.getElem?_set_ne hji] at hu ⊢
    cases hi : e[i]? with
    | none => rw [hi] at hu; simp at hu
    | some w =>
      rw [hi] at hu
      cases w with
      | un => simp at hu
      | iv w => simpa [rootOf, List.getElem?_set_ne hji, hi] using hu
      | lk w => simpa [rootOf, List.getElem?_set_ne hji, hi] using hu
      | al k p =>
        simp only at hu ⊢
        by_cases hk : k = j
        · subst hk
          simp only [rootOf] at hu
          cases hek : (e.set k Sl.un)[k]? with
          | none => rw [hek] at hu; simp at hu
          | some z =>
            rw [hek] at hu
            obtain ⟨h1, h2⟩ := List.getElem?_eq_some_iff.mp hek
            rw [List.getElem_set_self] at h2
            subst h2
            simp [Sl.tr] at hu
        · simpa [rootOf, List.getElem?_set_ne (fun q => hk q.symm)] using hu
/-- what an environment with a slot forgotten still has -/
theorem ctn_un {e : AEnv} {j i : Nat} {q : List Nat} {t : AT} (hu : ctnA (e.set j .un) i q = some t) : ctnA e i q = some t := by
  by_cases hij : i = j
  · subst hij
    simp only [ctnA, rsv] at hu
    cases hi : (e.set i Sl.un)[i]? with
    | none => rw [hi] at hu; simp at hu
    | some w =>
      rw [hi] at hu
      obtain ⟨h1, h2⟩ := List.getElem?_eq_some_iff.mp hi
      rw [List.getElem_set_self] at h2
      subst h2
      simp at hu
  · have hji : j ≠ i := fun q => hij q.symm
    simp only [ctnA, rsv, List.getElem?_set_ne hji] at hu ⊢
    cases hi : e[i]? with
    | none => rw [hi] at hu; simp at hu
    | some w =>
      rw [hi] at hu
      cases w with
      | un => simp at hu
      | iv w => simpa [rootOf, List.getElem?_set_ne hji, hi] using hu
      | lk w => simpa [rootOf, List.getElem?_set_ne hji, hi] using hu
      | al k p =>
        simp only at hu ⊢
        by_cases hk : k = j
        · subst hk
          simp only [rootOf] at hu
          cases hek : (e.set k Sl.un)[k]? with
          | none => rw [hek] at hu; simp at hu
          | some z =>
            rw [hek] at hu
            obtain ⟨h1, h2⟩ := List.getElem?_eq_some_iff.mp hek
            rw [List.getElem_set_self] at h2
            subst h2
            simp [Sl.tr] at hu
        · simpa [rootOf, List.getElem?_set_ne (fun q => hk q.symm)] using hu
theorem VRs.un {e : AEnv} {j : Nat} {aos : List AO} {vs : List V} (h : VRs e aos vs) : VRs (e.set j .un) aos vs := by
  induction h with
  | nil => exact .nil
  | cons h _ ih =>
    refine .cons (fun t ht => h t ?_) ih
    rename_i ao _ _ _ _
    cases ao with
    | tm u => exact ht
    | vr i q => exact ctn_un ht
theorem lks_kill {e : AEnv} {j : Nat} : LkS e (killA j e) := fun i t h => by
  rw [killA_get, h]
  rfl
/-- the bag over the taking -/
theorem take_bag {σ : St} : ∀ (ms : List Bool) (aos : List AO) (env : AEnv) {hs : List (Nat × List Nat × AT)} {env0 : AEnv}, takeG AT.getP ms aos env = some (hs, env0) → SR env σ →
    ∃ ss Cn Cl, hs.map (fun h => h.2.2.getP h.2.1) = ss.map some ∧ (∀ vs, VRs env aos vs → pick ms vs = ss.map AT.val) ∧ (nodesE env).Perm (AT.nodesL ss ++ (Cn ++ nodesE env0)) ∧ (leavesE env).Perm (AT.leavesL ss ++ (Cl ++ leavesE env0)) ∧
      (∀ i q t, ctnA env0 i q = some t → ctnA env i q = some t) ∧ (∀ j : Nat, env[j]? = some Sl.un → ∀ us, (putG AT.setP hs us env0)[j]? = some Sl.un) ∧
      ∀ us, us.map AT.val = ss.map AT.val → (nodesE (putG AT.setP hs us env0)).Perm (AT.nodesL us ++ (Cn ++ nodesE env0)) ∧ (leavesE (putG AT.setP hs us env0)).Perm (AT.leavesL us ++ (Cl ++ leavesE env0)) ∧ SR (putG AT.setP hs us env0) σ ∧ LkS env (putG AT.setP hs us env0)
  | [], [], env, hs, env0, h, s => by
    simp only [takeG, Option.some.injEq, Prod.mk.injEq] at h
    obtain ⟨rfl, rfl⟩ := h
    refine ⟨[], [], [], rfl, fun vs hv => by cases hv; rfl, by simp [AT.nodesL], by simp [AT.leavesL], fun _ _ _ h => h, fun j hj us => by cases us <;> exact hj, fun us hu => ?_⟩
    cases us with
    | nil => exact ⟨by simp [AT.nodesL, putG], by simp [AT.leavesL, putG], s, .refl _⟩
    | cons _ _ => simp at hu
  | [], _ :: _, env, hs, env0, h, s => by simp [takeG] at h
  | _ :: _, [], env, hs, env0, h, s => by simp [takeG] at h
  | m :: ms, o :: os, env, hs, env0, h, s => by
    cases m with
    | false =>
      simp only [takeG, Bool.false_eq_true, if_false] at h
      obtain ⟨ss, Cn, Cl, a1, av, a2, a3, a4, a5, a6⟩ := take_bag ms os env h s
      refine ⟨ss, Cn, Cl, a1, fun vs hv => ?_, a2, a3, a4, a5, a6⟩
      cases hv with
      | cons h1 h2 => exact av _ h2
    | true =>
      cases o with
      | tm t => simp [takeG] at h
      | vr i q =>
        simp only [takeG, if_true] at h
        cases hr : rsv env i with
        | none => rw [hr] at h; simp at h
        | some jp =>
          obtain ⟨j, p⟩ := jp
          rw [hr] at h
          simp only at h
          cases hj : env[j]? with
          | none => rw [hj] at h; simp at h
          | some w =>
            rw [hj] at h
            cases w with
            | un => simp at h
            | lk t => simp at h
            | al a b => simp at h
            | iv root =>
              simp only at h
              cases hg : root.getP (p ++ q) with
              | none => rw [hg] at h; simp at h
              | some s' =>
                rw [hg] at h
                simp only at h
                cases ht : takeG AT.getP ms os (env.set j .un) with
                | none => rw [ht] at h; simp at h
                | some r =>
                  obtain ⟨hs', e0⟩ := r
                  rw [ht] at h
                  simp only [Option.some.injEq, Prod.mk.injEq] at h
                  obtain ⟨rfl, rfl⟩ := h
                  obtain ⟨ss, Cn, Cl, a1, av, a2, a3, a4, a5, a6⟩ := take_bag ms os (env.set j .un) ht (s.un j)
                  obtain ⟨f1, Nc, Lc, f2⟩ := AT.focus (p ++ q) root s' hg
                  obtain ⟨R, S, r1, r2⟩ := env_split hj
                  have e1 := r1 (.iv root)
                  have e2 := r2 (.iv root)
                  rw [set_self hj] at e1 e2
                  have u1 := r1 .un
                  have u2 := r2 .un
                  obtain ⟨g1, g2⟩ := f2 s' rfl
                  rw [f1] at g1 g2
                  have jl : j < env.length := (List.getElem?_eq_some_iff.mp hj).1
                  have hun : (env.set j Sl.un)[j]? = some Sl.un := List.getElem?_set_self jl
                  have hv : σ[j]? = some (some root.val) := s.2 j root (by simp [ctnA, rsv, rootOf, hj, Sl.tr, AT.getP])
                  refine ⟨s' :: ss, Nc ++ Cn, Lc ++ Cl, by rw [List.map_cons, List.map_cons, a1]; simp only [hg], fun vs hv => ?_, ?_, ?_, fun i' q' t' h' => ctn_un (a4 i' q' t' h'), fun k hk us => ?_, fun us hu => ?_⟩
                  · cases hv with
                    | cons h1 h2 =>
                      have e3 : AO.tree (.vr i q) env = some s' := by
                        show ctnA env i q = some s'
                        simp only [ctnA, hr, rootOf, hj, Sl.tr]
                        exact hg
                      show (if true = true then _ :: pick ms _ else pick ms _) = s'.val :: ss.map AT.val
                      rw [if_pos rfl, h1 s' e3, av _ h2.un]
                  · refine e1.trans ?_
                    simp only [AT.nodesL, Sl.nodes, List.append_assoc]
                    refine (g1.append_right R).trans ?_
                    rw [List.append_assoc]
                    refine List.Perm.append_left _ ?_
                    refine ((u1.symm.trans a2).append_left Nc).trans ?_
                    exact perm3 _ _ _
                  · refine e2.trans ?_
                    simp only [AT.leavesL, Sl.leaves, List.append_assoc]
                    refine (g2.append_right S).trans ?_
                    rw [List.append_assoc]
                    refine List.Perm.append_left _ ?_
                    refine ((u2.symm.trans a3).append_left Lc).trans ?_
                    exact perm3 _ _ _
                  · have hkj : j ≠ k := fun z => by
                      subst z
                      rw [hj] at hk
                      cases hk
                    cases us with
                    | nil =>
                      have := a5 k (by rw [List.getElem?_set_ne hkj]; exact hk) []
                      cases hs' <;> exact this
                    | cons u us =>
                      show ((killA j (putG AT.setP hs' us e0)).set j _)[k]? = _
                      rw [List.getElem?_set_ne hkj, killA_get, a5 k (by rw [List.getElem?_set_ne hkj]; exact hk) us]
                      rfl
                  · cases us with
                    | nil => simp at hu
                    | cons u us =>
                      rw [List.map_cons, List.map_cons] at hu
                      obtain ⟨hu1, hu2⟩ := List.cons.inj hu
                      obtain ⟨b1, b2, b3, b4⟩ := a6 us hu2
                      obtain ⟨g3, g4⟩ := f2 u hu1
                      have hk0 : (killA j (putG AT.setP hs' us e0))[j]? = some Sl.un := by
                        rw [killA_get, a5 j hun us]
                        rfl
                      obtain ⟨c1, c2⟩ := env_set (s' := .iv (root.setP (p ++ q) u)) hk0 rfl rfl
                      obtain ⟨k1, k2⟩ := nodesE_kill j (putG AT.setP hs' us e0)
                      rw [k1] at c1
                      rw [k2] at c2
                      refine ⟨?_, ?_, ?_, fun k t hk => ?_⟩
                      · show (nodesE ((killA j (putG AT.setP hs' us e0)).set j (.iv (root.setP (p ++ q) u)))).Perm _
                        refine c1.trans ?_
                        simp only [Sl.nodes, AT.nodesL, List.append_assoc]
                        refine (g3.append_right _).trans ?_
                        rw [List.append_assoc]
                        refine List.Perm.append_left _ ?_
                        refine (b1.append_left Nc).trans ?_
                        exact perm3 _ _ _
                      · show (leavesE ((killA j (putG AT.setP hs' us e0)).set j (.iv (root.setP (p ++ q) u)))).Perm _
                        refine c2.trans ?_
                        simp only [Sl.leaves, AT.leavesL, List.append_assoc]
                        refine (g4.append_right _).trans ?_
                        rw [List.append_assoc]
                        refine List.Perm.append_left _ ?_
                        refine (b2.append_left Lc).trans ?_
                        exact perm3 _ _ _
                      · exact b3.put (.inl rfl) (by rw [AT.val_setP _ _ _ _ hg hu1]; exact hv)
                      · have hkj : j ≠ k := fun z => by
                          subst z
                          rw [hj] at hk
                          cases hk
                        show ((killA j (putG AT.setP hs' us e0)).set j _)[k]? = _
                        rw [List.getElem?_set_ne hkj, killA_get, b4 k t (by rw [List.getElem?_set_ne hkj]; exact hk)]
                        rfl
end Z
/-! Z13: f(a, b, ..), the rule. -/
namespace Z
open PySem L2

/-- an argument that is not handed back: a leaf, or data -/
def argT (o : O) (e0 : Env') : Option IV := match O.tree o e0 with
  | some (.lf l) => some (.lf l)
  | some t => t.toD.map IV.d
  | none => none
def argsL : List Bool → List O → List (Nat × List Nat × IV) → Env' → Option (List IV)
  | [], [], _, _ => some []
  | m :: ms, o :: os, hs, e0 => if m then (match hs with
      | h :: hs => match h.2.2.getP h.2.1, argsL ms os hs e0 with
        | some t, some ts => some (t :: ts)
        | _, _ => none
      | [] => none) else (match argT o e0, argsL ms os hs e0 with
        | some t, some ts => some (t :: ts)
        | _, _ => none)
  | _, _, _, _ => none
/-- is something of the frame's own lent -/
def lent : List Bool → List O → Env' → Bool
  | m :: ms, o :: os, e0 => (!m && (match o with
      | .tm _ => false
      | .vr i q => match ctn e0 i q with
        | some (.lf _) => false
        | _ => true)) || lent ms os e0
  | _, _, _ => false
mutual
def noSh : IV → Bool
  | .lf (.d x) => flat x
  | .lf _ => false
  | .nd _ xs => noShL xs
  | .dk kvs => kvs.all fun e => flat e.2
def noShL : List IV → Bool
  | [] => true
  | x :: xs => noSh x && noShL xs
end
def backR (ok : Bool) (f : R O) : R O := if ok then f else .bad
def callR (ms : List Bool) (f : Sem') (os : List O) (e : Env') : R O := match takeG IV.getP ms os e with
  | none => .bad
  | some (hs, e0) => match argsL ms os hs e0 with
    | none => .bad
    | some ts => match f ts with
      | .ok t outs => backR (!lent ms os e0 || (noSh t && noShL outs)) (.ok (.tm t) (putG IV.setP hs outs e0))
      | .ex c outs => backR (!lent ms os e0 || noShL outs) (.ex c (putG IV.setP hs outs e0))
      | .bad => .bad
def callM (ms : List Bool) (f : Sem') (mas : M (List O)) : M O := fun e => R.bind (mas e) fun os e' => callR ms f os e'
mutual
theorem noSh_leaves : ∀ (t : AT), noSh t.er = true → ∀ q ∈ t.leaves, flatL q = true
  | .lf v (.d x), h, q, hq => by
    simp only [AT.leaves, List.mem_singleton] at hq
    subst hq
    exact h
  | .lf v (.s ns), h, q, hq => by simp [AT.er, noSh] at h
  | .lf v (.e k), h, q, hq => by simp [AT.er, noSh] at h
  | .nd a t xs, h, q, hq => noSh_leavesL xs (by simpa [AT.er, noSh] using h) q (by simpa [AT.leaves] using hq)
  | .dk a kvs, h, q, hq => by
    simp only [AT.er, noSh, List.all_map] at h
    simp only [AT.leaves, List.mem_map] at hq
    obtain ⟨e, he, rfl⟩ := hq
    exact List.all_eq_true.mp h e he
theorem noSh_leavesL : ∀ (ts : List AT), noShL (AT.erL ts) = true → ∀ q ∈ AT.leavesL ts, flatL q = true
  | [], h, q, hq => by simp [AT.leavesL] at hq
  | t :: ts, h, q, hq => by
    simp only [AT.erL, noShL, Bool.and_eq_true] at h
    simp only [AT.leavesL] at hq
    rcases List.mem_append.mp hq with z | z
    · exact noSh_leaves t h.1 q z
    · exact noSh_leavesL ts h.2 q z
end
section
variable {X : Cx} {K : PySem.W.Frag} {Φ : Fx} {b b1 b2 b3 : Bool} {σ : St} {H F : Hp} {Q : VK} {env env0 : AEnv} {Np Nb : List (Addr × HO)} {Lp : List (V × LF)} {x y : Expr} {es : List Expr} {mas : M (List O)} {pos p : Pos}
/-- the argument trees -/
theorem args_of (Fp : Hp) (h0 : ∀ i q t, ctnA env0 i q = some t → ctnA env i q = some t) (hlv : ∀ q ∈ leavesE env0, LfOk K Fp q.1 q.2) : ∀ {ms : List Bool} {aos : List AO} {vs : List V} {hs : List (Nat × List Nat × AT)} {ss : List AT} {ts : List IV},
    VRs env aos vs → argsL ms (aos.map Opd.er) (hs.map erH) (erE env0) = some ts → hs.map (fun h => h.2.2.getP h.2.1) = ss.map some → pick ms vs = ss.map AT.val →
    (∀ o ∈ aos, ∀ t, o = Opd.tm t → (∀ p ∈ t.nodes, Fp p.1 = some p.2) ∧ ∀ q ∈ t.leaves, LfOk K Fp q.1 q.2) →
    (lent ms (aos.map Opd.er) (erE env0) = true → ∀ p ∈ nodesE env0, Fp p.1 = some p.2) →
    ∃ ats : List AT, ats.map AT.val = vs ∧ AT.erL ats = ts ∧ argsOk ms ats = true ∧ pick ms ats = ss ∧ AT.nodesL ats = AT.nodesL ss ∧ ∀ q ∈ AT.leavesL ats, LfOk K Fp q.1 q.2 ∨ q ∈ AT.leavesL ss
  | [], [], vs, hs, ss, ts, hv, e, hh, hp, htm, hl => by
    cases hv
    simp only [List.map_nil, argsL, Option.some.injEq] at e
    subst e
    cases ss with
    | nil => exact ⟨[], rfl, by simp [AT.erL], rfl, rfl, rfl, by simp [AT.leavesL]⟩
    | cons s ss => simp [pick] at hp
  | [], _ :: _, vs, hs, ss, ts, hv, e, hh, hp, htm, hl => by simp [argsL] at e
  | _ :: _, [], vs, hs, ss, ts, hv, e, hh, hp, htm, hl => by simp [argsL] at e
  | m :: ms, o :: aos, vs, hs, ss, ts, hv, e, hh, hp, htm, hl => by
    cases hv with
    | cons hv1 hv2 =>
      rename_i v vs
      cases m with
      | true =>
        cases hs with
        | nil => simp [argsL] at e
        | cons h hs =>
          cases ss with
          | nil => simp at hh
          | cons s ss =>
            rw [List.map_cons, List.map_cons] at hh
            obtain ⟨hh1, hh2⟩ := List.cons.inj hh
            have hp' : v :: pick ms vs = s.val :: ss.map AT.val := hp
            obtain ⟨hp1, hp2⟩ := List.cons.inj hp'
            simp only [List.map_cons, argsL, if_true, erH, AT.er_getP, hh1, Option.map_some] at e
            cases hr : argsL ms (aos.map Opd.er) (hs.map erH) (erE env0) with
            | none => rw [hr] at e; simp at e
            | some ts' =>
              rw [hr] at e
              simp only [Option.some.injEq] at e
              subst e
              obtain ⟨ats, b1, b2, b3, b4, b5, b6⟩ := args_of Fp h0 hlv hv2 hr hh2 hp2 (fun o ho => htm o (List.mem_cons_of_mem _ ho)) (fun z => hl (by simpa [lent] using z))
              refine ⟨s :: ats, by rw [List.map_cons, b1, hp1], by simp only [AT.erL, b2], by simp [argsOk, b3], by simp [pick, b4], by simp only [AT.nodesL, b5], fun q hq => ?_⟩
              simp only [AT.leavesL] at hq ⊢
              rcases List.mem_append.mp hq with z | z
              · exact .inr (List.mem_append_left _ z)
              · rcases b6 q z with z | z
                · exact .inl z
                · exact .inr (List.mem_append_right _ z)
      | false =>
        simp only [List.map_cons, argsL, Bool.false_eq_true, if_false] at e
        have hp' : pick ms vs = ss.map AT.val := hp
        cases ha : argT (Opd.er o) (erE env0) with
        | none => rw [ha] at e; simp at e
        | some tt =>
          cases hr : argsL ms (aos.map Opd.er) (hs.map erH) (erE env0) with
          | none => rw [ha, hr] at e; simp at e
          | some ts' =>
            rw [ha, hr] at e
            simp only [Option.some.injEq] at e
            subst e
            obtain ⟨ats, b1, b2, b3, b4, b5, b6⟩ := args_of Fp h0 hlv hv2 hr hh hp' (fun o ho => htm o (List.mem_cons_of_mem _ ho)) (fun z => hl (by simp [lent, z]))
            have fin : ∀ l : LF, tt = .lf l → LfOk K Fp v l → ∃ ats' : List AT, ats'.map AT.val = v :: vs ∧ AT.erL ats' = tt :: ts' ∧ argsOk (false :: ms) ats' = true ∧ pick (false :: ms) ats' = ss ∧ AT.nodesL ats' = AT.nodesL ss ∧ ∀ q ∈ AT.leavesL ats', LfOk K Fp q.1 q.2 ∨ q ∈ AT.leavesL ss := fun l hl1 hl2 => by
              refine ⟨.lf v l :: ats, by rw [List.map_cons, b1]; rfl, by simp only [AT.erL, AT.er, b2, hl1], by simp [argsOk, isLeaf, b3], by simp [pick, b4], by simp only [AT.nodesL, AT.nodes, List.nil_append, b5], fun q hq => ?_⟩
              simp only [AT.leavesL, AT.leaves, List.cons_append, List.nil_append] at hq
              rcases List.mem_cons.mp hq with rfl | hq
              · exact .inl hl2
              · exact b6 q hq
            simp only [argT, tree_er] at ha
            cases ht : AO.tree o env0 with
            | none => rw [ht] at ha; simp at ha
            | some t =>
              rw [ht] at ha
              have hval : t.val = v := by
                refine hv1 t ?_
                cases o with
                | tm u => exact ht
                | vr i q => exact h0 i q t ht
              have hnl : (∀ p ∈ t.nodes, Fp p.1 = some p.2) ∨ ∃ w l, t = .lf w l := by
                cases o with
                | tm u =>
                  cases ht
                  exact .inl (htm (.tm t) List.mem_cons_self t rfl).1
                | vr i q =>
                  cases t with
                  | lf w l => exact .inr ⟨w, l, rfl⟩
                  | nd a bb xs =>
                    refine .inl fun p hp => hl ?_ p ((ctn_sb ht).1.mem hp)
                    simp only [lent, List.map_cons, Opd.er, ctn_er, show ctnA env0 i q = _ from ht, Option.map_some, AT.er, Bool.not_false, Bool.true_and, Bool.true_or]
                  | dk a kvs =>
                    refine .inl fun p hp => hl ?_ p ((ctn_sb ht).1.mem hp)
                    simp only [lent, List.map_cons, Opd.er, ctn_er, show ctnA env0 i q = _ from ht, Option.map_some, AT.er, Bool.not_false, Bool.true_and, Bool.true_or]
              have hlf : ∀ q ∈ t.leaves, LfOk K Fp q.1 q.2 := by
                cases o with
                | tm u =>
                  cases ht
                  exact (htm (.tm t) List.mem_cons_self t rfl).2
                | vr i q => exact fun q' hq' => hlv q' ((ctn_sb ht).2 q' hq')
              have viaD : t.er.toD.map IV.d = some tt → (∀ w l, t ≠ .lf w l) → ∃ ats' : List AT, ats'.map AT.val = v :: vs ∧ AT.erL ats' = tt :: ts' ∧ argsOk (false :: ms) ats' = true ∧ pick (false :: ms) ats' = ss ∧ AT.nodesL ats' = AT.nodesL ss ∧ ∀ q ∈ AT.leavesL ats', LfOk K Fp q.1 q.2 ∨ q ∈ AT.leavesL ss := fun hd hne => by
                cases hdd : t.er.toD with
                | none => rw [hdd] at hd; simp at hd
                | some d =>
                  rw [hdd] at hd
                  simp only [Option.map_some, Option.some.injEq] at hd
                  refine fin (.d d) hd.symm ?_
                  rcases hnl with z | ⟨w, l, z⟩
                  · rw [← hval]
                    exact AT.dq t z hlf hdd
                  · exact absurd z (hne w l)
              cases t with
              | lf w l =>
                simp only [Option.map_some, AT.er, Option.some.injEq] at ha
                cases hval
                exact fin l ha.symm (hlf (w, l) (by simp [AT.leaves]))
              | nd a bb xs => exact viaD ha fun w l z => nomatch z
              | dk a kvs => exact viaD ha fun w l z => nomatch z
theorem mem_nodesO : ∀ {aos : List AO} {o : AO} {t : AT}, o ∈ aos → o = .tm t → Sb t.nodes (nodesO aos) ∧ ∀ q ∈ t.leaves, q ∈ leavesO aos
  | [], o, t, h, _ => nomatch h
  | a :: aos, o, t, h, e => by
    rcases List.mem_cons.mp h with rfl | h
    · subst e
      exact ⟨Sb.left _ _, fun q hq => List.mem_append_left _ hq⟩
    · obtain ⟨h1, h2⟩ := mem_nodesO h e
      exact ⟨h1.trans (Sb.right _ _), fun q hq => List.mem_append_right _ (h2 q hq)⟩
theorem passesAt_of {W : WX} (tk : Takes X W) : ∀ σ, PassesAt (L2.CX X.prog X.w) X σ (fun c d H => W c d σ H) := fun σ pins H s e s' I c => tk e s' (XE.of_call I (fun _ _ _ h => h) c)
theorem take_pure : ∀ {ms : List Bool} {os : List AO} {e : AEnv} {hs : List (Nat × List Nat × AT)} {e0 : AEnv}, ms.any id = false → takeG AT.getP ms os e = some (hs, e0) → hs = [] ∧ e0 = e
  | [], [], e, hs, e0, _, h => by
    simp only [takeG, Option.some.injEq, Prod.mk.injEq] at h
    exact ⟨h.1.symm, h.2.symm⟩
  | [], _ :: _, e, hs, e0, _, h => by simp [takeG] at h
  | _ :: _, [], e, hs, e0, _, h => by simp [takeG] at h
  | m :: ms, o :: os, e, hs, e0, hm, h => by
    rw [List.any_cons, Bool.or_eq_false_iff] at hm
    have : m = false := hm.1
    subst this
    simp only [takeG, Bool.false_eq_true, if_false] at h
    exact take_pure hm.2 h
/-- the callee's promise from the caller's state -/
theorem call_run {xc : Nat → Value} {ms : List Bool} {f : Sem'} {aos : List AO} {vs : List V} {E : XK} (hxc : Φ.xc = xc) (c : CB K Φ.g F H (nodesE env ++ (nodesO aos ++ Np)) (leavesE env ++ (leavesO aos ++ Lp))) (s : SR env σ) (hv : VRs env aos vs)
    (q : Ct K Φ (b && !ms.any id) σ Q H env Np Lp (callR ms f (aos.map Opd.er) (erE env))) (hE : ∀ cls d H', Φ.W cls d σ H' → E cls d H') : spF K xc ms f vs H Q E := by
  subst hxc
  simp only [callR, takeG_er] at q
  cases ht : takeG AT.getP ms aos env with
  | none => rw [ht] at q; exact q.elim
  | some r =>
    obtain ⟨hs, env0⟩ := r
    rw [ht] at q
    simp only [Option.map_some] at q
    obtain ⟨ss, Cn, Cl, a1, av, a2, a3, a4, a5, a6⟩ := take_bag ms aos env ht s
    cases hts : argsL ms (aos.map Opd.er) (hs.map erH) (erE env0) with
    | none => rw [hts] at q; exact q.elim
    | some ts =>
      rw [hts] at q
      simp only at q
      -- the bag, with what is lent
      have c0 : CB K Φ.g F H (AT.nodesL ss ++ ((nodesO aos ++ (Cn ++ nodesE env0)) ++ Np)) (leavesE env ++ (leavesO aos ++ Lp)) := by
        refine c.sb (.of_perm ?_) fun _ h => h
        refine (a2.append_right _).trans ?_
        simp only [List.append_assoc]
        refine List.Perm.append_left _ ?_
        refine (List.Perm.append_left Cn (perm3 _ _ _)).trans ?_
        exact perm3 _ _ _
      have lss : ∀ q ∈ AT.leavesL ss, q ∈ leavesE env := fun q hq => a3.symm.subset (List.mem_append_left _ hq)
      have l0 : ∀ q ∈ leavesE env0, q ∈ leavesE env := fun q hq => a3.symm.subset (List.mem_append_right _ (List.mem_append_right _ hq))
      -- the two ways of lending
      have way : ∃ Nb Nr, (∀ p ∈ nodesO aos, p ∈ Nb) ∧ (lent ms (aos.map Opd.er) (erE env0) = true → (∀ p ∈ nodesE env0, p ∈ Nb) ∧ Nb = nodesO aos ++ (Cn ++ nodesE env0) ∧ Nr = Np) ∧ (lent ms (aos.map Opd.er) (erE env0) = false → Nb = nodesO aos ∧ Nr = (Cn ++ nodesE env0) ++ Np) ∧ CB K Φ.g F H (AT.nodesL ss ++ (Nb ++ Nr)) (leavesE env ++ (leavesO aos ++ Lp)) := by
        cases hl : lent ms (aos.map Opd.er) (erE env0) with
        | true => exact ⟨nodesO aos ++ (Cn ++ nodesE env0), Np, fun p hp => List.mem_append_left _ hp, fun _ => ⟨fun p hp => List.mem_append_right _ (List.mem_append_right _ hp), rfl, rfl⟩, (fun z => nomatch z), c0⟩
        | false => exact ⟨nodesO aos, (Cn ++ nodesE env0) ++ Np, fun p hp => hp, (fun z => nomatch z), fun _ => ⟨rfl, rfl⟩, by simpa [List.append_assoc] using c0⟩
      obtain ⟨Nb, Nr, w1, w2, w3, cw⟩ := way
      have hle : Le F (lend F Nb H) := lend_le cw fun p hp => List.mem_append_right _ (List.mem_append_left _ hp)
      have hNb : ∀ p ∈ Nb, lend F Nb H p.1 = some p.2 := fun p hp => by
        unfold lend
        rw [if_pos (List.mem_map.mpr ⟨p, hp, rfl⟩)]
        exact cw.at_ p (List.mem_append_right _ (List.mem_append_left _ hp))
      obtain ⟨ats, b1, b2, b3, b4, b5, b6⟩ := args_of (K := K) (lend F Nb H) a4 (fun q hq => (c.lf q (List.mem_append_left _ (l0 q hq))).le hle) hv hts a1 (av vs hv) (fun o ho t e => by
        obtain ⟨m1, m2⟩ := mem_nodesO ho e
        exact ⟨fun p hp => hNb p (w1 p (m1.mem hp)), fun q hq => (c.lf q (List.mem_append_right _ (List.mem_append_left _ (m2 q hq)))).le hle⟩) (fun hl p hp => hNb p ((w2 hl).1 p hp))
      have ce : CB K (gOf (lend F Nb H) H (AT.nodesL ats)) (lend F Nb H) H (AT.nodesL ats) (AT.leavesL ats) := by
        rw [b5]
        refine cw.entry fun q hq => ?_
        rcases b6 q hq with z | z
        · exact z
        · exact (c.lf q (List.mem_append_left _ (lss q z))).le hle
      refine ⟨lend F Nb H, ats, b1.symm, b3, ce, ?_⟩
      rw [b2]
      have comp : ∀ {H' F' : Hp} {Nc : List (Addr × HO)} {Lc : List (V × LF)}, CB K (gOf (lend F Nb H) H (AT.nodesL ats)) F' H' Nc Lc → (lent ms (aos.map Opd.er) (erE env0) = true → ∀ q ∈ Lc, flatL q = true) → ∃ F'', CB K Φ.g F'' H' (Nc ++ ((Cn ++ nodesE env0) ++ Np)) (Lc ++ (leavesE env ++ (leavesO aos ++ Lp))) := fun {H' F' Nc Lc} cc hf => by
        rw [b5] at cc
        cases hl : lent ms (aos.map Opd.er) (erE env0) with
        | true =>
          obtain ⟨_, e1, e2⟩ := w2 hl
          obtain ⟨F'', c3, _⟩ := cw.call2 hle lend_s cc (hf hl)
          refine ⟨F'', c3.sb (Sb.tail ?_) fun _ h => h⟩
          rw [e1, e2]
          simp only [List.append_assoc]
          exact Sb.right _ _
        | false =>
          obtain ⟨e1, e2⟩ := w3 hl
          obtain ⟨c3, _⟩ := cw.call1 hle lend_s cc
          rw [e2] at c3
          exact ⟨F', c3⟩
      cases hf : f ts with
      | bad => rw [hf] at q; exact q.elim
      | ok t outs =>
        rw [hf] at q
        simp only at q
        show ∀ (H' F' : Hp) (at' : AT) (outs' : List AT), _
        intro H' F' at' outs' cc e1 e2 e3
        rw [b4] at e3
        obtain ⟨g1, g2, g3, g4⟩ := a6 outs' e3
        cases hok : (!lent ms (aos.map Opd.er) (erE env0) || (noSh t && noShL outs)) with
        | false => rw [hok] at q; exact q.elim
        | true =>
          rw [hok] at q
          have q : Ct K Φ (b && !ms.any id) σ Q H env Np Lp (.ok (.tm t) (putG IV.setP (hs.map erH) outs (erE env0))) := q
          obtain ⟨F'', c4⟩ := comp cc fun hl q' hq' => by
            rw [hl] at hok
            have hok : (noSh t && noShL outs) = true := hok
            rcases List.mem_append.mp hq' with z | z
            · exact noSh_leaves at' (by rw [e1]; exact band1 hok) q' z
            · exact noSh_leavesL outs' (by rw [e2]; exact band2 hok) q' z
          refine q at'.val H' F'' (putG AT.setP hs outs' env0) (.tm at') ?_ g3 (by rw [putG_er, e2]) (by rw [Opd.er, e1]) ⟨at', rfl, rfl⟩ (fun hb => ?_) g4
          · refine c4.sb (.of_perm ?_) fun q' hq' => ?_
            · simp only [Opd.nodes, List.append_assoc]
              refine List.Perm.trans ?_ (List.Perm.append_right _ g1.symm)
              simp only [List.append_assoc]
              refine List.Perm.trans (perm3 _ _ _) ?_
              refine List.Perm.append_left _ ?_
              rw [← List.append_assoc, ← List.append_assoc, ← List.append_assoc, ← List.append_assoc]
              refine List.Perm.append_right _ ?_
              rw [List.append_assoc]
              exact List.perm_append_comm
            · rcases List.mem_append.mp hq' with z | z
              · rcases List.mem_append.mp (g2.subset z) with z | z
                · exact List.mem_append_left _ (List.mem_append_right _ z)
                · exact List.mem_append_right _ (List.mem_append_left _ (a3.symm.subset (List.mem_append_right _ z)))
              · rcases List.mem_append.mp z with z | z
                · exact List.mem_append_left _ (List.mem_append_left _ z)
                · exact List.mem_append_right _ (List.mem_append_right _ (List.mem_append_right _ z))
          · have hm : ms.any id = false := by simpa using band2 hb
            obtain ⟨h1, h2⟩ := take_pure hm ht
            subst h1
            subst h2
            cases ss with
            | cons _ _ => simp at a1
            | nil =>
              refine ⟨by cases outs' <;> rfl, fun a o e => cc.keep a o e ?_⟩
              rw [b5]
              simp [AT.nodesL]
      | ex n outs =>
        rw [hf] at q
        simp only at q
        show ∀ (H' F' : Hp) (outs' : List AT), _
        intro H' F' outs' cc e2 e3
        rw [b4] at e3
        obtain ⟨g1, g2, g3, g4⟩ := a6 outs' e3
        cases hok : (!lent ms (aos.map Opd.er) (erE env0) || noShL outs) with
        | false => rw [hok] at q; exact q.elim
        | true =>
          rw [hok] at q
          have q : Ct K Φ (b && !ms.any id) σ Q H env Np Lp (.ex n (putG IV.setP (hs.map erH) outs (erE env0))) := q
          obtain ⟨F'', c4⟩ := comp cc fun hl q' hq' => by
            rw [hl] at hok
            exact noSh_leavesL outs' (by rw [e2]; exact hok) q' hq'
          refine hE _ _ _ (q H' F'' (putG AT.setP hs outs' env0) ?_ g3 (by rw [putG_er, e2]))
          refine c4.sb (.of_perm ?_) fun q' hq' => ?_
          · refine List.Perm.trans ?_ (List.Perm.append_right _ g1.symm)
            simp only [List.append_assoc]
            exact .refl _
          · rcases List.mem_append.mp hq' with z | z
            · rcases List.mem_append.mp (g2.subset z) with z | z
              · exact List.mem_append_left _ z
              · exact List.mem_append_right _ (List.mem_append_left _ (a3.symm.subset (List.mem_append_right _ z)))
            · exact List.mem_append_right _ (List.mem_append_right _ (List.mem_append_right _ z))
theorem se_call {ms : List Bool} {f : Sem'} {k : Nat} {fa : Addr} {fd : FuncData} {ps : List Str} {n : Str} (G : FnOk X.prog X.w X.K X.mg X.base (L2.CX X.prog X.w) k fa fd ps (spF X.K Φ.xc ms f)) (hr : Room k X.A) (hg : Gl X n) (hm : X.mg n = some (.ref fa)) (hk : PySem.W.keepIn X.K (.ref fa) = true)
    (hb : Binds X.K fd ps []) (tk : Takes X Φ.W) (ha : SA X Φ b (x :: es) mas) (hdb : (n == ("__debug__" : Str)) = false := by decide) (he : starEach (x :: es) X.env = (false, eval x X.env) :: starEach es X.env := by rfl) (hpl : (backTo pos (starEach es X.env)).any (·.1) = false := by rfl) :
    SE X Φ (b && !ms.any id) (.Call (.Name n p) (x :: es) [] pos) (callM ms f mas) := by
  refine PE.imp (pe_callG G hr hg hm hk hb (passesAt_of tk) ha hdb he hpl) fun σ H Q q => ?_
  obtain ⟨F, env, Np, Lp, c, s, q⟩ := q
  refine seqAE (A := []) (B := []) (by simpa using c) s q band1 fun vs H1 F1 env1 aos c1 s1 t1 p1 q1 => ?_
  simp only [List.nil_append] at c1
  exact call_run rfl c1 s1 t1 q1 fun _ _ _ h => h
/-- f() -/
theorem se_call0 {f : Sem'} {k : Nat} {fa : Addr} {fd : FuncData} {ps : List Str} {n : Str} (G : FnOk X.prog X.w X.K X.mg X.base (L2.CX X.prog X.w) k fa fd ps (spF X.K Φ.xc [] f)) (hr : Room k X.A) (hg : Gl X n) (hm : X.mg n = some (.ref fa)) (hk : PySem.W.keepIn X.K (.ref fa) = true)
    (hb : Binds X.K fd ps []) (hp : Passes (L2.CX X.prog X.w) X E0) (hne : ∀ c o, f [] ≠ .ex c o) (hdb : (n == ("__debug__" : Str)) = false := by decide) : SE X Φ true (.Call (.Name n p) [] [] pos) (callM [] f nilA) := by
  refine PE.imp (pe_callG0 G hr hg hm hk hb hp hdb) fun σ H Q q => ?_
  obtain ⟨F, env, Np, Lp, c, s, q⟩ := q
  have q : Ct X.K Φ true σ Q H env Np Lp (callR [] f (([] : List AO).map Opd.er) (erE env)) := q
  have q2 : Ct X.K Φ (true && !([] : List Bool).any id) σ Q H env Np Lp (callR [] f (([] : List AO).map Opd.er) (erE env)) := q
  show spF X.K Φ.xc [] f [] H Q E0
  obtain ⟨Fp, ats, e1, e2, e3, e4⟩ := call_run (E := fun cls d H' => Φ.W cls d σ H') (aos := []) (vs := []) rfl (by simpa [nodesO, leavesO] using c) s .nil q2 fun _ _ _ h => h
  cases ats with
  | cons _ _ => cases e1
  | nil =>
    refine ⟨Fp, [], e1, e2, e3, ?_⟩
    simp only [AT.erL] at e4 ⊢
    revert e4
    cases hf : f [] with
    | ok t o => exact fun e4 => e4
    | ex n o => exact absurd hf (hne n o)
    | bad => exact fun e4 => e4
end
end Z
/-! Z14: statements: blocks, assignment, return, if, targets. -/
namespace Z
open PySem L2

inductive SR' where
  | nx (e : Env')
  | bk (e : Env')
  | rt (t : IV) (e : Env')
  | ex (c : Nat) (e : Env')
  | bad
abbrev MS := Env' → SR'
/-- the slots whose object is handed back stay what they were -/
abbrev IO := (Nat → Bool) × St
def SI (io : IO) (σ : St) : Prop := σ.length = io.2.length ∧ ∀ i, io.1 i = true → σ[i]? = io.2[i]?
def CtS (K : PySem.W.Frag) (Φ : Fx) (io : IO) (D : Ends) (env : AEnv) (Np : List (Addr × HO)) (Lp : List (V × LF)) (r : SR') : Prop := match r with
  | .nx e' => ∀ σ' H' F' env', CB K Φ.g F' H' (nodesE env' ++ Np) (leavesE env' ++ Lp) → SR env' σ' → SI io σ' → erE env' = e' → LkS env env' → D.nx σ' H'
  | .bk e' => ∀ σ' H' F' env', CB K Φ.g F' H' (nodesE env' ++ Np) (leavesE env' ++ Lp) → SR env' σ' → SI io σ' → erE env' = e' → LkS env env' → D.bk σ' H'
  | .rt t e' => ∀ v σ' H' F' env' at', CB K Φ.g F' H' (nodesE env' ++ (AT.nodes at' ++ Np)) (leavesE env' ++ (AT.leaves at' ++ Lp)) → SR env' σ' → SI io σ' → erE env' = e' → AT.er at' = t → AT.val at' = v → D.rt v H'
  | .ex c e' => ∀ σ' H' F' env', CB K Φ.g F' H' (nodesE env' ++ Np) (leavesE env' ++ Lp) → SR env' σ' → SI io σ' → erE env' = e' → Φ.W (Φ.xc c) none σ' H'
  | .bad => False
def tS (K : PySem.W.Frag) (Φ : Fx) (io : IO) (m : MS) : TS := fun D σ H => ∃ F env Np Lp, CB K Φ.g F H (nodesE env ++ Np) (leavesE env ++ Lp) ∧ SR env σ ∧ SI io σ ∧ CtS K Φ io D env Np Lp (m (erE env))
abbrev SS (X : Cx) (Φ : Fx) (io : IO) (st : Stmt) (m : MS) : Prop := PS X st (tS X.K Φ io m)
abbrev SB (X : Cx) (Φ : Fx) (io : IO) (st : List Stmt) (m : MS) : Prop := PSs X st (tS X.K Φ io m)
theorem PS.imp {X : Cx} {e : Stmt} {t t' : TS} (h : PS X e t) (k : ∀ D σ H, t' D σ H → t D σ H) : PS X e t' := ⟨fun pins s σ H Q I q => h.run pins s σ H Q I (k Q σ H q)⟩
theorem PSs.imp {X : Cx} {e : List Stmt} {t t' : TS} (h : PSs X e t) (k : ∀ D σ H, t' D σ H → t D σ H) : PSs X e t' := ⟨fun pins s σ H Q I q => h.run pins s σ H Q I (k Q σ H q)⟩
/-- a result that ends a statement -/
def R.toS {α : Type} (r : R α) (f : α → Env' → SR') : SR' := match r with
  | .ok a e => f a e
  | .ex c e => .ex c e
  | .bad => .bad
def seqS (a b : MS) : MS := fun e => match a e with
  | .nx e' => b e'
  | r => r
def nxS : MS := .nx
section
variable {X : Cx} {K : PySem.W.Frag} {Φ : Fx} {io : IO} {b b1 b2 b3 : Bool} {σ : St} {D : Ends} {H F : Hp} {Q : VK} {env env0 : AEnv} {Np Nb : List (Addr × HO)} {Lp : List (V × LF)} {x y : Expr} {es : List Expr} {ma mb : M O} {mas : M (List O)} {pos p : Pos} {st : Stmt} {rest : List Stmt} {sa sb : MS}
theorem CtS.from {env1 : AEnv} {rr : SR'} (h : LkS env env1) : CtS K Φ io D env Np Lp rr → CtS K Φ io D env1 Np Lp rr := by
  cases rr with
  | nx e' => exact fun q σ' H' F' env' a1 a2 a3 a4 a5 => q σ' H' F' env' a1 a2 a3 a4 (h.trans a5)
  | bk e' => exact fun q σ' H' F' env' a1 a2 a3 a4 a5 => q σ' H' F' env' a1 a2 a3 a4 (h.trans a5)
  | rt t e' => exact fun q => q
  | ex c e' => exact fun q => q
  | bad => exact fun q => q
theorem sb_nil : SB X Φ io [] nxS := by
  refine PSs.imp pss_nil fun D σ H q => ?_
  obtain ⟨F, env, Np, Lp, c, s, i, q⟩ := q
  exact q σ H F env c s i rfl (.refl _)
theorem sb_cons (h1 : SS X Φ io st sa) (h2 : SB X Φ io rest sb) : SB X Φ io (st :: rest) (seqS sa sb) := by
  refine PSs.imp (pss_cons h1 h2) fun D σ H q => ?_
  obtain ⟨F, env, Np, Lp, c, s, i, q⟩ := q
  refine ⟨F, env, Np, Lp, c, s, i, ?_⟩
  revert q
  simp only [seqS]
  cases sa (erE env) with
  | nx e' =>
    intro q σ' H' F' env' a1 a2 a3 a4 a5
    refine ⟨F', env', Np, Lp, a1, a2, a3, ?_⟩
    rw [a4]
    exact CtS.from a5 q
  | bk e' => exact fun q => q
  | rt t e' => exact fun q => q
  | ex c e' => exact fun q => q
  | bad => exact fun q => q
theorem sb_one (h1 : SS X Φ io st sa) : SB X Φ io [st] sa := pss_one h1
theorem ss_pass : SS X Φ io (.Pass pos) nxS := by
  refine PS.imp ps_pass fun D σ H q => ?_
  obtain ⟨F, env, Np, Lp, c, s, i, q⟩ := q
  exact q σ H F env c s i rfl (.refl _)
def bkS : MS := .bk
theorem ss_break : SS X Φ io (.Break pos) bkS := by
  refine PS.imp ps_break fun D σ H q => ?_
  obtain ⟨F, env, Np, Lp, c, s, i, q⟩ := q
  exact q σ H F env c s i rfl (.refl _)
/-- an expression first, then a statement's end -/
theorem seqES {m : M O} {f : O → Env' → SR'} {Q' : VK} (c : CB K Φ.g F H (nodesE env ++ Np) (leavesE env ++ Lp)) (s : SR env σ) (hi : SI io σ) (q : CtS K Φ io D env Np Lp (R.toS (m (erE env)) f))
    (k : ∀ v H' F' env' ao, CB K Φ.g F' H' (nodesE env' ++ (Opd.nodes ao ++ Np)) (leavesE env' ++ (Opd.leaves ao ++ Lp)) → SR env' σ → (∃ t, AO.tree ao env' = some t ∧ t.val = v) →
      (b = true → env' = env ∧ Le H H') → CtS K Φ io D env' Np Lp (f (Opd.er ao) (erE env')) → Q' v H') : tE K Φ b m σ H Q' := by
  refine ⟨F, env, Np, Lp, c, s, ?_⟩
  revert q
  cases m (erE env) with
  | ok o e' =>
    intro q v H' F' env' ao a1 a2 a3 a4 a5 a6 a7
    refine k v H' F' env' ao a1 a2 a5 a6 ?_
    rw [a4, a3]
    exact CtS.from a7 q
  | ex c e' => exact fun q H' F' env' a1 a2 a3 => q σ H' F' env' a1 a2 hi a3
  | bad => exact fun q => q
theorem seqTS {m : M Bool} {f : Bool → Env' → SR'} {Q' : Bool → Hp → Prop} (c : CB K Φ.g F H (nodesE env ++ Np) (leavesE env ++ Lp)) (s : SR env σ) (hi : SI io σ) (q : CtS K Φ io D env Np Lp (R.toS (m (erE env)) f))
    (k : ∀ c H' F' env', CB K Φ.g F' H' (nodesE env' ++ Np) (leavesE env' ++ Lp) → SR env' σ → CtS K Φ io D env' Np Lp (f c (erE env')) → Q' c H') : tT K Φ m σ H Q' := by
  refine ⟨F, env, Np, Lp, c, s, ?_⟩
  revert q
  cases m (erE env) with
  | ok o e' =>
    intro q H' F' env' a1 a2 a3 a4
    refine k o H' F' env' a1 a2 ?_
    rw [a3]
    exact CtS.from a4 q
  | ex c e' => exact fun q H' F' env' a1 a2 a3 => q σ H' F' env' a1 a2 hi a3
  | bad => exact fun q => q
/-- an expression alone -/
def exprS (m : M O) : MS := fun e => R.toS (m e) fun _ e' => .nx e'
theorem ss_expr (h : SE X Φ b x ma) (hs : swapsWith x none pos.line X.env = pure false := by rfl) : SS X Φ io (.Expr x pos) (exprS ma) := by
  refine PS.imp (ps_expr h hs) fun D σ H q => ?_
  obtain ⟨F, env, Np, Lp, c, s, i, q⟩ := q
  exact seqES c s i q fun v H' F' env' ao c' s' t' p' q' => q' σ H' F' env' c'.drop1 s' i rfl (.refl _)
/-- if -/
def ifS (mt : M Bool) (a b : MS) : MS := fun e => R.toS (mt e) fun k e' => if k then a e' else b e'
theorem ss_if {mt : M Bool} {ba bb : List Stmt} (h : STt X Φ x mt) (ha : SB X Φ io ba sa) (hb : SB X Φ io bb sb) : SS X Φ io (.If x ba bb pos) (ifS mt sa sb) := by
  refine PS.imp (ps_if h ha hb) fun D σ H q => ?_
  obtain ⟨F, env, Np, Lp, c, s, i, q⟩ := q
  refine seqTS c s i q fun k H' F' env' c' s' q' => ?_
  cases k with
  | true => exact ⟨F', env', Np, Lp, c', s', i, q'⟩
  | false => exact ⟨F', env', Np, Lp, c', s', i, q'⟩
/-- return -/
def retS (m : M O) : MS := fun e => R.toS (m e) fun o e' => match toV o e' with
  | some t => .rt t e'
  | none => .bad
theorem toV1 {ao : AO} {v : V} {t : IV} (c : CB K Φ.g F H (nodesE env ++ (Opd.nodes ao ++ Np)) (leavesE env ++ (Opd.leaves ao ++ Lp))) (hv : ∃ t, AO.tree ao env = some t ∧ t.val = v) (e : toV (Opd.er ao) (erE env) = some t) :
    ∃ at', AT.er at' = t ∧ AT.val at' = v ∧ CB K Φ.g F H (nodesE env ++ (at'.nodes ++ Np)) (leavesE env ++ (at'.leaves ++ Lp)) := by
  obtain ⟨u, hu, rfl⟩ := hv
  cases ao with
  | tm w =>
    cases hu
    simp only [Opd.er, toV, Option.some.injEq] at e
    exact ⟨u, e, rfl, c⟩
  | vr i q =>
    simp only [Opd.er, toV, ctn_er, show ctnA env i q = some u from hu] at e
    cases u with
    | nd a bb xs => simp [AT.er] at e
    | dk a kvs => simp [AT.er] at e
    | lf w l =>
      simp only [Option.map_some, AT.er, Option.some.injEq] at e
      refine ⟨.lf w l, e, rfl, c.sb (.refl _) fun q' hq' => ?_⟩
      simp only [AT.leaves] at hq'
      rcases List.mem_append.mp hq' with z | z
      · exact List.mem_append_left _ z
      · rcases List.mem_append.mp z with z | z
        · exact List.mem_append_left _ ((ctn_sb hu).2 q' (by simpa [AT.leaves] using z))
        · exact List.mem_append_right _ (List.mem_append_right _ z)
theorem ss_ret (h : SE X Φ b x ma) : SS X Φ io (.Return (some x) pos) (retS ma) := by
  refine PS.imp (ps_ret h) fun D σ H q => ?_
  obtain ⟨F, env, Np, Lp, c, s, i, q⟩ := q
  refine seqES c s i q fun v H' F' env' ao c' s' t' p' q' => ?_
  cases ht : toV (Opd.er ao) (erE env') with
  | none => rw [ht] at q'; exact q'.elim
  | some t =>
    rw [ht] at q'
    obtain ⟨at', e1, e2, c2⟩ := toV1 c' t' ht
    exact q' v σ H' F' env' at' c2 s' i rfl e1 e2
def retN : MS := fun e => .rt (.d .none) e
theorem ss_retN : SS X Φ io (.Return none pos) retN := by
  refine PS.imp ps_retN fun D σ H q => ?_
  obtain ⟨F, env, Np, Lp, c, s, i, q⟩ := q
  refine q .non σ H F env (.lf .non (.d .none)) ?_ s i rfl rfl rfl
  refine (c.leaf (v := .non) (l := .d .none) .non).sb (.refl _) fun q hq => ?_
  simp only [AT.leaves] at hq
  rcases List.mem_append.mp hq with z | z
  · exact List.mem_cons_of_mem _ (List.mem_append_left _ z)
  · rcases List.mem_append.mp z with z | z
    · rw [List.mem_singleton.mp z]
      exact List.mem_cons_self
    · exact List.mem_cons_of_mem _ (List.mem_append_right _ z)

/-! ### names as targets -/
def setA (i : Nat) (t : IV) (e : Env') : Env' := (killA i e).set i (.iv t)
/-- a variable's slot may be written: it is not locked -/
def okA (i : Nat) (e : Env') : Bool := match e[i]? with
  | some (.lk _) => false
  | some _ => true
  | none => false
def M1 := IV → Env' → R Unit
def nameT (i : Nat) : IV → Env' → R Unit := fun t e => if okA i e then .ok () (setA i t e) else .bad
def CtU (K : PySem.W.Frag) (Φ : Fx) (io : IO) (σ : St) (Q : St → Hp → Prop) (env : AEnv) (Np : List (Addr × HO)) (Lp : List (V × LF)) (r : R Unit) : Prop := match r with
  | .ok _ e' => ∀ σ' H' F' env', CB K Φ.g F' H' (nodesE env' ++ Np) (leavesE env' ++ Lp) → SR env' σ' → SI io σ' → erE env' = e' → LkS env env' → Q σ' H'
  | .ex c e' => ∀ σ' H' F' env', CB K Φ.g F' H' (nodesE env' ++ Np) (leavesE env' ++ Lp) → SR env' σ' → SI io σ' → erE env' = e' → Φ.W (Φ.xc c) none σ' H'
  | .bad => False
def tG (K : PySem.W.Frag) (Φ : Fx) (io : IO) (m : IV → Env' → R Unit) : TG := fun v σ H Q => ∃ F env at' Np Lp, CB K Φ.g F H (nodesE env ++ (AT.nodes at' ++ Np)) (leavesE env ++ (AT.leaves at' ++ Lp)) ∧ SR env σ ∧ SI io σ ∧ AT.val at' = v ∧ CtU K Φ io σ Q env Np Lp (m (AT.er at') (erE env))
abbrev SG (X : Cx) (Φ : Fx) (io : IO) (tg : Expr) (m : IV → Env' → R Unit) : Prop := PG X tg (tG X.K Φ io m)
theorem PG.imp {X : Cx} {e : Expr} {t t' : TG} (h : PG X e t) (k : ∀ v σ H Q, t' v σ H Q → t v σ H Q) : PG X e t' := ⟨fun pins s σ H v u Q I r q => h.run pins s σ H v u Q I r (k v σ H Q q)⟩
theorem SI.set (h : SI io σ) {i : Nat} {v : V} (hi : io.1 i = false) : SI io (σ.set i (some v)) := ⟨by rw [List.length_set]; exact h.1, fun k hk => by
  have hne : i ≠ k := fun e => by
    subst e
    rw [hi] at hk
    cases hk
  rw [List.getElem?_set_ne hne]
  exact h.2 k hk⟩
theorem SR.slot {v : V} {i : Nat} {sl : Sl AT} (h : SR env σ) (hi : i < env.length) (hv : ∀ t, ctnA ((killA i env).set i sl) i [] = some t → t.val = v) (ha : ∀ k p, sl = .al k p → k ≠ i) : SR ((killA i env).set i sl) (σ.set i (some v)) := by
  have hlen : (killA i env).length = env.length := by simp [killA]
  refine ⟨by rw [List.length_set, List.length_set, hlen]; exact h.1, fun k u hu => ?_⟩
  by_cases hk : i = k
  · subst hk
    rw [List.getElem?_set_self (by rw [← h.1]; exact hi), hv u hu]
  · rw [List.getElem?_set_ne hk]
    refine h.2 k u ?_
    simp only [ctnA, rsv, List.getElem?_set_ne hk, killA_get] at hu ⊢
    cases he : env[k]? with
    | none => rw [he] at hu; simp at hu
    | some w =>
      rw [he] at hu
      cases w with
      | un => simp [kl] at hu
      | iv w => simpa [kl, rootOf_set hk, rootOf_kill] using hu
      | lk w => simpa [kl, rootOf_set hk, rootOf_kill] using hu
      | al j q =>
        simp only [Option.map_some, kl] at hu
        by_cases hj : j = i
        · rw [if_pos hj] at hu
          simp at hu
        · rw [if_neg hj] at hu
          simpa [rootOf_set (fun z => hj z.symm), rootOf_kill] using hu
theorem okA_er {i : Nat} (h : okA i (erE env) = true) : ∃ sl, env[i]? = some sl ∧ ∀ t, sl ≠ .lk t := by
  simp only [okA, erE_get] at h
  cases he : env[i]? with
  | none => rw [he] at h; simp at h
  | some sl =>
    rw [he] at h
    refine ⟨sl, rfl, fun t e => ?_⟩
    subst e
    simp [Sl.map] at h
theorem lks_slot {i : Nat} {sl s' : Sl AT} (h : env[i]? = some sl) (hn : ∀ t, sl ≠ .lk t) : LkS env ((killA i env).set i s') := fun k t hk => by
  have hne : i ≠ k := fun e => by
    subst e
    rw [h] at hk
    cases hk
    exact hn t rfl
  rw [List.getElem?_set_ne hne, killA_get, hk]
  rfl
/-- a name stored: the bag -/
theorem slot_bag {i : Nat} {sl : Sl AT} {t : AT} {g : Gh} (c : CB K g F H (nodesE env ++ (t.nodes ++ Np)) (leavesE env ++ (t.leaves ++ Lp))) (h : env[i]? = some sl) : CB K g F H (nodesE ((killA i env).set i (.iv t)) ++ Np) (leavesE ((killA i env).set i (.iv t)) ++ Lp) := by
  have hk : (killA i env)[i]? = some (kl i sl) := by rw [killA_get, h]; rfl
  obtain ⟨R, S, r1, r2⟩ := env_split hk
  obtain ⟨k1, k2⟩ := nodesE_kill i env
  have p1 := r1 (kl i sl)
  have p2 := r2 (kl i sl)
  rw [set_self hk, k1] at p1
  rw [set_self hk, k2] at p2
  refine c.sb ?_ fun q hq => ?_
  · refine Sb.trans (B := (t.nodes ++ R) ++ Np) (.of_perm ((r1 (.iv t)).append_right Np).symm) (Sb.trans (Sb.right (kl i sl).nodes _) (.of_perm ?_))
    refine (p1.append_right _).trans ?_
    simp only [List.append_assoc]
    refine List.Perm.append_left _ ?_
    exact perm3 _ _ _
  · rcases List.mem_append.mp hq with z | z
    · rcases List.mem_append.mp ((r2 (.iv t)).subset z) with z | z
      · exact List.mem_append_right _ (List.mem_append_left _ z)
      · exact List.mem_append_left _ (p2.symm.subset (List.mem_append_right _ z))
    · exact List.mem_append_right _ (List.mem_append_right _ z)
theorem er_slot {i : Nat} {s' : Sl AT} : erE ((killA i env).set i s') = (killA i (erE env)).set i (s'.map AT.er) := by rw [set_er, killA_er]
theorem name_run {i : Nat} {v : V} {QU : St → Hp → Prop} (hio : io.1 i = false) (q : tG K Φ io (nameT i) v σ H QU) : gName i v σ H QU := by
  obtain ⟨F, env, at', Np, Lp, c, s, hs, rfl, q⟩ := q
  simp only [nameT] at q
  cases ho : okA i (erE env) with
  | false => rw [ho] at q; exact q.elim
  | true =>
    rw [ho] at q
    obtain ⟨sl, h1, h2⟩ := okA_er ho
    have hl := (List.getElem?_eq_some_iff.mp h1).1
    refine q _ H F _ (slot_bag c h1) (s.slot hl (fun t ht => ?_) (fun k p z => nomatch z)) (hs.set hio) er_slot (lks_slot h1 h2)
    have hlen : i < (killA i env).length := by simpa [killA] using hl
    simp only [ctnA, rsv, rootOf, List.getElem?_set_self hlen, Sl.tr, AT.getP, List.append_nil, Option.some.injEq] at ht
    rw [ht]
theorem sg_name {i : Nat} {n : Str} (hN : X.N.Nodup) (hi : X.N[i]? = some n := by rfl) (hx : Loc X.env.scope n := by first | exact Or.inl rfl | exact Or.inr rfl) (hf : X.fn n = true ∨ X.env.scope.names.lookup n = some .local := by first | exact .inl rfl | exact .inr rfl | assumption) (hio : io.1 i = false := by rfl) : SG X Φ io (.Name n pos) (nameT i) := PG.imp (pg_name hN hi hx hf) fun v σ H Q q => name_run hio q
/-- target = value -/
def asgS (m : M O) (tg : IV → Env' → R Unit) : MS := fun e => R.toS (m e) fun o e1 => match toV o e1 with
  | some t => R.toS (tg t e1) fun _ e2 => .nx e2
  | none => .bad
theorem ss_asg {tg : Expr} {mt : IV → Env' → R Unit} (h : SE X Φ b x ma) (hg : SG X Φ io tg mt) (hs : swapsWithSole [tg] x pos.line X.env = pure false := by rfl) (hw : swappedStores [tg] x X.env = pure none := by rfl)
    (h1 : (assignEach [tg] X.env).map (·.2) = [assign tg X.env] := by rfl) : SS X Φ io (.Assign [tg] x pos) (asgS ma mt) := by
  refine PS.imp (ps_asg h hg hs hw h1) fun D σ H q => ?_
  obtain ⟨F, env, Np, Lp, c, s, i, q⟩ := q
  refine seqES c s i q fun v H' F' env' ao c' s' t' p' q' => ?_
  cases ht : toV (Opd.er ao) (erE env') with
  | none => rw [ht] at q'; exact q'.elim
  | some t =>
    rw [ht] at q'
    obtain ⟨at', e1, e2, c2⟩ := toV1 c' t' ht
    refine ⟨F', env', at', Np, Lp, c2, s', i, e2, ?_⟩
    rw [e1]
    revert q'
    simp only
    cases mt t (erE env') with
    | ok u e2 => exact fun q => q
    | ex c e2 => exact fun q => q
    | bad => exact fun q => q
/-- name = what is a part of another one's tree: an alias -/
def aliS (i : Nat) (m : M O) : MS := fun e => R.toS (m e) fun o e1 => match o with
  | .tm t => if okA i e1 then .nx (setA i t e1) else .bad
  | .vr j q => match ctn e1 j q with
    | some (.lf l) => if okA i e1 then .nx (setA i (.lf l) e1) else .bad
    | some _ => match rsv e1 j with
      | some (k, p) => if okA i e1 && !(k == i) then .nx ((killA i e1).set i (.al k (p ++ q))) else .bad
      | none => .bad
    | none => .bad
theorem ss_ali {i : Nat} {n : Str} {ps : Pos} (hN : X.N.Nodup) (h : SE X Φ b x ma) (hi : X.N[i]? = some n := by rfl) (hx : Loc X.env.scope n := by first | exact Or.inl rfl | exact Or.inr rfl) (hf : X.fn n = true ∨ X.env.scope.names.lookup n = some .local := by first | exact .inl rfl | exact .inr rfl | assumption) (hio : io.1 i = false := by rfl)
    (hs : swapsWith x (some (.Name n ps)) pos.line X.env = pure false := by rfl) : SS X Φ io (.Assign [.Name n ps] x pos) (aliS i ma) := by
  refine PS.imp (ps_set hN hi hx h hs hf) fun D σ H q => ?_
  obtain ⟨F, env, Np, Lp, c, s, hsi, q⟩ := q
  refine seqES c s hsi q fun v H' F' env' ao c' s' t' p' q' => ?_
  have viaT : ∀ t, toV (Opd.er ao) (erE env') = some t → CtS X.K Φ io D env' Np Lp (if okA i (erE env') then .nx (setA i t (erE env')) else .bad) → D.nx (σ.set i (some v)) H' := fun t ht q => by
    obtain ⟨at', e1, rfl, c2⟩ := toV1 c' t' ht
    cases ho : okA i (erE env') with
    | false => rw [ho] at q; exact q.elim
    | true =>
      rw [ho] at q
      obtain ⟨sl, h1, h2⟩ := okA_er ho
      have hl := (List.getElem?_eq_some_iff.mp h1).1
      refine q _ H' F' _ (slot_bag c2 h1) (s'.slot hl (fun t ht => ?_) (fun k p z => nomatch z)) (hsi.set hio) (by rw [er_slot, ← e1]; rfl) (lks_slot h1 h2)
      have hlen : i < (killA i env').length := by simpa [killA] using hl
      simp only [ctnA, rsv, rootOf, List.getElem?_set_self hlen, Sl.tr, AT.getP, List.append_nil, Option.some.injEq] at ht
      rw [ht]
  cases ao with
  | tm u => exact viaT u.er rfl q'
  | vr j r =>
    obtain ⟨u, hu, rfl⟩ := t'
    have hu' : ctnA env' j r = some u := hu
    simp only [Opd.er, ctn_er, hu', Option.map_some] at q'
    have nonleaf : (∀ w l, u ≠ .lf w l) → CtS X.K Φ io D env' Np Lp (match rsv (erE env') j with | some (k, p) => if okA i (erE env') && !(k == i) then .nx ((killA i (erE env')).set i (.al k (p ++ r))) else .bad | none => .bad) → D.nx (σ.set i (some u.val)) H' := fun _ q => by
      rw [rsv_er] at q
      cases hr : rsv env' j with
      | none => rw [hr] at q; exact q.elim
      | some kp =>
        obtain ⟨k, p⟩ := kp
        rw [hr] at q
        simp only at q
        cases ho : okA i (erE env') && !(k == i) with
        | false => rw [ho] at q; exact q.elim
        | true =>
          rw [ho] at q
          obtain ⟨sl, h1, h2⟩ := okA_er (band1 ho)
          have hki : k ≠ i := by simpa using band2 ho
          have hl := (List.getElem?_eq_some_iff.mp h1).1
          have hlen : i < (killA i env').length := by simpa [killA] using hl
          have hk : (killA i env')[i]? = some (kl i sl) := by rw [killA_get, h1]; rfl
          obtain ⟨R, S, r1, r2⟩ := env_split hk
          obtain ⟨k1, k2⟩ := nodesE_kill i env'
          have p1 := r1 (kl i sl)
          have p2 := r2 (kl i sl)
          rw [set_self hk, k1] at p1
          rw [set_self hk, k2] at p2
          refine q _ H' F' ((killA i env').set i (.al k (p ++ r))) ?_ (s'.slot hl (fun t ht => ?_) (fun k' p' z => by cases z; exact hki)) (hsi.set hio) er_slot (lks_slot h1 h2)
          · refine c'.sb ?_ fun q hq => ?_
            · refine Sb.trans (.of_perm ((r1 (.al k (p ++ r))).append_right Np).symm) ?_
              simp only [Sl.nodes, List.nil_append, Opd.nodes]
              refine Sb.head ?_
              exact (Sb.right _ _).trans (.of_perm p1)
            · rcases List.mem_append.mp hq with z | z
              · rcases List.mem_append.mp ((r2 (.al k (p ++ r))).subset z) with z | z
                · simp [Sl.leaves] at z
                · exact List.mem_append_left _ (p2.symm.subset (List.mem_append_right _ z))
              · exact List.mem_append_right _ (List.mem_append_right _ z)
          · simp only [ctnA, rsv, List.getElem?_set_self hlen, rootOf_set (fun z => hki z.symm), rootOf_kill, List.append_nil] at ht
            simp only [ctnA, hr] at hu'
            rw [hu'] at ht
            cases ht
            rfl
    cases u with
    | lf w l => exact viaT (.lf l) (by simp only [Opd.er, toV, ctn_er, hu', Option.map_some, AT.er]) q'
    | nd a bb xs => exact nonleaf (fun w l z => nomatch z) q'
    | dk a kvs => exact nonleaf (fun w l z => nomatch z) q'
end
end Z
/-! Z15: what changes a list. -/
namespace Z
open PySem L2

def nextIs (kn : Nat → Bool) : List Nat → Bool
  | i :: _ => kn i
  | [] => false
def kx {τ : Type} (r : Nat) (P : List Nat) (kn : Nat → Bool) : Sl τ → Sl τ
  | .al j p => if j = r ∧ P.isPrefixOf p = true ∧ nextIs kn (p.drop P.length) = true then .un else .al j p
  | .un => .un
  | .iv t => .iv t
  | .lk t => .lk t
theorem kx_tr {τ : Type} (r : Nat) (P : List Nat) (kn : Nat → Bool) (s : Sl τ) : (kx r P kn s).tr = s.tr := by
  cases s with
  | al i p =>
    simp only [kx]
    split <;> rfl
  | _ => rfl
theorem kx_map {τ υ : Type} (f : τ → υ) (r : Nat) (P : List Nat) (kn : Nat → Bool) (s : Sl τ) : (kx r P kn s).map f = kx r P kn (s.map f) := by
  cases s with
  | al i p =>
    show Sl.map f (if i = r ∧ P.isPrefixOf p = true ∧ nextIs kn (p.drop P.length) = true then .un else .al i p) = if i = r ∧ P.isPrefixOf p = true ∧ nextIs kn (p.drop P.length) = true then .un else .al i p
    by_cases h : i = r ∧ P.isPrefixOf p = true ∧ nextIs kn (p.drop P.length) = true
    · rw [if_pos h, if_pos h]
      rfl
    · rw [if_neg h, if_neg h]
      rfl
  | _ => rfl
theorem kx_nodes (r : Nat) (P : List Nat) (kn : Nat → Bool) (s : Sl AT) : (kx r P kn s).nodes = s.nodes ∧ (kx r P kn s).leaves = s.leaves := by
  cases s with
  | al i p =>
    simp only [kx]
    split <;> exact ⟨rfl, rfl⟩
  | _ => exact ⟨rfl, rfl⟩
def killX {τ : Type} (r : Nat) (P : List Nat) (kn : Nat → Bool) (e : List (Sl τ)) : List (Sl τ) := e.map (kx r P kn)
theorem killX_er (r : Nat) (P : List Nat) (kn : Nat → Bool) (e : AEnv) : erE (killX r P kn e) = killX r P kn (erE e) := by
  simp only [erE, killX, List.map_map]
  exact List.map_congr_left fun s _ => kx_map _ _ _ _ _
theorem nodesE_killX (r : Nat) (P : List Nat) (kn : Nat → Bool) : ∀ e : AEnv, nodesE (killX r P kn e) = nodesE e ∧ leavesE (killX r P kn e) = leavesE e
  | [] => ⟨rfl, rfl⟩
  | s :: e => by
    obtain ⟨h1, h2⟩ := nodesE_killX r P kn e
    obtain ⟨k1, k2⟩ := kx_nodes r P kn s
    constructor
    · show (kx r P kn s).nodes ++ nodesE (killX r P kn e) = s.nodes ++ nodesE e
      rw [h1, k1]
    · show (kx r P kn s).leaves ++ leavesE (killX r P kn e) = s.leaves ++ leavesE e
      rw [h2, k2]
theorem killX_get {τ : Type} (r : Nat) (P : List Nat) (kn : Nat → Bool) (i : Nat) (e : List (Sl τ)) : (killX r P kn e)[i]? = e[i]?.map (kx r P kn) := by simp [killX]
theorem rootOf_killX {τ : Type} (r : Nat) (P : List Nat) (kn : Nat → Bool) (i : Nat) (e : List (Sl τ)) : rootOf (killX r P kn e) i = rootOf e i := by
  simp only [rootOf, killX_get]
  cases e[i]? with
  | none => rfl
  | some s => exact kx_tr r P kn s

/-- what is written: the list's new items, which places are others, what is told -/
def writeR {α : Type} (o : O) (e : Env') (f : List IV → Option (List IV × (Nat → Bool) × α)) : R α := match o with
  | .tm _ => .bad
  | .vr i q => match rsv e i with
    | some (j, p) => match e[j]? with
      | some (.iv root) => match root.getP (p ++ q) with
        | some (.nd true xs) => match f xs with
          | some (ys, kn, a) => .ok a ((killX j (p ++ q) kn e).set j (.iv (root.setP (p ++ q) (.nd true ys))))
          | none => .bad
        | _ => .bad
      | _ => .bad
    | none => .bad
theorem AT.getP_cat : ∀ (P r : List Nat) (t s : AT), t.getP P = some s → t.getP (P ++ r) = s.getP r
  | [], r, t, s, h => by
    simp only [AT.getP, Option.some.injEq] at h
    subst h
    rfl
  | i :: P, r, t, s, h => by
    simp only [AT.getP, List.cons_append] at h ⊢
    cases hx : t.kids[i]? with
    | none => rw [hx] at h; simp at h
    | some x =>
      rw [hx] at h
      exact AT.getP_cat P r x s h
theorem kids_setK {t : AT} {i : Nat} {x u : AT} (h : t.kids[i]? = some x) : (t.setK i u).kids = t.kids.set i u := by
  cases t with
  | lf v l => simp [AT.kids] at h
  | dk a kvs => simp [AT.kids] at h
  | nd a b xs => rfl
theorem AT.getP_set : ∀ (P : List Nat) (t s u : AT), t.getP P = some s → (t.setP P u).getP P = some u
  | [], t, s, u, h => by simp [AT.setP, AT.getP]
  | i :: P, t, s, u, h => by
    simp only [AT.getP] at h
    cases hx : t.kids[i]? with
    | none => rw [hx] at h; simp at h
    | some x =>
      rw [hx] at h
      simp only [AT.setP, hx, AT.getP, kids_setK hx]
      rw [List.getElem?_set_self (List.getElem?_eq_some_iff.mp hx).1]
      exact AT.getP_set P x s u h
theorem AT.getP_other : ∀ (P p : List Nat) (t s u w : AT), t.getP P = some s → ¬ P <+: p → (t.setP P u).getP p = some w → ∃ w', t.getP p = some w' ∧ w'.val = w.val
  | [], p, t, s, u, w, h, hn, hw => absurd (List.nil_prefix) hn
  | i :: P, [], t, s, u, w, h, hn, hw => by
    simp only [AT.getP] at h
    cases hx : t.kids[i]? with
    | none => rw [hx] at h; simp at h
    | some x =>
      rw [hx] at h
      simp only [AT.setP, hx, AT.getP, Option.some.injEq] at hw
      subst hw
      exact ⟨t, rfl, (AT.val_setK _ _ _).symm⟩
  | i :: P, k :: p, t, s, u, w, h, hn, hw => by
    simp only [AT.getP] at h
    cases hx : t.kids[i]? with
    | none => rw [hx] at h; simp at h
    | some x =>
      rw [hx] at h
      simp only [AT.setP, hx, AT.getP, kids_setK hx] at hw ⊢
      by_cases hik : i = k
      · subst hik
        rw [List.getElem?_set_self (List.getElem?_eq_some_iff.mp hx).1] at hw
        rw [hx]
        exact AT.getP_other P p x s u w h (fun z => hn (List.cons_prefix_cons.mpr ⟨rfl, z⟩)) hw
      · rw [List.getElem?_set_ne hik] at hw
        cases hk : t.kids[k]? with
        | none => rw [hk] at hw; simp at hw
        | some z =>
          rw [hk] at hw
          exact ⟨w, hw, rfl⟩
section
variable {X : Cx} {K : PySem.W.Frag} {Φ : Fx} {io : IO} {b b1 b2 b3 : Bool} {σ : St} {D : Ends} {H F : Hp} {Q : VK} {env env0 : AEnv} {Np Nb : List (Addr × HO)} {Lp : List (V × LF)} {x y : Expr} {es : List Expr} {ma mb : M O} {mas : M (List O)} {pos p : Pos}
/-- the values behind a change of the list at P in slot j -/
theorem SR.write (h : SR env σ) {j : Nat} {root : AT} {P : List Nat} {a : Addr} {xs ys : List AT} {kn : Nat → Bool} (hj : env[j]? = some (.iv root)) (hg : root.getP P = some (.nd a true xs)) (hk : ∀ i, kn i = false → ys[i]? = xs[i]?) :
    SR ((killX j P kn env).set j (.iv (root.setP P (.nd a true ys)))) σ := by
  have hlen : (killX j P kn env).length = env.length := by simp [killX]
  have hjl : j < (killX j P kn env).length := by
    rw [hlen]
    exact (List.getElem?_eq_some_iff.mp hj).1
  have hgs := AT.getP_set P root _ (.nd a true ys) hg
  refine ⟨by rw [List.length_set, hlen]; exact h.1, fun i u hu => ?_⟩
  have root_j : rootOf ((killX j P kn env).set j (.iv (root.setP P (.nd a true ys)))) j = some (root.setP P (.nd a true ys)) := by simp only [rootOf, List.getElem?_set_self hjl, Sl.tr]
  have root_e : rootOf env j = some root := by simp only [rootOf, hj, Sl.tr]
  by_cases hij : i = j
  · subst hij
    have e1 : ctnA env i [] = some root := by simp [ctnA, rsv, hj, root_e, AT.getP]
    have e2 := h.2 i root e1
    simp only [ctnA, rsv, List.getElem?_set_self hjl, root_j, List.append_nil, AT.getP, Option.some.injEq] at hu
    subst hu
    rw [AT.val_setP P root (.nd a true ys) _ hg rfl]
    exact e2
  · have hji : j ≠ i := fun q => hij q.symm
    simp only [ctnA, rsv, List.getElem?_set_ne hji, killX_get] at hu
    cases he : env[i]? with
    | none => rw [he] at hu; simp at hu
    | some w =>
      rw [he] at hu
      cases w with
      | un => simp [kx] at hu
      | iv w => exact h.2 i u (by simpa [ctnA, rsv, he, kx, rootOf_set hji, rootOf_killX] using hu)
      | lk w => exact h.2 i u (by simpa [ctnA, rsv, he, kx, rootOf_set hji, rootOf_killX] using hu)
      | al k p =>
        simp only [Option.map_some, kx] at hu
        by_cases hc : k = j ∧ P.isPrefixOf p = true ∧ nextIs kn (p.drop P.length) = true
        · rw [if_pos hc] at hu
          simp at hu
        · rw [if_neg hc] at hu
          by_cases hkj : k = j
          · subst hkj
            simp only [root_j, List.append_nil] at hu
            have fin : ∀ w', root.getP p = some w' → w'.val = u.val → σ[i]? = some (some u.val) := fun w' h1 h2 => by
              rw [← h2]
              exact h.2 i w' (by simp only [ctnA, rsv, he, root_e, List.append_nil]; exact h1)
            by_cases hp : P <+: p
            · obtain ⟨r, rfl⟩ := hp
              rw [AT.getP_cat P r _ _ hgs] at hu
              cases r with
              | nil =>
                simp only [AT.getP, Option.some.injEq] at hu
                subst hu
                exact fin (.nd a true xs) (by rw [List.append_nil]; exact hg) rfl
              | cons m r =>
                have hm : kn m = false := by
                  cases hkm : kn m with
                  | false => rfl
                  | true => exact absurd ⟨rfl, List.isPrefixOf_iff_prefix.mpr (List.prefix_append _ _), by simp [nextIs, hkm]⟩ hc
                have e := AT.getP_cat P (m :: r) root _ hg
                simp only [AT.getP, AT.kids, hk m hm] at hu
                refine fin u ?_ rfl
                rw [e]
                simp only [AT.getP, AT.kids]
                exact hu
            · obtain ⟨w', h1, h2⟩ := AT.getP_other P p root _ _ u hg hp hu
              exact fin w' h1 h2
          · refine h.2 i u ?_
            simpa [ctnA, rsv, he, rootOf_set (fun z => hkj z.symm), rootOf_killX] using hu
/-- the bag behind such a change -/
theorem write_bag {g : Gh} {j : Nat} {root : AT} {P : List Nat} {a : Addr} {xs ys : List AT} {kn : Nat → Bool} {M M' : List (Addr × HO)} {LM LM' : List (V × LF)} (c : CB K g F H (nodesE env ++ M) (leavesE env ++ LM)) (hj : env[j]? = some (.iv root)) (hg : root.getP P = some (.nd a true xs))
    (hn : Sb (AT.nodesL ys ++ M') (AT.nodesL xs ++ M)) (hl : ∀ q ∈ AT.leavesL ys ++ LM', q ∈ AT.leavesL xs ∨ q ∈ leavesE env ++ LM) :
    H a = some (.lst (xs.map AT.val)) ∧ CB K g F (upd H a (.lst (ys.map AT.val))) (nodesE ((killX j P kn env).set j (.iv (root.setP P (.nd a true ys)))) ++ M') (leavesE ((killX j P kn env).set j (.iv (root.setP P (.nd a true ys)))) ++ LM') := by
  obtain ⟨f1, Nc, Lc, f2⟩ := AT.focus P root _ hg
  obtain ⟨g1, g2⟩ := f2 (.nd a true xs) rfl
  rw [f1] at g1 g2
  obtain ⟨g3, g4⟩ := f2 (.nd a true ys) rfl
  have hk : (killX j P kn env)[j]? = some (.iv root) := by rw [killX_get, hj]; rfl
  obtain ⟨R, S, r1, r2⟩ := env_split hk
  obtain ⟨k1, k2⟩ := nodesE_killX j P kn env
  have p1 := r1 (.iv root)
  have p2 := r2 (.iv root)
  rw [set_self hk, k1] at p1
  rw [set_self hk, k2] at p2
  have whole : (nodesE env ++ M).Perm ((a, HO.lst (xs.map AT.val)) :: ((AT.nodesL xs ++ M) ++ (Nc ++ R))) := by
    refine (p1.append_right M).trans ?_
    refine ((g1.append_right R).append_right M).trans ?_
    simp only [AT.nodes, mkHO, if_true, List.cons_append, List.append_assoc]
    refine List.Perm.cons _ (List.Perm.append_left _ ?_)
    rw [← List.append_assoc]
    exact List.perm_append_comm
  have c1 : CB K g F H ((a, HO.lst (xs.map AT.val)) :: ((AT.nodesL ys ++ M') ++ (Nc ++ R))) (leavesE env ++ LM) := by
    refine c.sb ?_ fun _ h => h
    refine Sb.trans ?_ (.of_perm whole)
    exact (Sb.refl [_]).app hn.head
  have c2 := c1.wr (.lst (ys.map AT.val))
  refine ⟨c1.at_ _ List.mem_cons_self, ⟨c2.sub, ?_, ?_, ?_, fun q hq => ?_, c2.keep, c2.keepF, ?_, c2.newF⟩⟩
  all_goals (try (
    have perm : (nodesE ((killX j P kn env).set j (.iv (root.setP P (.nd a true ys)))) ++ M').Perm ((a, HO.lst (ys.map AT.val)) :: ((AT.nodesL ys ++ M') ++ (Nc ++ R))) := by
      refine ((r1 _).append_right M').trans ?_
      refine ((g3.append_right R).append_right M').trans ?_
      simp only [AT.nodes, mkHO, if_true, List.cons_append, List.append_assoc]
      refine List.Perm.cons _ (List.Perm.append_left _ ?_)
      rw [← List.append_assoc]
      exact List.perm_append_comm))
  · exact (perm.map (·.1)).nodup_iff.mpr c2.nd
  · exact fun p hp => c2.at_ p (perm.subset hp)
  · exact fun p hp => c2.off p (perm.subset hp)
  · have old : ∀ q, q ∈ AT.leavesL xs ∨ q ∈ leavesE env ++ LM → q ∈ leavesE env ++ LM := fun q hq => hq.elim (fun z => List.mem_append_left _ (p2.symm.subset (List.mem_append_left _ (g2.symm.subset (List.mem_append_left _ (by simpa [AT.leaves] using z)))))) id
    have old2 : ∀ q, q ∈ Lc ∨ q ∈ S → q ∈ leavesE env ++ LM := fun q hq => List.mem_append_left _ (p2.symm.subset (hq.elim (fun z => List.mem_append_left _ (g2.symm.subset (List.mem_append_right _ z))) (List.mem_append_right _)))
    rcases List.mem_append.mp hq with z | z
    · rcases List.mem_append.mp ((r2 _).subset z) with z | z
      · rcases List.mem_append.mp (g4.subset z) with z | z
        · exact c2.lf q (old q (hl q (List.mem_append_left _ (by simpa [AT.leaves] using z))))
        · exact c2.lf q (old2 q (.inl z))
      · exact c2.lf q (old2 q (.inr z))
    · exact c2.lf q (old q (hl q (List.mem_append_right _ z)))
  · exact fun p hp => c2.newN p (perm.subset hp)
/-- where a change takes place -/
theorem write_at {α : Type} {o : AO} {f : List IV → Option (List IV × (Nat → Bool) × α)} {r : R α} (h : writeR (Opd.er o) (erE env) f = r) (hb : ∀ P : Prop, r = .bad → P) :
    ∃ i q j p root a xs ys kn z, o = .vr i q ∧ rsv env i = some (j, p) ∧ env[j]? = some (.iv root) ∧ root.getP (p ++ q) = some (.nd a true xs) ∧ f (AT.erL xs) = some (ys, kn, z) ∧ ctnA env i q = some (.nd a true xs) ∧
      r = .ok z ((killX j (p ++ q) kn (erE env)).set j (.iv (root.er.setP (p ++ q) (.nd true ys)))) := by
  cases o with
  | tm t => exact hb _ h.symm
  | vr i q =>
    simp only [writeR, Opd.er, rsv_er] at h
    cases hr : rsv env i with
    | none => rw [hr] at h; exact hb _ h.symm
    | some jp =>
      obtain ⟨j, p⟩ := jp
      rw [hr] at h
      simp only [erE_get] at h
      cases hj : env[j]? with
      | none => rw [hj] at h; exact hb _ h.symm
      | some w =>
        rw [hj] at h
        cases w with
        | un => exact hb _ h.symm
        | lk t => exact hb _ h.symm
        | al k p => exact hb _ h.symm
        | iv root =>
          simp only [Option.map_some, Sl.map, AT.er_getP] at h
          cases hg : root.getP (p ++ q) with
          | none => rw [hg] at h; exact hb _ h.symm
          | some u =>
            rw [hg] at h
            cases u with
            | lf v l => exact hb _ h.symm
            | dk a kvs => exact hb _ h.symm
            | nd a bb xs =>
              cases bb with
              | false => exact hb _ h.symm
              | true =>
                simp only [Option.map_some, AT.er] at h
                cases hf : f (AT.erL xs) with
                | none => rw [hf] at h; exact hb _ h.symm
                | some res =>
                  obtain ⟨ys, kn, z⟩ := res
                  rw [hf] at h
                  refine ⟨i, q, j, p, root, a, xs, ys, kn, z, rfl, hr, hj, hg, hf, ?_, h.symm⟩
                  simp only [ctnA, hr, rootOf, hj, Sl.tr]
                  exact hg
theorem write_er {j : Nat} {P : List Nat} {kn : Nat → Bool} {root : AT} {a : Addr} {ys : List AT} : erE ((killX j P kn env).set j (.iv (root.setP P (.nd a true ys)))) = (killX j P kn (erE env)).set j (.iv (root.er.setP P (.nd true (AT.erL ys)))) := by
  rw [set_er, killX_er]
  simp only [Sl.map, AT.er_setP, AT.er]
theorem lks_write {j : Nat} {P : List Nat} {kn : Nat → Bool} {root : AT} {s : Sl AT} (hj : env[j]? = some (.iv root)) : LkS env ((killX j P kn env).set j s) := fun k t hk => by
  have hne : j ≠ k := fun e => by
    subst e
    rw [hj] at hk
    cases hk
  rw [List.getElem?_set_ne hne, killX_get, hk]
  rfl
end
end Z
/-! Z16: moves, freezing, o[k] = v, the methods of lists. -/
namespace Z
open PySem L2
section
variable {X : Cx} {K : PySem.W.Frag} {Φ : Fx} {io : IO} {b b1 b2 b3 : Bool} {σ : St} {D : Ends} {H F : Hp} {Q : VK} {env env0 : AEnv} {Np Nb : List (Addr × HO)} {Lp : List (V × LF)} {x y : Expr} {es : List Expr} {ma mb mo mk : M O} {mas : M (List O)} {pos p : Pos}
/-- a variable's tree leaves it -/
def mvM (i : Nat) : M O := fun e => match e[i]? with
  | some (.iv (.lf l)) => .ok (.tm (.lf l)) e
  | some (.iv t) => .ok (.tm t) (e.set i .un)
  | _ => varM i e
/-- a variable's tree is frozen -/
def frM (i : Nat) : M O := fun e => match e[i]? with
  | some (.iv (.lf l)) => .ok (.tm (.lf l)) e
  | some (.iv t) => match t.toD with
    | some d => .ok (.tm (.d d)) (e.set i (.iv (.d d)))
    | none => .bad
  | _ => varM i e
theorem varM_run {i : Nat} (c : CB K Φ.g F H (nodesE env ++ Np) (leavesE env ++ Lp)) (s : SR env σ) (q : Ct K Φ b σ Q H env Np Lp (varM i (erE env))) : tVar i σ H Q := by
  simp only [varM, ctn_er] at q
  cases ht : ctnA env i [] with
  | none => rw [ht] at q; exact q.elim
  | some t =>
    rw [ht] at q
    exact ⟨t.val, s.at ht, q t.val H F env (.vr i []) (by simpa [Opd.nodes, Opd.leaves] using c) s rfl rfl ⟨t, ht, rfl⟩ (fun _ => ⟨rfl, .refl H⟩) (.refl env)⟩
theorem lks_set {i : Nat} {t : AT} {s : Sl AT} (h : env[i]? = some (.iv t)) : LkS env (env.set i s) := fun k u hk => by
  have hne : i ≠ k := fun e => by
    subst e
    rw [h] at hk
    cases hk
  rw [List.getElem?_set_ne hne]
  exact hk
theorem ctn_iv {i : Nat} {t : AT} (h : env[i]? = some (.iv t)) : ctnA env i [] = some t := by simp [ctnA, rsv, rootOf, h, Sl.tr, AT.getP]
theorem se_mvE {i : Nat} {e : Expr} (h : PE X e (tVar i)) : SE X Φ false e (mvM i) := by
  refine PE.imp h fun σ H Q q => ?_
  obtain ⟨F, env, Np, Lp, c, s, q⟩ := q
  simp only [mvM, erE_get] at q
  cases he : env[i]? with
  | none => rw [he] at q; exact varM_run c s q
  | some w =>
    rw [he] at q
    cases w with
    | un => exact varM_run c s q
    | lk t => exact varM_run c s q
    | al j p => exact varM_run c s q
    | iv t =>
      have hv := s.at (ctn_iv he)
      obtain ⟨R, S, r1, r2⟩ := env_split he
      have p1 := r1 (.iv t)
      have p2 := r2 (.iv t)
      rw [set_self he] at p1 p2
      have own : (∀ v l, t ≠ .lf v l) → Ct X.K Φ false σ Q H env Np Lp (.ok (.tm t.er) ((erE env).set i .un)) → tVar i σ H Q := fun _ q => by
        refine ⟨t.val, hv, q t.val H F (env.set i .un) (.tm t) ?_ (s.un i) (by rw [set_er]; rfl) rfl ⟨t, rfl, rfl⟩ (fun z => nomatch z) (lks_set he)⟩
        refine c.sb (.of_perm ?_) fun q hq => ?_
        · refine (p1.append_right Np).trans ?_
          simp only [Sl.nodes, List.append_assoc, Opd.nodes]
          refine List.Perm.trans ?_ (List.Perm.append_right _ (r1 .un).symm)
          simp only [Sl.nodes, List.nil_append]
          exact perm3 _ _ _
        · rcases List.mem_append.mp hq with z | z
          · have z' := (r2 .un).subset z
            simp only [Sl.leaves, List.nil_append] at z'
            exact List.mem_append_left _ (p2.symm.subset (List.mem_append_right _ z'))
          · rcases List.mem_append.mp z with z | z
            · exact List.mem_append_left _ (p2.symm.subset (List.mem_append_left _ z))
            · exact List.mem_append_right _ z
      cases t with
      | lf v l =>
        simp only [Option.map_some, Sl.map, AT.er] at q
        exact ⟨v, hv, Ct.leaf q c s (c.lf (v, l) (List.mem_append_left _ (p2.symm.subset (List.mem_append_left _ (by simp [Sl.leaves, AT.leaves])))))⟩
      | nd a bb xs => exact own (fun v l z => nomatch z) q
      | dk a kvs => exact own (fun v l z => nomatch z) q
theorem se_frE {i : Nat} {e : Expr} (h : PE X e (tVar i)) : SE X Φ false e (frM i) := by
  refine PE.imp h fun σ H Q q => ?_
  obtain ⟨F, env, Np, Lp, c, s, q⟩ := q
  simp only [frM, erE_get] at q
  cases he : env[i]? with
  | none => rw [he] at q; exact varM_run c s q
  | some w =>
    rw [he] at q
    cases w with
    | un => exact varM_run c s q
    | lk t => exact varM_run c s q
    | al j p => exact varM_run c s q
    | iv t =>
      have hv := s.at (ctn_iv he)
      obtain ⟨R, S, r1, r2⟩ := env_split he
      have p1 := r1 (.iv t)
      have p2 := r2 (.iv t)
      rw [set_self he] at p1 p2
      have own : (∀ v l, t ≠ .lf v l) → Ct X.K Φ false σ Q H env Np Lp (match t.er.toD with | some d => .ok (.tm (.d d)) ((erE env).set i (.iv (.d d))) | none => .bad) → tVar i σ H Q := fun _ q => by
        cases hd : t.er.toD with
        | none => rw [hd] at q; exact q.elim
        | some d =>
          rw [hd] at q
          have c1 : CB X.K Φ.g F H (t.nodes ++ (R ++ Np)) (t.leaves ++ (leavesE env ++ Lp)) := by
            refine c.sb (.of_perm ?_) fun q hq => ?_
            · refine (p1.append_right Np).trans ?_
              simp only [Sl.nodes, List.append_assoc]
              exact .refl _
            · rcases List.mem_append.mp hq with z | z
              · exact List.mem_append_left _ (p2.symm.subset (List.mem_append_left _ z))
              · exact z
          obtain ⟨F', c2, l2, q2⟩ := CB.freeze t c1 hd
          have c3 := c2.leaf (v := t.val) (l := .d d) q2
          refine ⟨t.val, hv, q t.val H F' (env.set i (.iv (.lf t.val (.d d)))) (.tm (.lf t.val (.d d))) ?_ ?_ (by rw [set_er]; rfl) rfl ⟨_, rfl, rfl⟩ (fun z => nomatch z) (lks_set he)⟩
          · refine c3.sb (.of_perm ?_) fun q hq => ?_
            · simp only [Opd.nodes, AT.nodes, List.nil_append]
              refine List.Perm.append_right _ ?_
              have := r1 (.iv (.lf t.val (.d d)))
              simpa [Sl.nodes, AT.nodes] using this.symm
            · simp only [Opd.leaves, AT.leaves] at hq
              have one : ∀ q : V × LF, q ∈ [(t.val, LF.d d)] → q ∈ (t.val, LF.d d) :: (leavesE env ++ Lp) := fun q hq => by
                rw [List.mem_singleton.mp hq]
                exact List.mem_cons_self
              rcases List.mem_append.mp hq with z | z
              · rcases List.mem_append.mp ((r2 _).subset z) with z | z
                · exact one q (by simpa [Sl.leaves, AT.leaves] using z)
                · exact List.mem_cons_of_mem _ (List.mem_append_left _ (p2.symm.subset (List.mem_append_right _ z)))
              · rcases List.mem_append.mp z with z | z
                · exact one q z
                · exact List.mem_cons_of_mem _ (List.mem_append_right _ z)
          · -- the values
            have hil := (List.getElem?_eq_some_iff.mp he).1
            refine ⟨by rw [List.length_set]; exact s.1, fun k u hu => ?_⟩
            by_cases hk : i = k
            · subst hk
              simp only [ctnA, rsv, rootOf, List.getElem?_set_self hil, Sl.tr, List.append_nil, AT.getP, Option.some.injEq] at hu
              subst hu
              exact hv
            · simp only [ctnA, rsv, List.getElem?_set_ne hk] at hu
              cases hek : env[k]? with
              | none => rw [hek] at hu; simp at hu
              | some w =>
                rw [hek] at hu
                cases w with
                | un => simp at hu
                | iv w => exact s.2 k u (by simpa [ctnA, rsv, hek, rootOf_set hk] using hu)
                | lk w => exact s.2 k u (by simpa [ctnA, rsv, hek, rootOf_set hk] using hu)
                | al j p =>
                  simp only [List.append_nil] at hu
                  by_cases hj : i = j
                  · subst hj
                    simp only [rootOf, List.getElem?_set_self hil, Sl.tr] at hu
                    cases p with
                    | nil =>
                      simp only [AT.getP, Option.some.injEq] at hu
                      subst hu
                      exact s.2 k t (by simp [ctnA, rsv, hek, rootOf, he, Sl.tr, AT.getP])
                    | cons m p => simp [AT.getP, AT.kids] at hu
                  · exact s.2 k u (by simpa [ctnA, rsv, hek, rootOf_set hj] using hu)
      cases t with
      | lf v l =>
        simp only [Option.map_some, Sl.map, AT.er] at q
        exact ⟨v, hv, Ct.leaf q c s (c.lf (v, l) (List.mem_append_left _ (p2.symm.subset (List.mem_append_left _ (by simp [Sl.leaves, AT.leaves])))))⟩
      | nd a bb xs => exact own (fun v l z => nomatch z) q
      | dk a kvs => exact own (fun v l z => nomatch z) q
theorem se_mv (i : Nat) {n : Str} (hN : X.N[i]? = some n := by rfl) (hv : Vis X.env.scope n := by first | exact Or.inl rfl | exact Or.inr (Or.inl rfl) | exact Or.inr (Or.inr rfl)) (hd : (n == ("__debug__" : Str)) = false := by decide)
    (hcd : (n == ("__classdict__" : Str)) = false := by decide) : SE X Φ false (.Name n pos) (mvM i) := se_mvE (pe_var hN hv hd hcd)
theorem se_fr (i : Nat) {n : Str} (hN : X.N[i]? = some n := by rfl) (hv : Vis X.env.scope n := by first | exact Or.inl rfl | exact Or.inr (Or.inl rfl) | exact Or.inr (Or.inr rfl)) (hd : (n == ("__debug__" : Str)) = false := by decide)
    (hcd : (n == ("__classdict__" : Str)) = false := by decide) : SE X Φ false (.Name n pos) (frM i) := se_frE (pe_var hN hv hd hcd)

/-! ### methods of lists -/
def isLs : Option IV → Bool
  | some (.nd true _) => true
  | _ => false
/-- a method of the list o: its arguments first, then what it does -/
def methM {α : Type} (ba : Bool) (mo : M O) (ma : M α) (f : O → α → Env' → R O) : M O := fun e => R.bind (mo e) fun o e1 => if isLs (O.tree o e1) then R.bind (ma e1) fun a e2 => if O.stays ba o then f o a e2 else .bad else .bad
def apF (t : IV) (xs : List IV) : Option (List IV × (Nat → Bool) × Unit) := if lim xs.length then some (xs ++ [t], fun i => decide (xs.length ≤ i), ()) else none
def apR (o : O) (t : Option IV) (e : Env') : R O := match t with
  | some t => R.bind (writeR o e (apF t)) fun _ e' => .ok (.tm (.d .none)) e'
  | none => .bad
def appM (ba : Bool) (mo ma : M O) : M O := methM ba mo ma fun o a e => apR o (toV a e) e
theorem lim_lt {n : Nat} (h : lim n = true) : n < sizeLine := Nat.lt_of_le_of_lt (of_decide_eq_true h) (by decide)
theorem tyL_of {ao : AO} {v : V} (c : CB K Φ.g F H (nodesE env ++ (Opd.nodes ao ++ Np)) (leavesE env ++ (Opd.leaves ao ++ Lp))) (t : ∃ t, AO.tree ao env = some t ∧ t.val = v) (h : isLs (O.tree (Opd.er ao) (erE env)) = true) : tyV K "list" v H := by
  obtain ⟨t, ht, rfl⟩ := t
  rw [tree_er, ht] at h
  cases t with
  | lf v l => simp [AT.er, isLs] at h
  | dk a kvs => simp [AT.er, isLs] at h
  | nd a bb xs =>
    cases bb with
    | false => simp [AT.er, isLs] at h
    | true => exact .inl ⟨rfl, _, .inl (.inl (top_of c ht))⟩
theorem meth1 {f : O → O → Env' → R O} {r : V → List V → Hp → VK → Prop} (q : tE K Φ b (methM b2 mo ma f) σ H Q) (hb : b = false)
    (k : ∀ v1 v2 H2 F2 env2 ao1 ao2 Np Lp, CB K Φ.g F2 H2 (nodesE env2 ++ (Opd.nodes ao2 ++ (Opd.nodes ao1 ++ Np))) (leavesE env2 ++ (Opd.leaves ao2 ++ (Opd.leaves ao1 ++ Lp))) → SR env2 σ →
      (∀ t, AO.tree ao1 env2 = some t → t.val = v1) → (∃ t, AO.tree ao2 env2 = some t ∧ t.val = v2) → Ct K Φ false σ Q H2 env2 Np Lp (f (Opd.er ao1) (Opd.er ao2) (erE env2)) → r v1 [v2] H2 Q) :
    tBM K "list" r (tE K Φ b1 mo) (tCons (tE K Φ b2 ma) tNil) σ H Q := by
  subst hb
  refine seqE q (fun z => absurd z Bool.false_ne_true) fun v1 H1 F1 env env1 ao1 Np Lp c1 s1 t1 p1 q1 => ?_
  cases hl : isLs (O.tree (Opd.er ao1) (erE env1)) with
  | false => rw [hl] at q1; exact q1.elim
  | true =>
    rw [hl] at q1
    refine ⟨tyL_of c1 t1 hl, ?_⟩
    refine seqA (b := false) (f := fun a e2 => if O.stays b2 (Opd.er ao1) then f (Opd.er ao1) a e2 else .bad) c1 s1 q1 (fun z => absurd z Bool.false_ne_true) fun v2 H2 F2 env2 ao2 c2 s2 t2 p2 q2 => ?_
    cases hs : O.stays b2 (Opd.er ao1) with
    | false => rw [hs] at q2; exact q2.elim
    | true =>
      rw [hs] at q2
      exact k v1 v2 H2 F2 env2 ao1 ao2 Np Lp c2 s2 (fun t ht => val_stays hs s1 s2 p2 t1 ht) t2 q2
def nilM : M Unit := fun e => .ok () e
theorem meth0 {f : O → Unit → Env' → R O} {r : V → List V → Hp → VK → Prop} (q : tE K Φ b (methM true mo nilM f) σ H Q) (hb : b = false)
    (k : ∀ v1 H2 F2 env2 ao1 Np Lp, CB K Φ.g F2 H2 (nodesE env2 ++ (Opd.nodes ao1 ++ Np)) (leavesE env2 ++ (Opd.leaves ao1 ++ Lp)) → SR env2 σ →
      (∃ t, AO.tree ao1 env2 = some t ∧ t.val = v1) → Ct K Φ false σ Q H2 env2 Np Lp (f (Opd.er ao1) () (erE env2)) → r v1 [] H2 Q) :
    tBM0 K "list" r (tE K Φ b1 mo) σ H Q := by
  subst hb
  refine seqE q (fun z => absurd z Bool.false_ne_true) fun v1 H1 F1 env env1 ao1 Np Lp c1 s1 t1 p1 q1 => ?_
  cases hl : isLs (O.tree (Opd.er ao1) (erE env1)) with
  | false => rw [hl] at q1; exact q1.elim
  | true =>
    rw [hl] at q1
    refine ⟨tyL_of c1 t1 hl, k v1 H1 F1 env1 ao1 Np Lp c1 s1 t1 ?_⟩
    have hs : O.stays true (Opd.er ao1) = true := by
      cases ao1 with
      | tm t => rfl
      | vr i q => cases q <;> rfl
    have q1 : Ct K Φ false σ Q H1 env1 Np Lp (if O.stays true (Opd.er ao1) then f (Opd.er ao1) () (erE env1) else .bad) := q1
    rw [hs] at q1
    exact q1
theorem q_bad {α : Type} {r : R α} {f : α → Env' → R O} (q : Ct K Φ b σ Q H env Np Lp (R.bind r f)) (P : Prop) (e : r = .bad) : P := by
  rw [e] at q
  exact q.elim
theorem kn_len {xs : List AT} {t : AT} {i : Nat} (h : decide ((AT.erL xs).length ≤ i) = false) : (xs ++ [t])[i]? = xs[i]? := by
  have : i < xs.length := by
    rw [AT.erL_map, List.length_map] at h
    simpa using h
  rw [List.getElem?_append_left this]
theorem erL_append (xs ys : List AT) : AT.erL (xs ++ ys) = AT.erL xs ++ AT.erL ys := by simp [AT.erL_map]
/-- a write is done: what follows -/
theorem Ct.wr {a : Addr} {xs : List AT} {j : Nat} {p q : List Nat} {root : AT} {ys : List AT} {kn : Nat → Bool} {t : AT} {M : List (Addr × HO)} {LM : List (V × LF)} (qq : Ct K Φ false σ Q H env Np Lp (.ok (.tm t.er) ((killX j (p ++ q) kn (erE env)).set j (.iv (root.er.setP (p ++ q) (.nd true (AT.erL ys)))))))
    (c : CB K Φ.g F H (nodesE env ++ M) (leavesE env ++ LM)) (s : SR env σ) (hj : env[j]? = some (.iv root)) (hg : root.getP (p ++ q) = some (.nd a true xs)) (hk : ∀ i, kn i = false → ys[i]? = xs[i]?)
    (hn : Sb (AT.nodesL ys ++ (t.nodes ++ Np)) (AT.nodesL xs ++ M)) (hl : ∀ q ∈ AT.leavesL ys ++ (t.leaves ++ Lp), q ∈ AT.leavesL xs ∨ q ∈ leavesE env ++ LM) :
    H a = some (.lst (xs.map AT.val)) ∧ Q t.val (upd H a (.lst (ys.map AT.val))) := by
  obtain ⟨hH, c2⟩ := write_bag (kn := kn) c hj hg hn hl
  exact ⟨hH, qq t.val _ F _ (.tm t) c2 (s.write hj hg hk) write_er rfl ⟨t, rfl, rfl⟩ (fun z => absurd z Bool.false_ne_true) (lks_write hj)⟩
def noneA : AT := .lf .non (.d .none)
theorem CB.noneL {g : Gh} {N : List (Addr × HO)} {L : List (V × LF)} (c : CB K g F H N L) : CB K g F H N ((.non, .d .none) :: L) := c.leaf (v := .non) (l := .d .none) .non
/-- append -/
theorem t_append (q : tE K Φ false (appM b2 mo ma) σ H Q) : tBM K "list" rAppend (tE K Φ b1 mo) (tCons (tE K Φ b2 ma) tNil) σ H Q := by
  refine meth1 q rfl fun v1 v2 H2 F2 env2 ao1 ao2 Np Lp c s t1 t2 q => ?_
  cases ht : toV (Opd.er ao2) (erE env2) with
  | none => rw [ht] at q; exact q.elim
  | some t =>
    rw [ht] at q
    obtain ⟨at', e1, e2, c2⟩ := toV1 (Np := Opd.nodes ao1 ++ Np) (Lp := Opd.leaves ao1 ++ Lp) c t2 ht
    have q : Ct K Φ false σ Q H2 env2 Np Lp (R.bind (writeR (Opd.er ao1) (erE env2) (apF t)) fun _ e' => .ok (.tm (.d .none)) e') := q
    obtain ⟨i, r, j, p, root, a, xs, ys, kn, z, rfl, hr, hj, hg, hf, hc, hw⟩ := write_at rfl (q_bad q)
    rw [hw] at q
    simp only [apF] at hf
    cases hl : lim (AT.erL xs).length with
    | false => rw [hl] at hf; simp at hf
    | true =>
      rw [hl] at hf
      simp only [if_true, Option.some.injEq, Prod.mk.injEq] at hf
      obtain ⟨rfl, rfl, _⟩ := hf
      have ev := t1 _ hc
      have c3 := (c2.noneL).sb (N' := nodesE env2 ++ (at'.nodes ++ Np)) (L' := leavesE env2 ++ (at'.leaves ++ ((V.non, LF.d .none) :: Lp))) (by simpa [Opd.nodes] using Sb.refl _) fun q hq => by
        rcases List.mem_append.mp hq with z | z
        · exact List.mem_cons_of_mem _ (List.mem_append_left _ z)
        · rcases List.mem_append.mp z with z | z
          · exact List.mem_cons_of_mem _ (List.mem_append_right _ (List.mem_append_left _ z))
          · rcases List.mem_cons.mp z with rfl | z
            · exact List.mem_cons_self
            · exact List.mem_cons_of_mem _ (List.mem_append_right _ (List.mem_append_right _ (List.mem_append_right _ z)))
      have e3 : AT.erL xs ++ [t] = AT.erL (xs ++ [at']) := by rw [erL_append, ← e1]; simp [AT.erL]
      rw [e3] at q
      obtain ⟨hH, hq⟩ := Ct.wr (t := noneA) (ys := xs ++ [at']) q c3 s hj hg (fun i hi => kn_len hi) (by
        simp only [AT.nodesL_append, AT.nodesL, List.append_nil, noneA, AT.nodes, List.nil_append, List.append_assoc]
        exact Sb.refl _) (fun q hq => by
        simp only [AT.leavesL_append, AT.leavesL, List.append_nil, noneA, AT.leaves, List.append_assoc] at hq
        rcases List.mem_append.mp hq with z | z
        · exact .inl z
        · refine .inr (List.mem_append_right _ ?_)
          rcases List.mem_append.mp z with z | z
          · exact List.mem_append_left _ z
          · exact List.mem_append_right _ (by simpa using z))
      refine ⟨a, xs.map AT.val, v2, ev.symm, rfl, hH, by rw [List.length_map, ← erL_length]; exact lim_lt hl, ?_⟩
      rw [List.map_append] at hq
      rw [← e2]
      exact hq

/-! ### pop -/
def popK (k : Option Nat) (xs : List IV) : Option (List IV × (Nat → Bool) × IV) := match k with
  | some k => match xs[k]? with
    | some x => some (xs.eraseIdx k, fun _ => true, x)
    | none => none
  | none => none
def popR (o : O) (k : List IV → Option Nat) (e : Env') : R O := R.bind (writeR o e fun xs => popK (k xs) xs) fun x e' => .ok (.tm x) e'
def pyK (i : Option PyData) (xs : List IV) : Option Nat := match i with
  | some (.int i) => if decide (-(2 ^ 63) ≤ i ∧ i < 2 ^ 63) then ixN xs.length i else none
  | _ => none
def lastK (xs : List IV) : Option Nat := if xs.length = 0 then none else some (xs.length - 1)
def popAtM (b2 : Bool) (mo ma : M O) : M O := methM b2 mo ma fun o a e => popR o (pyK (O.dat a e)) e
def popM (mo : M O) : M O := methM true mo nilM fun o _ e => popR o lastK e
theorem erase_map {α β : Type} (f : α → β) (l : List α) (k : Nat) : (l.map f).eraseIdx k = (l.eraseIdx k).map f := by
  rw [List.eraseIdx_eq_take_drop_succ, List.eraseIdx_eq_take_drop_succ, List.map_append, List.map_take, List.map_drop]
theorem nodesL_erase {xs : List AT} {k : Nat} {x : AT} (h : xs[k]? = some x) : (AT.nodesL xs).Perm (AT.nodesL (xs.eraseIdx k) ++ x.nodes) ∧ ∀ q ∈ AT.leavesL (xs.eraseIdx k), q ∈ AT.leavesL xs := by
  have e : xs = xs.take k ++ x :: xs.drop (k + 1) := by
    obtain ⟨h1, h2⟩ := List.getElem?_eq_some_iff.mp h
    rw [← h2]
    simp
  rw [List.eraseIdx_eq_take_drop_succ]
  constructor
  · conv => lhs; rw [e]
    simp only [AT.nodesL_append, AT.nodesL, List.append_assoc]
    exact List.Perm.append_left _ List.perm_append_comm
  · intro q hq
    rw [e]
    simp only [AT.leavesL_append, AT.leavesL] at hq ⊢
    rcases List.mem_append.mp hq with z | z
    · exact List.mem_append_left _ z
    · exact List.mem_append_right _ (List.mem_append_right _ z)
theorem pop_run {k : List IV → Option Nat} {ao : AO} {v : V} {M : List (Addr × HO)} {LM : List (V × LF)} (q : Ct K Φ false σ Q H env Np Lp (popR (Opd.er ao) k (erE env))) (c : CB K Φ.g F H (nodesE env ++ (M ++ Np)) (leavesE env ++ (LM ++ Lp))) (s : SR env σ) (t1 : ∀ t, AO.tree ao env = some t → t.val = v) :
    ∃ a xs n x, v = .ref a ∧ H a = some (.lst xs) ∧ (∃ ts : List AT, ts.length = xs.length ∧ k (AT.erL ts) = some n) ∧ xs[n]? = some x ∧ Q x (upd H a (.lst (xs.eraseIdx n))) := by
  simp only [popR] at q
  obtain ⟨i, r, j, p, root, a, xs, ys, kn, z, rfl, hr, hj, hg, hf, hc, hw⟩ := write_at rfl (q_bad q)
  rw [hw] at q
  simp only [popK] at hf
  cases hn : k (AT.erL xs) with
  | none => rw [hn] at hf; cases hf
  | some n =>
    rw [hn] at hf
    simp only [AT.erL_map, List.getElem?_map] at hf
    cases hx : xs[n]? with
    | none => rw [hx] at hf; cases hf
    | some x =>
      rw [hx] at hf
      simp only [Option.map_some, Option.some.injEq, Prod.mk.injEq] at hf
      obtain ⟨rfl, rfl, rfl⟩ := hf
      have e3 : (xs.map AT.er).eraseIdx n = AT.erL (xs.eraseIdx n) := by
        rw [AT.erL_map, erase_map]
      rw [e3] at q
      obtain ⟨m1, m2⟩ := nodesL_erase hx
      obtain ⟨hH, hq⟩ := Ct.wr (t := x) (ys := xs.eraseIdx n) q c s hj hg (fun i hi => absurd hi (by simp)) (by
        rw [← List.append_assoc]
        exact (Sb.of_perm m1).app (Sb.right _ _)) (fun q hq => by
        rcases List.mem_append.mp hq with z | z
        · exact .inl (m2 q z)
        · rcases List.mem_append.mp z with z | z
          · exact .inl ((mem_nodesL hx).2 q z)
          · exact .inr (List.mem_append_right _ (List.mem_append_right _ z)))
      refine ⟨a, xs.map AT.val, n, x.val, (t1 _ hc).symm, hH, ⟨xs, by simp, hn⟩, by rw [List.getElem?_map, hx]; rfl, ?_⟩
      rw [erase_map]
      exact hq
theorem t_popAt (q : tE K Φ false (popAtM b2 mo ma) σ H Q) : tBM K "list" rPopAt (tE K Φ b1 mo) (tCons (tE K Φ b2 ma) tNil) σ H Q := by
  refine meth1 q rfl fun v1 v2 H2 F2 env2 ao1 ao2 Np Lp c s t1 t2 q => ?_
  obtain ⟨a, xs, n, x, e1, e2, ⟨ts, hl, hk⟩, e3, e4⟩ := pop_run (k := pyK (O.dat (Opd.er ao2) (erE env2))) q (M := Opd.nodes ao2 ++ Opd.nodes ao1) (LM := Opd.leaves ao2 ++ Opd.leaves ao1) (by simpa [List.append_assoc] using c) s t1
  cases hd : O.dat (Opd.er ao2) (erE env2) with
  | none => rw [hd] at hk; cases hk
  | some d =>
    rw [hd] at hk
    cases d with
    | int i =>
      simp only [pyK] at hk
      cases hi : decide (-(2 ^ 63) ≤ i ∧ i < 2 ^ 63) with
      | false => rw [hi] at hk; cases hk
      | true =>
        rw [hi] at hk
        simp only [if_true, erL_length, hl] at hk
        obtain ⟨i1, i2⟩ := of_decide_eq_true hi
        obtain ⟨k1, _⟩ := ixN_seq hk
        exact ⟨a, xs, i, n, x, e1, by rw [dat_int c (ex_all t2) hd], e2, i1, i2, k1, e3, e4⟩
    | _ => cases hk
theorem t_pop (q : tE K Φ false (popM mo) σ H Q) : tBM0 K "list" rPop (tE K Φ b1 mo) σ H Q := by
  refine meth0 q rfl fun v1 H2 F2 env2 ao1 Np Lp c s t1 q => ?_
  obtain ⟨a, xs, n, x, e1, e2, ⟨ts, hl, hk⟩, e3, e4⟩ := pop_run (k := lastK) q c s (ex_all t1)
  simp only [lastK, erL_length, hl] at hk
  split at hk
  · cases hk
  · rename_i hne
    cases hk
    refine ⟨a, xs, x, e1, rfl, e2, e3, ?_⟩
    rw [List.eraseIdx_length_sub_one] at e4
    exact e4

/-! ### insert -/
def meth2R (o : O) (a : List O) (f : O → O → R O) : R O := match a with
  | [x, y] => f x y
  | _ => .bad
def insF (i : Int) (t : IV) (xs : List IV) : Option (List IV × (Nat → Bool) × Unit) := if lim xs.length && decide (0 ≤ i ∧ i < 2 ^ 63) then some (xs.take i.toNat ++ [t] ++ xs.drop i.toNat, fun _ => true, ()) else none
def insR (o : O) (i : Option PyData) (t : Option IV) (e : Env') : R O := match i, t with
  | some (.int i), some t => R.bind (writeR o e (insF i t)) fun _ e' => .ok (.tm (.d .none)) e'
  | _, _ => .bad
/-- o.insert(i, x) -/
def insM (b2 b3 : Bool) (mo mi mx : M O) : M O := methM (b2 && b3) mo (fun e => R.bind (mi e) fun oi e1 => R.bind (mx e1) fun ox e2 => if O.stays b3 oi then .ok (oi, ox) e2 else .bad) fun o a e => insR o (O.dat a.1 e) (toV a.2 e) e
theorem t_insert {mi mx : M O} (q : tE K Φ false (insM b2 b3 mo mi mx) σ H Q) : tBM K "list" (fun x vs H Q => ∃ (l : Addr) (xs : List V) (i : Int) (y : V), x = .ref l ∧ vs = [.int i, y] ∧ H l = some (.lst xs) ∧ xs.length < sizeLine ∧ 0 ≤ i ∧ i < 2 ^ 63 ∧
    Q .non (upd H l (.lst (xs.take i.toNat ++ [y] ++ xs.drop i.toNat)))) (tE K Φ b1 mo) (tCons (tE K Φ b2 mi) (tCons (tE K Φ b3 mx) tNil)) σ H Q := by
  refine seqE q (fun z => absurd z Bool.false_ne_true) fun v1 H1 F1 env env1 ao1 Np Lp c1 s1 t1 p1 q1 => ?_
  cases hl : isLs (O.tree (Opd.er ao1) (erE env1)) with
  | false => rw [hl] at q1; exact q1.elim
  | true =>
    rw [hl] at q1
    refine ⟨tyL_of c1 t1 hl, ?_⟩
    have e0 : ∀ e, R.bind (R.bind (mi e) fun oi e1 => R.bind (mx e1) fun ox e2 => if O.stays b3 oi then .ok (oi, ox) e2 else .bad) (fun a e2 => if O.stays (b2 && b3) (Opd.er ao1) then insR (Opd.er ao1) (O.dat a.1 e2) (toV a.2 e2) e2 else .bad) =
        R.bind (mi e) fun oi e1 => R.bind (mx e1) fun ox e2 => if O.stays b3 oi then (if O.stays (b2 && b3) (Opd.er ao1) then insR (Opd.er ao1) (O.dat oi e2) (toV ox e2) e2 else .bad) else .bad := fun e => by
      cases mi e with
      | ok oi e1 =>
        simp only [R.bind]
        cases mx e1 with
        | ok ox e2 =>
          simp only [R.bind]
          cases O.stays b3 oi <;> rfl
        | ex c e => rfl
        | bad => rfl
      | ex c e => rfl
      | bad => rfl
    have q1' : Ct K Φ false σ Q H1 env1 Np Lp (R.bind (mi (erE env1)) fun oi e1 => R.bind (mx e1) fun ox e2 => if O.stays b3 oi then (if O.stays (b2 && b3) (Opd.er ao1) then insR (Opd.er ao1) (O.dat oi e2) (toV ox e2) e2 else .bad) else .bad) := by
      rw [← e0]
      exact q1
    refine seqA (b := false) c1 s1 q1' (fun z => absurd z Bool.false_ne_true) fun v2 H2 F2 env2 ao2 c2 s2 t2 p2 q2 => ?_
    refine seqA (b := false) (A := Opd.nodes ao2 ++ Opd.nodes ao1) (B := Opd.leaves ao2 ++ Opd.leaves ao1) (by simpa [List.append_assoc] using c2) s2 q2 (fun z => absurd z Bool.false_ne_true) fun v3 H3 F3 env3 ao3 c3 s3 t3 p3 q3 => ?_
    cases hs3 : O.stays b3 (Opd.er ao2) with
    | false => rw [hs3] at q3; exact q3.elim
    | true =>
      cases hs : O.stays (b2 && b3) (Opd.er ao1) with
      | false => rw [hs3, hs] at q3; exact q3.elim
      | true =>
        rw [hs3, hs] at q3
        have q3 : Ct K Φ false σ Q H3 env3 Np Lp (insR (Opd.er ao1) (O.dat (Opd.er ao2) (erE env3)) (toV (Opd.er ao3) (erE env3)) (erE env3)) := q3
        have tv1 : ∀ t, AO.tree ao1 env3 = some t → t.val = v1 := fun t ht => val_stays (X := True) hs s1 s3 (fun z => by
          obtain ⟨x1, _⟩ := p2 (band1 z)
          obtain ⟨y1, _⟩ := p3 (band2 z)
          exact ⟨y1.trans x1, True.intro⟩) t1 ht
        have tv2 : ∀ t, AO.tree ao2 env3 = some t → t.val = v2 := fun t ht => val_stays hs3 s2 s3 p3 t2 ht
        cases hd : O.dat (Opd.er ao2) (erE env3) with
        | none => rw [hd] at q3; exact q3.elim
        | some d =>
          rw [hd] at q3
          cases d with
          | int i =>
            cases ht : toV (Opd.er ao3) (erE env3) with
            | none => rw [ht] at q3; exact q3.elim
            | some t =>
              rw [ht] at q3
              obtain ⟨at', e1, e2, c4⟩ := toV1 (Np := (Opd.nodes ao2 ++ Opd.nodes ao1) ++ Np) (Lp := (Opd.leaves ao2 ++ Opd.leaves ao1) ++ Lp) c3 t3 ht
              have q3 : Ct K Φ false σ Q H3 env3 Np Lp (R.bind (writeR (Opd.er ao1) (erE env3) (insF i t)) fun _ e' => .ok (.tm (.d .none)) e') := q3
              obtain ⟨i', r, j, p, root, a, xs, ys, kn, z, rfl, hr, hj, hg, hf, hc, hw⟩ := write_at rfl (q_bad q3)
              rw [hw] at q3
              simp only [insF] at hf
              cases hl : lim (AT.erL xs).length && decide (0 ≤ i ∧ i < 2 ^ 63) with
              | false => rw [hl] at hf; simp at hf
              | true =>
                rw [hl] at hf
                simp only [if_true, Option.some.injEq, Prod.mk.injEq] at hf
                obtain ⟨rfl, rfl, _⟩ := hf
                obtain ⟨i1, i2⟩ := of_decide_eq_true (band2 hl)
                have ev2 : v2 = .int i := dat_int (ao := ao2) (Np := Opd.nodes ao3 ++ Np) (Lp := Opd.leaves ao3 ++ Lp) (c3.sb2 (Sb.tail (by
                  simp only [Opd.nodes, List.append_nil]
                  exact Sb.swap _ _ _)) (Sb.tail (by
                  simp only [Opd.leaves, List.append_nil]
                  exact Sb.swap _ _ _))) tv2 hd
                have e3 : (AT.erL xs).take i.toNat ++ [t] ++ (AT.erL xs).drop i.toNat = AT.erL (xs.take i.toNat ++ [at'] ++ xs.drop i.toNat) := by
                  rw [← e1]
                  simp [AT.erL_map]
                rw [e3] at q3
                have hxs : AT.nodesL xs = AT.nodesL (xs.take i.toNat) ++ AT.nodesL (xs.drop i.toNat) := by rw [← AT.nodesL_append, List.take_append_drop]
                have hxl : AT.leavesL xs = AT.leavesL (xs.take i.toNat) ++ AT.leavesL (xs.drop i.toNat) := by rw [← AT.leavesL_append, List.take_append_drop]
                have c5 := c4.noneL
                obtain ⟨hH, hq⟩ := Ct.wr (t := noneA) (ys := xs.take i.toNat ++ [at'] ++ xs.drop i.toNat) (M := at'.nodes ++ Np) (LM := at'.leaves ++ ((V.non, LF.d .none) :: Lp)) q3 (c5.sb (Sb.tail (Sb.tail (Sb.right _ _))) fun q hq => by
                  rcases List.mem_append.mp hq with z | z
                  · exact List.mem_cons_of_mem _ (List.mem_append_left _ z)
                  · rcases List.mem_append.mp z with z | z
                    · exact List.mem_cons_of_mem _ (List.mem_append_right _ (List.mem_append_left _ z))
                    · rcases List.mem_cons.mp z with rfl | z
                      · exact List.mem_cons_self
                      · exact List.mem_cons_of_mem _ (List.mem_append_right _ (List.mem_append_right _ (List.mem_append_right _ z)))) s3 hj hg (fun i hi => absurd hi (by simp)) (by
                    rw [hxs]
                    simp only [AT.nodesL_append, AT.nodesL, List.append_nil, noneA, AT.nodes, List.nil_append, List.append_assoc]
                    exact Sb.tail (Sb.swap _ _ _)) (fun q hq => by
                    rw [hxl]
                    simp only [AT.leavesL_append, AT.leavesL, List.append_nil, noneA, AT.leaves, List.append_assoc] at hq
                    rcases List.mem_append.mp hq with z | z
                    · exact .inl (List.mem_append_left _ z)
                    · rcases List.mem_append.mp z with z | z
                      · exact .inr (List.mem_append_right _ (List.mem_append_left _ z))
                      · rcases List.mem_append.mp z with z | z
                        · exact .inl (List.mem_append_right _ z)
                        · exact .inr (List.mem_append_right _ (List.mem_append_right _ (by simpa using z))))
                refine ⟨a, xs.map AT.val, i, v3, (tv1 _ hc).symm, by rw [ev2], hH, by rw [List.length_map, ← erL_length]; exact lim_lt (band1 hl), i1, i2, ?_⟩
                rw [← e2]
                rw [List.map_append, List.map_append, List.map_take, List.map_drop] at hq
                exact hq
          | _ => exact q3.elim
end
end Z
/-! Z17: o[k] = v, a, b = .., extend, remove, reverse, clear. -/
namespace Z
open PySem L2
section
variable {X : Cx} {K : PySem.W.Frag} {Φ : Fx} {io : IO} {b b1 b2 b3 : Bool} {σ : St} {D : Ends} {H F : Hp} {Q : VK} {QU : St → Hp → Prop} {env env0 : AEnv} {Np Nb A : List (Addr × HO)} {Lp B : List (V × LF)} {x y : Expr} {es : List Expr} {ma mb mo mk : M O} {mas : M (List O)} {pos p : Pos}
theorem CtU.from {env1 : AEnv} {rr : R Unit} (h : LkS env env1) : CtU K Φ io σ QU env Np Lp rr → CtU K Φ io σ QU env1 Np Lp rr := by
  cases rr with
  | ok k e' => exact fun q σ' H' F' env' a1 a2 a3 a4 a5 => q σ' H' F' env' a1 a2 a3 a4 (h.trans a5)
  | ex c e' => exact fun q => q
  | bad => exact fun q => q
theorem seqEU {m : M O} {f : O → Env' → R Unit} {Q' : VK} (c : CB K Φ.g F H (nodesE env ++ (A ++ Np)) (leavesE env ++ (B ++ Lp))) (s : SR env σ) (hi : SI io σ) (q : CtU K Φ io σ QU env Np Lp (R.bind (m (erE env)) f))
    (k : ∀ v H' F' env' ao, CB K Φ.g F' H' (nodesE env' ++ (Opd.nodes ao ++ (A ++ Np))) (leavesE env' ++ (Opd.leaves ao ++ (B ++ Lp))) → SR env' σ → (∃ t, AO.tree ao env' = some t ∧ t.val = v) →
      (b = true → env' = env ∧ Le H H') → CtU K Φ io σ QU env' Np Lp (f (Opd.er ao) (erE env')) → Q' v H') : tE K Φ b m σ H Q' := by
  refine ⟨F, env, A ++ Np, B ++ Lp, c, s, ?_⟩
  revert q
  cases m (erE env) with
  | ok o e' =>
    intro q v H' F' env' ao a1 a2 a3 a4 a5 a6 a7
    refine k v H' F' env' ao a1 a2 a5 a6 ?_
    rw [a4, a3]
    exact CtU.from a7 q
  | ex c e' => exact fun q H' F' env' a1 a2 a3 => q σ H' F' env' (a1.sb2 (Sb.right _ _).tail (Sb.right _ _).tail) a2 hi a3
  | bad => exact fun q => q
/-! ### o[k] = v -/
def setF (i : Int) (t : IV) (xs : List IV) : Option (List IV × (Nat → Bool) × Unit) := match ixN xs.length i with
  | some j => some (xs.set j t, fun k => k == j, ())
  | none => none
def setR (o : O) (k : Option PyData) (t : IV) (e : Env') : R Unit := match k with
  | some (.int i) => writeR o e (setF i t)
  | _ => .bad
def subT (b2 : Bool) (mo mk : M O) : IV → Env' → R Unit := fun t e => R.bind (mo e) fun o e1 => R.bind (mk e1) fun k e2 => if O.stays b2 o then setR o (O.dat k e2) t e2 else .bad
theorem nodesL_set {xs : List AT} {j : Nat} {u : AT} (h : j < xs.length) : Sb (AT.nodesL (xs.set j u)) (AT.nodesL xs ++ u.nodes) ∧ ∀ q ∈ AT.leavesL (xs.set j u), q ∈ AT.leavesL xs ∨ q ∈ u.leaves := by
  obtain ⟨R, S, h1, h2⟩ := nodesL_split (List.getElem?_eq_getElem h)
  have p1 := h1 xs[j]
  have p2 := h2 xs[j]
  rw [List.set_getElem_self] at p1 p2
  refine ⟨⟨xs[j].nodes, ?_⟩, fun q hq => ?_⟩
  · refine (p1.append_right _).trans ?_
    refine List.Perm.trans ?_ (((h1 u).append_right _).symm)
    simp only [List.append_assoc]
    refine (perm3 _ _ _).trans ?_
    refine (perm3 _ _ _).trans ?_
    refine (List.Perm.append_left _ List.perm_append_comm).trans ?_
    refine (perm3 _ _ _).trans ?_
    exact List.Perm.append_left _ List.perm_append_comm
  · rcases List.mem_append.mp ((h2 u).subset hq) with z | z
    · exact .inr z
    · exact .inl (p2.symm.subset (List.mem_append_right _ z))
theorem CtU.wr {a : Addr} {xs : List AT} {j : Nat} {p q : List Nat} {root : AT} {ys : List AT} {kn : Nat → Bool} {M : List (Addr × HO)} {LM : List (V × LF)} (qq : CtU K Φ io σ QU env Np Lp (.ok () ((killX j (p ++ q) kn (erE env)).set j (.iv (root.er.setP (p ++ q) (.nd true (AT.erL ys)))))))
    (c : CB K Φ.g F H (nodesE env ++ M) (leavesE env ++ LM)) (s : SR env σ) (hi : SI io σ) (hj : env[j]? = some (.iv root)) (hg : root.getP (p ++ q) = some (.nd a true xs)) (hk : ∀ i, kn i = false → ys[i]? = xs[i]?)
    (hn : Sb (AT.nodesL ys ++ Np) (AT.nodesL xs ++ M)) (hl : ∀ q ∈ AT.leavesL ys ++ Lp, q ∈ AT.leavesL xs ∨ q ∈ leavesE env ++ LM) :
    H a = some (.lst (xs.map AT.val)) ∧ QU σ (upd H a (.lst (ys.map AT.val))) := by
  obtain ⟨hH, c2⟩ := write_bag (kn := kn) c hj hg hn hl
  exact ⟨hH, qq σ _ F _ c2 (s.write hj hg hk) hi write_er (lks_write hj)⟩
theorem u_bad {r : R Unit} (q : CtU K Φ io σ QU env Np Lp r) (P : Prop) (e : r = .bad) : P := by
  rw [e] at q
  exact q.elim
theorem sg_sub (ho : SE X Φ b1 y mo) (hk : SE X Φ b2 x mk) (ha : ∀ v, assign (.Subscript y x pos) X.env v = (do
      let ov ← holding [v] (eval y X.env)
      let iv ← holding [v, ov] (eval x X.env)
      standAt pos
      holding [v, ov, iv] (setItem ov iv v)
      release [v, ov, iv] []) := by intro _; rfl) : SG X Φ io (.Subscript y x pos) (subT b2 mo mk) := by
  refine PG.imp (pg_sub ho hk set_list ha) fun v σ H Q q => ?_
  obtain ⟨F, env, at', Np, Lp, c, s, hi, rfl, q⟩ := q
  refine seqEU (A := at'.nodes) (B := at'.leaves) c s hi q fun v1 H1 F1 env1 ao1 c1 s1 t1 p1 q1 => ?_
  refine seqEU (A := Opd.nodes ao1 ++ at'.nodes) (B := Opd.leaves ao1 ++ at'.leaves) (by simpa [List.append_assoc] using c1) s1 hi q1 fun v2 H2 F2 env2 ao2 c2 s2 t2 p2 q2 => ?_
  cases hs : O.stays b2 (Opd.er ao1) with
  | false => rw [hs] at q2; exact q2.elim
  | true =>
    rw [hs] at q2
    have q2 : CtU X.K Φ io σ Q env2 Np Lp (setR (Opd.er ao1) (O.dat (Opd.er ao2) (erE env2)) at'.er (erE env2)) := q2
    cases hd : O.dat (Opd.er ao2) (erE env2) with
    | none => rw [hd] at q2; exact q2.elim
    | some d =>
      rw [hd] at q2
      cases d with
      | int i =>
        have q2 : CtU X.K Φ io σ Q env2 Np Lp (writeR (Opd.er ao1) (erE env2) (setF i at'.er)) := q2
        obtain ⟨i', r, j, p, root, a, xs, ys, kn, z, rfl, hr, hj, hg, hf, hc, hw⟩ := write_at rfl (u_bad q2)
        rw [hw] at q2
        simp only [setF, erL_length] at hf
        cases hx : ixN xs.length i with
        | none => rw [hx] at hf; cases hf
        | some n =>
          rw [hx] at hf
          simp only [Option.some.injEq, Prod.mk.injEq] at hf
          obtain ⟨rfl, rfl, _⟩ := hf
          have hn := (ixN_seq hx).2.1
          have e3 : (AT.erL xs).set n at'.er = AT.erL (xs.set n at') := by rw [AT.erL_map, AT.erL_map, List.map_set]
          rw [e3] at q2
          obtain ⟨m1, m2⟩ := nodesL_set (u := at') hn
          obtain ⟨hH, hq⟩ := CtU.wr (ys := xs.set n at') (M := at'.nodes ++ Np) (LM := at'.leaves ++ Lp) q2 (c2.sb2 (Sb.tail (by
            simp only [Opd.nodes, List.nil_append]
            exact Sb.right _ _)) (Sb.tail (by
            simp only [Opd.leaves, List.nil_append]
            exact Sb.right _ _))) s2 hi hj hg (fun k hk => by
              have hne : n ≠ k := fun e => by
                subst e
                simp at hk
              rw [List.getElem?_set_ne hne]) (by
              rw [← List.append_assoc]
              exact m1.head) (fun q hq => by
              rcases List.mem_append.mp hq with z | z
              · rcases m2 q z with z | z
                · exact .inl z
                · exact .inr (List.mem_append_right _ (List.mem_append_left _ z))
              · exact .inr (List.mem_append_right _ (List.mem_append_right _ z)))
          refine ⟨a, xs.map AT.val, i, n, (val_stays hs s1 s2 p2 t1 hc).symm, dat_int (Np := at'.nodes ++ Np) (Lp := at'.leaves ++ Lp) (by simpa [List.append_assoc, Opd.nodes, Opd.leaves] using c2) (ex_all t2) hd, hH, by rw [List.length_map]; exact hx, ?_⟩
          rw [List.map_set] at hq
          exact hq
      | _ => exact q2.elim

/-! ### a, b, .. = a tuple -/
def SGs (X : Cx) (Φ : Fx) (io : IO) (tgs : List Expr) (m : List IV → Env' → R Unit) : Prop :=
  PGs X tgs fun vs σ H Q => ∃ F env ats Np Lp, CB X.K Φ.g F H (nodesE env ++ (AT.nodesL ats ++ Np)) (leavesE env ++ (AT.leavesL ats ++ Lp)) ∧ SR env σ ∧ SI io σ ∧ ats.map AT.val = vs ∧ CtU X.K Φ io σ Q env Np Lp (m (AT.erL ats) (erE env))
theorem PGs.imp {X : Cx} {e : List Expr} {t t' : TGs} (h : PGs X e t) (k : ∀ v σ H Q, t' v σ H Q → t v σ H Q) : PGs X e t' := ⟨fun pins s σ H v u Q I r q => h.run pins s σ H v u Q I r (k v σ H Q q)⟩
def nilT : List IV → Env' → R Unit := fun ts e => match ts with
  | [] => .ok () e
  | _ => .bad
def consT (m : IV → Env' → R Unit) (r : List IV → Env' → R Unit) : List IV → Env' → R Unit := fun ts e => match ts with
  | t :: ts => R.bind (m t e) fun _ e' => r ts e'
  | [] => .bad
theorem sgs_nil : SGs X Φ io [] nilT := by
  refine PGs.imp pgs_nil fun vs σ H Q q => ?_
  obtain ⟨F, env, ats, Np, Lp, c, s, hi, rfl, q⟩ := q
  cases ats with
  | cons _ _ => exact q.elim
  | nil => exact ⟨rfl, q σ H F env (by simpa [AT.nodesL, AT.leavesL] using c) s hi rfl (.refl _)⟩
theorem sgs_cons {tg : Expr} {tgs : List Expr} {m : IV → Env' → R Unit} {r : List IV → Env' → R Unit} (h1 : SG X Φ io tg m) (h2 : SGs X Φ io tgs r) (hs : (assignEach (tg :: tgs) X.env).map (·.2) = assign tg X.env :: (assignEach tgs X.env).map (·.2) := by rfl) : SGs X Φ io (tg :: tgs) (consT m r) := by
  refine PGs.imp (pgs_cons h1 h2 hs) fun vs σ H Q q => ?_
  obtain ⟨F, env, ats, Np, Lp, c, s, hi, rfl, q⟩ := q
  cases ats with
  | nil => exact q.elim
  | cons t ts =>
    refine ⟨t.val, ts.map AT.val, rfl, F, env, t, AT.nodesL ts ++ Np, AT.leavesL ts ++ Lp, by simpa [AT.nodesL, AT.leavesL, List.append_assoc] using c, s, hi, rfl, ?_⟩
    have q : CtU X.K Φ io σ Q env Np Lp (R.bind (m t.er (erE env)) fun _ e' => r (AT.erL ts) e') := q
    revert q
    cases m t.er (erE env) with
    | ok u e' =>
      intro q σ' H' F' env' a1 a2 a3 a4 a5
      refine ⟨F', env', ts, Np, Lp, a1, a2, a3, rfl, ?_⟩
      rw [a4]
      have q' : CtU X.K Φ io σ Q env Np Lp (r (AT.erL ts) e') := q
      revert q'
      cases r (AT.erL ts) e' with
      | ok u2 e2 => exact fun q σ2 H2 F2 env2 d1 d2 d3 d4 d5 => q σ2 H2 F2 env2 d1 d2 d3 d4 (a5.trans d5)
      | ex c e2 => exact fun q => q
      | bad => exact fun q => q
    | ex c e' => exact fun q σ' H' F' env' a1 a2 a3 a4 => q σ' H' F' env' (a1.sb2 (Sb.right _ _).tail (Sb.right _ _).tail) a2 a3 a4
    | bad => exact fun q => q
def tupT (n : Nat) (m : List IV → Env' → R Unit) : IV → Env' → R Unit := fun t e => match t with
  | .lf (.d (.tuple ds)) => if ds.length = n then m (ds.map IV.d) e else .bad
  | .nd false xs => if xs.length = n then m xs e else .bad
  | _ => .bad
theorem sg_tup {k n : Nat} {m : List IV → Env' → R Unit} (hc : X.calm = true) (h : SGs X Φ io es m) (hn : (assignEach es X.env).length = n := by rfl) (hst : (assignEach es X.env).findIdx? (·.1) = none := by rfl) : SG X Φ io (.Tuple es k pos) (tupT n m) := by
  refine PG.imp (pg_tup hc h hn hst) fun v σ H Q q => ?_
  obtain ⟨F, env, at', Np, Lp, c, s, hi, rfl, q⟩ := q
  cases at' with
  | dk a kvs => exact q.elim
  | nd a bb xs =>
    cases bb with
    | true => exact q.elim
    | false =>
      have hH := c.node (a := a) (b := false) (xs := xs) ((Sb.left _ _).trans (Sb.right _ _))
      simp only [AT.er, tupT, erL_length] at q
      by_cases hl : xs.length = n
      · rw [if_pos hl] at q
        refine ⟨a, xs.map AT.val, rfl, SqT.of hH, by rw [List.length_map]; exact hl, F, env, xs, Np, Lp, c.sb2 (Sb.tail (Sb.head ?_)) (by simpa [AT.leaves] using Sb.refl _), s, hi, rfl, q⟩
        simp only [AT.nodes]
        exact Sb.right [_] _
      · rw [if_neg hl] at q
        exact q.elim
  | lf w l =>
    cases l with
    | s ns => exact q.elim
    | e n => exact q.elim
    | d z =>
      cases z with
      | tuple ds =>
        simp only [AT.er, tupT] at q
        by_cases hl : ds.length = n
        · rw [if_pos hl] at q
          have hlf := c.lf (w, .d (.tuple ds)) (by simp [AT.leaves])
          cases hlf with
          | tup ha hs =>
            rename_i a vs
            refine ⟨a, vs, rfl, c.sub.sqt ha, by rw [hs.length]; exact hl, F, env, mkA vs ds, Np, Lp, ?_, s, hi, mkA_val hs.length, by rw [mkA_er hs.length]; exact q⟩
            have c2 := c.leaves (mkA_leaves hs)
            rw [mkA_nodes]
            refine c2.sb2 ?_ ?_
            · simpa [AT.nodes] using Sb.refl _
            · exact (Sb.swap _ _ _).trans (Sb.tail (Sb.tail (Sb.right _ _)))
        · rw [if_neg hl] at q
          exact q.elim
      | _ => exact q.elim

/-! ### extend -/
def extF (es : List PyData) (xs : List IV) : Option (List IV × (Nat → Bool) × Unit) := if lim (xs.length + es.length) then some (xs ++ es.map IV.d, fun i => decide (xs.length ≤ i), ()) else none
def extR (o : O) (x : Option (List PyData)) (e : Env') : R O := match x with
  | some es => R.bind (writeR o e (extF es)) fun _ e' => .ok (.tm (.d .none)) e'
  | none => .bad
def extM (b2 : Bool) (mo ma : M O) : M O := methM b2 mo ma fun o a e => extR o (O.kidsL a e) e
theorem t_extend (q : tE K Φ false (extM b2 mo ma) σ H Q) : tBM K "list" rExtend (tE K Φ b1 mo) (tCons (tE K Φ b2 ma) tNil) σ H Q := by
  refine meth1 q rfl fun v1 v2 H2 F2 env2 ao1 ao2 Np Lp c s t1 t2 q => ?_
  cases hk : O.kidsL (Opd.er ao2) (erE env2) with
  | none => rw [hk] at q; exact q.elim
  | some es =>
    rw [hk] at q
    obtain ⟨t, ht, rfl⟩ := t2
    obtain ⟨F', a', ws, l2, c2, ev2, hs2, hd2⟩ := viewL c ht hk
    have q : Ct K Φ false σ Q H2 env2 Np Lp (R.bind (writeR (Opd.er ao1) (erE env2) (extF es)) fun _ e' => .ok (.tm (.d .none)) e') := q
    obtain ⟨i, r, j, p, root, a, xs, ys, kn, z, rfl, hr, hj, hg, hf, hc, hw⟩ := write_at rfl (q_bad q)
    rw [hw] at q
    simp only [extF] at hf
    cases hl : lim ((AT.erL xs).length + es.length) with
    | false => rw [hl] at hf; simp at hf
    | true =>
      rw [hl] at hf
      simp only [if_true, Option.some.injEq, Prod.mk.injEq] at hf
      obtain ⟨rfl, rfl, _⟩ := hf
      have ev := t1 _ hc
      have e3 : AT.erL xs ++ es.map IV.d = AT.erL (xs ++ mkA ws es) := by rw [erL_append, mkA_er hd2.length]
      rw [e3] at q
      have c3 := (c2.drop1.noneL).leaves (mkA_leaves hd2)
      obtain ⟨hH, hq⟩ := Ct.wr (t := noneA) (ys := xs ++ mkA ws es) (M := Np) (LM := AT.leavesL (mkA ws es) ++ ((V.non, LF.d .none) :: Lp)) q (c3.sb (.refl _) fun q hq => by
        rcases List.mem_append.mp hq with z | z
        · exact List.mem_append_right _ (List.mem_cons_of_mem _ (List.mem_append_left _ z))
        · rcases List.mem_append.mp z with z | z
          · exact List.mem_append_left _ z
          · rcases List.mem_cons.mp z with rfl | z
            · exact List.mem_append_right _ List.mem_cons_self
            · exact List.mem_append_right _ (List.mem_cons_of_mem _ (List.mem_append_right _ z))) s hj hg (fun i hi => by
          have : i < xs.length := by
            rw [erL_length] at hi
            simpa using hi
          rw [List.getElem?_append_left this]) (by
        simp only [AT.nodesL_append, mkA_nodes, List.append_nil, noneA, AT.nodes, List.nil_append]
        exact Sb.refl _) (fun q hq => by
        simp only [AT.leavesL_append, noneA, AT.leaves, List.append_assoc] at hq
        rcases List.mem_append.mp hq with z | z
        · exact .inl z
        · refine .inr (List.mem_append_right _ ?_)
          rcases List.mem_append.mp z with z | z
          · exact List.mem_append_left _ z
          · exact List.mem_append_right _ (by simpa using z))
      refine ⟨a, a', xs.map AT.val, ws, ev.symm, by rw [ev2], hH, hs2, ?_, ?_⟩
      · rw [List.length_map, hd2.length, ← erL_length]
        exact lim_line hl
      · rw [List.map_append, mkA_val hd2.length] at hq
        exact hq
end
end Z
/-! Z18: for. -/
namespace Z
open PySem L2
def unlk (j : Nat) (e : Env') : Env' := match e[j]? with
  | some (.lk t) => e.set j (.iv t)
  | _ => e
def unlkO : Option Nat → Env' → Env'
  | none, e => e
  | some j, e => unlk j e
def lkk (j : Nat) (e : Env') : Env' := match e[j]? with
  | some (.iv t) => e.set j (.lk t)
  | _ => e
def forG (fin : Env' → Env') (tg : IV → Env' → R Unit) (body : MS) : List IV → Env' → SR'
  | [], e => .nx (fin e)
  | t :: ts, e => R.toS (tg t e) fun _ e1 => match body e1 with
    | .nx e2 => forG fin tg body ts e2
    | .bk e2 => .nx (fin e2)
    | r => r
/-- what is walked: the items, and the variable that is locked meanwhile -/
abbrev MI := M (List PyData × Option Nat)
def forS (mi : MI) (tg : IV → Env' → R Unit) (body : MS) : MS := fun e => R.toS (mi e) fun p e1 => forG (unlkO p.2) tg body (p.1.map IV.d) e1
section
variable {X : Cx} {K : PySem.W.Frag} {Φ : Fx} {io : IO} {b b1 b2 b3 : Bool} {σ : St} {D : Ends} {H F : Hp} {Q : VK} {QU : St → Hp → Prop} {env env0 env00 : AEnv} {Np Np' Nb A : List (Addr × HO)} {Lp Lp' B : List (V × LF)} {x y : Expr} {es : List Expr} {ma mb mo mk : M O} {mas : M (List O)} {pos p : Pos} {st : List Stmt} {sa : MS} {tgm : IV → Env' → R Unit}
theorem CtS.more {rr : SR'} (hN : Sb Np Np') (hL : ∀ q ∈ Lp, q ∈ Lp') : CtS K Φ io D env Np Lp rr → CtS K Φ io D env Np' Lp' rr := by
  have app : ∀ {α : Type} {A B C D : List α}, (∀ q ∈ A, q ∈ B) → ∀ q ∈ C ++ A, q ∈ C ++ B := fun h q hq => (List.mem_append.mp hq).elim (fun z => List.mem_append_left _ z) fun z => List.mem_append_right _ (h q z)
  cases rr with
  | nx e' => exact fun q σ' H' F' env' a1 => q σ' H' F' env' (a1.sb hN.tail (app (D := Lp) hL))
  | bk e' => exact fun q σ' H' F' env' a1 => q σ' H' F' env' (a1.sb hN.tail (app (D := Lp) hL))
  | rt t e' => exact fun q v σ' H' F' env' at' a1 => q v σ' H' F' env' at' (a1.sb (hN.tail).tail (app (D := Lp) (app (D := Lp) hL)))
  | ex c e' => exact fun q σ' H' F' env' a1 => q σ' H' F' env' (a1.sb hN.tail (app (D := Lp) hL))
  | bad => exact fun q => q
/-- an iterator's items -/
def ItOk (K : PySem.W.Frag) (g : Gh) (J : It) (ds : List PyData) (env0 : AEnv) (B : List (V × LF)) : Prop :=
  ∀ (env : AEnv) (F H : Hp) (Np : List (Addr × HO)) (Lp : List (V × LF)), CB K g F H (nodesE env ++ Np) (leavesE env ++ Lp) → (∀ q ∈ B, q ∈ Lp) → LkS env0 env → (∀ i, ds.length ≤ i → J.stop i H) ∧ ∀ i (hi : i < ds.length), J.go i H ∧ ∀ x H', J.yld i H x H' → ∃ F', CB K g F' H' (nodesE env ++ Np) (leavesE env ++ Lp) ∧ Dq K F' x ds[i]
/-- the loop over an iterator -/
theorem for_run {J : It} {fin : Env' → Env'} {ds : List PyData} (c : CB K Φ.g F H (nodesE env0 ++ Np) (leavesE env0 ++ Lp)) (s : SR env0 σ) (hi : SI io σ)
    (hfin : ∀ (env : AEnv) (σ : St) (F H : Hp), CB K Φ.g F H (nodesE env ++ Np) (leavesE env ++ Lp) → SR env σ → LkS env0 env → ∃ env' : AEnv, erE env' = fin (erE env) ∧ CB K Φ.g F H (nodesE env' ++ Np) (leavesE env' ++ Lp) ∧ SR env' σ ∧ LkS env00 env')
    (hJ : ItOk K Φ.g J ds env0 B) (hB : ∀ q ∈ B, q ∈ Lp) (q : CtS K Φ io D env00 Np Lp (forG fin tgm sa (ds.map IV.d) (erE env0))) :
    ∃ W : Nat → Nat → St → Hp → Prop, (∃ m, W 0 m σ H) ∧ ∀ i m σ H, W i m σ H →
      (J.stop i H ∧ D.nx σ H) ∨ (J.go i H ∧ ∃ N : St → Hp → Prop, (∀ σ' H', N σ' H' → ∃ m', m' < m ∧ W (i + 1) m' σ' H') ∧ ∀ x H', J.yld i H x H' → tG K Φ io tgm x σ H' fun σ2 H2 => tS K Φ io sa { D with nx := N, ct := N, bk := D.nx } σ2 H2) := by
  refine ⟨fun i m σ H => m = ds.length - i ∧ i ≤ ds.length ∧ ∃ F env, CB K Φ.g F H (nodesE env ++ Np) (leavesE env ++ Lp) ∧ SR env σ ∧ SI io σ ∧ LkS env0 env ∧ CtS K Φ io D env00 Np Lp (forG fin tgm sa ((ds.drop i).map IV.d) (erE env)), ⟨_, rfl, Nat.zero_le _, F, env0, c, s, hi, .refl _, q⟩, ?_⟩
  rintro i m σ H ⟨rfl, hil, F, env, c, s, hi, hl, q⟩
  have done : ∀ {σ : St} {H F : Hp} {env : AEnv}, CB K Φ.g F H (nodesE env ++ Np) (leavesE env ++ Lp) → SR env σ → SI io σ → LkS env0 env → CtS K Φ io D env00 Np Lp (.nx (fin (erE env))) → D.nx σ H := fun {σ H F env} c s hi hl q => by
    obtain ⟨env', e1, c', s', l'⟩ := hfin env σ F H c s hl
    exact q σ H F env' c' s' hi e1 l'
  obtain ⟨j1, j2⟩ := hJ env F H Np Lp c hB hl
  by_cases hlt : i < ds.length
  · obtain ⟨g1, g2⟩ := j2 i hlt
    have hdr : ds.drop i = ds[i] :: ds.drop (i + 1) := List.drop_eq_getElem_cons hlt
    rw [hdr] at q
    refine .inr ⟨g1, fun σ' H' => ∃ F env, CB K Φ.g F H' (nodesE env ++ Np) (leavesE env ++ Lp) ∧ SR env σ' ∧ SI io σ' ∧ LkS env0 env ∧ CtS K Φ io D env00 Np Lp (forG fin tgm sa ((ds.drop (i + 1)).map IV.d) (erE env)), fun σ' H' hN => ⟨ds.length - (i + 1), by omega, rfl, hlt, hN⟩, fun x H' hy => ?_⟩
    obtain ⟨F', c', hd3⟩ := g2 x H' hy
    refine ⟨F', env, .lf x (.d ds[i]), Np, Lp, ?_, s, hi, rfl, ?_⟩
    · refine (c'.leaf (v := x) (l := .d ds[i]) hd3).sb (.refl _) fun q hq => ?_
      simp only [AT.leaves] at hq
      rcases List.mem_append.mp hq with z | z
      · exact List.mem_cons_of_mem _ (List.mem_append_left _ z)
      · rcases List.mem_append.mp z with z | z
        · rw [List.mem_singleton.mp z]
          exact List.mem_cons_self
        · exact List.mem_cons_of_mem _ (List.mem_append_right _ z)
    · have q : CtS K Φ io D env00 Np Lp (R.toS (tgm (IV.d ds[i]) (erE env)) fun _ e1 => match sa e1 with
        | .nx e2 => forG fin tgm sa ((ds.drop (i + 1)).map IV.d) e2
        | .bk e2 => .nx (fin e2)
        | r => r) := q
      show CtU K Φ io σ _ env Np Lp (tgm (IV.d ds[i]) (erE env))
      revert q
      cases tgm (IV.d ds[i]) (erE env) with
      | ex cc e' => exact fun q => q
      | bad => exact fun q => q
      | ok u e1 =>
        intro q σ' H2 F2 env2 a1 a2 a3 a4 a5
        subst a4
        have q : CtS K Φ io D env00 Np Lp (match sa (erE env2) with
          | .nx e2 => forG fin tgm sa ((ds.drop (i + 1)).map IV.d) e2
          | .bk e2 => .nx (fin e2)
          | r => r) := q
        refine ⟨F2, env2, Np, Lp, a1, a2, a3, ?_⟩
        revert q
        cases sa (erE env2) with
        | nx e2 =>
          intro q σ3 H3 F3 env3 d1 d2 d3 d4 d5
          subst d4
          exact ⟨F3, env3, d1, d2, d3, (hl.trans a5).trans d5, q⟩
        | bk e2 =>
          intro q σ3 H3 F3 env3 d1 d2 d3 d4 d5
          subst d4
          exact done d1 d2 d3 ((hl.trans a5).trans d5) q
        | rt t e2 => exact fun q => q
        | ex cc e2 => exact fun q => q
        | bad => exact fun q => q
  · have e : i = ds.length := by omega
    subst e
    rw [List.drop_length] at q
    exact .inl ⟨j1 _ (Nat.le_refl _), done c s hi hl q⟩
/-- what a walk's beginning hands over -/
def CtI (K : PySem.W.Frag) (Φ : Fx) (σ : St) (R' : It → Hp → Prop) (env : AEnv) (Np : List (Addr × HO)) (Lp : List (V × LF)) (r : R (List PyData × Option Nat)) : Prop := match r with
  | .ok p e' => ∀ J H' F' env' B, CB K Φ.g F' H' (nodesE env' ++ Np) (leavesE env' ++ (B ++ Lp)) → SR env' σ → erE env' = e' → LkS env env' ∧ (∀ j, p.2 = some j → (∃ t, env'[j]? = some (.lk t)) ∧ ∀ t, env[j]? ≠ some (.lk t)) →
      ItOk K Φ.g J p.1 env' B → R' J H'
  | .ex c e' => ∀ H' F' env', CB K Φ.g F' H' (nodesE env' ++ Np) (leavesE env' ++ Lp) → SR env' σ → erE env' = e' → Φ.W (Φ.xc c) none σ H'
  | .bad => False
def tIt (K : PySem.W.Frag) (Φ : Fx) (mi : MI) : TI := fun σ H R' => ∃ F env Np Lp, CB K Φ.g F H (nodesE env ++ Np) (leavesE env ++ Lp) ∧ SR env σ ∧ CtI K Φ σ R' env Np Lp (mi (erE env))
abbrev SIt (X : Cx) (Φ : Fx) (tg it : Expr) (mi : MI) : Prop := PI X tg it (tIt X.K Φ mi)
theorem PI.imp {X : Cx} {tg e : Expr} {t t' : TI} (h : PI X tg e t) (k : ∀ σ H Q, t' σ H Q → t σ H Q) : PI X tg e t' := ⟨fun pins s σ H Q I q => h.run pins s σ H Q I (k σ H Q q)⟩
theorem unlk_ok {j : Nat} {t : AT} (c : CB K Φ.g F H (nodesE env ++ Np) (leavesE env ++ Lp)) (s : SR env σ) (h : env[j]? = some (.lk t)) (h0 : ∀ t, env00[j]? ≠ some (.lk t)) (hl : LkS env00 env) :
    ∃ env' : AEnv, erE env' = unlk j (erE env) ∧ CB K Φ.g F H (nodesE env' ++ Np) (leavesE env' ++ Lp) ∧ SR env' σ ∧ LkS env00 env' := by
  have hlen := (List.getElem?_eq_some_iff.mp h).1
  refine ⟨env.set j (.iv t), ?_, ?_, ?_, fun k u hk => ?_⟩
  · simp only [unlk, erE_get, h, Option.map_some, Sl.map]
    rw [set_er]
    rfl
  · obtain ⟨R, S, r1, r2⟩ := env_split h
    have p1 := r1 (.lk t)
    have p2 := r2 (.lk t)
    rw [set_self h] at p1 p2
    refine c.sb (.of_perm ((p1.trans (r1 (.iv t)).symm).append_right Np)) fun q hq => ?_
    rcases List.mem_append.mp hq with z | z
    · exact List.mem_append_left _ ((p2.trans (r2 (.iv t)).symm).symm.subset z)
    · exact List.mem_append_right _ z
  · refine ⟨by rw [List.length_set]; exact s.1, fun k u hu => s.2 k u ?_⟩
    have hr : ∀ m, rootOf (env.set j (.iv t)) m = rootOf env m := fun m => by
      by_cases hm : j = m
      · subst hm
        simp only [rootOf, List.getElem?_set_self hlen, h, Sl.tr]
      · exact rootOf_set hm
    have hv : rsv (env.set j (.iv t)) k = rsv env k := by
      by_cases hm : j = k
      · subst hm
        simp only [rsv, List.getElem?_set_self hlen, h]
      · simp only [rsv, List.getElem?_set_ne hm]
    simp only [ctnA, hv, hr] at hu ⊢
    exact hu
  · have hne : j ≠ k := fun e => by
      subst e
      exact h0 u hk
    rw [List.getElem?_set_ne hne]
    exact hl k u hk
theorem ss_for {tg it : Expr} {mi : MI} (hp : PassesOwn (model X.prog X.w) X.A X.env X.xe) (hc : X.calm = true) (h : SIt X Φ tg it mi) (hg : SG X Φ io tg tgm) (hb : SB X Φ io st sa) (hs : ∀ x, foldedSetIterable it X.env x = pure x := by intro _; rfl) : SS X Φ io (.For tg it st [] pos) (forS mi tgm sa) := by
  refine PS.imp (ps_for hp hc h hg hb hs) fun D σ H q => ?_
  obtain ⟨F, env, Np, Lp, c, s, hi, q⟩ := q
  refine ⟨F, env, Np, Lp, c, s, ?_⟩
  have q : CtS X.K Φ io D env Np Lp (R.toS (mi (erE env)) fun p e1 => forG (unlkO p.2) tgm sa (p.1.map IV.d) e1) := q
  revert q
  cases mi (erE env) with
  | bad => exact fun q => q
  | ex cc e' => exact fun q H' F' env' a1 a2 a3 => q σ H' F' env' a1 a2 hi a3
  | ok p e' =>
    intro q J H' F' env' B a1 a2 a3 a4 a5
    subst a3
    obtain ⟨a4, a6⟩ := a4
    refine for_run (fin := unlkO p.2) (env00 := env) (ds := p.1) a1 a2 hi (fun env1 σ1 F1 H1 c1 s1 l1 => ?_) a5 (fun _ hq => List.mem_append_left _ hq) (CtS.more (.refl _) (fun _ hq => List.mem_append_right _ hq) q)
    obtain ⟨ds, lo⟩ := p
    cases lo with
    | none => exact ⟨env1, rfl, c1, s1, a4.trans l1⟩
    | some j =>
      obtain ⟨⟨t, ht⟩, h0⟩ := a6 j rfl
      exact unlk_ok c1 s1 (l1 j t ht) h0 (a4.trans l1)
end
end Z
/-! Z19: what a for walks over. -/
namespace Z
open PySem L2
def Sq (t : Bool) (K : PySem.W.Frag) (H : Hp) (a : Addr) (xs : List V) : Prop := if t then SqL K H a xs else SqT K H a xs
def sqD : Bool → PyData → Option (List PyData)
  | true, .list ds => some ds
  | false, .tuple ds => some ds
  | _, _ => none
def sqR (t : Bool) (o : O) (e : Env') : R (List PyData × Option Nat) := match o with
  | .tm u => match u.toD.bind (sqD t) with
    | some ds => .ok (ds, none) e
    | none => .bad
  | .vr i q => match ctn e i q with
    | some (.lf (.d d)) => match sqD t d with
      | some ds => .ok (ds, none) e
      | none => .bad
    | some (.lf (.s ns)) => if t then .ok (ns.map .int, none) e else .bad
    | some (.nd t' xs) => if t' = t then match leafDs xs, rsv e i with
        | some ds, some (j, _) => match e[j]? with
          | some (.iv u) => .ok (ds, some j) (e.set j (.lk u))
          | some (.lk _) => .ok (ds, none) e
          | _ => .bad
        | _, _ => .bad
      else .bad
    | _ => .bad
def mapI (φ : List PyData → List PyData) (r : R (List PyData × Option Nat)) : R (List PyData × Option Nat) := match r with
  | .ok p e => .ok (φ p.1, p.2) e
  | .ex c e => .ex c e
  | .bad => .bad
section
variable {RIp : Prop} {φ : List PyData → List PyData} {X : Cx} {K : PySem.W.Frag} {Φ : Fx} {io : IO} {b b1 b2 b3 : Bool} {σ : St} {D : Ends} {H F : Hp} {Q : VK} {RI : It → Hp → Prop} {env env0 env00 : AEnv} {Np Np' Nb A : List (Addr × HO)} {Lp Lp' B : List (V × LF)} {x y z : Expr} {es : List Expr} {ma mb mc mo mk : M O} {mas : M (List O)} {pos p : Pos} {st : List Stmt} {sa : MS} {tgm : IV → Env' → R Unit} {g : Gh}
theorem relk {j : Nat} {sl s' : Sl AT} {t : AT} (c : CB K g F H (nodesE env ++ Np) (leavesE env ++ Lp)) (s : SR env σ) (h : env[j]? = some sl) (h1 : sl.tr = some t) (h2 : s'.tr = some t) :
    CB K g F H (nodesE (env.set j s') ++ Np) (leavesE (env.set j s') ++ Lp) ∧ SR (env.set j s') σ := by
  have hlen := (List.getElem?_eq_some_iff.mp h).1
  obtain ⟨e1, e2⟩ := nodes_tr h1
  obtain ⟨e3, e4⟩ := nodes_tr h2
  constructor
  · obtain ⟨R, S, r1, r2⟩ := env_split h
    have p1 := r1 sl
    have p2 := r2 sl
    rw [set_self h] at p1 p2
    have q1 := r1 s'
    have q2 := r2 s'
    rw [e3, ← e1] at q1
    rw [e4, ← e2] at q2
    refine c.sb (.of_perm ((p1.trans q1.symm).append_right Np)) fun q hq => ?_
    rcases List.mem_append.mp hq with z | z
    · exact List.mem_append_left _ ((p2.trans q2.symm).symm.subset z)
    · exact List.mem_append_right _ z
  · refine ⟨by rw [List.length_set]; exact s.1, fun k u hu => s.2 k u ?_⟩
    have hr : ∀ m, rootOf (env.set j s') m = rootOf env m := fun m => by
      by_cases hm : j = m
      · subst hm
        simp only [rootOf, List.getElem?_set_self hlen, h, h1, h2]
      · exact rootOf_set hm
    have hv : rsv (env.set j s') k = rsv env k := by
      by_cases hm : j = k
      · subst hm
        simp only [rsv, List.getElem?_set_self hlen, h]
        cases sl <;> cases s' <;> simp_all [Sl.tr]
      · simp only [rsv, List.getElem?_set_ne hm]
    simp only [ctnA, hv, hr] at hu ⊢
    exact hu
theorem Dq.sq {t : Bool} {v : V} {d : PyData} {ds : List PyData} (h : Dq K F v d) (e : sqD t d = some ds) : ∃ a xs, v = .ref a ∧ Sq t K F a xs ∧ DqL K F xs ds := by
  cases t <;> cases d <;> simp only [sqD, Option.some.injEq, reduceCtorEq] at e <;> subst e <;> cases h
  · exact ⟨_, _, rfl, ‹_›, ‹_›⟩
  · exact ⟨_, _, rfl, SqL.of ‹_›, ‹_›⟩
theorem Sq.le {t : Bool} {F F' : Hp} {a : Addr} {xs : List V} (l : Le F F') (h : Sq t K F a xs) : Sq t K F' a xs := by
  cases t
  · exact l.sqt (show SqT K F a xs from h)
  · exact l.sql (show SqL K F a xs from h)
/-- the items as they stand in every later bag -/
def ItsOk (t : Bool) (K : PySem.W.Frag) (g : Gh) (a : Addr) (ds : List PyData) (env0 : AEnv) (B : List (V × LF)) : Prop :=
  ∀ (env : AEnv) (F H : Hp) (Np : List (Addr × HO)) (Lp : List (V × LF)), CB K g F H (nodesE env ++ Np) (leavesE env ++ Lp) → (∀ q ∈ B, q ∈ Lp) → LkS env0 env → ∃ xs, Sq t K H a xs ∧ DqL K F xs ds
theorem sqR_end {t : Bool} {ao : AO} {v : V} (c : CB K Φ.g F H (nodesE env ++ (Opd.nodes ao ++ Np)) (leavesE env ++ (Opd.leaves ao ++ Lp))) (s : SR env σ) (hv : ∀ t, AO.tree ao env = some t → t.val = v)
    (q : CtI K Φ σ RI env Np Lp (mapI φ (sqR t (Opd.er ao) (erE env)))) (k : ∀ a ds F' env' B, v = .ref a → CB K Φ.g F' H (nodesE env' ++ Np) (leavesE env' ++ (B ++ Lp)) → ItsOk t K Φ.g a ds env' B →
      (∀ J H' F'', CB K Φ.g F'' H' (nodesE env' ++ Np) (leavesE env' ++ (B ++ Lp)) → ItOk K Φ.g J (φ ds) env' B → RI J H') → RIp) : RIp := by
  revert q k
  cases ao with
  | tm u =>
    simp only [Opd.er, sqR]
    cases hu : u.er.toD with
    | none => exact fun q => q.elim
    | some d =>
      simp only [Option.bind_some]
      cases hd : sqD t d with
      | none => exact fun q => q.elim
      | some ds =>
        intro q k
        have c' : CB K Φ.g F H (u.nodes ++ (nodesE env ++ Np)) (u.leaves ++ (leavesE env ++ Lp)) := c.sb2 (Sb.swap _ _ _) (Sb.swap _ _ _)
        obtain ⟨F', c2, l2, dq⟩ := CB.freeze u c' hu
        have ev := hv u rfl
        rw [ev] at dq
        obtain ⟨a, xs, rfl, _, _⟩ := dq.sq hd
        have c3 : CB K Φ.g F' H (nodesE env ++ Np) (leavesE env ++ ([(V.ref a, LF.d d)] ++ Lp)) := (c2.leaf (v := .ref a) (l := .d d) dq).sb (.refl _) fun q hq => by
          rcases List.mem_append.mp hq with z | z
          · exact List.mem_cons_of_mem _ (List.mem_append_left _ z)
          · rcases List.mem_append.mp z with z | z
            · rw [List.mem_singleton.mp z]
              exact List.mem_cons_self
            · exact List.mem_cons_of_mem _ (List.mem_append_right _ z)
        refine k a ds F' env [(V.ref a, LF.d d)] rfl c3 (fun env1 F1 H1 Np1 Lp1 c1 hB _ => ?_) (fun J H' F'' cc hJ => q J H' F'' env _ cc s rfl ⟨.refl _, fun j hj => nomatch hj⟩ hJ)
        have dq1 : Dq K F1 (.ref a) d := c1.lf (V.ref a, LF.d d) (List.mem_append_right _ (hB _ List.mem_cons_self))
        obtain ⟨a', xs', e1, h1, h2⟩ := dq1.sq hd
        cases e1
        exact ⟨xs', h1.le c1.sub, h2⟩
  | vr i qq =>
    simp only [Opd.er, sqR, ctn_er]
    cases hc : ctnA env i qq with
    | none => exact fun q => q.elim
    | some u =>
      have ev := hv u hc
      obtain ⟨sn, sl⟩ := ctn_sb hc
      cases u with
      | dk a kvs => exact fun q => q.elim
      | lf w l =>
        cases l with
        | e n => exact fun q => q.elim
        | s ns =>
          cases t with
          | false => exact fun q => q.elim
          | true =>
            intro q k
            have hlf : LfOk K F w (.s ns) := c.lf (w, .s ns) (List.mem_append_left _ (sl _ (by simp [AT.leaves])))
            obtain ⟨a, rfl, _⟩ := hlf
            have c3 : CB K Φ.g F H (nodesE env ++ Np) (leavesE env ++ ([(V.ref a, LF.s ns)] ++ Lp)) := (c.drop1.leaf (v := .ref a) (l := .s ns) ⟨a, rfl, by assumption⟩).sb (.refl _) fun q hq => by
              rcases List.mem_append.mp hq with z | z
              · exact List.mem_cons_of_mem _ (List.mem_append_left _ z)
              · rcases List.mem_append.mp z with z | z
                · rw [List.mem_singleton.mp z]
                  exact List.mem_cons_self
                · exact List.mem_cons_of_mem _ (List.mem_append_right _ z)
            refine k a (ns.map .int) F env [(V.ref a, LF.s ns)] ev.symm c3 (fun env1 F1 H1 Np1 Lp1 c1 hB _ => ?_) (fun J H' F'' cc hJ => q J H' F'' env _ cc s rfl ⟨.refl _, fun j hj => nomatch hj⟩ hJ)
            have dq1 : LfOk K F1 (.ref a) (.s ns) := c1.lf (V.ref a, LF.s ns) (List.mem_append_right _ (hB _ List.mem_cons_self))
            obtain ⟨a', e1, h1⟩ := dq1
            cases e1
            exact ⟨_, c1.sub.sql h1, .ofInts ns⟩
        | d dd =>
          simp only [Option.map_some, AT.er]
          cases hd : sqD t dd with
          | none => exact fun q => q.elim
          | some ds =>
            intro q k
            have dq : Dq K F w dd := c.lf (w, .d dd) (List.mem_append_left _ (sl _ (by simp [AT.leaves])))
            obtain ⟨a, xs, e1, _, _⟩ := dq.sq hd
            have e2 : v = .ref a := ev.symm.trans e1
            subst e1
            have c3 : CB K Φ.g F H (nodesE env ++ Np) (leavesE env ++ ([(V.ref a, LF.d dd)] ++ Lp)) := (c.drop1.leaf (v := .ref a) (l := .d dd) dq).sb (.refl _) fun q hq => by
              rcases List.mem_append.mp hq with z | z
              · exact List.mem_cons_of_mem _ (List.mem_append_left _ z)
              · rcases List.mem_append.mp z with z | z
                · rw [List.mem_singleton.mp z]
                  exact List.mem_cons_self
                · exact List.mem_cons_of_mem _ (List.mem_append_right _ z)
            refine k a ds F env [(V.ref a, LF.d dd)] e2 c3 (fun env1 F1 H1 Np1 Lp1 c1 hB _ => ?_) (fun J H' F'' cc hJ => q J H' F'' env _ cc s rfl ⟨.refl _, fun j hj => nomatch hj⟩ hJ)
            have dq1 : Dq K F1 (.ref a) dd := c1.lf (V.ref a, LF.d dd) (List.mem_append_right _ (hB _ List.mem_cons_self))
            obtain ⟨a', xs', e1, h1, h2⟩ := dq1.sq hd
            cases e1
            exact ⟨xs', h1.le c1.sub, h2⟩
      | nd a t' xs =>
        simp only [Option.map_some, AT.er, AT.erL_map]
        by_cases ht : t' = t
        · subst ht
          simp only [if_true]
          cases hl : leafDs (xs.map AT.er) with
          | none => exact fun q => q.elim
          | some ds =>
            simp only [rsv_er]
            cases hr : rsv env i with
            | none => exact fun q => q.elim
            | some jp =>
              obtain ⟨j, pp⟩ := jp
              simp only [erE_get]
              have hroot : ∃ u, rootOf env j = some u ∧ u.getP (pp ++ qq) = some (.nd a t' xs) := by
                simp only [ctnA, hr] at hc
                cases hro : rootOf env j with
                | none => rw [hro] at hc; simp at hc
                | some u => rw [hro] at hc; exact ⟨u, rfl, hc⟩
              obtain ⟨u, hro, hgp⟩ := hroot
              -- in every later bag that keeps the lock
              have later : ∀ (env' : AEnv), env'[j]? = some (.lk u) → ItsOk t' K Φ.g a ds env' [] := fun env' he env1 F1 H1 Np1 Lp1 c1 hB l1 => by
                have hk := l1 j u he
                have hr1 : rootOf env1 j = some u := by simp only [rootOf, hk, Sl.tr]
                obtain ⟨r1, r2⟩ := root_sb hr1
                obtain ⟨g1, g2⟩ := getP_sb hgp
                refine ⟨xs.map AT.val, ?_, leafDs_dql hl fun q hq => c1.lf q (List.mem_append_left _ (r2 q (g2 q (by simpa [AT.leaves] using hq))))⟩
                have hn := c1.node ((g1.trans r1).trans (Sb.left _ _))
                cases t' with
                | true => exact SqL.of hn
                | false => exact SqT.of hn
              cases hj : env[j]? with
              | none => exact fun q => q.elim
              | some sj =>
                cases sj with
                | un => exact fun q => q.elim
                | al _ _ => exact fun q => q.elim
                | lk u' =>
                  intro q k
                  have hu : u' = u := by simpa [rootOf, hj, Sl.tr] using hro
                  subst hu
                  exact k a ds F env [] ev.symm (by simpa using c.drop1) (by simpa using later env hj) (fun J H' F'' cc hJ => q J H' F'' env [] cc s rfl ⟨.refl _, fun j hj => nomatch hj⟩ hJ)
                | iv u' =>
                  intro q k
                  have hu : u' = u := by simpa [rootOf, hj, Sl.tr] using hro
                  subst hu
                  obtain ⟨c2, s2⟩ := relk (s' := .lk u') c.drop1 s hj rfl rfl
                  have hjl := (List.getElem?_eq_some_iff.mp hj).1
                  have hjs : (env.set j (.lk u'))[j]? = some (.lk u') := List.getElem?_set_self hjl
                  have hlk : LkS env (env.set j (.lk u')) := fun n w hw => by
                    have hne : j ≠ n := fun z => by
                      subst z
                      rw [hj] at hw
                      cases hw
                    rw [List.getElem?_set_ne hne]
                    exact hw
                  refine k a ds F (env.set j (.lk u')) [] ev.symm (by simpa using c2) (by simpa using later _ hjs) (fun J H' F'' cc hJ => q J H' F'' (env.set j (.lk u')) [] cc s2 (set_er _ _ _) ⟨hlk, fun j' hj' => ?_⟩ hJ)
                  cases hj'
                  exact ⟨⟨u', hjs⟩, fun t z => by rw [hj] at z; cases z⟩
        · simp only [ht, if_false]
          exact fun q => q.elim
theorem ItsOk.l {a : Addr} {ds : List PyData} (h : ItsOk true K g a ds env0 B) : ItOk K g (Itl K a) ds env0 B := fun env F H Np Lp c hB l => by
  obtain ⟨xs, h1, h2⟩ := h env F H Np Lp c hB l
  have hl := h2.length
  refine ⟨fun i hi => ⟨xs, h1, by omega⟩, fun i hi => ?_⟩
  obtain ⟨v, e1, e2⟩ := h2.get (List.getElem?_eq_getElem hi)
  refine ⟨⟨xs, v, h1, e1⟩, fun x H' hy => ?_⟩
  obtain ⟨rfl, hy⟩ := hy
  have e3 := hy xs h1
  rw [e1] at e3
  cases e3
  exact ⟨F, c, e2⟩
theorem ItsOk.t {a : Addr} {ds : List PyData} (h : ItsOk false K g a ds env0 B) : ItOk K g (Itt K a) ds env0 B := fun env F H Np Lp c hB l => by
  obtain ⟨xs, h1, h2⟩ := h env F H Np Lp c hB l
  have hl := h2.length
  refine ⟨fun i hi => ⟨xs, h1, by omega⟩, fun i hi => ?_⟩
  obtain ⟨v, e1, e2⟩ := h2.get (List.getElem?_eq_getElem hi)
  refine ⟨⟨xs, v, h1, e1⟩, fun x H' hy => ?_⟩
  obtain ⟨rfl, hy⟩ := hy
  have e3 := hy xs h1
  rw [e1] at e3
  cases e3
  exact ⟨F, c, e2⟩
def enD : Nat → List PyData → List PyData
  | _, [] => []
  | n, d :: ds => .tuple [.int (n : Nat), d] :: enD (n + 1) ds
theorem enD_length : ∀ (n : Nat) (ds : List PyData), (enD n ds).length = ds.length
  | _, [] => rfl
  | n, d :: ds => by simp [enD, enD_length (n + 1) ds]
theorem enD_get : ∀ (n : Nat) (ds : List PyData) (i : Nat), (enD n ds)[i]? = ds[i]?.map fun d => .tuple [.int ((n + i : Nat) : Int), d]
  | _, [], i => by simp [enD]
  | n, d :: ds, 0 => by simp [enD]
  | n, d :: ds, i + 1 => by
    simp only [enD, List.getElem?_cons_succ]
    rw [enD_get (n + 1) ds i]
    have : n + 1 + i = n + (i + 1) := by omega
    rw [this]
theorem CB.newTup (c : CB K g F H A B) {vs : List V} {ds : List PyData} {p : Addr} (hp : H p = none) (h : DqL K F vs ds) : ∃ F', CB K g F' (upd H p (.tup vs)) A B ∧ Dq K F' (.ref p) (.tuple ds) := by
  obtain ⟨c2, l2⟩ := c.allocF (o := .tup vs) hp
  exact ⟨_, c2, .tup (SqT.of upd_same) (h.le l2)⟩
theorem ItsOk.e {a : Addr} {ds : List PyData} (h : ItsOk true K g a ds env0 B) : ItOk K g (Ite K a) (enD 0 ds) env0 B := fun env F H Np Lp c hB l => by
  obtain ⟨xs, h1, h2⟩ := h env F H Np Lp c hB l
  have hl := h2.length
  refine ⟨fun i hi => ⟨xs, h1, by rw [enD_length] at hi; omega⟩, fun i hi => ?_⟩
  have hi' : i < ds.length := by rwa [enD_length] at hi
  obtain ⟨v, e1, e2⟩ := h2.get (List.getElem?_eq_getElem hi')
  refine ⟨⟨xs, v, h1, e1⟩, fun x H' hy => ?_⟩
  obtain ⟨T, x', rfl, hT, rfl, hy⟩ := hy
  have e3 := hy xs h1
  rw [e1] at e3
  cases e3
  obtain ⟨F', c', dq⟩ := c.newTup hT (.cons (.int (i : Nat)) (.cons e2 .nil))
  refine ⟨F', c', ?_⟩
  have e4 := enD_get 0 ds i
  rw [List.getElem?_eq_getElem hi', List.getElem?_eq_getElem hi] at e4
  simp only [Option.map_some, Option.some.injEq, Nat.zero_add] at e4
  rw [e4]
  exact dq
theorem it_rng (lo : Int) (n : Nat) : ItOk K g (Itr lo n) ((List.range n).map fun i => .int (lo + (i : Nat))) env0 B := fun env F H Np Lp c hB l => by
  refine ⟨fun i hi => (show n ≤ i by simpa using hi), fun i hi => ⟨(show i < n by simpa using hi), fun x H' hy => ?_⟩⟩
  obtain ⟨rfl, rfl⟩ := hy
  refine ⟨F, c, ?_⟩
  simp only [List.getElem_map, List.getElem_range]
  exact .int _
theorem it_rngC (lo cc : Int) (n : Nat) : ItOk K g (Itc lo cc n) ((List.range n).map fun i => .int (lo + (i : Nat) * cc)) env0 B := fun env F H Np Lp c hB l => by
  refine ⟨fun i hi => (show n ≤ i by simpa using hi), fun i hi => ⟨(show i < n by simpa using hi), fun x H' hy => ?_⟩⟩
  obtain ⟨rfl, rfl⟩ := hy
  refine ⟨F, c, ?_⟩
  simp only [List.getElem_map, List.getElem_range]
  exact .int _
/-! ### the walks -/
theorem seqEI {m : M O} {f : O → Env' → R (List PyData × Option Nat)} {Q' : VK} (c : CB K Φ.g F H (nodesE env ++ (A ++ Np)) (leavesE env ++ (B ++ Lp))) (s : SR env σ) (q : CtI K Φ σ RI env Np Lp (R.bind (m (erE env)) f))
    (k : ∀ v H' F' env' ao, CB K Φ.g F' H' (nodesE env' ++ (Opd.nodes ao ++ (A ++ Np))) (leavesE env' ++ (Opd.leaves ao ++ (B ++ Lp))) → SR env' σ → (∃ t, AO.tree ao env' = some t ∧ t.val = v) →
      (b = true → env' = env ∧ Le H H') → CtI K Φ σ RI env' Np Lp (f (Opd.er ao) (erE env')) → Q' v H') : tE K Φ b m σ H Q' := by
  refine ⟨F, env, A ++ Np, B ++ Lp, c, s, ?_⟩
  revert q
  cases hm : m (erE env) with
  | ok o e' =>
    intro q v H' F' env' ao a1 a2 a3 a4 a5 a6 a7
    refine k v H' F' env' ao a1 a2 a5 a6 ?_
    rw [a4, a3]
    have q' : CtI K Φ σ RI env Np Lp (f o e') := q
    revert q'
    cases f o e' with
    | ok p e2 =>
      intro q' J H2 F2 env2 B' d1 d2 d3 d4 d5
      refine q' J H2 F2 env2 B' d1 d2 d3 ⟨a7.trans d4.1, fun j hj => ⟨(d4.2 j hj).1, fun t ht => (d4.2 j hj).2 t (a7 j t ht)⟩⟩ d5
    | ex c e2 => exact fun q' => q'
    | bad => exact fun q' => q'
  | ex c e' => exact fun q H' F' env' a1 a2 a3 => q H' F' env' (a1.sb2 (Sb.right _ _).tail (Sb.right _ _).tail) a2 a3
  | bad => exact fun q => q
theorem c0 (c : CB K g F H (nodesE env ++ Np) (leavesE env ++ Lp)) : CB K g F H (nodesE env ++ ([] ++ Np)) (leavesE env ++ ([] ++ Lp)) := c
def sqI (t : Bool) (φ : List PyData → List PyData) (ma : M O) : MI := fun e => R.bind (ma e) fun o e' => mapI φ (sqR t o e')
abbrev lsI := sqI true id
abbrev tpI := sqI false id
abbrev enI := sqI true (enD 0)
theorem sit_list {tg : Expr} (h : SE X Φ b x ma) : SIt X Φ tg x (lsI ma) := by
  refine PI.imp (pi_list h) fun σ H R' q => ?_
  obtain ⟨F, env, Np, Lp, c, s, q⟩ := q
  refine seqEI (A := []) (B := []) c s q fun v H' F' env' ao c' s' t' p' q' => ?_
  refine sqR_end c' s' (ex_all t') q' fun a ds F2 env2 B e c2 it k => ?_
  obtain ⟨xs, h1, _⟩ := it env2 F2 H' _ _ c2 (fun _ hq => List.mem_append_left _ hq) (.refl _)
  exact ⟨a, e, ⟨xs, h1⟩, k _ _ _ c2 it.l⟩
theorem sit_tup {tg : Expr} (h : SE X Φ b x ma) : SIt X Φ tg x (tpI ma) := by
  refine PI.imp (pi_tup h) fun σ H R' q => ?_
  obtain ⟨F, env, Np, Lp, c, s, q⟩ := q
  refine seqEI (A := []) (B := []) c s q fun v H' F' env' ao c' s' t' p' q' => ?_
  refine sqR_end c' s' (ex_all t') q' fun a ds F2 env2 B e c2 it k => ?_
  obtain ⟨xs, h1, _⟩ := it env2 F2 H' _ _ c2 (fun _ hq => List.mem_append_left _ hq) (.refl _)
  exact ⟨a, e, ⟨xs, h1⟩, k _ _ _ c2 it.t⟩
theorem sit_enum {elts : List Expr} {kk : Nat} {tpos : Pos} (hg : Gl X "enumerate") (hm : X.mg "enumerate" = none) (h : SE X Φ b x ma) (hst : starEach [x] X.env = (false, eval x X.env) :: starEach [] X.env := by rfl) (hs : starEach [x] X.env = [(false, eval x X.env)] := by rfl) :
    SIt X Φ (.Tuple elts kk tpos) (.Call (.Name "enumerate" p) [x] [] pos) (enI ma) := by
  refine PI.imp (pi_enum hg hm (pa_cons h pa_nil hst) hs) fun σ H R' q => ?_
  obtain ⟨F, env, Np, Lp, c, s, q⟩ := q
  refine seqEI (A := []) (B := []) c s q fun v H' F' env' ao c' s' t' p' q' => ?_
  refine sqR_end c' s' (ex_all t') q' fun a ds F2 env2 B e c2 it k => ?_
  obtain ⟨xs, h1, _⟩ := it env2 F2 H' _ _ c2 (fun _ hq => List.mem_append_left _ hq) (.refl _)
  exact ⟨a, xs, by rw [e], h1, k _ _ _ c2 it.e⟩
def smI (i : Int) : Bool := decide (-(2 ^ 62) ≤ i ∧ i < 2 ^ 62)
theorem smI_ok {i : Int} (h : smI i = true) : -(2 ^ 62) ≤ i ∧ i < 2 ^ 62 := of_decide_eq_true h
def rgI (a b : Option PyData) (e : Env') : R (List PyData × Option Nat) := match a, b with
  | some (.int i), some (.int j) => if smI i && smI j then .ok (rgD i j, none) e else .bad
  | _, _ => .bad
def rg1I (ma : M O) : MI := fun e => R.bind (ma e) fun o e' => rgI (some (.int 0)) (O.dat o e') e'
def rg2I (b2 : Bool) (ma mb : M O) : MI := fun e => R.bind (ma e) fun o1 e1 => R.bind (mb e1) fun o2 e2 => if O.stays b2 o1 then rgI (O.dat o1 e2) (O.dat o2 e2) e2 else .bad
theorem rgI_end {i j : Option PyData} (c : CB K Φ.g F H (nodesE env ++ Np) (leavesE env ++ Lp)) (s : SR env σ) (q : CtI K Φ σ RI env Np Lp (rgI i j (erE env))) :
    ∃ a b, i = some (.int a) ∧ j = some (.int b) ∧ (-(2 ^ 62) ≤ a ∧ a < 2 ^ 62) ∧ (-(2 ^ 62) ≤ b ∧ b < 2 ^ 62) ∧ RI (Itr a (b - a).toNat) H := by
  unfold rgI at q
  split at q
  · next a b =>
    cases h : smI a && smI b with
    | false => rw [h] at q; exact q.elim
    | true =>
      rw [h] at q
      refine ⟨a, b, rfl, rfl, smI_ok (band1 h), smI_ok (band2 h), ?_⟩
      exact q _ H F env [] (by simpa using c) s rfl ⟨.refl _, fun j hj => nomatch hj⟩ (it_rng a (b - a).toNat)
  · exact q.elim
theorem sit_rg1 {tg : Expr} (hg : Gl X "range") (hm : X.mg "range" = none) (h : SE X Φ b x ma) (hst : starEach [x] X.env = (false, eval x X.env) :: starEach [] X.env := by rfl) (hs : starEach [x] X.env = [(false, eval x X.env)] := by rfl) :
    SIt X Φ tg (.Call (.Name "range" p) [x] [] pos) (rg1I ma) := by
  refine PI.imp (pi_range1 hg hm (pa_cons h pa_nil hst) hs) fun σ H R' q => ?_
  obtain ⟨F, env, Np, Lp, c, s, q⟩ := q
  refine seqEI (A := []) (B := []) c s q fun v H' F' env' ao c' s' t' p' q' => ?_
  obtain ⟨a, bb, e1, e2, h1, h2, k⟩ := rgI_end c'.drop1 s' q'
  cases e1
  have ev := dat_int c' (ex_all t') e2
  subst ev
  rw [Int.sub_zero] at k
  exact ⟨bb, rfl, h2.1, h2.2, k⟩
theorem two_I {m : M O} {b2 : Bool} {f : O → O → Env' → R (List PyData × Option Nat)} {P : V → V → Hp → Prop} (c : CB K Φ.g F H (nodesE env ++ Np) (leavesE env ++ Lp)) (s : SR env σ)
    (q : CtI K Φ σ RI env Np Lp (R.bind (ma (erE env)) fun o1 e1 => R.bind (mb e1) fun o2 e2 => if O.stays b2 o1 then f o1 o2 e2 else .bad))
    (k : ∀ v1 v2 H2 F2 env2 ao1 ao2, CB K Φ.g F2 H2 (nodesE env2 ++ (Opd.nodes ao2 ++ (Opd.nodes ao1 ++ Np))) (leavesE env2 ++ (Opd.leaves ao2 ++ (Opd.leaves ao1 ++ Lp))) → SR env2 σ →
      (∀ t, AO.tree ao1 env2 = some t → t.val = v1) → (∃ t, AO.tree ao2 env2 = some t ∧ t.val = v2) → CtI K Φ σ RI env2 Np Lp (f (Opd.er ao1) (Opd.er ao2) (erE env2)) → P v1 v2 H2) :
    tE K Φ b1 ma σ H fun v1 H1 => tE K Φ b2 mb σ H1 fun v2 H2 => P v1 v2 H2 := by
  refine seqEI (A := []) (B := []) c s q fun v1 H1 F1 env1 ao1 c1 s1 t1 p1 q1 => ?_
  refine seqEI (b := b2) (f := fun o2 e2 => if O.stays b2 (Opd.er ao1) then f (Opd.er ao1) o2 e2 else .bad) c1 s1 q1 fun v2 H2 F2 env2 ao2 c2 s2 t2 p2 q2 => ?_
  cases hs : O.stays b2 (Opd.er ao1) with
  | false => rw [hs] at q2; exact q2.elim
  | true =>
    rw [hs] at q2
    exact k v1 v2 H2 F2 env2 ao1 ao2 c2 s2 (fun t ht => val_stays hs s1 s2 p2 t1 ht) t2 q2
theorem sit_rg2 {tg : Expr} (hg : Gl X "range") (hm : X.mg "range" = none) (h : SE X Φ b1 x ma) (h' : SE X Φ b2 y mb) (hst : starEach [x, y] X.env = (false, eval x X.env) :: starEach [y] X.env := by rfl) (hst2 : starEach [y] X.env = (false, eval y X.env) :: starEach [] X.env := by rfl)
    (hs : starEach [x, y] X.env = [(false, eval x X.env), (false, eval y X.env)] := by rfl) (hs2 : starEach [y] X.env = [(false, eval y X.env)] := by rfl) : SIt X Φ tg (.Call (.Name "range" p) [x, y] [] pos) (rg2I b2 ma mb) := by
  refine PI.imp (pi_range2 hg hm (pa_cons h (pa_cons h' pa_nil hst2) hst) hs hs2) fun σ H R' q => ?_
  obtain ⟨F, env, Np, Lp, c, s, q⟩ := q
  refine two_I (m := ma) c s q fun v1 v2 H2 F2 env2 ao1 ao2 c' s' t1 t2 q' => ?_
  obtain ⟨a, bb, e1, e2, h1, h2, k⟩ := rgI_end c'.drop2 s' q'
  have ev1 := dat_int (tree_stays c') t1 e1
  have ev2 := dat_int c' (ex_all t2) e2
  subst ev1 ev2
  exact ⟨a, bb, rfl, ⟨h1.1, h1.2, h2.1, h2.2⟩, k⟩
/-- range(a, b, -1) -/
def rgDn (a b : Int) : List PyData := (List.range (a - b).toNat).map fun i => .int (a + (i : Nat) * -1)
def rg3I (ma mb : M O) : MI := fun e => R.bind (ma e) fun o1 e1 => R.bind (mb e1) fun o2 e2 => if O.stays true o1 then (match O.dat o1 e2, O.dat o2 e2 with
  | some (.int i), some (.int j) => if smI i && smI j then .ok (rgDn i j, none) e2 else .bad
  | _, _ => .bad) else .bad
theorem sit_rg3 {tg : Expr} (hg : Gl X "range") (hm : X.mg "range" = none) (h : SE X Φ b1 x ma) (h' : SE X Φ true y mb) (h3 : PE X z (tC (.int (-1)))) (hst : starEach [x, y, z] X.env = (false, eval x X.env) :: starEach [y, z] X.env := by rfl) (hst2 : starEach [y, z] X.env = (false, eval y X.env) :: starEach [z] X.env := by rfl) (hst3 : starEach [z] X.env = (false, eval z X.env) :: starEach [] X.env := by rfl)
    (hpl : (backTo pos (starEach [y, z] X.env)).any (·.1) = false := by rfl) : SIt X Φ tg (.Call (.Name "range" p) [x, y, z] [] pos) (rg3I ma mb) := by
  refine PI.imp (pi_range3 hg hm (pa_cons h (pa_cons h' (pa_cons h3 pa_nil hst3) hst2) hst) hst hpl) fun σ H R' q => ?_
  obtain ⟨F, env, Np, Lp, c, s, q⟩ := q
  refine two_I (m := ma) (f := fun o1 o2 e2 => match O.dat o1 e2, O.dat o2 e2 with
    | some (.int i), some (.int j) => if smI i && smI j then .ok (rgDn i j, none) e2 else .bad
    | _, _ => .bad) c s q fun v1 v2 H2 F2 env2 ao1 ao2 c' s' t1 t2 q' => ?_
  split at q'
  · next i j e1 e2 =>
    cases hh : smI i && smI j with
    | false => rw [hh] at q'; exact q'.elim
    | true =>
      rw [hh] at q'
      have ev1 := dat_int (tree_stays c') t1 e1
      have ev2 := dat_int c' (ex_all t2) e2
      subst ev1 ev2
      obtain ⟨h1, h1'⟩ := smI_ok (band1 hh)
      obtain ⟨h2, h2'⟩ := smI_ok (band2 hh)
      exact ⟨i, j, -1, _, rfl, RgC.neg h1 h1' h2 h2', q' _ H2 F2 env2 [] (by simpa using c'.drop2) s' rfl ⟨.refl _, fun j hj => nomatch hj⟩ (it_rngC i (-1) (i - j).toNat)⟩
  · exact q'.elim
end
end Z
/-! Z20: list comprehensions. -/
namespace Z
open PySem L2
def wp {τ : Type} : List Nat → List (Sl τ) → List (Sl τ)
  | [], e => e
  | i :: r, e => (wp r e).set i .un
theorem wp_length {τ : Type} : ∀ (is : List Nat) (e : List (Sl τ)), (wp is e).length = e.length
  | [], _ => rfl
  | i :: r, e => by rw [wp, List.length_set, wp_length r e]
theorem wp_er : ∀ (is : List Nat) (e : AEnv), erE (wp is e) = wp is (erE e)
  | [], _ => rfl
  | i :: r, e => by rw [wp, wp, set_er, wp_er r e]; rfl
theorem wp_out {τ : Type} {k : Nat} : ∀ {is : List Nat} {e : List (Sl τ)}, k ∉ is → (wp is e)[k]? = e[k]?
  | [], _, _ => rfl
  | i :: r, e, h => by
    rw [wp, List.getElem?_set_ne (fun z => h (by simp [z]))]
    exact wp_out fun z => h (List.mem_cons_of_mem _ z)
theorem wp_in {τ : Type} {k : Nat} : ∀ {is : List Nat} {e : List (Sl τ)}, k ∈ is → (wp is e)[k]? = none ∨ (wp is e)[k]? = some .un
  | i :: r, e, h => by
    by_cases hk : i = k
    · subst hk
      rw [wp]
      by_cases hl : i < (wp r e).length
      · exact .inr (List.getElem?_set_self hl)
      · exact .inl (List.getElem?_eq_none (by rw [List.length_set]; omega))
    · rw [wp, List.getElem?_set_ne hk]
      rcases List.mem_cons.mp h with z | z
      · exact absurd z.symm hk
      · exact wp_in z
def okW (is : List Nat) (e : Env') : Bool := is.all fun i => okA i e
def lcG (own : List Nat) (tg : IV → Env' → R Unit) (mt : M Bool) (me : M O) : List IV → List IV → Env' → R (List IV)
  | [], acc, e => .ok acc e
  | t :: ts, acc, e => R.bind (tg t e) fun _ e1 => R.bind (mt e1) fun k e2 => if k then R.bind (me e2) fun o e3 => match toV o e3 with
      | some u => if okW own e3 && lim (acc.length + 1) then lcG own tg mt me ts (acc ++ [u]) (wp own e3) else .bad
      | none => .bad
    else if okW own e2 then lcG own tg mt me ts acc (wp own e2) else .bad
def lcM (own : List Nat) (mi : MI) (tg : IV → Env' → R Unit) (mt : M Bool) (me : M O) : M O := fun e => R.bind (mi e) fun p e1 => if okW own e1 then (match lcG own tg mt me (p.1.map IV.d) [] (wp own e1) with
  | .ok acc e2 => .ok (.tm (.nd true acc)) (unlkO p.2 e2)
  | _ => .bad) else .bad
def yesM : M Bool := .ok true
def Fx.nox (Φ : Fx) : Fx := { Φ with W := fun _ _ _ _ => False }
section
variable {X : Cx} {K : PySem.W.Frag} {Φ : Fx} {io : IO} {b b1 b2 b3 : Bool} {σ : St} {D : Ends} {H F : Hp} {Q : VK} {RI : It → Hp → Prop} {env env0 env00 : AEnv} {Np Np' Nb A : List (Addr × HO)} {Lp Lp' B : List (V × LF)} {x y z : Expr} {es : List Expr} {ma mb mc mo mk me : M O} {mt : M Bool} {mas : M (List O)} {pos p : Pos} {st : List Stmt} {sa : MS} {tgm : IV → Env' → R Unit} {g : Gh} {own : List (Str × Nat)}
theorem un_bag {j : Nat} (c : CB K g F H (nodesE env ++ Np) (leavesE env ++ Lp)) : CB K g F H (nodesE (env.set j .un) ++ Np) (leavesE (env.set j .un) ++ Lp) := by
  cases h : env[j]? with
  | none =>
    have : env.set j .un = env := by
      rw [List.set_eq_of_length_le]
      exact List.getElem?_eq_none_iff.mp h
    rw [this]
    exact c
  | some sl =>
    obtain ⟨R, S, r1, r2⟩ := env_split h
    have p1 := r1 sl
    have p2 := r2 sl
    rw [set_self h] at p1 p2
    refine c.sb (Sb.head (Sb.trans (.of_perm (r1 .un).symm) ((Sb.right sl.nodes R).trans (.of_perm p1)))) fun q hq => ?_
    rcases List.mem_append.mp hq with z | z
    · rcases List.mem_append.mp ((r2 .un).subset z) with w | w
      · simp [Sl.leaves] at w
      · exact List.mem_append_left _ (p2.symm.subset (List.mem_append_right _ w))
    · exact List.mem_append_right _ z
theorem wp_bag : ∀ {is : List Nat}, CB K g F H (nodesE env ++ Np) (leavesE env ++ Lp) → CB K g F H (nodesE (wp is env) ++ Np) (leavesE (wp is env) ++ Lp)
  | [], c => c
  | _ :: _, c => un_bag (wp_bag c)
theorem wp_sr0 : ∀ {is : List Nat}, SR env σ → SR (wp is env) σ
  | [], s => s
  | i :: _, s => (wp_sr0 s).un i
theorem wp_sr {is : List Nat} (s : SR env σ) : SR (wp is env) (wipe σ is) := by
  refine ⟨by rw [wipe_length]; exact (wp_sr0 s).1, fun k t h => ?_⟩
  have hk : k ∉ is := fun hk => by
    rcases wp_in (e := env) hk with z | z <;> simp [ctnA, rsv, z] at h
  rw [wipe_out hk]
  exact (wp_sr0 s).2 k t h
/-- back from a block whose own slots are empty -/
theorem wp_back {is : List Nat} {σ2 : St} (s : SR env σ2) (h : wipe σ2 is = wipe σ is) : SR (wp is env) σ := by
  refine ⟨?_, fun k t hk => ?_⟩
  · rw [wp_length, s.1, ← wipe_length σ2 is, h, wipe_length]
  · have hn : k ∉ is := fun hn => by
      rcases wp_in (e := env) hn with z | z <;> simp [ctnA, rsv, z] at hk
    have e1 := (wp_sr0 (is := is) s).2 k t hk
    rw [← wipe_out hn, ← h, wipe_out hn]
    exact e1
theorem wp_lks {is : List Nat} (h : okW is (erE env) = true) : LkS env (wp is env) := fun k t hk => by
  rw [wp_out fun hm => ?_]
  · exact hk
  · have h1 : okA k (erE env) = true := List.all_eq_true.mp h k hm
    obtain ⟨sl, e1, e2⟩ := okA_er h1
    rw [hk] at e1
    cases e1
    exact e2 t rfl
theorem erL_snoc (acc : List AT) (u : AT) : AT.erL (acc ++ [u]) = AT.erL acc ++ [u.er] := by simp [AT.erL_map]
theorem wipe_in : ∀ {vs : List Nat} {k : Nat}, k ∈ vs → k < σ.length → (wipe σ vs)[k]? = some none
  | v :: vs, k, h, hl => by
    by_cases hk : v = k
    · subst hk
      show ((wipe σ vs).set v none)[v]? = _
      rw [List.getElem?_set_self (by rw [wipe_length]; exact hl)]
    · show ((wipe σ vs).set v none)[k]? = _
      rw [List.getElem?_set_ne hk]
      rcases List.mem_cons.mp h with z | z
      · exact absurd z.symm hk
      · exact wipe_in z hl
theorem wipe_eq {σ2 : St} {vs : List Nat} (h : σ2.length = σ.length) (k : ∀ i, i ∉ vs → σ2[i]? = σ[i]?) : wipe σ2 vs = wipe σ vs := by
  apply List.ext_getElem?
  intro i
  by_cases hi : i ∈ vs
  · by_cases hl : i < σ.length
    · rw [wipe_in hi hl, wipe_in hi (by omega)]
    · rw [List.getElem?_eq_none (by rw [wipe_length]; omega), List.getElem?_eq_none (by rw [wipe_length]; omega)]
  · rw [wipe_out hi, wipe_out hi, k i hi]
theorem lc_run {mi : MI} {vs : List Nat} (q : tE K Φ false (lcM vs mi tgm mt me) σ H Q) : tLc (tIt K Φ mi) (fun v σ H Q => tG K Φ.nox (fun k => !vs.contains k, σ) tgm v σ H Q) (tT K Φ.nox mt) (tE K Φ.nox b me) vs σ H Q := by
  obtain ⟨F, env, Np, Lp, c, s, q⟩ := q
  refine ⟨F, env, Np, Lp, c, s, ?_⟩
  have q : Ct K Φ false σ Q H env Np Lp (R.bind (mi (erE env)) fun p e1 => if okW vs e1 then (match lcG vs tgm mt me (p.1.map IV.d) [] (wp vs e1) with
    | .ok acc e2 => .ok (.tm (.nd true acc)) (unlkO p.2 e2)
    | _ => .bad) else .bad) := q
  revert q
  cases mi (erE env) with
  | bad => exact fun q => q
  | ex cc e' => exact fun q => q
  | ok p e' =>
    intro q J H1 F1 env1 B c1 s1 e1 l1 it DD hD
    subst e1
    obtain ⟨ds, lo⟩ := p
    obtain ⟨l1, l2⟩ := l1
    simp only [R.bind] at q
    cases hw : okW vs (erE env1) with
    | false => rw [hw] at q; exact q.elim
    | true =>
      rw [hw] at q
      simp only [if_true] at q
      let Con : R (List IV) → Prop := fun r => Ct K Φ false σ Q H env Np Lp (match r with
        | .ok acc e2 => .ok (.tm (.nd true acc)) (unlkO lo e2)
        | _ => .bad)
      have q : Con (lcG vs tgm mt me (ds.map IV.d) [] (wp vs (erE env1))) := q
      let Iv : Nat → Hp → Prop := fun i H => ∃ F env2 acc, CB K Φ.g F H (nodesE env2 ++ ((AT.nd DD true acc).nodes ++ Np)) (leavesE env2 ++ (AT.leavesL acc ++ (B ++ Lp))) ∧ SR env2 (wipe σ vs) ∧ SR env2 σ ∧ LkS env1 env2 ∧ Con (lcG vs tgm mt me ((ds.drop i).map IV.d) (AT.erL acc) (erE env2))
      refine ⟨fun i m H => m = ds.length - i ∧ i ≤ ds.length ∧ Iv i H, ⟨_, rfl, Nat.zero_le _, F1, wp vs env1, [], ?_, wp_sr s1, wp_sr0 s1, wp_lks hw, by simpa [wp_er, AT.erL] using q⟩, ?_⟩
      · have c2 := (wp_bag (is := vs) c1).alloc (o := .lst []) hD
        refine c2.sb (.of_perm ?_) fun q hq => by simpa [AT.leavesL] using hq
        simp only [AT.nodes, AT.nodesL, List.map_nil]
        exact List.perm_middle.symm
      · rintro i m Hx ⟨rfl, hil, F2, env2, acc, c2, s2, s2', l3, q⟩
        obtain ⟨j1, j2⟩ := it env2 F2 Hx _ _ c2 (fun _ hq => List.mem_append_right _ (List.mem_append_left _ hq)) l3
        by_cases hlt : i < ds.length
        · obtain ⟨g1, g2⟩ := j2 i hlt
          have hdr : ds.drop i = ds[i] :: ds.drop (i + 1) := List.drop_eq_getElem_cons hlt
          rw [hdr] at q
          refine .inr ⟨g1, Iv (i + 1), fun H' hN => ⟨ds.length - (i + 1), by omega, rfl, hlt, hN⟩, fun x H' hy => ?_⟩
          obtain ⟨F3, c3, dq⟩ := g2 x H' hy
          have q : Con (R.bind (tgm (IV.d ds[i]) (erE env2)) fun _ e1 => R.bind (mt e1) fun k e2 => if k then R.bind (me e2) fun o e3 => match toV o e3 with
              | some u => if okW vs e3 && lim ((AT.erL acc).length + 1) then lcG vs tgm mt me ((ds.drop (i + 1)).map IV.d) (AT.erL acc ++ [u]) (wp vs e3) else .bad
              | none => .bad
            else if okW vs e2 then lcG vs tgm mt me ((ds.drop (i + 1)).map IV.d) (AT.erL acc) (wp vs e2) else .bad) := q
          refine ⟨F3, env2, .lf x (.d ds[i]), (AT.nd DD true acc).nodes ++ Np, AT.leavesL acc ++ (B ++ Lp), ?_, s2, ⟨rfl, fun k hk => rfl⟩, rfl, ?_⟩
          · refine (c3.leaf (v := x) (l := .d ds[i]) dq).sb (.refl _) fun q hq => ?_
            simp only [AT.leaves] at hq
            rcases List.mem_append.mp hq with z | z
            · exact List.mem_cons_of_mem _ (List.mem_append_left _ z)
            · rcases List.mem_append.mp z with z | z
              · rw [List.mem_singleton.mp z]
                exact List.mem_cons_self
              · exact List.mem_cons_of_mem _ (List.mem_append_right _ z)
          · show CtU K Φ.nox _ _ _ env2 _ _ (tgm (IV.d ds[i]) (erE env2))
            revert q
            cases tgm (IV.d ds[i]) (erE env2) with
            | ex cc e' => exact fun q => q.elim
            | bad => exact fun q => q.elim
            | ok u e1 =>
              intro q σ3 H3 F3 env3 a1 a2 a3 a4 a5
              subst a4
              have hwp : wipe σ3 vs = wipe σ vs := wipe_eq (by simpa [wipe_length] using a3.1) fun k hk => by
                rw [a3.2 k (by simpa using hk)]
                exact wipe_out hk
              refine ⟨hwp, ?_⟩
              have s3 : SR env3 σ3 := a2
              have q : Con (R.bind (mt (erE env3)) fun k e2 => if k then R.bind (me e2) fun o e3 => match toV o e3 with
                  | some u => if okW vs e3 && lim ((AT.erL acc).length + 1) then lcG vs tgm mt me ((ds.drop (i + 1)).map IV.d) (AT.erL acc ++ [u]) (wp vs e3) else .bad
                  | none => .bad
                else if okW vs e2 then lcG vs tgm mt me ((ds.drop (i + 1)).map IV.d) (AT.erL acc) (wp vs e2) else .bad) := q
              refine ⟨F3, env3, (AT.nd DD true acc).nodes ++ Np, AT.leavesL acc ++ (B ++ Lp), a1, a2, ?_⟩
              revert q
              cases mt (erE env3) with
              | ex cc e' => exact fun q => q.elim
              | bad => exact fun q => q.elim
              | ok k e2 =>
                intro q H4 F4 env4 d1 d2 d3 d4
                subst d3
                cases k with
                | false =>
                  have q : Con (if okW vs (erE env4) then lcG vs tgm mt me ((ds.drop (i + 1)).map IV.d) (AT.erL acc) (wp vs (erE env4)) else .bad) := q
                  cases hw4 : okW vs (erE env4) with
                  | false => rw [hw4] at q; exact q.elim
                  | true =>
                    rw [hw4] at q
                    refine ⟨F4, wp vs env4, acc, wp_bag d1, hwp ▸ wp_sr d2, wp_back d2 hwp, ((l3.trans a5).trans d4).trans (wp_lks hw4), ?_⟩
                    rw [wp_er]
                    exact q
                | true =>
                  have q : Con (R.bind (me (erE env4)) fun o e3 => match toV o e3 with
                    | some u => if okW vs e3 && lim ((AT.erL acc).length + 1) then lcG vs tgm mt me ((ds.drop (i + 1)).map IV.d) (AT.erL acc ++ [u]) (wp vs e3) else .bad
                    | none => .bad) := q
                  refine ⟨F4, env4, (AT.nd DD true acc).nodes ++ Np, AT.leavesL acc ++ (B ++ Lp), d1, d2, ?_⟩
                  revert q
                  cases me (erE env4) with
                  | ex cc e' => exact fun q => q.elim
                  | bad => exact fun q => q.elim
                  | ok o e5 =>
                    intro q v H5 F5 env5 ao f1 f2 f3 f4 f5 f6 f7
                    subst f3 f4
                    have q : Con (match toV (Opd.er ao) (erE env5) with
                      | some u => if okW vs (erE env5) && lim ((AT.erL acc).length + 1) then lcG vs tgm mt me ((ds.drop (i + 1)).map IV.d) (AT.erL acc ++ [u]) (wp vs (erE env5)) else .bad
                      | none => .bad) := q
                    cases ht : toV (Opd.er ao) (erE env5) with
                    | none => rw [ht] at q; exact q.elim
                    | some t =>
                      rw [ht] at q
                      simp only at q
                      obtain ⟨at', g1', g2', c5⟩ := toV1 f1 f5 ht
                      cases hw5 : okW vs (erE env5) && lim ((AT.erL acc).length + 1) with
                      | false => rw [hw5] at q; exact q.elim
                      | true =>
                        rw [hw5] at q
                        have hb1 := band1 hw5
                        have hb2 := lim_line (band2 hw5)
                        rw [AT.erL_map, List.length_map] at hb2
                        have cD : CB K Φ.g F5 H5 ((DD, HO.lst (acc.map AT.val)) :: (nodesE env5 ++ (at'.nodes ++ (AT.nodesL acc ++ Np)))) (leavesE env5 ++ (at'.leaves ++ (AT.leavesL acc ++ (B ++ Lp)))) := by
                          refine CB.sb c5 (.of_perm ?_) fun q hq => hq
                          show (nodesE env5 ++ (at'.nodes ++ ((DD, HO.lst (acc.map AT.val)) :: (AT.nodesL acc ++ Np)))).Perm _
                          rw [← List.append_assoc, ← List.append_assoc]
                          exact List.perm_middle
                        have hD5 := cD.at_ _ List.mem_cons_self
                        refine ⟨acc.map AT.val, hD5, by rw [List.length_map]; omega, ?_⟩
                        have c6 := cD.wr (.lst (acc.map AT.val ++ [v]))
                        refine ⟨F5, wp vs env5, acc ++ [at'], wp_bag (CB.sb c6 (.of_perm ?_) fun q hq => ?_), hwp ▸ wp_sr f2, wp_back f2 hwp, (((l3.trans a5).trans d4).trans f7).trans (wp_lks hb1), ?_⟩
                        · simp only [AT.nodes, AT.nodesL_append, AT.nodesL, List.append_nil, List.map_append, List.map_cons, List.map_nil, g2', mkHO, if_true, List.append_assoc]
                          refine List.Perm.trans ?_ List.perm_middle.symm
                          refine List.Perm.cons _ ?_
                          refine List.Perm.append_left _ ?_
                          show (at'.nodes ++ (AT.nodesL acc ++ Np)).Perm ((AT.nodesL acc ++ at'.nodes) ++ Np)
                          rw [List.append_assoc]
                          exact perm3 _ _ _
                        · simp only [AT.leavesL_append, AT.leavesL, List.append_nil, List.append_assoc, List.mem_append] at hq ⊢
                          rcases hq with z | z | z | z | z
                          · exact .inl z
                          · exact .inr (.inr (.inl z))
                          · exact .inr (.inl z)
                          · exact .inr (.inr (.inr (.inl z)))
                          · exact .inr (.inr (.inr (.inr z)))
                        · rw [wp_er, erL_snoc, g1']
                          exact q
        · have e : i = ds.length := by omega
          subst e
          rw [List.drop_length] at q
          refine .inl ⟨j1 _ (Nat.le_refl _), ?_⟩
          simp only [List.map_nil, lcG] at q
          have q : Ct K Φ false σ Q H env Np Lp (.ok (.tm (.nd true (AT.erL acc))) (unlkO lo (erE env2))) := q
          have fin : ∀ env3 : AEnv, erE env3 = unlkO lo (erE env2) → CB K Φ.g F2 Hx (nodesE env3 ++ ((AT.nd DD true acc).nodes ++ Np)) (leavesE env3 ++ (AT.leavesL acc ++ (B ++ Lp))) → SR env3 σ → LkS env env3 → Q (.ref DD) Hx := fun env3 h1 h2 h3 h4 =>
            q (.ref DD) Hx F2 env3 (.tm (.nd DD true acc)) (h2.sb (.refl _) fun q hq => by
              simp only [Opd.leaves, AT.leaves, List.mem_append] at hq ⊢
              rcases hq with z | z | z
              · exact .inl z
              · exact .inr (.inl z)
              · exact .inr (.inr (.inr z))) h3 h1 rfl ⟨_, rfl, rfl⟩ (fun z => nomatch z) h4
          cases lo with
          | none => exact fin env2 rfl c2 s2' (l1.trans l3)
          | some j =>
            obtain ⟨⟨t, ht⟩, h0⟩ := l2 j rfl
            obtain ⟨env3, u1, u2, u3, u4⟩ := unlk_ok c2 s2' (l3 j t ht) h0 (l1.trans l3)
            exact fin env3 u1 u2 u3 u4
/-! ### the rules -/
section
variable {elt tg iter c : Expr} {ifs : List Expr} {scope : Scope} {mi : MI} {spos py : Pos} {i : Nat} {yn : Str} {f : Nat → Bool}
theorem pg_st (h : ∀ σ0 : St, PG X tg (tG X.K Φ (f, σ0) tgm)) : PG X tg (fun v σ H Q => tG X.K Φ (f, σ) tgm v σ H Q) := ⟨fun pins s σ H v u Q I r q => (h σ).run pins s σ H v u Q I r q⟩
theorem PTs.imp {ifs : List Expr} {t t' : TT} (h : PTs X ifs t) (k : ∀ σ H Q, t' σ H Q → t σ H Q) : PTs X ifs t' := ⟨fun pins s σ H Q I q => h.run pins s σ H Q I (k σ H Q q)⟩
abbrev STs (X : Cx) (Φ : Fx) (ifs : List Expr) (mt : M Bool) : Prop := PTs X ifs (tT X.K Φ mt)
theorem sts_nil : STs X Φ [] yesM := PTs.imp pts_nil fun σ H Q q => by
  obtain ⟨F, env, Np, Lp, c, s, q⟩ := q
  exact q H F env c s rfl (.refl _)
theorem sts_one (h : STt X Φ c mt) : STs X Φ [c] mt := pts_one h
/-- the block of a comprehension -/
abbrev Bk (X : Cx) (scope : Scope) (P : Cx → Prop) : Prop := ∀ (s : Shared) (H : Hp) (C : Addr) (cl : List (Str × Addr)) (fp : List Addr), P (X.blk s H scope (compEnvC scope cl C X.env) fp)
theorem se_lc (hc : X.calm = true) (hN : X.N.Nodup) (hi : SIt X Φ tg iter mi) (ok : BlkOk X.N X.env.scope scope own) (hg : Bk X scope fun X' => ∀ σ0, SG X' Φ.nox (fun k => !(own.map (·.2)).contains k, σ0) tg tgm)
    (ht : Bk X scope fun X' => STs X' Φ.nox ifs mt) (he : Bk X scope fun X' => SE X' Φ.nox b elt me) (hs : ∀ x, foldedSetIterable iter X.env x = pure x := by intro _; rfl) :
    SE X Φ false (.ListComp elt [⟨tg, iter, ifs, 0⟩] scope pos) (lcM (own.map (·.2)) mi tgm mt me) := by
  refine PE.imp (pe_lc hc hN hi ok (g := fun v σ H Q => tG X.K Φ.nox (fun k => !(own.map (·.2)).contains k, σ) tgm v σ H Q) (tt := tT X.K Φ.nox mt) (te := tE X.K Φ.nox b me) (fun s H C cl fp => pg_st (hg s H C cl fp)) (fun s H C cl fp => ht s H C cl fp) (fun s H C cl fp => he s H C cl fp) hs) fun σ H Q q => ?_
  exact lc_run q
theorem ss_setLc (hc : X.calm = true) (hN : X.N.Nodup) (hi : SIt X Φ tg iter mi) (ok : BlkOk X.N X.env.scope scope own) (hg : Bk X scope fun X' => ∀ σ0, SG X' Φ.nox (fun k => !(own.map (·.2)).contains k, σ0) tg tgm)
    (ht : Bk X scope fun X' => STs X' Φ.nox ifs mt) (he : Bk X scope fun X' => SE X' Φ.nox b elt me) (hy : X.N[i]? = some yn := by rfl) (hyl : X.env.scope.names.lookup yn = some .local := by rfl)
    (hsw : swapsWith (.ListComp elt [⟨tg, iter, ifs, 0⟩] scope pos) (some (.Name yn py)) spos.line X.env = pure true := by first | exact sw_true rfl rfl rfl rfl | rfl) (hs : ∀ x, foldedSetIterable iter X.env x = pure x := by intro _; rfl) (hio : io.1 i = false := by rfl) :
    SS X Φ io (.Assign [.Name yn py] (.ListComp elt [⟨tg, iter, ifs, 0⟩] scope pos) spos) (asgS (lcM (own.map (·.2)) mi tgm mt me) (nameT i)) := by
  refine PS.imp (ps_setLc hc hN hy hyl hsw hi ok (g := fun v σ H Q => tG X.K Φ.nox (fun k => !(own.map (·.2)).contains k, σ) tgm v σ H Q) (tt := tT X.K Φ.nox mt) (te := tE X.K Φ.nox b me) (fun s H C cl fp => pg_st (hg s H C cl fp)) (fun s H C cl fp => ht s H C cl fp) (fun s H C cl fp => he s H C cl fp) hs) fun D σ H q => ?_
  obtain ⟨F, env, Np, Lp, c, s, hsi, q⟩ := q
  show tLc _ _ _ _ _ σ H fun x H1 => gName i x σ H1 D.nx
  refine lc_run (seqES c s hsi q fun v H' F' env' ao c' s' t' p' q' => ?_)
  cases ht : toV (Opd.er ao) (erE env') with
  | none => rw [ht] at q'; exact q'.elim
  | some t =>
    rw [ht] at q'
    obtain ⟨at', e1, e2, c2⟩ := toV1 c' t' ht
    refine name_run hio ⟨F', env', at', Np, Lp, c2, s', hsi, e2, ?_⟩
    rw [e1]
    revert q'
    simp only
    cases nameT i t (erE env') with
    | ok u e2 => exact fun q => q
    | ex c e2 => exact fun q => q
    | bad => exact fun q => q
end
end
end Z
/-! Z21: a def's promise from its body. -/
namespace Z
open PySem L2
def outsE {τ : Type} : List Bool → List (Sl τ) → Option (List τ)
  | [], _ => some []
  | true :: ms, .iv t :: e => match outsE ms e with
    | some ts => some (t :: ts)
    | none => none
  | false :: ms, _ :: e => outsE ms e
  | _, _ => none
def envB {τ : Type} (n : Nat) (ts : List τ) : List (Sl τ) := ts.map Sl.iv ++ List.replicate (n - ts.length) Sl.un
def endF (ms : List Bool) (t : IV) (e : Env') : FR := match outsE ms e with
  | some o => .ok t o
  | none => .bad
def bodyF (n : Nat) (ms : List Bool) (m : MS) : Sem' := fun ts => match m (envB n ts) with
  | .nx e => endF ms (.d .none) e
  | .rt t e => endF ms t e
  | .ex c e => (match outsE ms e with
    | some o => .ex c o
    | none => .bad)
  | _ => .bad
section
variable {X : Cx} {K : PySem.W.Frag} {Φ : Fx} {io : IO} {σ : St} {H F : Hp} {env : AEnv} {Np : List (Addr × HO)} {Lp : List (V × LF)} {g : Gh}
theorem outsE_er : ∀ (ms : List Bool) (e : AEnv), outsE ms (erE e) = (outsE ms e).map AT.erL
  | [], e => by simp [outsE, AT.erL]
  | true :: ms, [] => by simp [outsE, erE]
  | false :: ms, [] => by simp [outsE, erE]
  | false :: ms, s :: e => by simpa [outsE, erE] using outsE_er ms e
  | true :: ms, s :: e => by
    have ih := outsE_er ms e
    cases s <;> simp only [erE, List.map_cons, Sl.map, outsE, Option.map_none]
    rw [show List.map (Sl.map AT.er) e = erE e from rfl, ih]
    cases outsE ms e <;> simp [AT.erL]
theorem outsE_sb : ∀ {ms : List Bool} {e : AEnv} {ts : List AT}, outsE ms e = some ts → Sb (AT.nodesL ts) (nodesE e) ∧ ∀ q ∈ AT.leavesL ts, q ∈ leavesE e
  | [], e, ts, h => by
    simp only [outsE, Option.some.injEq] at h
    subst h
    exact ⟨by simpa [AT.nodesL] using Sb.left [] (nodesE e), fun q hq => by simp [AT.leavesL] at hq⟩
  | true :: ms, [], ts, h => by simp [outsE] at h
  | false :: ms, [], ts, h => by simp [outsE] at h
  | false :: ms, s :: e, ts, h => by
    obtain ⟨h1, h2⟩ := outsE_sb (ms := ms) (e := e) (ts := ts) (by simpa [outsE] using h)
    exact ⟨h1.trans (Sb.right _ _), fun q hq => List.mem_append_right _ (h2 q hq)⟩
  | true :: ms, s :: e, ts, h => by
    cases s with
    | un => simp [outsE] at h
    | lk t => simp [outsE] at h
    | al j p => simp [outsE] at h
    | iv t =>
      simp only [outsE] at h
      cases hr : outsE ms e with
      | none => rw [hr] at h; simp at h
      | some r =>
        rw [hr] at h
        simp only [Option.some.injEq] at h
        subst h
        obtain ⟨h1, h2⟩ := outsE_sb hr
        refine ⟨(Sb.refl t.nodes).app h1, fun q hq => ?_⟩
        simp only [AT.leavesL] at hq
        rcases List.mem_append.mp hq with z | z
        · exact List.mem_append_left _ z
        · exact List.mem_append_right _ (h2 q z)
/-- the values of what is handed back -/
theorem outsE_val : ∀ {ms : List Bool} {e : AEnv} {ts : List AT} {σ : St} {ats : List AT} {k : Nat}, outsE ms e = some ts → ats.length = ms.length → (∀ (i : Nat) (t : AT), e[i]? = some (Sl.iv t) → σ[i]? = some (some t.val)) →
    (∀ i : Nat, ms[i]? = some true → σ[i]? = ats[i]?.map fun t => some t.val) → ts.map AT.val = (pick ms ats).map AT.val
  | [], e, ts, σ, ats, k, h, hl, hs, hi => by
    simp only [outsE, Option.some.injEq] at h
    subst h
    cases ats <;> simp [pick] at hl ⊢
  | m :: ms, e, ts, σ, [], k, h, hl, hs, hi => by simp at hl
  | m :: ms, [], ts, σ, t :: ats, k, h, hl, hs, hi => by cases m <;> simp [outsE] at h
  | false :: ms, s :: e, ts, σ, t :: ats, k, h, hl, hs, hi => by
    cases σ with
    | nil =>
      have := outsE_val (ms := ms) (e := e) (ts := ts) (σ := []) (ats := ats) (k := k) (by simpa [outsE] using h) (by simpa using hl) (fun i t he => by have := hs (i + 1) t (by simpa using he); simp at this) (fun i he => by
        have := hi (i + 1) (by simpa using he)
        simpa using this)
      simpa [pick] using this
    | cons v σ =>
      have := outsE_val (ms := ms) (e := e) (ts := ts) (σ := σ) (ats := ats) (k := k) (by simpa [outsE] using h) (by simpa using hl) (fun i t he => by have := hs (i + 1) t (by simpa using he); simpa using this) (fun i he => by
        have := hi (i + 1) (by simpa using he)
        simpa using this)
      simpa [pick] using this
  | true :: ms, s :: e, ts, σ, t :: ats, k, h, hl, hs, hi => by
    cases s with
    | un => simp [outsE] at h
    | lk t => simp [outsE] at h
    | al j p => simp [outsE] at h
    | iv u =>
      simp only [outsE] at h
      cases hr : outsE ms e with
      | none => rw [hr] at h; simp at h
      | some r =>
        rw [hr] at h
        simp only [Option.some.injEq] at h
        subst h
        cases σ with
        | nil =>
          have := hs 0 u (by simp)
          simp at this
        | cons v σ =>
          have e1 := hs 0 u (by simp)
          have e2 := hi 0 (by simp)
          rw [e1] at e2
          simp at e2
          have := outsE_val (ms := ms) (e := e) (ts := r) (σ := σ) (ats := ats) (k := k) hr (by simpa using hl) (fun i t he => by have := hs (i + 1) t (by simpa using he); simpa using this) (fun i he => by
            have := hi (i + 1) (by simpa using he)
            simpa using this)
          simp [pick, this, e2]
theorem nodesE_un : ∀ n : Nat, nodesE (List.replicate n (Sl.un : Sl AT)) = [] ∧ leavesE (List.replicate n (Sl.un : Sl AT)) = []
  | 0 => ⟨rfl, rfl⟩
  | n + 1 => by
    obtain ⟨h1, h2⟩ := nodesE_un n
    exact ⟨by rw [List.replicate_succ]; exact h1, by rw [List.replicate_succ]; exact h2⟩
theorem nodesE_iv : ∀ ats : List AT, nodesE (ats.map Sl.iv) = AT.nodesL ats ∧ leavesE (ats.map Sl.iv) = AT.leavesL ats
  | [] => ⟨by simp [nodesE, AT.nodesL], by simp [leavesE, AT.leavesL]⟩
  | t :: r => by
    obtain ⟨h1, h2⟩ := nodesE_iv r
    exact ⟨by simp [nodesE, AT.nodesL, Sl.nodes, h1], by simp [leavesE, AT.leavesL, Sl.leaves, h2]⟩
theorem nodesE_B (n : Nat) (ats : List AT) : nodesE (envB n ats) = AT.nodesL ats ∧ leavesE (envB n ats) = AT.leavesL ats := by
  simp [envB, nodesE_append, leavesE_append, nodesE_un, nodesE_iv]
theorem erE_B (n : Nat) (ats : List AT) : erE (envB n ats) = envB n (AT.erL ats) := by
  simp only [erE, envB, AT.erL_map, List.map_append, List.map_map, List.map_replicate, List.length_map]
  rfl
theorem sr_B {N : List Str} (ats : List AT) : SR (envB N.length ats) (L2.start N (ats.map AT.val)) := by
  refine ⟨by simp [envB, L2.start], fun i t h => ?_⟩
  by_cases hi : i < ats.length
  · have e1 : (envB N.length ats)[i]? = some (.iv ats[i]) := by
      rw [envB, List.getElem?_append_left (by simpa using hi)]
      simp [hi]
    simp only [ctnA, rsv, rootOf, e1, Sl.tr, AT.getP, List.append_nil, Option.some.injEq] at h
    subst h
    rw [L2.start, List.getElem?_append_left (by simpa using hi)]
    simp [hi]
  · exfalso
    have e1 : (envB N.length ats)[i]? = none ∨ (envB N.length ats)[i]? = some .un := by
      rw [envB, List.getElem?_append_right (by simpa using hi)]
      rw [List.getElem?_replicate]
      split
      · exact .inr rfl
      · exact .inl rfl
    rcases e1 with e1 | e1 <;> simp [ctnA, rsv, e1] at h
/-- a def's body, reckoned -/
def BodyOk (P : Program) (w : World) (K : PySem.W.Frag) (mg : Str → Option Value) (base : Heap) (N : List Str) (qual : Str) (sc : Scope) (f : Addr) (k : Nat) (xc : Nat → Value) (ms : List Bool) (st : List Stmt) (m : MS) : Prop :=
  ∀ (cdv : Value) (A : Around) (outer : List Env) (s : Shared) (H : Hp) (E : XK) (g : Gh) (σ0 : St), Room k (A.deeper (PyProof.Rows.envOfC qual sc s.heap.objs.size f cdv)) →
    SB (cxOf (L2.CX P w) P w K mg base N qual sc f cdv A outer s H E) ⟨g, fun cls d _ H' => E cls d H', xc⟩ (fun i => ms.getD i false, σ0) st m
/-- THE RULE OF A DEF -/
theorem fn_ok {P : Program} {w : World} {mg : Str → Option Value} {base : Heap} {x qual : Str} {st : Stmt} {f : Addr} {fd : FuncData} {N ps : List Str} {k : Nat} {ms : List Bool} {xc : Nat → Value} {m : MS} (Fn : Fun K x qual st f fd) (S : FnScope N ps (defScope st)) (hms : ms.length = ps.length)
    (hbody : BodyOk P w K mg base N qual (defScope st) f k xc ms (defBody st) m) : FnOk P w K mg base (L2.CX P w) (k + 1) f fd ps (spF K xc ms (bodyF N.length ms m)) := by
  refine fnG Fn S (fun vs H Q E h => (spF_len h).trans hms) fun cdv A outer s H vs Q E hr h => ?_
  obtain ⟨F, ats, rfl, hargs, c, q⟩ := h
  refine ⟨_, hbody cdv A outer s H E (gOf F H (AT.nodesL ats)) (L2.start N (ats.map AT.val)) hr, ?_⟩
  have hal := argsOk_len hargs
  obtain ⟨n1, n2⟩ := nodesE_B N.length ats
  refine ⟨F, envB N.length ats, [], [], (by show CB K _ _ _ _ _; simpa [n1, n2] using c), sr_B ats, ⟨rfl, fun _ _ => rfl⟩, ?_⟩
  rw [erE_B]
  -- what is handed back
  have outs : ∀ (e' : AEnv) (σ' : St) (ts : List AT), SR e' σ' → SI (fun i => ms.getD i false, L2.start N (ats.map AT.val)) σ' → outsE ms e' = some ts → ts.map AT.val = (pick ms ats).map AT.val := fun e' σ' ts s' i' h =>
    outsE_val (k := 0) h hal (fun i t he => s'.2 i t (by simp [ctnA, rsv, rootOf, he, Sl.tr, AT.getP])) fun i hi => by
      have hl : i < ms.length := (List.getElem?_eq_some_iff.mp hi).1
      rw [i'.2 i (by simp [List.getD, hi])]
      show (L2.start N (ats.map AT.val))[i]? = _
      rw [L2.start, List.getElem?_append_left (by simpa [hal] using hl)]
      simp
      rfl
  have nxt : ∀ (v : V) (t : IV) (e' : AEnv) (σ' : St) (H' F' : Hp) (at' : AT), (match endF ms t (erE e') with
      | .ok t outs => ∀ (H' F' : Hp) (at' : AT) (outs' : List AT), CB K (gOf F H (AT.nodesL ats)) F' H' (at'.nodes ++ AT.nodesL outs') (at'.leaves ++ AT.leavesL outs') → at'.er = t → AT.erL outs' = outs → outs'.map AT.val = (pick ms ats).map AT.val → Q at'.val H'
      | .ex c outs => ∀ (H' F' : Hp) (outs' : List AT), CB K (gOf F H (AT.nodesL ats)) F' H' (AT.nodesL outs') (AT.leavesL outs') → AT.erL outs' = outs → outs'.map AT.val = (pick ms ats).map AT.val → E (xc c) none H'
      | .bad => False) → CB K (gOf F H (AT.nodesL ats)) F' H' (nodesE e' ++ (at'.nodes ++ [])) (leavesE e' ++ (at'.leaves ++ [])) → SR e' σ' → SI (fun i => ms.getD i false, L2.start N (ats.map AT.val)) σ' → at'.er = t → at'.val = v → Q v H' := fun v t e' σ' H' F' at' q c' s' i' e1 e2 => by
    simp only [endF, outsE_er] at q
    cases ho : outsE ms e' with
    | none => rw [ho] at q; exact q.elim
    | some ts =>
      rw [ho] at q
      simp only [Option.map_some] at q
      obtain ⟨o1, o2⟩ := outsE_sb ho
      rw [← e2]
      refine q H' F' at' ts (c'.sb ?_ fun z hz => ?_) e1 rfl (outs e' σ' ts s' i' ho)
      · rw [List.append_nil]
        exact Sb.trans (o1.tail) (.of_perm List.perm_append_comm)
      · rw [List.append_nil]
        rcases List.mem_append.mp hz with y | y
        · exact List.mem_append_right _ y
        · exact List.mem_append_left _ (o2 z y)
  simp only [bodyF] at q
  revert q
  cases m (envB N.length (AT.erL ats)) with
  | bad => exact fun q => q
  | bk e' => exact fun q => q.elim
  | nx e' =>
    intro q σ' H' F' env' a1 a2 a3 a4 a5
    subst a4
    refine nxt .non (.d .none) env' σ' H' F' (.lf .non (.d .none)) q ?_ a2 a3 rfl rfl
    refine (a1.leaf (v := .non) (l := .d .none) .non).sb (.refl _) fun z hz => ?_
    simp only [AT.leaves, List.append_nil, List.mem_append, List.mem_singleton, List.mem_cons] at hz ⊢
    rcases hz with y | y | y
    · exact .inr y
    · exact .inl y
    · cases y
  | rt t e' =>
    intro q v σ' H' F' env' at' a1 a2 a3 a4 a5 a6
    subst a4
    exact nxt v t env' σ' H' F' at' q a1 a2 a3 a5 a6
  | ex cc e' =>
    intro q σ' H' F' env' a1 a2 a3 a4
    subst a4
    simp only [outsE_er] at q
    cases ho : outsE ms env' with
    | none => rw [ho] at q; exact q.elim
    | some ts =>
      rw [ho] at q
      simp only [Option.map_some] at q
      obtain ⟨o1, o2⟩ := outsE_sb ho
      exact q H' F' ts (a1.sb (by rw [List.append_nil]; exact o1) fun z hz => List.mem_append_left _ (o2 z hz)) rfl (outs env' σ' ts a2 a3 ho)
end
end Z
/-! Z22: raise, while, name op= e. -/
namespace Z
open PySem L2
/-- an error's class of the program's own: below ValueError, without an own __init__ -/
structure ErrC (K : PySem.W.Frag) (mg : Str → Option Value) (n : Str) (C : Addr) : Prop where
  g : mg n = some (.ref C)
  x : PySem.W.excIn K C [.type "ValueError", .type "Exception", .type "BaseException", .type "object"] "ValueError.__new__" = true
  k : PySem.W.keepIn K (.ref C) = true
  b : PySem.W.subIn K (.ref C) (.type "BaseException") = some true
  t : PySem.W.typeIn K (.ref C) = some (.type "type")
def augR (i : Nat) (f : PyData → Option PyData) (d : Option PyData) (e : Env') : SR' := match d with
  | some d2 => match f d2 with
    | some r => if flat r then R.toS (nameT i (.d r) e) fun _ e' => .nx e' else .bad
    | none => .bad
  | none => .bad
def augS (i : Nat) (f : PyData → PyData → Option PyData) (m : M O) : MS := fun e => match ctn e i [] with
  | some (.lf (.d d1)) => R.toS (m e) fun o e1 => augR i (f d1) (O.dat o e1) e1
  | _ => .bad
def exS (c : Nat) : MS := fun e => .ex c e
def whileF (mt : M Bool) (body : MS) : Nat → Env' → SR'
  | 0, _ => .bad
  | n + 1, e => R.toS (mt e) fun k e1 => if k then (match body e1 with
    | .nx e2 => whileF mt body n e2
    | .bk e2 => .nx e2
    | r => r) else .nx e1
def whileS (n : Nat) (mt : M Bool) (body : MS) : MS := whileF mt body n
section
variable {X : Cx} {K : PySem.W.Frag} {Φ : Fx} {io : IO} {b b1 b2 b3 : Bool} {σ : St} {D : Ends} {H F : Hp} {Q : VK} {env env0 env00 : AEnv} {Np Np' Nb A : List (Addr × HO)} {Lp Lp' B : List (V × LF)} {x y z : Expr} {es : List Expr} {ma mb mc mo mk me : M O} {mt : M Bool} {mas : M (List O)} {pos p : Pos} {st : List Stmt} {sa : MS} {g : Gh}
theorem ss_raise {C : Addr} {cn : Nat} {n m : Str} {j : Nat} {p2 pos' : Pos} (hc : X.calm = true) (tk : Takes X Φ.W) (E : ErrC X.K X.mg n C) (hx : Φ.xc cn = .ref C) (hg : Gl X n)
    (hdb : (n == ("__debug__" : Str)) = false := by decide) : SS X Φ io (.Raise (some (.Call (.Name n p) [.Constant (.str m) j p2] [] pos)) none pos') (exS cn) := by
  refine PS.imp (ps_raise hc tk (pmk_own PySem.F.excBase_ValueError E.x E.g E.k (raises_own E.b E.t) hg hdb)) fun D σ H q => ?_
  obtain ⟨F, env, Np, Lp, c, s, hi, q⟩ := q
  have q := q σ H F env c s hi rfl
  rw [hx] at q
  exact q
/-! ### name op= e -/
theorem ss_aug {i : Nat} {n : Str} {op : Operator} {r : R2} {f : PyData → PyData → Option PyData} {ps : Pos} (ho : OpR X (inplaceOp op) r) (hr : Op2 X.K r f) (hN : X.N.Nodup) (h : SE X Φ b x ma) (hi : X.N[i]? = some n := by rfl) (hx : Loc X.env.scope n := by first | exact Or.inl rfl | exact Or.inr rfl)
    (hf : X.fn n = true ∨ X.env.scope.names.lookup n = some .local := by first | exact .inl rfl | exact .inr rfl | assumption) (hio : io.1 i = false := by rfl) : SS X Φ io (.AugAssign (.Name n ps) op x pos) (augS i f ma) := by
  refine PS.imp (ps_aug (ti := r) hN hi hx h ho hf) fun D σ H q => ?_
  obtain ⟨F, env, Np, Lp, c, s, hsi, q⟩ := q
  simp only [augS, ctn_er] at q
  cases hv : ctnA env i [] with
  | none => rw [hv] at q; exact q.elim
  | some u =>
    rw [hv] at q
    cases u with
    | nd a t xs => exact q.elim
    | dk a kvs => exact q.elim
    | lf v l =>
      cases l with
      | s ns => exact q.elim
      | e k => exact q.elim
      | d d1 =>
        have q : CtS X.K Φ io D env Np Lp (R.toS (ma (erE env)) fun o e1 => augR i (f d1) (O.dat o e1) e1) := q
        refine ⟨v, s.at hv, ?_⟩
        have c0 : CB X.K Φ.g F H (nodesE env ++ Np) (leavesE env ++ ((v, LF.d d1) :: Lp)) := (c.leaf (c.lf (v, .d d1) (List.mem_append_left _ ((ctn_sb hv).2 _ (by simp [AT.leaves]))))).sb (.refl _) fun q hq => by
          simp only [List.mem_append, List.mem_cons] at hq ⊢
          rcases hq with z | z | z
          · exact .inr (.inl z)
          · exact .inl z
          · exact .inr (.inr z)
        refine seqES c0 s hsi (q.more (.refl _) fun _ hq => List.mem_cons_of_mem _ hq) fun w H' F' env' ao c' s' t' p' q' => ?_
        have q' : CtS X.K Φ io D env' Np ((v, LF.d d1) :: Lp) (augR i (f d1) (O.dat (Opd.er ao) (erE env')) (erE env')) := q'
        have hd1 : Dq X.K F' v d1 := c'.lf (v, .d d1) (List.mem_append_right _ (List.mem_append_right _ List.mem_cons_self))
        cases ht : O.dat (Opd.er ao) (erE env') with
        | none => rw [ht] at q'; exact q'.elim
        | some d2 =>
          rw [ht] at q'
          obtain ⟨t, ht1, ht2⟩ := dat_of ht
          have e1 := ex_all t' t ht1
          have hd2 := c'.tree ht1 ht2
          rw [e1] at hd2
          simp only [augR] at q'
          cases hf2 : f d1 d2 with
          | none => rw [hf2] at q'; exact q'.elim
          | some d =>
            rw [hf2] at q'
            simp only at q'
            cases hfl : flat d with
            | false => rw [hfl] at q'; exact q'.elim
            | true =>
              rw [hfl] at q'
              simp only [if_true] at q'
              refine hr v w d1 d2 d H' _ (hd1.le c'.sub) hd2 hf2 fun vv hvv => ?_
              refine name_run (K := X.K) (Φ := Φ) (io := io) hio ⟨F', env', .lf vv (.d d), Np, (v, LF.d d1) :: Lp, ?_, s', hsi, rfl, ?_⟩
              · refine (c'.drop1.leaf (v := vv) (l := .d d) (hvv.flat hfl)).sb (.refl _) fun q hq => ?_
                simp only [AT.leaves, List.mem_append, List.mem_singleton, List.mem_cons] at hq ⊢
                rcases hq with z | z | z | z
                · exact .inr (.inl z)
                · exact .inl (z.elim id fun w => nomatch w)
                · exact .inr (.inr (.inl z))
                · exact .inr (.inr (.inr z))
              · revert q'
                show CtS _ _ _ _ _ _ _ (R.toS (nameT i (.d d) (erE env')) fun _ e' => .nx e') → CtU _ _ _ _ _ _ _ _ (nameT i (.d d) (erE env'))
                cases nameT i (.d d) (erE env') with
                | ok u e2 => exact fun q => q
                | ex c e2 => exact fun q => q
                | bad => exact fun q => q
theorem ss_augAdd {i : Nat} {n : Str} {ps : Pos} (hN : X.N.Nodup) (h : SE X Φ b x ma) (hi : X.N[i]? = some n := by rfl) (hx : Loc X.env.scope n := by first | exact Or.inl rfl | exact Or.inr rfl)
    (hf : X.fn n = true ∨ X.env.scope.names.lookup n = some .local := by first | exact .inl rfl | exact .inr rfl | assumption) (hio : io.1 i = false := by rfl) : SS X Φ io (.AugAssign (.Name n ps) .Add x pos) (augS i (fInt fun i j => i + j) ma) :=
  ss_aug iop_add (op2_rI0 fun _ _ _ => .int _) hN h hi hx hf hio
theorem ss_augMul {i : Nat} {n : Str} {ps : Pos} (hN : X.N.Nodup) (h : SE X Φ b x ma) (hi : X.N[i]? = some n := by rfl) (hx : Loc X.env.scope n := by first | exact Or.inl rfl | exact Or.inr rfl)
    (hf : X.fn n = true ∨ X.env.scope.names.lookup n = some .local := by first | exact .inl rfl | exact .inr rfl | assumption) (hio : io.1 i = false := by rfl) : SS X Φ io (.AugAssign (.Name n ps) .Mult x pos) (augS i fMul ma) :=
  ss_aug iop_mul (op2_rI (fun _ _ h => mulOk_c h) fun _ _ _ => .int _) hN h hi hx hf hio
theorem ss_while {n : Nat} (hp : PassesOwn (model X.prog X.w) X.A X.env X.xe) (hc : STt X Φ x mt) (hb : SB X Φ io st sa) : SS X Φ io (.While x st [] pos) (whileS n mt sa) := by
  refine PS.imp (ps_while hp hc hb) fun D σ H q => ?_
  obtain ⟨F, env, Np, Lp, c, s, hi, q⟩ := q
  refine ⟨fun m σ H => ∃ F env1, CB X.K Φ.g F H (nodesE env1 ++ Np) (leavesE env1 ++ Lp) ∧ SR env1 σ ∧ SI io σ ∧ LkS env env1 ∧ CtS X.K Φ io D env Np Lp (whileF mt sa m (erE env1)), ⟨n, F, env, c, s, hi, .refl _, q⟩, ?_⟩
  rintro m σ H ⟨F, env1, c, s, hi, hl, q⟩
  cases m with
  | zero => exact q.elim
  | succ m =>
    have q : CtS X.K Φ io D env Np Lp (R.toS (mt (erE env1)) fun k e1 => if k then (match sa e1 with
      | .nx e2 => whileF mt sa m e2
      | .bk e2 => .nx e2
      | r => r) else .nx e1) := q
    refine ⟨F, env1, Np, Lp, c, s, ?_⟩
    revert q
    cases mt (erE env1) with
    | bad => exact fun q => q
    | ex cc e' => exact fun q H' F' env' a1 a2 a3 => q σ H' F' env' a1 a2 hi a3
    | ok k e' =>
      intro q H' F' env2 a1 a2 a3 a4
      subst a3
      cases k with
      | false =>
        rw [if_neg (by decide)]
        exact q σ H' F' env2 a1 a2 hi rfl (hl.trans a4)
      | true =>
        rw [if_pos rfl]
        have q : CtS X.K Φ io D env Np Lp (match sa (erE env2) with
          | .nx e2 => whileF mt sa m e2
          | .bk e2 => .nx e2
          | r => r) := q
        refine ⟨fun σ' H' => ∃ F env1, CB X.K Φ.g F H' (nodesE env1 ++ Np) (leavesE env1 ++ Lp) ∧ SR env1 σ' ∧ SI io σ' ∧ LkS env env1 ∧ CtS X.K Φ io D env Np Lp (whileF mt sa m (erE env1)), fun σ' H' hN => ⟨m, Nat.lt_succ_self m, hN⟩, F', env2, Np, Lp, a1, a2, hi, ?_⟩
        revert q
        cases sa (erE env2) with
        | nx e2 =>
          intro q σ3 H3 F3 env3 d1 d2 d3 d4 d5
          subst d4
          exact ⟨F3, env3, d1, d2, d3, (hl.trans a4).trans d5, q⟩
        | bk e2 =>
          intro q σ3 H3 F3 env3 d1 d2 d3 d4 d5
          subst d4
          exact q σ3 H3 F3 env3 d1 d2 d3 rfl ((hl.trans a4).trans d5)
        | rt t e2 => exact fun q => q
        | ex cc e2 => exact fun q => q
        | bad => exact fun q => q
end
end Z
/-! Z23: a def as it is called; the law's end. -/
namespace Z
open PySem L2
/-- a def of the program: called by its name n, reckoned by f, k deep -/
structure FnR (P : Program) (w : World) (K : PySem.W.Frag) (mg : Str → Option Value) (base : Heap) (xc : Nat → Value) (k : Nat) (n : Str) (ms : List Bool) (f : Sem') : Prop where
  ex : ∃ (fa : Addr) (fd : FuncData) (ps : List Str), FnOk P w K mg base (L2.CX P w) k fa fd ps (spF K xc ms f) ∧ mg n = some (.ref fa) ∧ PySem.W.keepIn K (.ref fa) = true ∧ Binds K fd ps []
theorem FnR.mono {P : Program} {w : World} {K : PySem.W.Frag} {mg : Str → Option Value} {base : Heap} {xc : Nat → Value} {j k : Nat} {n : Str} {ms : List Bool} {f : Sem'} (R : FnR P w K mg base xc j n ms f) (h : j ≤ k) : FnR P w K mg base xc k n ms f := by
  obtain ⟨fa, fd, ps, h1, h2⟩ := R.ex
  exact ⟨fa, fd, ps, h1.mono h, h2⟩
theorem fn_r {P : Program} {w : World} {K : PySem.W.Frag} {mg : Str → Option Value} {base : Heap} {x qual : Str} {st : Stmt} {fa : Addr} {fd : FuncData} {N ps : List Str} {k : Nat} {ms : List Bool} {xc : Nat → Value} {m : MS} (Fn : Fun K x qual st fa fd) (hg : mg x = some (.ref fa)) (S : FnScope N ps (defScope st)) (hms : ms.length = ps.length)
    (hb : Binds K fd ps []) (hbody : BodyOk P w K mg base N qual (defScope st) fa k xc ms (defBody st) m) : FnR P w K mg base xc (k + 1) x ms (bodyF N.length ms m) :=
  ⟨fa, fd, ps, fn_ok Fn S hms hbody, hg, Fn.kp, hb⟩
section
variable {X : Cx} {Φ : Fx} {b : Bool} {x : Expr} {es : List Expr} {mas : M (List O)} {pos p : Pos}
theorem se_cal {ms : List Bool} {f : Sem'} {k : Nat} {n : Str} (R : FnR X.prog X.w X.K X.mg X.base Φ.xc k n ms f) (hr : Room k X.A) (hg : Gl X n) (tk : Takes X Φ.W) (ha : SA X Φ b (x :: es) mas)
    (hdb : (n == ("__debug__" : Str)) = false := by decide) (he : starEach (x :: es) X.env = (false, eval x X.env) :: starEach es X.env := by rfl) (hpl : (backTo pos (starEach es X.env)).any (·.1) = false := by rfl) :
    SE X Φ (b && !ms.any id) (.Call (.Name n p) (x :: es) [] pos) (callM ms f mas) := by
  obtain ⟨fa, fd, ps, h1, h2, h3, h4⟩ := R.ex
  exact se_call h1 hr hg h2 h3 h4 tk ha hdb he hpl
theorem se_cal0 {f : Sem'} {k : Nat} {n : Str} (R : FnR X.prog X.w X.K X.mg X.base Φ.xc k n [] f) (hr : Room k X.A) (hg : Gl X n) (hp : Passes (L2.CX X.prog X.w) X E0) (hne : ∀ c o, f [] ≠ .ex c o)
    (hdb : (n == ("__debug__" : Str)) = false := by decide) : SE X Φ true (.Call (.Name n p) [] [] pos) (callM [] f nilA) := by
  obtain ⟨fa, fd, ps, h1, h2, h3, h4⟩ := R.ex
  exact se_call0 h1 hr hg h2 h3 h4 hp hne hdb
end
/-- the law answers True -/
def spLaw (K : PySem.W.Frag) : Sp := fun vs H Q _ => ∃ (a : Addr) (ns : List Int), vs = [.ref a] ∧ SqL K H a (ns.map V.int) ∧ ns.length ≤ 63 ∧ ∀ H', Q (.bl true) H'
def Law (f : Sem') : Prop := ∀ ns : List Int, ns.length ≤ 63 → f [.lf (.s ns)] = .ok (.d (.bool true)) []
theorem law_ok {P : Program} {w : World} {K : PySem.W.Frag} {mg : Str → Option Value} {base : Heap} {x qual : Str} {st : Stmt} {fa : Addr} {fd : FuncData} {N ps : List Str} {k : Nat} {xc : Nat → Value} {m : MS} (Fn : Fun K x qual st fa fd) (S : FnScope N ps (defScope st)) (hms : [false].length = ps.length)
    (hbody : BodyOk P w K mg base N qual (defScope st) fa k xc [false] (defBody st) m) (hL : Law (bodyF N.length [false] m)) : FnOk P w K mg base (L2.CX P w) (k + 1) fa fd ps (spLaw K) :=
  (fn_ok Fn S hms hbody).imp fun vs H Q E h => by
    obtain ⟨a, ns, rfl, hS, hlen, k⟩ := h
    refine ⟨H, [.lf (.ref a) (.s ns)], rfl, rfl, ?_, ?_⟩
    · refine ⟨.refl H, by simp [AT.nodesL, AT.nodes], fun p hp => by simp [AT.nodesL, AT.nodes] at hp, fun p hp => by simp [AT.nodesL, AT.nodes] at hp, fun q hq => ?_, fun _ _ h _ => h, .refl H, fun p hp => by simp [AT.nodesL, AT.nodes] at hp, fun a o h => .inl h⟩
      simp [AT.leavesL, AT.leaves] at hq
      subst hq
      exact ⟨a, rfl, hS⟩
    · simp only [AT.erL, AT.er, hL ns hlen]
      intro H' F' at' outs c e1 _ _
      cases at' with
      | nd b t xs => simp [AT.er] at e1
      | dk b kvs => simp [AT.er] at e1
      | lf v l =>
        simp only [AT.er, IV.lf.injEq] at e1
        subst e1
        have := c.lf (v, .d (.bool true)) (by simp [AT.leaves])
        cases this
        exact k H'
theorem walk {l : PySem.W.OpenLaw} {k : Nat} {q : Program} {loose : List Str} {XP : (Str → Option Value) → Heap → Prop} {YP : World → Heap → Prop} {d : DefRec} {K : Params → PySem.W.Frag} (hn : l.most = some 63) (hdf : d.params.defaults = []) (hr : Room k callerA)
    (hY : ∀ (w : World) (h : Heap), YP w h → (K w.params).In h)
    (F : ∀ (w : World) (mg : Str → Option Value) (fa : Addr) (h : Heap), (K w.params).In h → h.Ns mainGlobals mg → mg d.name = some (.ref fa) →
      ∃ fd : FuncData, (∀ (s : Shared) (u : Value), BindsTo s fd ⟨[u], []⟩ [("script", u)]) ∧ ∀ base : Heap, (K w.params).In base → base.Ns mainGlobals mg → FnOk l.prog w (K w.params) mg base (L2.CX l.prog w) k fa fd ["script"] (spLaw (K w.params))) :
    PySem.W.WalkO q loose XP YP l.row.toRowW d [] (fun f vs => PySem.call f vs) :=
  walkG (n := 63) (k := k) (x := "script") (CX := fun w => L2.CX l.prog w) (sp := fun w => spLaw (K w.params)) hn (by decide) hdf hr hY F (fun _ _ a ns hl hS => ⟨a, ns, rfl, hS, hl, fun _ => rfl⟩) fun _ _ _ _ _ h => by
    obtain ⟨_, _, _, _, _, _, _, _, _, _, _, _, z⟩ := h
    exact z.elim
end Z
/-! Z24: rules as the printed derivations use them. -/
namespace Z
open PySem L2
/-- a constant of the program -/
def CstG (K : PySem.W.Frag) (mg : Str → Option Value) (n : Str) (d : PyData) : Prop := ∃ v u, mg n = some u ∧ RelV v u ∧ ∀ F, Dq K F v d
theorem cstg_int {K : PySem.W.Frag} {mg : Str → Option Value} {n : Str} {i : Int} {t : Tok} (h : mg n = some (.int i t)) : CstG K mg n (.int i) := ⟨.int i, _, h, ⟨t, rfl⟩, fun _ => .int i⟩
theorem cstg_str {K : PySem.W.Frag} {mg : Str → Option Value} {n i : Str} {t : Tok} (h : mg n = some (.str i t)) : CstG K mg n (.str i) := ⟨.str i, _, h, ⟨t, rfl⟩, fun _ => .str i⟩
inductive Strs : List Str → List Value → Prop
  | nil : Strs [] []
  | cons {s : Str} {t : Tok} {ss : List Str} {vs : List Value} (r : Strs ss vs) : Strs (s :: ss) (.str s t :: vs)
theorem Strs.vals : ∀ {ss : List Str} {vs : List Value}, Strs ss vs → Vals (ss.map V.str) vs
  | _, _, .nil => .nil
  | _, _, .cons r => .cons ⟨_, rfl⟩ r.vals
theorem DqL.strs {K : PySem.W.Frag} {F : Hp} : ∀ ss : List Str, DqL K F (ss.map V.str) (ss.map PyData.str)
  | [] => .nil
  | s :: r => .cons (.str s) (DqL.strs r)
theorem cstg_tup {K : PySem.W.Frag} {mg : Str → Option Value} {n : Str} {a : Addr} {ss : List Str} {od : Option Addr} {its : Array Value} {k : Nat} {sl : Array (Option Value)} (h : mg n = some (.ref a)) (hl : K.lookup a = some ⟨.type "tuple", od, .seq its k, sl⟩) (hs : Strs ss its.toList) (hz : its.size ≤ sizeLine) : CstG K mg n (.tuple (ss.map PyData.str)) :=
  ⟨.ref a, _, h, rfl, fun F => .tup (.inr ⟨_, its, k, hl, rfl, rfl, hz, hs.vals⟩) (.strs ss)⟩
section
variable {X : Cx} {K : PySem.W.Frag} {Φ : Fx} {io : IO} {b b1 b2 b3 : Bool} {x y z o : Expr} {es : List Expr} {ma mb mc mo mk me mi mx : M O} {pos p apos cpos : Pos}
theorem se_globE {n : Str} {d : PyData} (hg : Gl X n) (h : CstG X.K X.mg n d) (hdb : (n == ("__debug__" : Str)) = false := by decide) : SE X Φ true (.Name n pos) (cstM d) := by
  obtain ⟨v, u, h1, h2, h3⟩ := h
  exact se_glob hg h1 h2 h3 hdb
theorem raiseE {cn : Nat} {n m : Str} {j : Nat} {p2 pos' : Pos} (hc : X.calm = true) (tk : Takes X Φ.W) (E : ∃ C, ErrC X.K X.mg n C ∧ Φ.xc cn = .ref C) (hg : Gl X n)
    (hdb : (n == ("__debug__" : Str)) = false := by decide) : SS X Φ io (.Raise (some (.Call (.Name n p) [.Constant (.str m) j p2] [] pos)) none pos') (exS cn) := by
  obtain ⟨C, h1, h2⟩ := E
  exact ss_raise hc tk h1 h2 hg hdb
theorem pe_m1 {k : Nat} {p1 p2 : Pos} : PE X (.UnaryOp .USub (.Constant (.int 1) k p1) p2) (tC (.int (-1))) := PE.imp (pe_un un_neg pe_int) fun σ H Q q => ⟨1, rfl, q⟩
theorem me_append (ho : SE X Φ b1 o mo) (ha : SE X Φ b2 x ma) (hbase : attributeBase o "append" X.env (eval o X.env) = eval o X.env := by rfl) (hline : (apos.endLine == cpos.line) = true := by rfl) (hs : starEach (x :: []) X.env = (false, eval x X.env) :: starEach [] X.env := by rfl) (hfew : ((backTo cpos (starEach [x] X.env)).all (fun x => !x.1) && (backToKw cpos (keywordEach [] X.env)).all (fun x => x.1.isSome)
      && decide ([x].length + ([] : List Keyword).length + (if ([] : List Keyword).isEmpty then 0 else 1) < 30)) = true := by rfl) (hpl : (backTo cpos (starEach [] X.env)).any (·.1) = false := by rfl) :
    SE X Φ false (.Call (.Attribute o "append" apos) [x] [] cpos) (appM b2 mo ma) :=
  PE.imp (pe_bm PySem.F.plainAttrs_list PySem.F.slot_list_append PySem.F.type_list_append mt_append ho (pa_cons ha pa_nil hs) hbase hfew hline hs hpl) fun σ H Q q => t_append q
theorem me_extend (ho : SE X Φ b1 o mo) (ha : SE X Φ b2 x ma) (hbase : attributeBase o "extend" X.env (eval o X.env) = eval o X.env := by rfl) (hline : (apos.endLine == cpos.line) = true := by rfl) (hs : starEach (x :: []) X.env = (false, eval x X.env) :: starEach [] X.env := by rfl) (hfew : ((backTo cpos (starEach [x] X.env)).all (fun x => !x.1) && (backToKw cpos (keywordEach [] X.env)).all (fun x => x.1.isSome)
      && decide ([x].length + ([] : List Keyword).length + (if ([] : List Keyword).isEmpty then 0 else 1) < 30)) = true := by rfl) (hpl : (backTo cpos (starEach [] X.env)).any (·.1) = false := by rfl) :
    SE X Φ false (.Call (.Attribute o "extend" apos) [x] [] cpos) (extM b2 mo ma) :=
  PE.imp (pe_bm PySem.F.plainAttrs_list PySem.F.slot_list_extend PySem.F.type_list_extend mt_extend ho (pa_cons ha pa_nil hs) hbase hfew hline hs hpl) fun σ H Q q => t_extend q
theorem me_popAt (ho : SE X Φ b1 o mo) (ha : SE X Φ b2 x ma) (hbase : attributeBase o "pop" X.env (eval o X.env) = eval o X.env := by rfl) (hline : (apos.endLine == cpos.line) = true := by rfl) (hs : starEach (x :: []) X.env = (false, eval x X.env) :: starEach [] X.env := by rfl) (hfew : ((backTo cpos (starEach [x] X.env)).all (fun x => !x.1) && (backToKw cpos (keywordEach [] X.env)).all (fun x => x.1.isSome)
      && decide ([x].length + ([] : List Keyword).length + (if ([] : List Keyword).isEmpty then 0 else 1) < 30)) = true := by rfl) (hpl : (backTo cpos (starEach [] X.env)).any (·.1) = false := by rfl) :
    SE X Φ false (.Call (.Attribute o "pop" apos) [x] [] cpos) (popAtM b2 mo ma) :=
  PE.imp (pe_bm PySem.F.plainAttrs_list PySem.F.slot_list_pop PySem.F.type_list_pop mt_popAt ho (pa_cons ha pa_nil hs) hbase hfew hline hs hpl) fun σ H Q q => t_popAt q
theorem me_pop (ho : SE X Φ b1 o mo) (hbase : attributeBase o "pop" X.env (eval o X.env) = eval o X.env := by rfl) (hline : (apos.endLine == cpos.line) = true := by rfl) :
    SE X Φ false (.Call (.Attribute o "pop" apos) [] [] cpos) (popM mo) :=
  PE.imp (pe_bm0 PySem.F.plainAttrs_list PySem.F.slot_list_pop PySem.F.type_list_pop mt_pop ho hbase hline) fun σ H Q q => t_pop q
theorem me_insert (ho : SE X Φ b1 o mo) (ha : SE X Φ b2 x mi) (hb : SE X Φ b3 y mx) (hbase : attributeBase o "insert" X.env (eval o X.env) = eval o X.env := by rfl) (hline : (apos.endLine == cpos.line) = true := by rfl)
    (hs : starEach (x :: [y]) X.env = (false, eval x X.env) :: starEach [y] X.env := by rfl) (hs2 : starEach (y :: []) X.env = (false, eval y X.env) :: starEach [] X.env := by rfl) (hfew : ((backTo cpos (starEach [x, y] X.env)).all (fun x => !x.1) && (backToKw cpos (keywordEach [] X.env)).all (fun x => x.1.isSome)
      && decide ([x, y].length + ([] : List Keyword).length + (if ([] : List Keyword).isEmpty then 0 else 1) < 30)) = true := by rfl) (hpl : (backTo cpos (starEach [y] X.env)).any (·.1) = false := by rfl) :
    SE X Φ false (.Call (.Attribute o "insert" apos) [x, y] [] cpos) (insM b2 b3 mo mi mx) :=
  PE.imp (pe_bm PySem.F.plainAttrs_list PySem.F.slot_list_insert PySem.F.type_list_insert mt_insert ho (pa_cons ha (pa_cons hb pa_nil hs2) hs) hbase hfew hline hs hpl) fun σ H Q q => t_insert q
end
end Z
/-! Z25: reckoning: what the drawn script gives. -/
namespace Z
open PySem L2
def okB : FR → Bool
  | .ok (.lf (.d (.bool true))) [] => true
  | _ => false
theorem okB_eq {r : FR} (h : okB r = true) : r = .ok (.d (.bool true)) [] := by
  unfold okB at h
  split at h
  · rfl
  · cases h
def endL : SR' → FR
  | .nx e => endF [false] (.d .none) e
  | .rt t e => endF [false] t e
  | .ex c e => (match outsE [false] e with
    | some o => .ex c o
    | none => .bad)
  | _ => .bad
theorem bodyL {n : Nat} {m : MS} {ts : List IV} : bodyF n [false] m ts = endL (m (envB n ts)) := by
  unfold bodyF endL
  cases m (envB n ts) <;> rfl
def exE : SR' → Env'
  | .ex _ e => e
  | _ => []
section
variable {e : Env'} {i k : Nat} {t : IV} {ns : List Int}
theorem varM_iv (h : e[i]? = some (.iv t)) : varM i e = .ok (.vr i []) e ∧ O.tree (.vr i []) e = some t := by
  have hc : ctn e i [] = some t := by simp [ctn, rsv, rootOf, h, Sl.tr, IV.getP]
  exact ⟨by simp [varM, hc], hc⟩
theorem cutG_take {α : Type} (xs : List α) (k : Nat) : cutG xs none (some (k : Int)) = xs.take k := by
  unfold cutG
  rw [HT.sIx_none, HT.sIx_nat, List.drop_zero, Nat.sub_zero]
  by_cases h : k ≤ xs.length
  · rw [Nat.min_eq_left h]
  · rw [Nat.min_eq_right (by omega), List.take_of_length_le (Nat.le_refl _), List.take_of_length_le (by omega)]
theorem cut_script (h : e[i]? = some (.iv (.lf (.s ns)))) : cutM (varM i) none (some (true, cstM (.int (k : Int)))) e = .ok (.tm (lsD ((ns.take k).map .int))) e := by
  obtain ⟨h1, h2⟩ := varM_iv h
  simp only [cutM, h1, R.bind, partM, cstM, O.dat, O.tree, IV.toD, intO, partB, Bool.and_self, O.stays, if_true]
  rw [show ctn e i [] = some (.lf (.s ns)) from h2]
  simp only [cutR, O.kids, h2, kidsT, cutG_take, List.map_take]
theorem sum_script (h : e[i]? = some (.iv (.lf (.s ns)))) : un1M (fInts sumI) (cutM (varM i) none (some (true, cstM (.int (k : Int))))) e = .ok (.tm (.d (.int (ns.take k).sum))) e := by
  simp only [un1M, cut_script h, R.bind, O.dat, O.tree, lsD, IV.toD, IV.toDL_d, dat2, fInts, if_true, intsOf_int, sumI, Option.map_some, outM, flat]
theorem op2_tm {b : Bool} {f : PyData → PyData → Option PyData} {ma mb : M O} {e1 e2 : Env'} {d1 d2 d : PyData} (h1 : ma e = .ok (.tm (.d d1)) e1) (h2 : mb e1 = .ok (.tm (.d d2)) e2) (hf : f d1 d2 = some d) (hl : flat d = true) : op2M b f ma mb e = .ok (.tm (.d d)) e2 := by
  simp only [op2M, twoM, h1, h2, R.bind, O.stays, if_true, O.dat, O.tree, IV.toD, dat2, hf, outM, hl]
theorem mod_tm {b : Bool} {ma : M O} {e1 : Env'} {i j : Int} (h1 : ma e = .ok (.tm (.d (.int i))) e1) (hj : decide (0 < j) = true) : op2M b fMod ma (cstM (.int j)) e = .ok (.tm (.d (.int (i % j)))) e1 :=
  op2_tm h1 (d2 := .int j) rfl (by simp only [fMod, fIntC, fI, modOk, hj, if_true]) rfl
end
end Z
/-! Z26: reckoning by rewriting: each combinator applied to an environment. -/
namespace Z
open PySem L2
theorem R.bind_cg {α β : Type} {r r' : R α} (h : r = r') (f : α → Env' → R β) : R.bind r f = R.bind r' f := by rw [h]
theorem R.toS_cg {α : Type} {r r' : R α} (h : r = r') (f : α → Env' → SR') : R.toS r f = R.toS r' f := by rw [h]
def SR'.bind (r : SR') (f : Env' → SR') : SR' := match r with
  | .nx e => f e
  | r => r
theorem SR'.bind_cg {r r' : SR'} (h : r = r') (f : Env' → SR') : SR'.bind r f = SR'.bind r' f := by rw [h]
def varK (i : Nat) (t : Option IV) (e : Env') : R O := match t with
  | some _ => .ok (.vr i []) e
  | none => .bad
def getK (t : Option IV) (p : List Nat) : Option IV := match t with
  | some t => t.getP p
  | none => none
def ctnK (r : Option (Nat × List Nat)) (e : Env') (q : List Nat) : Option IV := match r with
  | some (j, p) => getK (rootOf e j) (p ++ q)
  | none => none
def rsvK (i : Nat) (s : Option (Sl IV)) : Option (Nat × List Nat) := match s with
  | some (.iv _) => some (i, [])
  | some (.lk _) => some (i, [])
  | some (.al j p) => some (j, p)
  | _ => none
def trK (s : Option (Sl IV)) : Option IV := match s with
  | some s => s.tr
  | none => none
def datK (t : Option IV) : Option PyData := match t with
  | some t => t.toD
  | none => none
def setPK (t : IV) (i : Nat) (p : List Nat) (u : IV) (x : Option IV) : IV := match x with
  | some x => t.setK i (x.setP p u)
  | none => t
def okK (s : Option (Sl IV)) : Bool := match s with
  | some (.lk _) => false
  | some _ => true
  | none => false
def wrF {α : Type} (j : Nat) (P : List Nat) (root : IV) (x : Option (List IV × (Nat → Bool) × α)) (e : Env') : R α := match x with
  | some (ys, kn, a) => .ok a ((killX j P kn e).set j (.iv (root.setP P (.nd true ys))))
  | none => .bad
def wrP {α : Type} (j : Nat) (P : List Nat) (root : IV) (x : Option IV) (e : Env') (f : List IV → Option (List IV × (Nat → Bool) × α)) : R α := match x with
  | some (.nd true xs) => wrF j P root (f xs) e
  | _ => .bad
def wrR {α : Type} (j : Nat) (P : List Nat) (s : Option (Sl IV)) (e : Env') (f : List IV → Option (List IV × (Nat → Bool) × α)) : R α := match s with
  | some (.iv root) => wrP j P root (root.getP P) e f
  | _ => .bad
def wrK {α : Type} (r : Option (Nat × List Nat)) (q : List Nat) (e : Env') (f : List IV → Option (List IV × (Nat → Bool) × α)) : R α := match r with
  | some (j, p) => wrR j (p ++ q) e[j]? e f
  | none => .bad
def toVK (t : Option IV) (F : IV → SR') : SR' := match t with
  | some (.lf l) => F (.lf l)
  | _ => .bad
def tovK (t : Option IV) : Option IV := match t with
  | some (.lf l) => some (.lf l)
  | _ => none
def mvK (i : Nat) (s : Option (Sl IV)) (e : Env') : R O := match s with
  | some (.iv (.lf l)) => .ok (.tm (.lf l)) e
  | some (.iv t) => .ok (.tm t) (e.set i .un)
  | _ => varM i e
def frD (i : Nat) (d : Option PyData) (e : Env') : R O := match d with
    | some d => .ok (.tm (.d d)) (e.set i (.iv (.d d)))
    | none => .bad
def frK (i : Nat) (s : Option (Sl IV)) (e : Env') : R O := match s with
  | some (.iv (.lf l)) => .ok (.tm (.lf l)) e
  | some (.iv t) => frD i t.toD e
  | _ => varM i e
def endK (t : IV) (o : Option (List IV)) : FR := match o with
  | some o => .ok t o
  | none => .bad
def aliQ (i : Nat) (q : List Nat) (r : Option (Nat × List Nat)) (e : Env') : SR' := match r with
  | some (k, p) => if okA i e && !(k == i) then .nx ((killA i e).set i (.al k (p ++ q))) else .bad
  | none => .bad
def consO {α : Type} (x : Option α) (r : Option (List α)) : Option (List α) := match x, r with
  | some x, some r => some (x :: r)
  | _, _ => none
def aliK (i j : Nat) (q : List Nat) (t : Option IV) (e : Env') : SR' := match t with
  | some (.lf l) => if okA i e then .nx (setA i (.lf l) e) else .bad
  | some _ => match rsv e j with
      | some (k, p) => if okA i e && !(k == i) then .nx ((killA i e).set i (.al k (p ++ q))) else .bad
      | none => .bad
  | none => .bad
def aliR (i : Nat) (o : O) (e : Env') : SR' := match o with
  | .tm t => if okA i e then .nx (setA i t e) else .bad
  | .vr j q => aliK i j q (ctn e j q) e
def endB (ms : List Bool) : SR' → FR
  | .nx e => endF ms (.d .none) e
  | .rt t e => endF ms t e
  | .ex c e => (match outsE ms e with
    | some o => .ex c o
    | none => .bad)
  | _ => .bad
def backK (hs : List (Nat × List Nat × IV)) (e0 : Env') (ln : Bool) (r : FR) : R O := match r with
  | .ok t outs => backR (!ln || (noSh t && noShL outs)) (.ok (.tm t) (putG IV.setP hs outs e0))
  | .ex c outs => backR (!ln || noShL outs) (.ex c (putG IV.setP hs outs e0))
  | .bad => .bad
def callK2 (F : Sem') (hs : List (Nat × List Nat × IV)) (e0 : Env') (ts : Option (List IV)) (ln : Bool) : R O := match ts with
  | some ts => backK hs e0 ln (F ts)
  | none => .bad
def callK1 (ms : List Bool) (F : Sem') (os : List O) (r : Option (List (Nat × List Nat × IV) × Env')) : R O := match r with
  | some (hs, e0) => callK2 F hs e0 (argsL ms os hs e0) (lent ms os e0)
  | none => .bad
def tk4 (j : Nat) (P : List Nat) (root : IV) (r : Option (List (Nat × List Nat × IV) × Env')) : Option (List (Nat × List Nat × IV) × Env') := match r with
  | some (hs, e0) => some ((j, P, root) :: hs, e0)
  | none => none
def tk3 (ms : List Bool) (os : List O) (j : Nat) (P : List Nat) (root : IV) (x : Option IV) (e : Env') : Option (List (Nat × List Nat × IV) × Env') := match x with
  | some _ => tk4 j P root (takeG IV.getP ms os (e.set j .un))
  | none => none
def tk2 (ms : List Bool) (os : List O) (j : Nat) (P : List Nat) (s : Option (Sl IV)) (e : Env') : Option (List (Nat × List Nat × IV) × Env') := match s with
  | some (.iv root) => tk3 ms os j P root (root.getP P) e
  | _ => none
def tk1 (ms : List Bool) (os : List O) (q : List Nat) (r : Option (Nat × List Nat)) (e : Env') : Option (List (Nat × List Nat × IV) × Env') := match r with
  | some (j, p) => tk2 ms os j (p ++ q) e[j]? e
  | none => none
def argK (t : Option IV) : Option IV := match t with
  | some (.lf l) => some (.lf l)
  | some t => t.toD.map IV.d
  | none => none
def lentT (t : Option IV) : Bool := match t with
  | some (.lf _) => false
  | _ => true
def lentO (o : O) (e0 : Env') : Bool := match o with
  | .tm _ => false
  | .vr i q => lentT (ctn e0 i q)
def sqK (b : Bool) (i : Nat) (t : Option IV) (e : Env') : R (List PyData × Option Nat) := match t with
  | some (.lf (.d d)) => match sqD b d with
      | some ds => .ok (ds, none) e
      | none => .bad
  | some (.lf (.s ns)) => if b then .ok (ns.map .int, none) e else .bad
  | some (.nd t' xs) => if t' = b then match leafDs xs, rsv e i with
        | some ds, some (j, _) => match e[j]? with
          | some (.iv u) => .ok (ds, some j) (e.set j (.lk u))
          | some (.lk _) => .ok (ds, none) e
          | _ => .bad
        | _, _ => .bad
      else .bad
  | _ => .bad
def bindLK (x : Option (List PyData)) (e : Env') : R O := match x with
  | some ds => .ok (.tm (lsD ds)) e
  | none => .bad
def tupQ (x : Option (List PyData)) (ts : List IV) (e : Env') : R O := match x with
  | some ds => .ok (.tm (.d (.tuple ds))) e
  | none => .ok (.tm (.nd false ts)) e
def sqM (ds : List PyData) (j : Nat) (s : Option (Sl IV)) (e : Env') : R (List PyData × Option Nat) := match s with
  | some (.iv u) => .ok (ds, some j) (e.set j (.lk u))
  | some (.lk _) => .ok (ds, none) e
  | _ => .bad
def sqN (ds : Option (List PyData)) (r : Option (Nat × List Nat)) (e : Env') : R (List PyData × Option Nat) := match ds, r with
  | some ds, some (j, _) => sqM ds j e[j]? e
  | _, _ => .bad
def unlkK (j : Nat) (s : Option (Sl IV)) (e : Env') : Env' := match s with
  | some (.lk t) => e.set j (.iv t)
  | _ => e
def toVR (o : O) (e : Env') (f : IV → SR') : SR' := match toV o e with
  | some t => f t
  | none => .bad
/-- a test's end -/
def iteR {α : Type} (k : Bool) (a b : α) : α := if k then a else b
theorem iteR_cg {α : Type} {k k' : Bool} (h : k = k') (a b : α) : iteR k a b = iteR k' a b := by rw [h]
section
variable {α β : Type} {a : α} {e e1 : Env'} {b b1 b2 b3 : Bool} {ma mb mc mo mk : M O} {mas : M (List O)} {mt mt2 : M Bool} {sa sb : MS} {t u : IV} {i j c : Nat} {tg : IV → Env' → R Unit} {d d1 d2 : PyData} {f f2 : PyData → PyData → Option PyData} {g : PyData → Option PyData} {o : O} {os : List O} {q : List Nat} {xs : List IV} {x0 x1 x2 x3 x4 : IV} {l : LF} {fk : List PyData → Option (List PyData)}
theorem ixN_lit {n k : Nat} (h : k < n) : ixN n (k : Int) = some k := by
  unfold ixN
  rw [if_pos (by omega), if_pos (by omega)]
  rfl
theorem elem_at {z : Int} {x : IV} {k : Nat} (hi : ixN xs.length z = some k) (hx : xs[k]? = some x) : elemI o (some (.nd b xs)) z e = .ok (subO o k x) e := by
  simp only [elemI, hi, hx]
theorem argT_K : argT o e = argK (O.tree o e) := by
  unfold argT argK
  cases O.tree o e with
  | none => rfl
  | some t => cases t <;> rfl
theorem bind_ok {F : α → Env' → R β} : R.bind (.ok a e) F = F a e := Eq.trans rfl rfl
theorem bind_ex {F : α → Env' → R β} : R.bind (.ex c e) F = .ex c e := Eq.trans rfl rfl
theorem toS_ok {F : α → Env' → SR'} : R.toS (.ok a e) F = F a e := Eq.trans rfl rfl
theorem toS_ex {F : α → Env' → SR'} : R.toS (.ex c e) F = .ex c e := Eq.trans rfl rfl
theorem sbind_nx {F : Env' → SR'} : SR'.bind (.nx e) F = F e := Eq.trans rfl rfl
theorem sbind_rt {F : Env' → SR'} : SR'.bind (.rt t e) F = .rt t e := Eq.trans rfl rfl
theorem sbind_bk {F : Env' → SR'} : SR'.bind (.bk e) F = .bk e := Eq.trans rfl rfl
theorem sbind_ex {F : Env' → SR'} : SR'.bind (.ex c e) F = .ex c e := Eq.trans rfl rfl
theorem iteR_t {a b : α} : iteR true a b = a := Eq.trans rfl rfl
theorem iteR_f {a b : α} : iteR false a b = b := Eq.trans rfl rfl
theorem nxS_e : nxS e = .nx e := Eq.trans rfl rfl
theorem bkS_e : bkS e = .bk e := Eq.trans rfl rfl
theorem exS_e : exS c e = .ex c e := Eq.trans rfl rfl
theorem retN_e : retN e = .rt (.d .none) e := Eq.trans rfl rfl
theorem exprS_e : exprS ma e = R.toS (ma e) fun _ e' => .nx e' := Eq.trans rfl rfl
theorem ifS_e : ifS mt sa sb e = R.toS (mt e) fun k e' => iteR k (sa e') (sb e') := Eq.trans rfl rfl
theorem retS_e : retS ma e = R.toS (ma e) fun o e' => toVR o e' fun t => .rt t e' := Eq.trans rfl rfl
theorem asgS_e : asgS ma tg e = R.toS (ma e) fun o e1 => toVR o e1 fun t => R.toS (tg t e1) fun _ e2 => .nx e2 := Eq.trans rfl rfl
theorem aliS_e : aliS i ma e = R.toS (ma e) fun o e1 => aliR i o e1 := Eq.trans rfl rfl
theorem aliR_tm : aliR i (.tm t) e = if okA i e then .nx (setA i t e) else .bad := Eq.trans rfl rfl
theorem aliR_vr : aliR i (.vr j q) e = aliK i j q (ctn e j q) e := Eq.trans rfl rfl
theorem aliK_nd {b : Bool} : aliK i j q (some (.nd b xs)) e = aliQ i q (rsv e j) e := Eq.trans rfl rfl
theorem aliQ_s {k : Nat} {p : List Nat} : aliQ i q (some (k, p)) e = if okA i e && !(k == i) then .nx ((killA i e).set i (.al k (p ++ q))) else .bad := Eq.trans rfl rfl
theorem varM_e : varM i e = varK i (ctn e i []) e := Eq.trans rfl rfl
theorem varK_s : varK i (some t) e = .ok (.vr i []) e := Eq.trans rfl rfl
theorem ctn_e : ctn e i q = ctnK (rsv e i) e q := Eq.trans rfl rfl
theorem ctnK_s {p : List Nat} : ctnK (some (j, p)) e q = getK (rootOf e j) (p ++ q) := Eq.trans rfl rfl
theorem getK_s {p : List Nat} : getK (some t) p = t.getP p := Eq.trans rfl rfl
theorem rsv_e : rsv e i = rsvK i e[i]? := by
  unfold rsv rsvK
  cases e[i]? with
  | none => rfl
  | some s => cases s <;> rfl
theorem rsvK_iv : rsvK i (some (.iv t)) = some (i, []) := Eq.trans rfl rfl
theorem rsvK_lk : rsvK i (some (.lk t)) = some (i, []) := Eq.trans rfl rfl
theorem rsvK_al {p : List Nat} : rsvK i (some (.al j p)) = some (j, p) := Eq.trans rfl rfl
theorem rootOf_e : rootOf e j = trK e[j]? := by
  unfold rootOf trK
  cases e[j]? <;> rfl
theorem trK_iv : trK (some (.iv t)) = some t := Eq.trans rfl rfl
theorem trK_lk : trK (some (.lk t)) = some t := Eq.trans rfl rfl
theorem datK_s : datK (some t) = t.toD := Eq.trans rfl rfl
theorem toD_lf : IV.toD (.lf (.d d)) = some d := by simp only [IV.toD]
theorem toD_ndt : IV.toD (.nd true xs) = (IV.toDL xs).map .list := by
  simp only [IV.toD]
  cases IV.toDL xs <;> rfl
theorem toD_ndf : IV.toD (.nd false xs) = (IV.toDL xs).map .tuple := by
  simp only [IV.toD]
  cases IV.toDL xs <;> rfl
theorem toDL_nil : IV.toDL [] = some [] := by simp only [IV.toDL]
theorem toDL_cons : IV.toDL (t :: xs) = consO t.toD (IV.toDL xs) := by
  simp only [IV.toDL, consO]
  cases t.toD <;> cases IV.toDL xs <;> rfl
theorem consO_s {x : α} {r : List α} : consO (some x) (some r) = some (x :: r) := Eq.trans rfl rfl
theorem getP_nil : IV.getP t [] = some t := Eq.trans rfl rfl
theorem getP_cons {p : List Nat} : IV.getP t (i :: p) = getK t.kids[i]? p := Eq.trans rfl rfl
theorem kids_nd {b : Bool} : IV.kids (.nd b xs) = xs := Eq.trans rfl rfl
theorem setP_nil : IV.setP t [] u = u := Eq.trans rfl rfl
theorem setP_cons {p : List Nat} : IV.setP t (i :: p) u = setPK t i p u t.kids[i]? := Eq.trans rfl rfl
theorem setPK_s {p : List Nat} {x : IV} : setPK t i p u (some x) = t.setK i (x.setP p u) := Eq.trans rfl rfl
theorem setK_nd {b : Bool} : IV.setK (.nd b xs) i u = .nd b (xs.set i u) := Eq.trans rfl rfl
theorem okA_e : okA i e = okK e[i]? := Eq.trans rfl rfl
theorem okK_iv : okK (some (.iv t)) = true := Eq.trans rfl rfl
theorem okK_un : okK (some .un) = true := Eq.trans rfl rfl
theorem okK_al {p : List Nat} : okK (some (.al j p)) = true := Eq.trans rfl rfl
theorem okK_lk : okK (some (.lk t)) = false := Eq.trans rfl rfl
theorem writeR_e {F : List IV → Option (List IV × (Nat → Bool) × α)} : writeR (.vr i q) e F = wrK (rsv e i) q e F := Eq.trans rfl rfl
theorem wrK_s {p : List Nat} {F : List IV → Option (List IV × (Nat → Bool) × α)} : wrK (some (j, p)) q e F = wrR j (p ++ q) e[j]? e F := Eq.trans rfl rfl
theorem wrR_iv {F : List IV → Option (List IV × (Nat → Bool) × α)} : wrR j q (some (.iv t)) e F = wrP j q t (t.getP q) e F := Eq.trans rfl rfl
theorem wrP_nd {F : List IV → Option (List IV × (Nat → Bool) × α)} : wrP j q t (some (.nd true xs)) e F = wrF j q t (F xs) e := Eq.trans rfl rfl
theorem wrF_s {ys : List IV} {kn : Nat → Bool} : wrF j q t (some (ys, kn, a)) e = .ok a ((killX j q kn e).set j (.iv (t.setP q (.nd true ys)))) := Eq.trans rfl rfl
theorem toVR_vr {F : IV → SR'} : toVR (.vr i q) e F = toVK (ctn e i q) F := by
  simp only [toVR, toV, toVK]
  cases ctn e i q with
  | none => rfl
  | some t => cases t <;> rfl
theorem toVK_s {F : IV → SR'} : toVK (some (.lf l)) F = F (.lf l) := Eq.trans rfl rfl
theorem toV_tm : toV (.tm t) e = some t := Eq.trans rfl rfl
theorem toV_vr : toV (.vr i q) e = tovK (ctn e i q) := Eq.trans rfl rfl
theorem tovK_s : tovK (some (.lf l)) = some (.lf l) := Eq.trans rfl rfl
theorem toVs_cons : toVs (o :: os) e = consO (toV o e) (toVs os e) := by
  simp only [toVs, consO]
  cases toV o e <;> cases toVs os e <;> rfl
theorem mvM_e : mvM i e = mvK i e[i]? e := Eq.trans rfl rfl
theorem mvK_lf : mvK i (some (.iv (.lf l))) e = .ok (.tm (.lf l)) e := Eq.trans rfl rfl
theorem mvK_nd {b : Bool} : mvK i (some (.iv (.nd b xs))) e = .ok (.tm (.nd b xs)) (e.set i .un) := Eq.trans rfl rfl
theorem mvK_al {p : List Nat} : mvK i (some (.al j p)) e = varM i e := Eq.trans rfl rfl
theorem frM_e : frM i e = frK i e[i]? e := Eq.trans rfl rfl
theorem frK_lf : frK i (some (.iv (.lf l))) e = .ok (.tm (.lf l)) e := Eq.trans rfl rfl
theorem frK_nd {b : Bool} : frK i (some (.iv (.nd b xs))) e = frD i (IV.toD (.nd b xs)) e := Eq.trans rfl rfl
theorem frD_s : frD i (some d) e = .ok (.tm (.d d)) (e.set i (.iv (.d d))) := Eq.trans rfl rfl
theorem endF_e {ms : List Bool} : endF ms t e = endK t (outsE ms e) := Eq.trans rfl rfl
theorem endK_s {r : List IV} : endK t (some r) = .ok t r := Eq.trans rfl rfl
theorem outsE_nil : outsE [] e = some [] := Eq.trans rfl rfl
theorem outsE_t {ms : List Bool} : outsE (true :: ms) (.iv t :: e) = consO (some t) (outsE ms e) := by
  simp only [outsE, consO]
  cases outsE ms e <;> rfl
theorem outsE_f {ms : List Bool} {s : Sl IV} : outsE (false :: ms) (s :: e) = outsE ms e := Eq.trans rfl rfl
theorem kl_un : kl j (Sl.un : Sl IV) = .un := Eq.trans rfl rfl
theorem kl_iv : kl j (.iv t) = .iv t := Eq.trans rfl rfl
theorem kl_lk : kl j (.lk t) = .lk t := Eq.trans rfl rfl
theorem kl_al {p : List Nat} : kl j (Sl.al i p : Sl IV) = if i = j then .un else .al i p := Eq.trans rfl rfl
theorem kx_un {kn : Nat → Bool} : kx j q kn (Sl.un : Sl IV) = .un := Eq.trans rfl rfl
theorem kx_iv {kn : Nat → Bool} : kx j q kn (.iv t) = .iv t := Eq.trans rfl rfl
theorem kx_lk {kn : Nat → Bool} : kx j q kn (.lk t) = .lk t := Eq.trans rfl rfl
theorem kx_al {kn : Nat → Bool} {p : List Nat} : kx j q kn (Sl.al i p : Sl IV) = if i = j ∧ q.isPrefixOf p = true ∧ nextIs kn (p.drop q.length) = true then .un else .al i p := Eq.trans rfl rfl
theorem nextIs_nil {kn : Nat → Bool} : nextIs kn [] = false := Eq.trans rfl rfl
theorem nextIs_cons {kn : Nat → Bool} : nextIs kn (i :: q) = kn i := Eq.trans rfl rfl
theorem aliK_lf : aliK i j q (some (.lf l)) e = if okA i e then .nx (setA i (.lf l) e) else .bad := Eq.trans rfl rfl
theorem endB_nx {ms : List Bool} : endB ms (.nx e) = endF ms (.d .none) e := Eq.trans rfl rfl
theorem endB_rt {ms : List Bool} : endB ms (.rt t e) = endF ms t e := Eq.trans rfl rfl
theorem setR_i {z : Int} : setR o (some (.int z)) t e = writeR o e (setF z t) := Eq.trans rfl rfl
theorem callR_e {ms : List Bool} {F : Sem'} : callR ms F os e = callK1 ms F os (takeG IV.getP ms os e) := by
  unfold callR callK1
  cases takeG IV.getP ms os e with
  | none => rfl
  | some r =>
    obtain ⟨hs, e0⟩ := r
    simp only [callK2]
    cases argsL ms os hs e0 with
    | none => rfl
    | some ts =>
      simp only [backK]
      all_goals (cases F ts <;> rfl)
theorem callK1_s {ms : List Bool} {F : Sem'} {hs : List (Nat × List Nat × IV)} : callK1 ms F os (some (hs, e)) = callK2 F hs e (argsL ms os hs e) (lent ms os e) := Eq.trans rfl rfl
theorem callK2_s {F : Sem'} {ts : List IV} {hs : List (Nat × List Nat × IV)} : callK2 F hs e (some ts) b = backK hs e b (F ts) := Eq.trans rfl rfl
theorem backK_ok {outs : List IV} {hs : List (Nat × List Nat × IV)} : backK hs e b (.ok t outs) = backR (!b || (noSh t && noShL outs)) (.ok (.tm t) (putG IV.setP hs outs e)) := Eq.trans rfl rfl
theorem backR_t {r : R O} : backR true r = r := Eq.trans rfl rfl
theorem takeG_nil : takeG IV.getP [] [] e = some ([], e) := Eq.trans rfl rfl
theorem takeG_f {ms : List Bool} : takeG IV.getP (false :: ms) (o :: os) e = takeG IV.getP ms os e := by
  simp only [takeG, Bool.false_eq_true, if_false]
theorem takeG_t {ms : List Bool} : takeG IV.getP (true :: ms) (.vr i q :: os) e = tk1 ms os q (rsv e i) e := by
  simp only [takeG, if_true, tk1]
  cases rsv e i with
  | none => rfl
  | some r =>
    obtain ⟨j, p⟩ := r
    simp only [tk2]
    cases e[j]? with
    | none => rfl
    | some s =>
      cases s with
      | iv root =>
        simp only [tk3]
        cases root.getP (p ++ q) with
        | none => rfl
        | some x =>
          simp only [tk4]
          cases takeG IV.getP ms os (e.set j .un) <;> rfl
      | _ => rfl
theorem tk1_s {ms : List Bool} {p : List Nat} : tk1 ms os q (some (j, p)) e = tk2 ms os j (p ++ q) e[j]? e := Eq.trans rfl rfl
theorem tk2_s {ms : List Bool} : tk2 ms os j q (some (.iv t)) e = tk3 ms os j q t (t.getP q) e := Eq.trans rfl rfl
theorem tk3_s {ms : List Bool} : tk3 ms os j q t (some u) e = tk4 j q t (takeG IV.getP ms os (e.set j .un)) := Eq.trans rfl rfl
theorem tk4_s {hs : List (Nat × List Nat × IV)} : tk4 j q t (some (hs, e)) = some ((j, q, t) :: hs, e) := Eq.trans rfl rfl
theorem argsL_nil {hs : List (Nat × List Nat × IV)} : argsL [] [] hs e = some [] := Eq.trans rfl rfl
theorem argsL_f {ms : List Bool} {hs : List (Nat × List Nat × IV)} : argsL (false :: ms) (o :: os) hs e = consO (argK (O.tree o e)) (argsL ms os hs e) := by
  simp only [argsL, Bool.false_eq_true, if_false, consO, argT_K]
  cases argK (O.tree o e) <;> cases argsL ms os hs e <;> rfl
theorem argsL_t {ms : List Bool} {p : List Nat} {hs : List (Nat × List Nat × IV)} : argsL (true :: ms) (o :: os) ((j, p, t) :: hs) e = consO (t.getP p) (argsL ms os hs e) := by
  simp only [argsL, if_true, consO]
  cases t.getP p <;> cases argsL ms os hs e <;> rfl
theorem argK_lf : argK (some (.lf l)) = some (.lf l) := Eq.trans rfl rfl
theorem argK_nd {b : Bool} : argK (some (.nd b xs)) = (IV.toD (.nd b xs)).map IV.d := Eq.trans rfl rfl
theorem lent_nil {ms : List Bool} : lent ms [] e = false := by
  cases ms <;> rfl
theorem lent_f {ms : List Bool} : lent (false :: ms) (o :: os) e = (lentO o e || lent ms os e) := by
  simp only [lent, lentO, lentT, Bool.not_false, Bool.true_and]
  all_goals (cases o with
  | tm t => rfl
  | vr i q =>
    cases ctn e i q with
    | none => rfl
    | some t => cases t <;> rfl)
theorem lent_t {ms : List Bool} : lent (true :: ms) (o :: os) e = lent ms os e := Eq.trans rfl rfl
theorem lentO_tm : lentO (.tm t) e = false := Eq.trans rfl rfl
theorem lentO_vr : lentO (.vr i q) e = lentT (ctn e i q) := Eq.trans rfl rfl
theorem lentT_lf : lentT (some (.lf l)) = false := Eq.trans rfl rfl
theorem lentT_nd {b : Bool} : lentT (some (.nd b xs)) = true := Eq.trans rfl rfl
theorem putG_nil {us : List IV} : putG IV.setP [] us e = e := Eq.trans rfl rfl
theorem putG_cons {p : List Nat} {us : List IV} {hs : List (Nat × List Nat × IV)} : putG IV.setP ((j, p, t) :: hs) (u :: us) e = (killA j (putG IV.setP hs us e)).set j (.iv (t.setP p u)) := Eq.trans rfl rfl
theorem sqR_vr : sqR b (.vr i q) e = sqK b i (ctn e i q) e := Eq.trans rfl rfl
theorem sqK_l {ds : List PyData} : sqK true i (some (.lf (.d (.list ds)))) e = .ok (ds, none) e := Eq.trans rfl rfl
theorem sqK_t {ds : List PyData} : sqK false i (some (.lf (.d (.tuple ds)))) e = .ok (ds, none) e := Eq.trans rfl rfl
theorem noSh_d : noSh (.lf (.d d)) = flat d := by simp only [noSh]
theorem noShL_nil : noShL [] = true := by simp only [noShL]
theorem noShL_cons : noShL (t :: xs) = (noSh t && noShL xs) := by simp only [noShL]
theorem noSh_nd {b : Bool} : noSh (.nd b xs) = noShL xs := by simp only [noSh]
theorem flat_i {z : Int} : flat (.int z) = true := Eq.trans rfl rfl
theorem okW_nil : okW [] e = true := Eq.trans rfl rfl
theorem okW_cons {is : List Nat} : okW (i :: is) e = (okA i e && okW is e) := Eq.trans rfl rfl
theorem wp_nil : wp [] e = e := Eq.trans rfl rfl
theorem wp_cons {is : List Nat} : wp (i :: is) e = (wp is e).set i .un := Eq.trans rfl rfl
theorem kids_vrO : O.kids o e = kidsT o (O.tree o e) := Eq.trans rfl rfl
theorem kidsT_l {ds : List PyData} : kidsT o (some (.lf (.d (.list ds)))) = some ds := Eq.trans rfl rfl
theorem kidsT_n : kidsT (.vr i q) (some (.nd true xs)) = leafDs xs := Eq.trans rfl rfl
theorem kidsT_m : kidsT (.tm t) (some (.nd true xs)) = IV.toDL xs := Eq.trans rfl rfl
theorem bindL_e {ds : List PyData} : bindL fk (some ds) e = bindLK (fk ds) e := by
  simp only [bindL, bindLK]
  all_goals (cases fk ds <;> rfl)
theorem bindLK_s {ds : List PyData} : bindLK (some ds) e = .ok (.tm (lsD ds)) e := Eq.trans rfl rfl
theorem lstR_s : lstR (some xs) e = if lim xs.length then .ok (.tm (.nd true xs)) e else .bad := Eq.trans rfl rfl
theorem dat_tmn {b : Bool} : O.dat (.tm (.nd b xs)) e = IV.toD (.nd b xs) := Eq.trans rfl rfl
theorem lim_0 : lim 0 = true := Eq.trans rfl rfl
theorem lim_1 : lim 1 = true := Eq.trans rfl rfl
theorem lim_2 : lim 2 = true := Eq.trans rfl rfl
theorem lim_3 : lim 3 = true := Eq.trans rfl rfl
theorem lim_4 : lim 4 = true := Eq.trans rfl rfl
theorem lim_5 : lim 5 = true := Eq.trans rfl rfl
theorem lim_6 : lim 6 = true := Eq.trans rfl rfl
theorem lim_7 : lim 7 = true := Eq.trans rfl rfl
theorem lim_8 : lim 8 = true := Eq.trans rfl rfl
theorem lim_9 : lim 9 = true := Eq.trans rfl rfl
theorem lim_10 : lim 10 = true := Eq.trans rfl rfl
theorem lim_11 : lim 11 = true := Eq.trans rfl rfl
theorem lim_12 : lim 12 = true := Eq.trans rfl rfl
theorem lim_13 : lim 13 = true := Eq.trans rfl rfl
theorem lim_14 : lim 14 = true := Eq.trans rfl rfl
theorem tupR_s : tupR (some xs) e = if lim xs.length then tupQ (leafDs xs) xs e else .bad := Eq.trans rfl rfl
theorem tupQ_s {ds : List PyData} : tupQ (some ds) xs e = .ok (.tm (.d (.tuple ds))) e := Eq.trans rfl rfl
theorem leafDs_nil : leafDs [] = some [] := Eq.trans rfl rfl
theorem leafDs_cons : leafDs (t :: xs) = consO (leafD t) (leafDs xs) := by
  simp only [leafDs, consO]
  cases leafD t <;> cases leafDs xs <;> rfl
theorem leafD_d : leafD (.lf (.d d)) = some d := Eq.trans rfl rfl
theorem consT_c {m : IV → Env' → R Unit} {r : List IV → Env' → R Unit} : consT m r (t :: xs) e = R.bind (m t e) fun _ e1 => r xs e1 := Eq.trans rfl rfl
theorem nilT_n : nilT [] e = .ok () e := Eq.trans rfl rfl
theorem tupT_d {n : Nat} {m : List IV → Env' → R Unit} {ds : List PyData} : tupT n m (.lf (.d (.tuple ds))) e = if ds.length = n then m (ds.map IV.d) e else .bad := Eq.trans rfl rfl
theorem sqK_nt : sqK true i (some (.nd true xs)) e = sqN (leafDs xs) (rsv e i) e := by
  simp only [sqK, if_true, sqN, sqM]
theorem sqN_s {ds : List PyData} {p : List Nat} : sqN (some ds) (some (j, p)) e = sqM ds j e[j]? e := Eq.trans rfl rfl
theorem sqM_iv {ds : List PyData} : sqM ds j (some (.iv t)) e = .ok (ds, some j) (e.set j (.lk t)) := Eq.trans rfl rfl
theorem sqM_lk {ds : List PyData} : sqM ds j (some (.lk t)) e = .ok (ds, none) e := Eq.trans rfl rfl
theorem unlkO_s : unlkO (some j) e = unlkK j e[j]? e := by
  show unlk j e = _
  unfold unlk unlkK
  cases e[j]? with
  | none => rfl
  | some s => cases s <;> rfl
theorem unlkK_lk : unlkK j (some (.lk t)) e = e.set j (.iv t) := Eq.trans rfl rfl
theorem insM_e {mx : M O} : insM b2 b3 mo ma mx e = R.bind (mo e) fun o e1 => if isLs (O.tree o e1) then R.bind (R.bind (ma e1) fun oi e2 => R.bind (mx e2) fun ox e3 => if O.stays b3 oi then .ok (oi, ox) e3 else .bad) fun a e4 => if O.stays (b2 && b3) o then insR o (O.dat a.1 e4) (toV a.2 e4) e4 else .bad else .bad := Eq.trans rfl rfl
theorem insR_s {z : Int} : insR o (some (.int z)) (some t) e = R.bind (writeR o e (insF z t)) fun _ e' => .ok (.tm (.d .none)) e' := Eq.trans rfl rfl
theorem toVR_tm {F : IV → SR'} : toVR (.tm t) e F = F t := Eq.trans rfl rfl
theorem cstM_e : cstM d e = .ok (.tm (.d d)) e := Eq.trans rfl rfl
theorem op2M_e : op2M b f ma mb e = R.bind (ma e) fun o1 e1 => R.bind (mb e1) fun o2 e2 => if O.stays b o1 then outM (dat2 f (O.dat o1 e2) (O.dat o2 e2)) e2 else .bad := Eq.trans rfl rfl
theorem addM_e : addM b ma mb e = R.bind (ma e) fun o1 e1 => R.bind (mb e1) fun o2 e2 => if O.stays b o1 then plusR (dat2 fAdd (O.dat o1 e2) (O.dat o2 e2)) (O.kidsL o1 e2) (O.kidsL o2 e2) e2 else .bad := Eq.trans rfl rfl
theorem mulM_e : mulM b ma mb e = R.bind (ma e) fun o1 e1 => R.bind (mb e1) fun o2 e2 => if O.stays b o1 then timesR (dat2 fMul (O.dat o1 e2) (O.dat o2 e2)) (O.kidsL o1 e2) (O.dat o2 e2) e2 else .bad := Eq.trans rfl rfl
theorem idxM_e : idxM b ma mb e = R.bind (ma e) fun o1 e1 => R.bind (mb e1) fun o2 e2 => if O.stays b o1 then elemR o1 (O.tree o1 e2) (O.dat o2 e2) e2 else .bad := Eq.trans rfl rfl
theorem tstM_e : tstM ma e = R.bind (ma e) fun o e' => isB (O.dat o e') e' := Eq.trans rfl rfl
theorem notT_e : notT mt e = R.bind (mt e) fun k e' => .ok (!k) e' := Eq.trans rfl rfl
theorem andT_e : andT mt mt2 e = R.bind (mt e) fun k e' => iteR k (mt2 e') (.ok false e') := Eq.trans rfl rfl
theorem orT_e : orT mt mt2 e = R.bind (mt e) fun k e' => iteR k (.ok true e') (mt2 e') := Eq.trans rfl rfl
theorem andM_e : Z.andM ma mb e = R.bind (ma e) fun o e' => asB (O.dat o e') e' fun k => iteR k (mb e') (.ok (.tm (.d (.bool false))) e') := Eq.trans rfl rfl
theorem orM_e : Z.orM ma mb e = R.bind (ma e) fun o e' => asB (O.dat o e') e' fun k => iteR k (.ok (.tm (.d (.bool true))) e') (mb e') := Eq.trans rfl rfl
theorem notM_e : Z.notM ma e = R.bind (ma e) fun o e' => asB (O.dat o e') e' fun k => .ok (.tm (.d (.bool (!k)))) e' := Eq.trans rfl rfl
theorem ifM_e : ifM mt ma mb e = R.bind (mt e) fun k e' => iteR k (ma e') (mb e') := Eq.trans rfl rfl
theorem un1M_e : un1M g ma e = R.bind (ma e) fun o e' => outM (dat2 (fun x _ => g x) (O.dat o e') (some .none)) e' := Eq.trans rfl rfl
theorem tr1M_e {h : IV → Option PyData} : tr1M h ma e = R.bind (ma e) fun o e' => outM (mapT h (O.tree o e')) e' := Eq.trans rfl rfl
theorem ls1M_e : ls1M fk ma e = R.bind (ma e) fun o e' => bindL fk (O.kids o e') e' := Eq.trans rfl rfl
theorem revM_e : revM ma e = R.bind (ma e) fun o e' => bindL (fun ds => some ds.reverse) (O.kids o e') e' := Eq.trans rfl rfl
theorem nilA_e : nilA e = .ok [] e := Eq.trans rfl rfl
theorem consA_e : consA b ma mas e = R.bind (ma e) fun o e1 => R.bind (mas e1) fun os e2 => if O.stays b o then .ok (o :: os) e2 else .bad := Eq.trans rfl rfl
theorem lstM_e : lstM mas e = R.bind (mas e) fun os e' => lstR (toVs os e') e' := Eq.trans rfl rfl
theorem tplM_e : tplM mas e = R.bind (mas e) fun os e' => tupR (toVs os e') e' := Eq.trans rfl rfl
theorem callM_e {ms : List Bool} {F : Sem'} : callM ms F mas e = R.bind (mas e) fun os e' => callR ms F os e' := Eq.trans rfl rfl
theorem subT_e : subT b mo mk t e = R.bind (mo e) fun o e1 => R.bind (mk e1) fun k e2 => if O.stays b o then setR o (O.dat k e2) t e2 else .bad := Eq.trans rfl rfl
theorem nameT_e : nameT i t e = if okA i e then .ok () (setA i t e) else .bad := Eq.trans rfl rfl
theorem lrg1M_e : lrg1M ma e = R.bind (ma e) fun o e' => rgR (some (.int 0)) (O.dat o e') e' := Eq.trans rfl rfl
theorem lrg2M_e : lrg2M b ma mb e = R.bind (ma e) fun o1 e1 => R.bind (mb e1) fun o2 e2 => if O.stays b o1 then rgR (O.dat o1 e2) (O.dat o2 e2) e2 else .bad := Eq.trans rfl rfl
theorem forS_e {mi : MI} : forS mi tg sa e = R.toS (mi e) fun p e1 => forG (unlkO p.2) tg sa (p.1.map IV.d) e1 := Eq.trans rfl rfl
theorem sqI_e {φ : List PyData → List PyData} : sqI b φ ma e = R.bind (ma e) fun o e' => mapI φ (sqR b o e') := Eq.trans rfl rfl
theorem rg1I_e : rg1I ma e = R.bind (ma e) fun o e' => rgI (some (.int 0)) (O.dat o e') e' := Eq.trans rfl rfl
theorem rg2I_e : rg2I b ma mb e = R.bind (ma e) fun o1 e1 => R.bind (mb e1) fun o2 e2 => if O.stays b o1 then rgI (O.dat o1 e2) (O.dat o2 e2) e2 else .bad := Eq.trans rfl rfl
theorem lcM_e {own : List Nat} {mi : MI} : lcM own mi tg mt ma e = R.bind (mi e) fun p e1 => if okW own e1 then (match lcG own tg mt ma (p.1.map IV.d) [] (wp own e1) with
  | .ok acc e2 => .ok (.tm (.nd true acc)) (unlkO p.2 e2)
  | _ => .bad) else .bad := Eq.trans rfl rfl
theorem augS_e : augS i f ma e = match ctn e i [] with
  | some (.lf (.d d1)) => R.toS (ma e) fun o e1 => augR i (f d1) (O.dat o e1) e1
  | _ => .bad := Eq.trans rfl rfl
theorem appM_e : appM b mo ma e = R.bind (mo e) fun o e1 => if isLs (O.tree o e1) then R.bind (ma e1) fun a e2 => if O.stays b o then apR o (toV a e2) e2 else .bad else .bad := Eq.trans rfl rfl
theorem popAtM_e : popAtM b mo ma e = R.bind (mo e) fun o e1 => if isLs (O.tree o e1) then R.bind (ma e1) fun a e2 => if O.stays b o then popR o (pyK (O.dat a e2)) e2 else .bad else .bad := Eq.trans rfl rfl
theorem extM_e : extM b mo ma e = R.bind (mo e) fun o e1 => if isLs (O.tree o e1) then R.bind (ma e1) fun a e2 => if O.stays b o then extR o (O.kidsL a e2) e2 else .bad else .bad := Eq.trans rfl rfl
theorem stays_tm : O.stays b (.tm t) = true := Eq.trans rfl rfl
theorem stays_nil : O.stays b (.vr i []) = true := Eq.trans rfl rfl
theorem stays_t : O.stays true o = true := by
  cases o with
  | tm t => rfl
  | vr i q => cases q <;> rfl
theorem dat_tm : O.dat (.tm (.lf (.d d))) e = some d := Eq.trans rfl rfl
theorem tree_tm : O.tree (.tm t) e = some t := Eq.trans rfl rfl
theorem tree_vr : O.tree (.vr i q) e = ctn e i q := Eq.trans rfl rfl
theorem dat_vr : O.dat (.vr i q) e = datK (ctn e i q) := Eq.trans rfl rfl
theorem isB_b {k : Bool} : isB (some (.bool k)) e = .ok k e := Eq.trans rfl rfl
theorem asB_b {k : Bool} {F : Bool → R O} : asB (some (.bool k)) e F = F k := Eq.trans rfl rfl
theorem elemR_i {z : Int} {w : Option IV} : elemR o w (some (.int z)) e = elemI o w z e := Eq.trans rfl rfl
theorem elem0 : elemI o (some (.nd b (x0 :: xs))) 0 e = .ok (subO o 0 x0) e := elem_at (ixN_lit (by simp only [List.length_cons]; omega)) rfl
theorem elem1 : elemI o (some (.nd b (x0 :: x1 :: xs))) 1 e = .ok (subO o 1 x1) e := elem_at (ixN_lit (by simp only [List.length_cons]; omega)) rfl
theorem elem2 : elemI o (some (.nd b (x0 :: x1 :: x2 :: xs))) 2 e = .ok (subO o 2 x2) e := elem_at (ixN_lit (by simp only [List.length_cons]; omega)) rfl
theorem elem3 : elemI o (some (.nd b (x0 :: x1 :: x2 :: x3 :: xs))) 3 e = .ok (subO o 3 x3) e := elem_at (ixN_lit (by simp only [List.length_cons]; omega)) rfl
theorem subO_lf : subO o i (.lf l) = .tm (.lf l) := Eq.trans rfl rfl
theorem subO_nd {b : Bool} : subO (.vr j q) i (.nd b xs) = .vr j (q ++ [i]) := Eq.trans rfl rfl
theorem subO_tm {b : Bool} : subO (.tm u) i (.nd b xs) = .tm (.nd b xs) := Eq.trans rfl rfl
theorem dat2_s : dat2 f (some d1) (some d2) = f d1 d2 := Eq.trans rfl rfl
theorem plusR_i {z : Int} {x y : Option (List PyData)} : plusR (some (.int z)) x y e = .ok (.tm (.d (.int z))) e := Eq.trans rfl rfl
theorem plusR_s {z : Str} {x y : Option (List PyData)} : plusR (some (.str z)) x y e = .ok (.tm (.d (.str z))) e := Eq.trans rfl rfl
theorem timesR_i {z : Int} {x : Option (List PyData)} {y : Option PyData} : timesR (some (.int z)) x y e = .ok (.tm (.d (.int z))) e := Eq.trans rfl rfl
theorem outM_i {z : Int} : outM (some (.int z)) e = .ok (.tm (.d (.int z))) e := Eq.trans rfl rfl
theorem outM_b {z : Bool} : outM (some (.bool z)) e = .ok (.tm (.d (.bool z))) e := Eq.trans rfl rfl
theorem outM_s {z : Str} : outM (some (.str z)) e = .ok (.tm (.d (.str z))) e := Eq.trans rfl rfl
theorem fAdd_i {x y : Int} : fAdd (.int x) (.int y) = some (.int (x + y)) := Eq.trans rfl rfl
theorem fSub_i {x y : Int} : fSub (.int x) (.int y) = some (.int (x - y)) := Eq.trans rfl rfl
theorem fLt_i {x y : Int} : fLt (.int x) (.int y) = some (.bool (decide (x < y))) := Eq.trans rfl rfl
theorem fLe_i {x y : Int} : fLe (.int x) (.int y) = some (.bool (decide (x ≤ y))) := Eq.trans rfl rfl
theorem fGt_i {x y : Int} : fGt (.int x) (.int y) = some (.bool (decide (y < x))) := Eq.trans rfl rfl
theorem fGe_i {x y : Int} : fGe (.int x) (.int y) = some (.bool (decide (y ≤ x))) := Eq.trans rfl rfl
theorem fEq_i {x y : Int} : fEq (.int x) (.int y) = some (.bool (decide (x = y))) := by
  rw [fEq, if_pos (show (SeqAt.shaped (.int x) && SeqAt.shaped (.int y)) = true from rfl)]
  congr 2
theorem fNe_i {x y : Int} : fNe (.int x) (.int y) = some (.bool (!decide (x = y))) := by
  rw [fNe, if_pos (show (SeqAt.shaped (.int x) && SeqAt.shaped (.int y)) = true from rfl)]
  congr 3
theorem toVs_nil : toVs [] e = some [] := Eq.trans rfl rfl
theorem mapT_s {h : IV → Option PyData} : mapT h (some t) = h t := Eq.trans rfl rfl
theorem fInt_i {x y : Int} {G : Int → Int → Int} : fInt G (.int x) (.int y) = some (.int (G x y)) := Eq.trans rfl rfl
theorem fInt1_b {k : Bool} : fInt1 (.bool k) = some (.int (if k then 1 else 0)) := Eq.trans rfl rfl
theorem fInt1_i {x : Int} : fInt1 (.int x) = some (.int x) := Eq.trans rfl rfl
theorem lenT_s {ns : List Int} : lenT (.lf (.s ns)) = some (.int ns.length) := Eq.trans rfl rfl
theorem lenT_l {ds : List PyData} : lenT (.lf (.d (.list ds))) = some (.int ds.length) := Eq.trans rfl rfl
theorem elem_sc {ns : List Int} {z : Int} : elemI o (some (.lf (.s ns))) z e = okD ((atI ns z).map .int) e := Eq.trans rfl rfl
theorem elem_ls {ns : List PyData} {z : Int} : elemI o (some (.lf (.d (.list ns)))) z e = okD (atI ns z) e := Eq.trans rfl rfl
theorem elem_tu {ns : List PyData} {z : Int} : elemI o (some (.lf (.d (.tuple ns)))) z e = okD (atI ns z) e := Eq.trans rfl rfl
theorem okD_s : okD (some d) e = .ok (.tm (.d d)) e := Eq.trans rfl rfl
theorem isLs_nd : isLs (some (.nd true xs)) = true := Eq.trans rfl rfl
theorem apR_s : apR o (some t) e = R.bind (writeR o e (apF t)) fun _ e' => .ok (.tm (.d .none)) e' := Eq.trans rfl rfl
theorem unlkO_n : unlkO none e = e := Eq.trans rfl rfl
theorem mapI_ok {φ : List PyData → List PyData} {p : List PyData × Option Nat} : mapI φ (.ok p e) = .ok (φ p.1, p.2) e := Eq.trans rfl rfl
theorem lenT_nd {b : Bool} : lenT (.nd b xs) = some (.int xs.length) := Eq.trans rfl rfl
theorem seqS_e : seqS sa sb e = SR'.bind (sa e) sb := by
  unfold seqS SR'.bind
  cases sa e <;> rfl
theorem fMul_i {x y : Int} (h : mulOk x y = true) : fMul (.int x) (.int y) = some (.int (x * y)) := by simp only [fMul, fIntC, fI, h, if_true]
theorem fMod_i {x y : Int} (h : 0 < y) : fMod (.int x) (.int y) = some (.int (x % y)) := by simp only [fMod, fIntC, fI, modOk, h, decide_true, if_true]
theorem fDiv_i {x y : Int} (h : 0 < y) (h2 : y < 2 ^ 200) : fDiv (.int x) (.int y) = some (.int (x / y)) := by simp only [fDiv, fIntC, fI, divOk, h, h2, and_self, decide_true, if_true]
theorem bodyF_e {n : Nat} {ms : List Bool} {m : MS} {ts : List IV} : bodyF n ms m ts = endB ms (m (envB n ts)) := by
  unfold bodyF endB
  cases m (envB n ts) <;> rfl
theorem setF_at {z : Int} {k : Nat} (hi : ixN xs.length z = some k) : setF z t xs = some (xs.set k t, fun i => i == k, ()) := by
  unfold setF
  rw [hi]
theorem ixN_pos {n : Nat} {z : Int} (h : 0 ≤ z) (h2 : z < n) : ixN n z = some z.toNat := by
  unfold ixN
  rw [if_pos h, if_pos h2]
theorem elem_pos {z : Int} {x : IV} (h : 0 ≤ z) (hx : xs[z.toNat]? = some x) : elemI o (some (.nd b xs)) z e = .ok (subO o z.toNat x) e :=
  elem_at (ixN_pos h (by have := (List.getElem?_eq_some_iff.mp hx).1; omega)) hx
theorem set0 : setF 0 t (x0 :: xs) = some (t :: xs, fun i => i == 0, ()) := setF_at (k := 0) (ixN_lit (by simp only [List.length_cons]; omega))
theorem set1 : setF 1 t (x0 :: x1 :: xs) = some (x0 :: t :: xs, fun i => i == 1, ()) := setF_at (k := 1) (ixN_lit (by simp only [List.length_cons]; omega))
theorem set2 : setF 2 t (x0 :: x1 :: x2 :: xs) = some (x0 :: x1 :: t :: xs, fun i => i == 2, ()) := setF_at (k := 2) (ixN_lit (by simp only [List.length_cons]; omega))
theorem rgI_ok {x y : Int} (h : (smI x && smI y) = true) : rgI (some (.int x)) (some (.int y)) e = .ok (rgD x y, none) e := by
  simp only [rgI, h, if_true]
theorem sm_ok {x : Int} (h : -(2 ^ 62) ≤ x ∧ x < 2 ^ 62) : smI x = true := decide_eq_true h
theorem apF_ok (h : xs.length ≤ 1000000) : apF t xs = some (xs ++ [t], fun i => decide (xs.length ≤ i), ()) := by
  unfold apF
  rw [if_pos (show lim xs.length = true from decide_eq_true h)]
theorem rg_get {x y : Int} {k : Nat} {u : IV} (h : ((rgD x y).map IV.d)[k]? = some u) : u = .d (.int (x + (k : Nat))) ∧ (k : Int) < y - x := by
  rw [List.getElem?_map, rgD, List.getElem?_map] at h
  cases hr : (List.range (y - x).toNat)[k]? with
  | none => rw [hr] at h; cases h
  | some z =>
    rw [hr] at h
    obtain ⟨h1, h2⟩ := List.getElem?_eq_some_iff.mp hr
    rw [List.getElem_range] at h2
    subst h2
    rw [List.length_range] at h1
    exact ⟨(Option.some.inj h).symm, by omega⟩
theorem rg_len {x y : Int} : ((rgD x y).map IV.d).length = (y - x).toNat := by simp [rgD]
theorem mulOk_l {x y : Int} (h : -(2 ^ 64) < x ∧ x < 2 ^ 64) : mulOk x y = true := by
  unfold mulOk
  rw [decide_eq_true h]
  rfl
end
end Z
/-! Z27: loops and comprehensions by invariants. -/
namespace Z
open PySem L2
section
variable {own : List Nat} {tg : IV → Env' → R Unit} {mt : M Bool} {me : M O} {fin : Env' → Env'} {body : MS} {e0 : Env'}
/-- a comprehension by an invariant: items done, what stands so far, the environment -/
theorem lcG_go (Inv : Nat → List IV → Env' → Prop) : ∀ (items : List IV) (i : Nat) (acc : List IV) (e : Env'), Inv i acc e → acc.length + items.length ≤ 1000000 →
    (∀ j t acc e, items[j]? = some t → Inv (i + j) acc e → ∃ e1 k e2, tg t e = .ok () e1 ∧ mt e1 = .ok k e2 ∧ ((k = true ∧ ∃ o e3 u, me e2 = .ok o e3 ∧ toV o e3 = some u ∧ okW own e3 = true ∧ Inv (i + j + 1) (acc ++ [u]) (wp own e3)) ∨ (k = false ∧ okW own e2 = true ∧ Inv (i + j + 1) acc (wp own e2)))) →
    ∃ acc' e', lcG own tg mt me items acc e = .ok acc' e' ∧ Inv (i + items.length) acc' e'
  | [], i, acc, e, h, _, _ => ⟨acc, e, by simp only [lcG], h⟩
  | t :: ts, i, acc, e, h, hl, step => by
    obtain ⟨e1, k, e2, h1, h2, h3⟩ := step 0 t acc e rfl h
    have hl' : acc.length + (ts.length + 1) ≤ 1000000 := by simpa using hl
    have more : ∀ acc2 e2, Inv (i + 1) acc2 e2 → acc2.length ≤ acc.length + 1 → ∃ acc' e', lcG own tg mt me ts acc2 e2 = .ok acc' e' ∧ Inv (i + (t :: ts).length) acc' e' := fun acc2 e2 h2 hl2 => by
      have := lcG_go Inv ts (i + 1) acc2 e2 h2 (by omega) fun j t acc e hj hI => by
        have s := step (j + 1) t acc e (by simpa using hj) (by rw [show i + (j + 1) = i + 1 + j by omega]; exact hI)
        rw [show i + (j + 1) = i + 1 + j by omega] at s
        exact s
      rw [List.length_cons, show i + (ts.length + 1) = i + 1 + ts.length by omega]
      exact this
    rcases h3 with ⟨rfl, o, e3, u, h4, h5, h6, h7⟩ | ⟨rfl, h6, h7⟩
    · have hlim : lim (acc.length + 1) = true := decide_eq_true (by omega)
      simp only [lcG, h1, h2, R.bind, if_true, h4, h5, h6, hlim, Bool.and_self]
      exact more _ _ h7 (by simp)
    · simp only [lcG, h1, h2, R.bind, Bool.false_eq_true, if_false, h6, if_true]
      exact more _ _ h7 (by omega)
theorem lcG_inv (Inv : Nat → List IV → Env' → Prop) (items : List IV) {e : Env'} (h : Inv 0 [] e) (hl : items.length ≤ 1000000)
    (step : ∀ j t acc e, items[j]? = some t → Inv j acc e → ∃ e1 k e2, tg t e = .ok () e1 ∧ mt e1 = .ok k e2 ∧ ((k = true ∧ ∃ o e3 u, me e2 = .ok o e3 ∧ toV o e3 = some u ∧ okW own e3 = true ∧ Inv (j + 1) (acc ++ [u]) (wp own e3)) ∨ (k = false ∧ okW own e2 = true ∧ Inv (j + 1) acc (wp own e2)))) :
    ∃ acc' e', lcG own tg mt me items [] e = .ok acc' e' ∧ Inv items.length acc' e' := by
  have := lcG_go (own := own) (tg := tg) (mt := mt) (me := me) Inv items 0 [] e h (by simpa using hl) fun j t acc e hj hI => by
    have s := step j t acc e hj (by simpa using hI)
    simpa using s
  simpa using this
/-- a comprehension that changes nothing: c what is kept, u the value of an item -/
theorem lcG_pure (c : IV → Bool) (u : IV → IV) (E : IV → Env') : ∀ (items acc : List IV), acc.length + items.length ≤ 1000000 → (∀ t ∈ items, tg t e0 = .ok () (E t) ∧ mt (E t) = .ok (c t) (E t) ∧ okW own (E t) = true ∧ wp own (E t) = e0 ∧ (c t = true → ∃ o, me (E t) = .ok o (E t) ∧ toV o (E t) = some (u t))) →
    lcG own tg mt me items acc e0 = .ok (acc ++ (items.filter c).map u) e0
  | [], acc, _, _ => by simp [lcG]
  | t :: ts, acc, hl, h => by
    obtain ⟨h1, h2, h3, h4, h5⟩ := h t List.mem_cons_self
    have hl' : acc.length + (ts.length + 1) ≤ 1000000 := by simpa using hl
    cases hc : c t with
    | true =>
      obtain ⟨o, h6, h7⟩ := h5 hc
      have hlim : lim (acc.length + 1) = true := decide_eq_true (by omega)
      rw [hc] at h2
      simp only [lcG, h1, h2, R.bind, if_true, h6, h7, h3, hlim, Bool.and_self, h4]
      rw [lcG_pure c u E ts (acc ++ [u t]) (by simp; omega) fun t ht => h t (List.mem_cons_of_mem _ ht)]
      simp [hc]
    | false =>
      rw [hc] at h2
      simp only [lcG, h1, h2, R.bind, Bool.false_eq_true, if_false, h3, if_true, h4]
      rw [lcG_pure c u E ts acc (by omega) fun t ht => h t (List.mem_cons_of_mem _ ht)]
      simp [hc]
/-- a test that nothing passes -/
theorem lcG_none (E : IV → Env') (items : List IV) (hl : items.length ≤ 1000000) (h : ∀ t ∈ items, tg t e0 = .ok () (E t) ∧ mt (E t) = .ok false (E t) ∧ okW own (E t) = true ∧ wp own (E t) = e0) :
    lcG own tg mt me items [] e0 = .ok [] e0 := by
  have := lcG_pure (own := own) (tg := tg) (mt := mt) (me := me) (e0 := e0) (fun _ => false) id E items [] (by simpa using hl) fun t ht => by
    obtain ⟨h1, h2, h3, h4⟩ := h t ht
    exact ⟨h1, h2, h3, h4, fun z => nomatch z⟩
  rw [this]
  simp
theorem forG_go (Inv : Nat → Env' → Prop) : ∀ (items : List IV) (i : Nat) (e : Env'), Inv i e → (∀ j t e, items[j]? = some t → Inv (i + j) e → ∃ e1 e2, tg t e = .ok () e1 ∧ body e1 = .nx e2 ∧ Inv (i + j + 1) e2) → ∃ e', forG fin tg body items e = .nx (fin e') ∧ Inv (i + items.length) e'
  | [], i, e, h, _ => ⟨e, by simp only [forG], h⟩
  | t :: ts, i, e, h, step => by
    obtain ⟨e1, e2, h1, h2, h3⟩ := step 0 t e rfl h
    have := forG_go Inv ts (i + 1) e2 h3 fun j t e hj hI => by
      have s := step (j + 1) t e (by simpa using hj) (by rw [show i + (j + 1) = i + 1 + j by omega]; exact hI)
      rw [show i + (j + 1) = i + 1 + j by omega] at s
      exact s
    simp only [forG, h1, R.toS, h2]
    rw [List.length_cons, show i + (ts.length + 1) = i + 1 + ts.length by omega]
    exact this
/-- a loop by an invariant -/
theorem forG_inv (Inv : Nat → Env' → Prop) (items : List IV) {e : Env'} (h : Inv 0 e) (step : ∀ j t e, items[j]? = some t → Inv j e → ∃ e1 e2, tg t e = .ok () e1 ∧ body e1 = .nx e2 ∧ Inv (j + 1) e2) : ∃ e', forG fin tg body items e = .nx (fin e') ∧ Inv items.length e' := by
  have := forG_go (fin := fin) Inv items 0 e h fun j t e hj hI => by
    have s := step j t e hj (by simpa using hI)
    simpa using s
  simpa using this
end
end Z
/-! Z28: facts of the tables: lists of ints. -/
namespace Z
open PySem L2
abbrev intL (ns : List Int) : PyData := .list (ns.map .int)
theorem canLay_ints : ∀ ns : List Int, PyData.canLayAll0 (ns.map .int) = true
  | [] => by simp [PyData.canLayAll0]
  | n :: r => by simp [PyData.canLayAll0, PyData.canLay0, canLay_ints r]
theorem depth_ints : ∀ ns : List Int, PyData.depthAll (ns.map .int) ≤ 1
  | [] => by simp [PyData.depthAll]
  | n :: r => by
    have := depth_ints r
    simp [PyData.depthAll, PyData.depth]
    omega
theorem shaped_ints (ns : List Int) : SeqAt.shaped (intL ns) = true := by
  have h1 := canLay_ints ns
  have h2 := depth_ints ns
  simp only [SeqAt.shaped, PyData.canLay0, PyData.depth, h1, Bool.true_and]
  exact decide_eq_true (by omega)
theorem eqvAll_ints : ∀ a b : List Int, PyData.eqvAll (a.map .int) (b.map .int) = decide (a = b)
  | [], [] => by simp [PyData.eqvAll]
  | [], _ :: _ => by simp [PyData.eqvAll]
  | _ :: _, [] => by simp [PyData.eqvAll]
  | x :: a, y :: b => by
    simp only [List.map_cons, PyData.eqvAll, PyData.eqv, eqvAll_ints a b]
    by_cases h1 : x = y <;> by_cases h2 : a = b <;> simp [h1, h2]
theorem fEq_ints (a b : List Int) : fEq (intL a) (intL b) = some (.bool (decide (a = b))) := by
  unfold fEq
  rw [shaped_ints, shaped_ints]
  simp only [Bool.and_self, if_true, PyData.eqv, eqvAll_ints]
theorem fNe_ints (a b : List Int) : fNe (intL a) (intL b) = some (.bool (!decide (a = b))) := by
  unfold fNe
  rw [shaped_ints, shaped_ints]
  simp only [Bool.and_self, if_true, PyData.eqv, eqvAll_ints]
theorem sortD_ints (ns : List Int) : sortD (ns.map .int) = some ((sortI ns).map .int) := by
  unfold sortD
  rw [intsOf_int]
/-- 0, 1, .., n - 1 -/
def upN (n : Nat) : List Int := (List.range n).map fun (i : Nat) => (i : Int)
theorem upN_len (n : Nat) : (upN n).length = n := by simp [upN]
theorem rgD_upN (n : Nat) : rgD 0 (n : Int) = (upN n).map .int := by
  simp [rgD, upN, Function.comp_def]
theorem upN_pw (n : Nat) : (upN n).Pairwise (· ≤ ·) := by
  unfold upN
  rw [List.pairwise_map]
  exact (List.pairwise_lt_range (n := n)).imp fun h => by omega
theorem sort_perm {ns : List Int} {n : Nat} (h : ns.Perm (upN n)) : sortI ns = upN n := sorted_unique ((sortI_perm ns).trans h) (sortI_pw ns) (upN_pw n)
theorem mem_upN {n : Nat} {x : Int} : x ∈ upN n ↔ 0 ≤ x ∧ x < n := by
  simp only [upN, List.mem_map, List.mem_range]
  constructor
  · rintro ⟨i, hi, rfl⟩
    omega
  · rintro ⟨h1, h2⟩
    exact ⟨x.toNat, by omega, by omega⟩
theorem isT_ll {ds : List PyData} : isT "list" (.lf (.d (.list ds))) = some (.bool true) := Eq.trans rfl rfl
theorem isT_ln {xs : List IV} : isT "list" (.nd true xs) = some (.bool true) := Eq.trans rfl rfl
theorem isT_ii {i : Int} : isT "int" (.lf (.d (.int i))) = some (.bool true) := Eq.trans rfl rfl
theorem isT_bi {i : Int} : isT "bool" (.lf (.d (.int i))) = some (.bool false) := Eq.trans rfl rfl
theorem flatO_i {i : Int} : flatO (some (.int i)) = some (.int i) := Eq.trans rfl rfl
theorem withD_s {d : PyData} {f : PyData → R O} : withD (some d) f = f d := Eq.trans rfl rfl
theorem chM_e {f f' : PyData → PyData → Option PyData} {ma mb mc : M O} {e : Env'} : chM f f' ma mb mc e = R.bind (ma e) fun o1 e1 => withD (flatO (O.dat o1 e1)) fun d1 => R.bind (mb e1) fun o2 e2 => withD (flatO (O.dat o2 e2)) fun d2 =>
  asB (f d1 d2) e2 fun k => iteR k (R.bind (mc e2) fun o3 e3 => withD (flatO (O.dat o3 e3)) fun d3 => outM (f' d2 d3) e3) (.ok (.tm (.d (.bool false))) e2) := Eq.trans rfl rfl
theorem rgR_ok {a b : Int} {e : Env'} (h : rgOk a b = true) : rgR (some (.int a)) (some (.int b)) e = .ok (.tm (lsD (rgD a b))) e := by
  simp only [rgR, h, if_true]
theorem toDL_ints (ns : List Int) : IV.toDL (ns.map fun i => IV.d (.int i)) = some (ns.map .int) := by
  have := IV.toDL_d (ns.map .int)
  rw [List.map_map] at this
  exact this
abbrev I (i : Int) : IV := .lf (.d (.int i))
def ivL (ns : List Int) : List IV := ns.map I
theorem lsD_iv (ns : List Int) : lsD (ns.map .int) = .nd true (ivL ns) := by
  simp [lsD, ivL, Function.comp_def]
theorem ivL_len (ns : List Int) : (ivL ns).length = ns.length := by simp [ivL]
theorem ivL_get {ns : List Int} {k : Nat} {i : Int} (h : ns[k]? = some i) : (ivL ns)[k]? = some (I i) := by simp [ivL, h]
theorem ivL_set (ns : List Int) (k : Nat) (i : Int) : (ivL ns).set k (I i) = ivL (ns.set k i) := by simp [ivL, List.map_set]
theorem toDL_iv (ns : List Int) : IV.toDL (ivL ns) = some (ns.map .int) := toDL_ints ns
theorem leafDs_iv (ns : List Int) : leafDs (ivL ns) = some (ns.map .int) := by
  have := leafDs_d (ns.map .int)
  rw [List.map_map] at this
  exact this
theorem elem_iv {ns : List Int} {k : Nat} {i : Int} {o : O} {e : Env'} (h : ns[k]? = some i) : elemI o (some (.nd true (ivL ns))) (k : Int) e = .ok (.tm (I i)) e := by
  rw [elem_at (ixN_lit (by rw [ivL_len]; exact (List.getElem?_eq_some_iff.mp h).1)) (ivL_get h)]
  rfl
theorem set_iv {ns : List Int} {k : Nat} {i : Int} (h : k < ns.length) : setF (k : Int) (I i) (ivL ns) = some (ivL (ns.set k i), fun j => j == k, ()) := by
  rw [setF_at (ixN_lit (by rw [ivL_len]; exact h)), ivL_set]
/-- two neighbours change places -/
def swapAt (xs : List Int) (k : Nat) : List Int := (xs.set k (xs.getD (k + 1) 0)).set (k + 1) (xs.getD k 0)
theorem swapAt_len (xs : List Int) (k : Nat) : (swapAt xs k).length = xs.length := by simp [swapAt]
end Z
namespace Z
open PySem L2
theorem fAdd_ll (a b : List PyData) : fAdd (.list a) (.list b) = none := rfl
theorem kidsL_tm (a : List Int) (e : Env') : O.kidsL (.tm (.nd true (ivL a))) e = some (a.map .int) := by
  simp only [O.kidsL, O.tree, O.kids, kidsT, toDL_iv]
theorem add_iv {b2 : Bool} {ma mb : M O} {e e1 e2 : Env'} {a b : List Int} (h1 : ma e = .ok (.tm (.nd true (ivL a))) e1) (h2 : mb e1 = .ok (.tm (.nd true (ivL b))) e2) (hl : a.length + b.length ≤ 1000000) :
    addM b2 ma mb e = .ok (.tm (.nd true (ivL (a ++ b)))) e2 := by
  have hlim : lim ((a.map PyData.int).length + (b.map PyData.int).length) = true := decide_eq_true (by simpa using hl)
  simp only [addM_e, h1, h2, bind_ok, stays_tm, if_true, dat_tmn, toD_ndt, toDL_iv, Option.map_some, dat2_s, fAdd_ll, kidsL_tm, plusR, catR, hlim]
  rw [← List.map_append, lsD_iv]
theorem cut_iv {e : Env'} {i k : Nat} {ns : List Int} (h : e[i]? = some (.iv (.nd true (ivL ns)))) : cutM (varM i) none (some (true, cstM (.int (k : Int)))) e = .ok (.tm (.nd true (ivL (ns.take k)))) e := by
  obtain ⟨h1, h2⟩ := varM_iv h
  simp only [cutM, h1, R.bind, partM, cstM, O.dat, O.tree, IV.toD, intO, partB, Bool.and_self, O.stays, if_true]
  rw [show ctn e i [] = some (.nd true (ivL ns)) from h2]
  simp only [cutR, O.kids, h2, kidsT, leafDs_iv, cutG_take, ← List.map_take]
  rw [lsD_iv]
theorem rep_iv {b2 : Bool} {ma mb : M O} {e e1 e2 : Env'} {a : List Int} {k : Nat} (h1 : ma e = .ok (.tm (.nd true (ivL a))) e1) (h2 : mb e1 = .ok (.tm (.d (.int (k : Nat)))) e2) (hl : a.length * k ≤ 1000000) (hk : k ≤ 100000) :
    mulM b2 ma mb e = .ok (.tm (.nd true (ivL (List.replicate k a).flatten))) e2 := by
  have hlim : lim ((a.map PyData.int).length * ((k : Nat) : Int).toNat) = true := decide_eq_true (by simpa using hl)
  have hd : decide (-(2 ^ 63) ≤ ((k : Nat) : Int) ∧ ((k : Nat) : Int) < 2 ^ 63) = true := decide_eq_true (by omega)
  have hm : ∀ x, fMul (.list x) (.int (k : Nat)) = none := fun x => rfl
  simp only [mulM_e, h1, h2, bind_ok, stays_tm, if_true, dat_tmn, dat_tm, toD_ndt, toDL_iv, Option.map_some, dat2_s, hm, kidsL_tm, timesR, repR, hlim, hd, Bool.and_self]
  rw [← lsD_iv, List.map_flatten, List.map_replicate]
  rfl
end Z
namespace Z
open PySem L2
theorem rev_iv {ma : M O} {e e1 : Env'} {a : List Int} (h1 : ma e = .ok (.tm (.nd true (ivL a))) e1) : revM ma e = .ok (.tm (.nd true (ivL a.reverse))) e1 := by
  have hb : bindL (fun ds => some ds.reverse) (some (a.map PyData.int)) e1 = .ok (.tm (lsD (a.map PyData.int).reverse)) e1 := rfl
  simp only [revM_e, h1, bind_ok, O.kids, O.tree, kidsT, toDL_iv, hb]
  rw [← List.map_reverse, lsD_iv]
end Z
namespace Z
open PySem L2
theorem fNe_two (a b : List Int) : fNe (.list [intL a, intL b]) (.list [intL a, intL b]) = some (.bool false) := by
  have hs : SeqAt.shaped (.list [intL a, intL b]) = true := by
    have h1 := canLay_ints a
    have h2 := canLay_ints b
    have h3 := depth_ints a
    have h4 := depth_ints b
    simp only [SeqAt.shaped, PyData.canLay0, PyData.canLayAll0, PyData.depth, PyData.depthAll, h1, h2, Bool.true_and]
    exact decide_eq_true (by omega)
  have he : PyData.eqv (.list [intL a, intL b]) (.list [intL a, intL b]) = true := by
    simp only [PyData.eqv, PyData.eqvAll, eqvAll_ints, decide_true, Bool.and_self]
  unfold fNe
  rw [hs, he]
  rfl
end Z
/-! Z29: between statements: dead variables are let go, what is shared is frozen. -/
namespace Z
open PySem L2
/-- a change of the environment that changes no heap -/
def Chg (T : Env' → Env') : Prop := ∀ (K : PySem.W.Frag) (g : Gh) (F H : Hp) (env : AEnv) (Np : List (Addr × HO)) (Lp : List (V × LF)) (σ : St),
  CB K g F H (nodesE env ++ Np) (leavesE env ++ Lp) → SR env σ → ∃ F' env', CB K g F' H (nodesE env' ++ Np) (leavesE env' ++ Lp) ∧ SR env' σ ∧ erE env' = T (erE env) ∧ LkS env env'
theorem Chg.comp {S T : Env' → Env'} (h : Chg S) (k : Chg T) : Chg fun e => T (S e) := fun K g F H env Np Lp σ c s => by
  obtain ⟨F1, env1, c1, s1, e1, l1⟩ := h K g F H env Np Lp σ c s
  obtain ⟨F2, env2, c2, s2, e2, l2⟩ := k K g F1 H env1 Np Lp σ c1 s1
  exact ⟨F2, env2, c2, s2, by rw [e2, e1], l1.trans l2⟩
def preS (T : Env' → Env') (m : MS) : MS := fun e => m (T e)
def posR (T : Env' → Env') (r : SR') : SR' := match r with
  | .nx e => .nx (T e)
  | .bk e => .bk (T e)
  | r => r
def posS (T : Env' → Env') (m : MS) : MS := fun e => posR T (m e)
section
variable {X : Cx} {K : PySem.W.Frag} {Φ : Fx} {io : IO} {σ : St} {D : Ends} {H F : Hp} {env : AEnv} {Np : List (Addr × HO)} {Lp : List (V × LF)} {st : Stmt} {sts : List Stmt} {m : MS} {T : Env' → Env'}
theorem t_pre (h : Chg T) (q : tS K Φ io (preS T m) D σ H) : tS K Φ io m D σ H := by
  obtain ⟨F, env, Np, Lp, c, s, i, q⟩ := q
  obtain ⟨F1, env1, c1, s1, e1, l1⟩ := h K Φ.g F H env Np Lp σ c s
  refine ⟨F1, env1, Np, Lp, c1, s1, i, ?_⟩
  rw [e1]
  exact CtS.from l1 q
theorem t_pos (h : Chg T) (q : tS K Φ io (posS T m) D σ H) : tS K Φ io m D σ H := by
  obtain ⟨F, env, Np, Lp, c, s, i, q⟩ := q
  refine ⟨F, env, Np, Lp, c, s, i, ?_⟩
  simp only [posS] at q
  revert q
  cases m (erE env) with
  | nx e' =>
    intro q σ' H' F' env' a1 a2 a3 a4 a5
    obtain ⟨F1, env1, c1, s1, e1, l1⟩ := h K Φ.g F' H' env' Np Lp σ' a1 a2
    exact q σ' H' F1 env1 c1 s1 a3 (by rw [e1, a4]) (a5.trans l1)
  | bk e' =>
    intro q σ' H' F' env' a1 a2 a3 a4 a5
    obtain ⟨F1, env1, c1, s1, e1, l1⟩ := h K Φ.g F' H' env' Np Lp σ' a1 a2
    exact q σ' H' F1 env1 c1 s1 a3 (by rw [e1, a4]) (a5.trans l1)
  | rt t e' => exact fun q => q
  | ex c e' => exact fun q => q
  | bad => exact fun q => q
theorem ss_pre (T : Env' → Env') (h : Chg T) (k : SS X Φ io st m) : SS X Φ io st (preS T m) := PS.imp k fun _ _ _ => t_pre h
theorem ss_pos (T : Env' → Env') (h : Chg T) (k : SS X Φ io st m) : SS X Φ io st (posS T m) := PS.imp k fun _ _ _ => t_pos h
theorem sb_pos (T : Env' → Env') (h : Chg T) (k : SB X Φ io sts m) : SB X Φ io sts (posS T m) := PSs.imp k fun _ _ _ => t_pos h
end
/-- behind a walk's beginning -/
def posIR (T : Env' → Env') (r : R (List PyData × Option Nat)) : R (List PyData × Option Nat) := match r with
  | .ok p e => .ok p (T e)
  | .ex c e => .ex c e
  | .bad => .bad
def posI (T : Env' → Env') (m : MI) : MI := fun e => posIR T (m e)
theorem sit_pos {X : Cx} {Φ : Fx} {tg it : Expr} {m : MI} (T : Env' → Env') (h : Chg T) (k : SIt X Φ tg it m) : SIt X Φ tg it (posI T m) := by
  refine PI.imp k fun σ H R' q => ?_
  obtain ⟨F, env, Np, Lp, c, s, q⟩ := q
  refine ⟨F, env, Np, Lp, c, s, ?_⟩
  simp only [posI] at q
  revert q
  cases m (erE env) with
  | ex c e' => exact fun q => q
  | bad => exact fun q => q
  | ok p e' =>
    intro q J H' F' env' B a1 a2 a3 a4 a5
    obtain ⟨F2, env2, c2, s2, e2, l2⟩ := h X.K Φ.g F' H' env' Np (B ++ Lp) σ a1 a2
    refine q J H' F2 env2 B c2 s2 (by rw [e2, a3]) ⟨a4.1.trans l2, fun j hj => ?_⟩ fun env3 F3 H3 Np3 Lp3 d1 d2 d3 => a5 env3 F3 H3 Np3 Lp3 d1 d2 (l2.trans d3)
    obtain ⟨⟨t, ht⟩, h0⟩ := a4.2 j hj
    exact ⟨⟨t, l2 j t ht⟩, h0⟩
/-! ### letting go -/
def dr1 {τ : Type} : Sl τ → Sl τ
  | .lk t => .lk t
  | .un => .un
  | .iv _ => .un
  | .al _ _ => .un
/-- the slots marked true are let go (not those that are walked) -/
def drE {τ : Type} : List Bool → List (Sl τ) → List (Sl τ)
  | b :: bs, s :: e => (if b then dr1 s else s) :: drE bs e
  | _, e => e
theorem drE_len {τ : Type} : ∀ (bs : List Bool) (e : List (Sl τ)), (drE bs e).length = e.length
  | [], e => by simp [drE]
  | _ :: _, [] => by simp [drE]
  | b :: bs, s :: e => by simp [drE, drE_len bs e]
theorem drE_at {τ : Type} : ∀ (bs : List Bool) (e : List (Sl τ)) (k : Nat), (drE bs e)[k]? = e[k]? ∨ (drE bs e)[k]? = some .un ∧ ∀ t, e[k]? ≠ some (.lk t)
  | [], e, k => .inl (by simp [drE])
  | _ :: _, [], k => .inl (by simp [drE])
  | b :: bs, s :: e, 0 => by
    cases b with
    | false => exact .inl (by simp [drE])
    | true => cases s <;> simp [drE, dr1]
  | b :: bs, s :: e, k + 1 => by
    have := drE_at bs e k
    simpa [drE] using this
theorem drE_er : ∀ (bs : List Bool) (e : AEnv), erE (drE bs e) = drE bs (erE e)
  | [], e => by simp [drE]
  | _ :: _, [] => by simp [drE, erE]
  | b :: bs, s :: e => by
    have := drE_er bs e
    simp only [erE, drE, List.map_cons, List.cons.injEq] at this ⊢
    refine ⟨?_, this⟩
    cases b with
    | false => rfl
    | true => cases s <;> rfl
theorem dr1_bag (s : Sl AT) : Sb (dr1 s).nodes s.nodes ∧ ∀ q ∈ (dr1 s).leaves, q ∈ s.leaves := by
  cases s with
  | un => exact ⟨.refl _, fun _ h => h⟩
  | lk t => exact ⟨.refl _, fun _ h => h⟩
  | iv t => exact ⟨⟨t.nodes, by simp [dr1, Sl.nodes]⟩, fun _ h => by simp [dr1, Sl.leaves] at h⟩
  | al j p => exact ⟨.refl _, fun _ h => h⟩
theorem drE_bag : ∀ (bs : List Bool) (e : AEnv), Sb (nodesE (drE bs e)) (nodesE e) ∧ ∀ q ∈ leavesE (drE bs e), q ∈ leavesE e
  | [], e => by simpa [drE] using Sb.refl _
  | _ :: _, [] => by simpa [drE] using Sb.refl _
  | b :: bs, s :: e => by
    obtain ⟨h1, h2⟩ := drE_bag bs e
    obtain ⟨k1, k2⟩ : Sb (if b then dr1 s else s).nodes s.nodes ∧ ∀ q ∈ (if b then dr1 s else s).leaves, q ∈ s.leaves := by
      cases b with
      | false => exact ⟨.refl _, fun _ h => h⟩
      | true => exact dr1_bag s
    refine ⟨k1.app h1, fun q hq => ?_⟩
    rcases List.mem_append.mp hq with z | z
    · exact List.mem_append_left _ (k2 q z)
    · exact List.mem_append_right _ (h2 q z)
theorem drE_ok (bs : List Bool) : Chg (drE bs) := fun K g F H env Np Lp σ c s => by
  obtain ⟨h1, h2⟩ := drE_bag bs env
  refine ⟨F, drE bs env, c.sb h1.head fun q hq => ?_, ⟨by rw [drE_len]; exact s.1, fun k t hk => s.2 k t ?_⟩, drE_er bs env, fun k t hk => ?_⟩
  · rcases List.mem_append.mp hq with z | z
    · exact List.mem_append_left _ (h2 q z)
    · exact List.mem_append_right _ z
  · rcases drE_at bs env k with e1 | ⟨e1, _⟩
    · simp only [ctnA, rsv, e1] at hk ⊢
      cases he : env[k]? with
      | none => rw [he] at hk; simp at hk
      | some w =>
        rw [he] at hk
        have root : ∀ j p, (match rootOf (drE bs env) j with | some t => t.getP (p ++ []) | none => none) = some t → (match rootOf env j with | some t => t.getP (p ++ []) | none => none) = some t := fun j p hj => by
          rcases drE_at bs env j with e2 | ⟨e2, _⟩
          · simp only [rootOf, e2] at hj ⊢
            exact hj
          · simp [rootOf, e2, Sl.tr] at hj
        cases w with
        | un => simp at hk
        | iv w => exact root _ _ hk
        | lk w => exact root _ _ hk
        | al j p => exact root _ _ hk
    · simp [ctnA, rsv, e1] at hk
  · rcases drE_at bs env k with e1 | ⟨_, e2⟩
    · rw [e1]
      exact hk
    · exact absurd hk (e2 t)
/-! ### freezing -/
def fzK (i : Nat) (s : Option (Sl IV)) (e : Env') : Env' := match s with
  | some (.iv t) => match t.toD with
    | some d => e.set i (.iv (.d d))
    | none => e
  | _ => e
def fzE (i : Nat) (e : Env') : Env' := fzK i e[i]? e
theorem fzE_ok (i : Nat) : Chg (fzE i) := fun K g F H env Np Lp σ c s => by
  have stay : fzE i (erE env) = erE env → ∃ F' env', CB K g F' H (nodesE env' ++ Np) (leavesE env' ++ Lp) ∧ SR env' σ ∧ erE env' = fzE i (erE env) ∧ LkS env env' := fun h => ⟨F, env, c, s, h.symm, .refl _⟩
  cases he : env[i]? with
  | none => exact stay (by simp [fzE, fzK, erE_get, he])
  | some w =>
    cases w with
    | un => exact stay (by simp [fzE, fzK, erE_get, he, Sl.map])
    | lk t => exact stay (by simp [fzE, fzK, erE_get, he, Sl.map])
    | al j p => exact stay (by simp [fzE, fzK, erE_get, he, Sl.map])
    | iv t =>
      cases hd : t.er.toD with
      | none => exact stay (by simp [fzE, fzK, erE_get, he, Sl.map, hd])
      | some d =>
        have hv := s.at (ctn_iv he)
        obtain ⟨R, S, r1, r2⟩ := env_split he
        have p1 := r1 (.iv t)
        have p2 := r2 (.iv t)
        rw [set_self he] at p1 p2
        have c1 : CB K g F H (t.nodes ++ (R ++ Np)) (t.leaves ++ (leavesE env ++ Lp)) := by
          refine c.sb (.of_perm ?_) fun q hq => ?_
          · refine (p1.append_right Np).trans ?_
            simp only [Sl.nodes, List.append_assoc]
            exact .refl _
          · rcases List.mem_append.mp hq with z | z
            · exact List.mem_append_left _ (p2.symm.subset (List.mem_append_left _ z))
            · exact z
        obtain ⟨F', c2, l2, q2⟩ := CB.freeze t c1 hd
        have c3 := c2.leaf (v := t.val) (l := .d d) q2
        refine ⟨F', env.set i (.iv (.lf t.val (.d d))), ?_, ?_, ?_, lks_set he⟩
        · refine c3.sb (.of_perm ?_) fun q hq => ?_
          · refine List.Perm.append_right _ ?_
            have := r1 (.iv (.lf t.val (.d d)))
            simpa [Sl.nodes, AT.nodes] using this.symm
          · have one : ∀ q : V × LF, q ∈ [(t.val, LF.d d)] → q ∈ (t.val, LF.d d) :: (leavesE env ++ Lp) := fun q hq => by
              rw [List.mem_singleton.mp hq]
              exact List.mem_cons_self
            rcases List.mem_append.mp hq with z | z
            · rcases List.mem_append.mp ((r2 _).subset z) with z | z
              · exact one q (by simpa [Sl.leaves, AT.leaves] using z)
              · exact List.mem_cons_of_mem _ (List.mem_append_left _ (p2.symm.subset (List.mem_append_right _ z)))
            · exact List.mem_cons_of_mem _ (List.mem_append_right _ z)
        · have hil := (List.getElem?_eq_some_iff.mp he).1
          refine ⟨by rw [List.length_set]; exact s.1, fun k u hu => ?_⟩
          by_cases hk : i = k
          · subst hk
            simp only [ctnA, rsv, rootOf, List.getElem?_set_self hil, Sl.tr, List.append_nil, AT.getP, Option.some.injEq] at hu
            subst hu
            exact hv
          · simp only [ctnA, rsv, List.getElem?_set_ne hk] at hu
            cases hek : env[k]? with
            | none => rw [hek] at hu; simp at hu
            | some w =>
              rw [hek] at hu
              cases w with
              | un => simp at hu
              | iv w => exact s.2 k u (by simpa [ctnA, rsv, hek, rootOf_set hk] using hu)
              | lk w => exact s.2 k u (by simpa [ctnA, rsv, hek, rootOf_set hk] using hu)
              | al j p =>
                simp only [List.append_nil] at hu
                by_cases hj : i = j
                · subst hj
                  simp only [rootOf, List.getElem?_set_self hil, Sl.tr] at hu
                  cases p with
                  | nil =>
                    simp only [AT.getP, Option.some.injEq] at hu
                    subst hu
                    exact s.2 k t (by simp [ctnA, rsv, hek, rootOf, he, Sl.tr, AT.getP])
                  | cons m p => simp [AT.getP, AT.kids] at hu
                · exact s.2 k u (by simpa [ctnA, rsv, hek, rootOf_set hj] using hu)
        · rw [set_er]
          simp only [fzE, fzK, erE_get, he, Option.map_some, Sl.map, hd]
          rfl
end Z
/-! Z30: methods that only read, zip, freezing within an expression. -/
namespace Z
open PySem L2
def isLD : Option PyData → Bool
  | some (.list _) => true
  | _ => false
/-- a method of a list that changes nothing -/
def rdM (b2 : Bool) (f : PyData → PyData → Option PyData) (mo ma : M O) : M O := fun e => R.bind (mo e) fun o e1 => if isLD (O.dat o e1) then R.bind (ma e1) fun a e2 => if O.stays b2 o then outM (dat2 f (O.dat o e2) (O.dat a e2)) e2 else .bad else .bad
def fIndex : PyData → PyData → Option PyData
  | .list ds, d => if SeqAt.shaped (.list ds) && SeqAt.shaped d then (match ds.findIdx? fun z => PyData.eqv z d with
    | some j => some (.int (j : Nat))
    | none => none) else none
  | _, _ => none
def fCount : PyData → PyData → Option PyData
  | .list ds, .int k => match intsOf ds with
    | some ns => some (.int (ns.count k : Nat))
    | none => none
  | _, _ => none
section
variable {RIp : Prop} {X : Cx} {K : PySem.W.Frag} {Φ : Fx} {io : IO} {b b1 b2 b3 : Bool} {σ : St} {D : Ends} {H F : Hp} {Q : VK} {RI : It → Hp → Prop} {env env0 env00 : AEnv} {Np Np' Nb A : List (Addr × HO)} {Lp Lp' B : List (V × LF)} {x y z o : Expr} {es : List Expr} {ma mb mc mo mk : M O} {mas : M (List O)} {pos p apos cpos : Pos} {g : Gh}
theorem tyL_dq {v : V} {ds : List PyData} (h : Dq K H v (.list ds)) : tyV K "list" v H := by
  cases h with
  | lst h _ => exact .inl ⟨rfl, _, SqL.of h⟩
def MOp (K : PySem.W.Frag) (r : V → List V → Hp → VK → Prop) (f : PyData → PyData → Option PyData) : Prop :=
  ∀ (x y : V) (d1 d2 d : PyData) (H : Hp) (Q : VK), Dq K H x d1 → Dq K H y d2 → f d1 d2 = some d → (∀ v, Dq K H v d → Q v H) → r x [y] H Q
theorem t_rd {r : V → List V → Hp → VK → Prop} {f : PyData → PyData → Option PyData} (hr : MOp K r f) (q : tE K Φ (b1 && b2) (rdM b2 f mo ma) σ H Q) : tBM K "list" r (tE K Φ b1 mo) (tCons (tE K Φ b2 ma) tNil) σ H Q := by
  refine seqE q (fun z => (Bool.and_eq_true_iff.mp z).1) fun v1 H1 F1 env env1 ao1 Np Lp c1 s1 t1 p1 q1 => ?_
  cases hl : isLD (O.dat (Opd.er ao1) (erE env1)) with
  | false => rw [hl] at q1; exact q1.elim
  | true =>
    rw [hl] at q1
    have ty : tyV K "list" v1 H1 := by
      cases hd : O.dat (Opd.er ao1) (erE env1) with
      | none => rw [hd] at hl; cases hl
      | some d =>
        obtain ⟨u, g1, k1⟩ := dat_of hd
        have r1 := c1.tree g1 k1
        rw [ex_all t1 u g1] at r1
        rw [hd] at hl
        cases d <;> first | exact tyL_dq r1 | cases hl
    refine ⟨ty, ?_⟩
    refine seqA (Q := Q) (b := b1 && b2) (f := fun o2 e2 => if O.stays b2 (Opd.er ao1) then outM (dat2 f (O.dat (Opd.er ao1) e2) (O.dat o2 e2)) e2 else .bad) c1 s1 q1 (fun z => (Bool.and_eq_true_iff.mp z).2) fun v2 H2 F2 env2 ao2 c2 s2 t2 p2 q2 => ?_
    cases hs : O.stays b2 (Opd.er ao1) with
    | false => rw [hs] at q2; exact q2.elim
    | true =>
      rw [hs] at q2
      have t1' : ∀ t, AO.tree ao1 env2 = some t → t.val = v1 := fun t ht => val_stays hs s1 s2 p2 t1 ht
      have q2 : Ct K Φ (b1 && b2) σ Q H2 env2 Np Lp (outM (dat2 f (O.dat (Opd.er ao1) (erE env2)) (O.dat (Opd.er ao2) (erE env2))) (erE env2)) := q2
      obtain ⟨d, hd, k⟩ := q2.out c2.drop2 s2
      cases h1 : O.dat (Opd.er ao1) (erE env2) with
      | none => rw [h1] at hd; cases hd
      | some d1 =>
        cases h2 : O.dat (Opd.er ao2) (erE env2) with
        | none => rw [h1, h2] at hd; cases hd
        | some d2 =>
          rw [h1, h2] at hd
          obtain ⟨u1, g1, k1⟩ := dat_of h1
          obtain ⟨u2, g2, k2⟩ := dat_of h2
          have r1 := (tree_stays c2).tree g1 k1
          have r2 := c2.tree g2 k2
          rw [t1' u1 g1] at r1
          obtain ⟨u, z1, z2⟩ := t2
          rw [z1] at g2
          cases g2
          rw [z2] at r2
          exact hr v1 v2 d1 d2 d H2 Q r1 r2 hd fun v hv => k v H2 hv
theorem index_op : MOp K (rIndexD K) fIndex := fun x y d1 d2 d H Q h1 h2 hf k => by
  cases d1 with
  | list ds =>
    simp only [fIndex] at hf
    cases hs : SeqAt.shaped (.list ds) && SeqAt.shaped d2 with
    | false => rw [hs] at hf; cases hf
    | true =>
      rw [hs] at hf
      simp only [if_true] at hf
      obtain ⟨sl, sd⟩ := Bool.and_eq_true_iff.mp hs
      cases hj : ds.findIdx? fun z => PyData.eqv z d2 with
      | none => rw [hj] at hf; cases hf
      | some j =>
        rw [hj] at hf
        cases hf
        obtain ⟨hlt, e1, e2⟩ := List.findIdx?_eq_some_iff_getElem.mp hj
        have h1' := h1
        cases h1 with
        | lst ha hq =>
          refine ⟨_, y, d2, ds, j, ds[j], rfl, rfl, h1'.dpS sl, h2.dpS sd, sl, sd, List.getElem?_eq_getElem hlt, e1, fun m z' hm hz => ?_, k _ (.int _)⟩
          have hml : m < ds.length := Nat.lt_trans hm hlt
          rw [List.getElem?_eq_getElem hml] at hz
          cases hz
          have := e2 m hm
          simpa using this
  | _ => simp [fIndex] at hf
theorem count_op : MOp K (rCntI K) fCount := fun x y d1 d2 d H Q h1 h2 hf k => by
  cases d1 with
  | list ds =>
    cases d2 with
    | int n =>
      simp only [fCount] at hf
      cases hi : intsOf ds with
      | none => rw [hi] at hf; cases hf
      | some ns =>
        rw [hi] at hf
        cases hf
        cases h1 with
        | lst ha hq =>
          cases h2
          have e := intsOf_eq hi
          subst e
          have := hq.ints
          subst this
          exact ⟨_, ns, n, rfl, rfl, SqL.of ha, k _ (.int _)⟩
    | _ => simp [fCount] at hf
  | _ => simp [fCount] at hf
/-! ### freezing within an expression -/
def fzT (t : IV) (e : Env') : R O := match t.toD with
  | some d => .ok (.tm (.d d)) e
  | none => .bad
def fzO (o : O) (e : Env') : R O := match o with
  | .tm t => fzT t e
  | .vr i q => .ok (.vr i q) e
def fzM (ma : M O) : M O := fun e => R.bind (ma e) fzO
theorem se_fz (h : SE X Φ b x ma) : SE X Φ b x (fzM ma) := by
  refine PE.imp h fun σ H Q q => ?_
  refine seqE q (fun z => z) fun v H' F' env env' ao Np Lp c s t p q1 => ?_
  cases ao with
  | vr i qq => exact q1 v H' F' env' (.vr i qq) c s rfl rfl t (fun _ => ⟨rfl, .refl _⟩) (.refl _)
  | tm u =>
    have q1 : Ct X.K Φ b σ Q H' env' Np Lp (fzT u.er (erE env')) := q1
    simp only [fzT] at q1
    cases hd : u.er.toD with
    | none => rw [hd] at q1; exact q1.elim
    | some d =>
      rw [hd] at q1
      obtain ⟨w, hw, hv⟩ := t
      cases hw
      have dq := c.tree (ao := .tm u) rfl hd
      have c' : CB X.K Φ.g F' H' (u.nodes ++ (nodesE env' ++ Np)) (u.leaves ++ (leavesE env' ++ Lp)) := c.sb2 (Sb.swap _ _ _) (Sb.swap _ _ _)
      obtain ⟨F2, c2, l2, dq2⟩ := CB.freeze u c' hd
      refine q1 v H' F2 env' (.tm (.lf v (.d d))) ?_ s rfl rfl ⟨_, rfl, rfl⟩ (fun _ => ⟨rfl, .refl _⟩) (.refl _)
      rw [← hv]
      refine (c2.leaf (v := u.val) (l := .d d) dq2).sb (.refl _) fun q hq => ?_
      simp only [Opd.leaves, AT.leaves] at hq
      rcases List.mem_append.mp hq with z | z
      · exact List.mem_cons_of_mem _ (List.mem_append_left _ z)
      · rcases List.mem_append.mp z with z | z
        · rw [List.mem_singleton.mp z]
          exact List.mem_cons_self
        · exact List.mem_cons_of_mem _ (List.mem_append_right _ z)
/-! ### zip -/
def lfK : Option IV → Option PyData
  | some (.lf (.d d)) => some d
  | _ => none
def zpD (ds es : List PyData) : List PyData := List.zipWith (fun a b => .tuple [a, b]) ds es
def zpR (x y : Option PyData) (e : Env') : R (List PyData × Option Nat) := match x, y with
  | some (.list ds), some (.list es) => .ok (zpD ds es, none) e
  | _, _ => .bad
def zpI (b2 : Bool) (ma mb : M O) : MI := fun e => R.bind (ma e) fun o1 e1 => R.bind (mb e1) fun o2 e2 => if O.stays b2 o1 then zpR (lfK (O.tree o1 e2)) (lfK (O.tree o2 e2)) e2 else .bad
theorem lfK_of {ao : AO} {d : PyData} (c : CB K g F H (nodesE env ++ (Opd.nodes ao ++ Np)) (leavesE env ++ (Opd.leaves ao ++ Lp))) (h : lfK (O.tree (Opd.er ao) (erE env)) = some d) : ∃ t, AO.tree ao env = some t ∧ Dq K F t.val d := by
  rw [tree_er] at h
  cases ht : AO.tree ao env with
  | none => rw [ht] at h; cases h
  | some t =>
    rw [ht] at h
    cases t with
    | nd a bb xs => cases h
    | dk a kvs => cases h
    | lf v l =>
      cases l with
      | e n => cases h
      | s ns => cases h
      | d dd =>
        cases h
        refine ⟨_, rfl, ?_⟩
        refine c.lf (v, .d d) ?_
        cases ao with
        | tm w =>
          cases ht
          exact List.mem_append_right _ (List.mem_append_left _ (by simp [Opd.leaves, AT.leaves]))
        | vr i q =>
          obtain ⟨_, h2⟩ := ctn_sb ht
          exact List.mem_append_left _ (h2 _ (by simp [AT.leaves]))
theorem it_zip {a b' : Addr} {ds es : List PyData} : ItOk K g (Itz K a b') (zpD ds es) env0 [(V.ref a, LF.d (.list ds)), (V.ref b', LF.d (.list es))] := fun env F H Np Lp c hB l => by
  have d1 : Dq K F (.ref a) (.list ds) := c.lf (V.ref a, LF.d (.list ds)) (List.mem_append_right _ (hB _ (by simp)))
  have d2 : Dq K F (.ref b') (.list es) := c.lf (V.ref b', LF.d (.list es)) (List.mem_append_right _ (hB _ (by simp)))
  cases d1 with
  | lst h1 k1 =>
    cases d2 with
    | lst h2 k2 =>
      have q1 := SqL.of (K := K) (c.sub _ _ h1)
      have q2 := SqL.of (K := K) (c.sub _ _ h2)
      have l1 := k1.length
      have l2 := k2.length
      have hz : (zpD ds es).length = min ds.length es.length := by simp [zpD]
      refine ⟨fun i hi => ⟨_, _, q1, q2, by omega⟩, fun i hi => ?_⟩
      obtain ⟨v1, e1, r1⟩ := k1.get (List.getElem?_eq_getElem (show i < ds.length by omega))
      obtain ⟨v2, e2, r2⟩ := k2.get (List.getElem?_eq_getElem (show i < es.length by omega))
      refine ⟨⟨_, _, v1, v2, q1, q2, e1, e2⟩, fun x H' hy => ?_⟩
      obtain ⟨T, x1, x2, rfl, hT, rfl, y1, y2⟩ := hy
      have z1 := y1 _ q1
      have z2 := y2 _ q2
      rw [e1] at z1
      rw [e2] at z2
      cases z1
      cases z2
      obtain ⟨F', c', dq⟩ := c.newTup hT (.cons r1 (.cons r2 .nil))
      refine ⟨F', c', ?_⟩
      have e : (zpD ds es)[i] = .tuple [ds[i], es[i]] := by simp [zpD]
      rw [e]
      exact dq
theorem sit_zip {elts : List Expr} {kk : Nat} {tpos : Pos} (hg : Gl X "zip") (hm : X.mg "zip" = none) (h : SE X Φ b1 x ma) (h' : SE X Φ b2 y mb) (hst : starEach [x, y] X.env = (false, eval x X.env) :: starEach [y] X.env := by rfl) (hst2 : starEach [y] X.env = (false, eval y X.env) :: starEach [] X.env := by rfl)
    (hpl : (backTo p (starEach [y] X.env)).any (·.1) = false := by rfl) {q0 : Pos} : SIt X Φ (.Tuple elts kk tpos) (.Call (.Name "zip" q0) [x, y] [] p) (zpI b2 ma mb) := by
  refine PI.imp (RZ.pi_zipA hg hm (pa_cons h (pa_cons h' pa_nil hst2) hst) hst hpl) fun σ H R' q => ?_
  obtain ⟨F, env, Np, Lp, c, s, q⟩ := q
  refine two_I (m := ma) (f := fun o1 o2 e2 => zpR (lfK (O.tree o1 e2)) (lfK (O.tree o2 e2)) e2) c s q fun v1 v2 H2 F2 env2 ao1 ao2 c' s' t1 t2 q' => ?_
  cases h1 : lfK (O.tree (Opd.er ao1) (erE env2)) with
  | none => rw [h1] at q'; exact q'.elim
  | some d1 =>
    cases h2 : lfK (O.tree (Opd.er ao2) (erE env2)) with
    | none => rw [h1, h2] at q'; cases d1 <;> exact q'.elim
    | some d2 =>
      rw [h1, h2] at q'
      obtain ⟨u1, g1, k1⟩ := lfK_of (tree_stays c') h1
      obtain ⟨u2, g2, k2⟩ := lfK_of c' h2
      rw [t1 u1 g1] at k1
      rw [ex_all t2 u2 g2] at k2
      cases d1 with
      | list ds =>
        cases d2 with
        | list es =>
          have q' : CtI X.K Φ σ R' env2 Np Lp (.ok (zpD ds es, none) (erE env2)) := q'
          obtain ⟨a, xs, ha, hx⟩ : ∃ a xs, v1 = .ref a ∧ F2 a = some (.lst xs) := by cases k1; exact ⟨_, _, rfl, by assumption⟩
          obtain ⟨a', ys, hb, hy⟩ : ∃ a xs, v2 = .ref a ∧ F2 a = some (.lst xs) := by cases k2; exact ⟨_, _, rfl, by assumption⟩
          subst ha hb
          have c3 : CB X.K Φ.g F2 H2 (nodesE env2 ++ Np) (leavesE env2 ++ ([(V.ref a, LF.d (.list ds)), (V.ref a', LF.d (.list es))] ++ Lp)) := ((c'.drop2.leaf (v := .ref a) (l := .d (.list ds)) k1).leaf (v := .ref a') (l := .d (.list es)) k2).sb (.refl _) fun q hq => by
            rcases List.mem_append.mp hq with z | z
            · exact List.mem_cons_of_mem _ (List.mem_cons_of_mem _ (List.mem_append_left _ z))
            · rcases List.mem_append.mp z with z | z
              · simp only [List.mem_cons, List.not_mem_nil, or_false] at z
                rcases z with rfl | rfl
                · exact List.mem_cons_of_mem _ List.mem_cons_self
                · exact List.mem_cons_self
              · exact List.mem_cons_of_mem _ (List.mem_cons_of_mem _ (List.mem_append_right _ z))
          exact ⟨a, a', xs, ys, rfl, .inl ⟨SqL.of (c'.sub _ _ hx), SqL.of (c'.sub _ _ hy), q' _ H2 F2 env2 _ c3 s' rfl ⟨.refl _, fun j hj => nomatch hj⟩ it_zip⟩⟩
        | _ => exact q'.elim
      | _ => exact q'.elim
theorem me_index {k : Nat} (hr : Room k X.A) (ho : SE X Φ b1 o mo) (ha : SE X Φ b2 x ma) (hbase : attributeBase o "index" X.env (eval o X.env) = eval o X.env := by rfl) (hline : (apos.endLine == cpos.line) = true := by rfl) (hs : starEach (x :: []) X.env = (false, eval x X.env) :: starEach [] X.env := by rfl) (hfew : ((backTo cpos (starEach [x] X.env)).all (fun x => !x.1) && (backToKw cpos (keywordEach [] X.env)).all (fun x => x.1.isSome)
      && decide ([x].length + ([] : List Keyword).length + (if ([] : List Keyword).isEmpty then 0 else 1) < 30)) = true := by rfl) (hpl : (backTo cpos (starEach [] X.env)).any (·.1) = false := by rfl) :
    SE X Φ (b1 && b2) (.Call (.Attribute o "index" apos) [x] [] cpos) (rdM b2 fIndex mo ma) :=
  PE.imp (pe_bm PySem.F.plainAttrs_list PySem.F.slot_list_index PySem.F.type_list_index (mt_indexD (room65 hr)) ho (pa_cons ha pa_nil hs) hbase hfew hline hs hpl) fun σ H Q q => t_rd index_op q
theorem me_count (ho : SE X Φ b1 o mo) (ha : SE X Φ b2 x ma) (hbase : attributeBase o "count" X.env (eval o X.env) = eval o X.env := by rfl) (hline : (apos.endLine == cpos.line) = true := by rfl) (hs : starEach (x :: []) X.env = (false, eval x X.env) :: starEach [] X.env := by rfl) (hfew : ((backTo cpos (starEach [x] X.env)).all (fun x => !x.1) && (backToKw cpos (keywordEach [] X.env)).all (fun x => x.1.isSome)
      && decide ([x].length + ([] : List Keyword).length + (if ([] : List Keyword).isEmpty then 0 else 1) < 30)) = true := by rfl) (hpl : (backTo cpos (starEach [] X.env)).any (·.1) = false := by rfl) :
    SE X Φ (b1 && b2) (.Call (.Attribute o "count" apos) [x] [] cpos) (rdM b2 fCount mo ma) :=
  PE.imp (pe_bm PySem.F.plainAttrs_list PySem.F.slot_list_count PySem.F.type_list_count mt_lcount ho (pa_cons ha pa_nil hs) hbase hfew hline hs hpl) fun σ H Q q => t_rd count_op q
end
end Z
/-! Z31: reckoning by rewriting, more of it. -/
namespace Z
open PySem L2
def fzD (i : Nat) (d : Option PyData) (e : Env') : Env' := match d with
  | some d => e.set i (.iv (.d d))
  | none => e
section
variable {α β : Type} {a : α} {e e1 : Env'} {b b1 b2 b3 : Bool} {ma mb mc mo mk : M O} {mas : M (List O)} {mt mt2 : M Bool} {sa sb : MS} {t u : IV} {i j c : Nat} {tg : IV → Env' → R Unit} {d d1 d2 : PyData} {f f2 : PyData → PyData → Option PyData} {g : PyData → Option PyData} {o : O} {os : List O} {q : List Nat} {xs : List IV} {x0 x1 x2 x3 x4 : IV} {l : LF} {fk : List PyData → Option (List PyData)} {T : Env' → Env'} {bs : List Bool} {s : Sl IV}
theorem preS_e : preS T sa e = sa (T e) := Eq.trans rfl rfl
theorem posS_e : posS T sa e = posR T (sa e) := Eq.trans rfl rfl
theorem posR_nx : posR T (.nx e) = .nx (T e) := Eq.trans rfl rfl
theorem posR_bk : posR T (.bk e) = .bk (T e) := Eq.trans rfl rfl
theorem posR_rt : posR T (.rt t e) = .rt t e := Eq.trans rfl rfl
theorem posR_ex : posR T (.ex c e) = .ex c e := Eq.trans rfl rfl
theorem drE_nil : drE [] e = e := by cases e <;> rfl
theorem drE_t : drE (true :: bs) (s :: e) = dr1 s :: drE bs e := Eq.trans rfl rfl
theorem drE_f : drE (false :: bs) (s :: e) = s :: drE bs e := Eq.trans rfl rfl
theorem dr1_un : dr1 (Sl.un : Sl IV) = .un := Eq.trans rfl rfl
theorem dr1_iv : dr1 (.iv t) = .un := Eq.trans rfl rfl
theorem dr1_lk : dr1 (.lk t) = .lk t := Eq.trans rfl rfl
theorem dr1_al : dr1 (Sl.al j q : Sl IV) = .un := Eq.trans rfl rfl
theorem fzE_e : fzE i e = fzK i e[i]? e := Eq.trans rfl rfl
theorem fzK_lf : fzK i (some (.iv (.lf (.d d)))) e = e.set i (.iv (.lf (.d d))) := Eq.trans rfl rfl
theorem fzK_nd : fzK i (some (.iv (.nd b xs))) e = fzD i (IV.toD (.nd b xs)) e := Eq.trans rfl rfl
theorem fzD_s : fzD i (some d) e = e.set i (.iv (.lf (.d d))) := Eq.trans rfl rfl
theorem fzK_al : fzK i (some (.al j q)) e = e := Eq.trans rfl rfl
theorem fzK_un : fzK i (some .un) e = e := Eq.trans rfl rfl
theorem rdM_e : rdM b f mo ma e = R.bind (mo e) fun o e1 => if isLD (O.dat o e1) then R.bind (ma e1) fun a e2 => if O.stays b o then outM (dat2 f (O.dat o e2) (O.dat a e2)) e2 else .bad else .bad := Eq.trans rfl rfl
theorem isLD_l {ds : List PyData} : isLD (some (.list ds)) = true := Eq.trans rfl rfl
theorem fzM_e : fzM ma e = R.bind (ma e) fzO := Eq.trans rfl rfl
theorem fzO_tm : fzO (.tm t) e = fzT t e := Eq.trans rfl rfl
theorem fzO_vr : fzO (.vr i q) e = .ok (.vr i q) e := Eq.trans rfl rfl
theorem fzT_lf : fzT (.lf (.d d)) e = .ok (.tm (.lf (.d d))) e := Eq.trans rfl rfl
theorem zpI_e : zpI b ma mb e = R.bind (ma e) fun o1 e1 => R.bind (mb e1) fun o2 e2 => if O.stays b o1 then zpR (lfK (O.tree o1 e2)) (lfK (O.tree o2 e2)) e2 else .bad := Eq.trans rfl rfl
theorem lfK_d : lfK (some (.lf (.d d))) = some d := Eq.trans rfl rfl
theorem zpR_s {ds es : List PyData} : zpR (some (.list ds)) (some (.list es)) e = .ok (zpD ds es, none) e := Eq.trans rfl rfl
theorem posI_e {m : MI} : posI T m e = posIR T (m e) := Eq.trans rfl rfl
theorem posIR_ok {p : List PyData × Option Nat} : posIR T (.ok p e) = .ok p (T e) := Eq.trans rfl rfl
theorem yesM_e : yesM e = .ok true e := Eq.trans rfl rfl
end
end Z
/-! Z32: naturals, lists of naturals. -/
namespace Z
open PySem L2

theorem elem_nat {ns : List Int} {k : Nat} (h : k < ns.length) {o : O} {e : Env'} : elemI o (some (.nd true (ivL ns))) (k : Int) e = .ok (.tm (I (ns.getD k 0))) e := by
  refine elem_iv ?_
  simp [List.getD, List.getElem?_eq_getElem h]
theorem elem_dat {ns : List Int} {k : Nat} (h : k < ns.length) {o : O} {e : Env'} : elemI o (some (.lf (.d (intL ns)))) (k : Int) e = .ok (.tm (I (ns.getD k 0))) e := by
  rw [elem_ls, atI_nat (v := .int (ns.getD k 0)) (by simp [List.getD, List.getElem?_eq_getElem h])]
  rfl
theorem ivL_map (xs : List Int) : (xs.map PyData.int).map IV.d = ivL xs := by simp [ivL, Function.comp_def]
theorem free_ivL (ns : List Int) : noShL (ivL ns) = true := by
  induction ns with
  | nil => simp [ivL, noShL]
  | cons a r ih => simpa [ivL, noShL, noSh, flat] using ih
/-! ### orders as lists of naturals -/
def nat (ks : List Nat) : List Int := ks.map fun (k : Nat) => (k : Int)
theorem nat_len (l : List Nat) : (nat l).length = l.length := by simp [nat]
theorem upN_nat (n : Nat) : upN n = nat (List.range n) := rfl
theorem nat_inj : ∀ {a b : List Nat}, nat a = nat b → a = b
  | [], [], _ => rfl
  | [], _ :: _, h => by simp [nat] at h
  | _ :: _, [], h => by simp [nat] at h
  | x :: a, y :: b, h => by
    simp only [nat, List.map_cons, List.cons.injEq] at h
    rw [show x = y by omega, nat_inj (a := a) (b := b) h.2]
theorem nat_dec (a b : List Nat) : decide (nat a = nat b) = decide (a = b) := by
  by_cases h : a = b
  · rw [h, decide_eq_true rfl, decide_eq_true rfl]
  · rw [decide_eq_false h, decide_eq_false fun z => h (nat_inj z)]
theorem nat_getD (l : List Nat) (k : Nat) : (nat l).getD k 0 = ((l.getD k 0 : Nat) : Int) := by
  simp only [nat, List.getD, List.getElem?_map]
  cases l[k]? <;> simp
theorem nat_set (l : List Nat) (k x : Nat) : (nat l).set k (x : Int) = nat (l.set k x) := by simp [nat, List.map_set]
theorem nat_snoc (l : List Nat) (x : Nat) : nat l ++ [(x : Int)] = nat (l ++ [x]) := by simp [nat]
theorem nat_take (ks : List Nat) (m : Nat) : (nat ks).take m = nat (ks.take m) := by simp [nat, List.map_take]
theorem nat_drop (ks : List Nat) (m : Nat) : (nat ks).drop m = nat (ks.drop m) := by simp [nat, List.map_drop]
theorem nat_app (a b : List Nat) : nat a ++ nat b = nat (a ++ b) := by simp [nat]
theorem nat_rev (a : List Nat) : (nat a).reverse = nat a.reverse := by simp [nat, List.map_reverse]
abbrev Ord (n : Nat) (l : List Nat) : Prop := l.Perm (List.range n)
theorem Ord.len {n : Nat} {l : List Nat} (h : Ord n l) : l.length = n := by rw [h.length_eq, List.length_range]
theorem Ord.mem {n : Nat} {l : List Nat} (h : Ord n l) {x : Nat} : x ∈ l ↔ x < n := by rw [h.mem_iff, List.mem_range]
theorem Ord.nodup {n : Nat} {l : List Nat} (h : Ord n l) : l.Nodup := h.nodup_iff.mpr List.nodup_range
theorem Ord.lt {n : Nat} {l : List Nat} (h : Ord n l) {k : Nat} (hk : k < n) : l.getD k 0 < n := by
  have e := h.len
  rw [List.getD_eq_getElem?_getD, List.getElem?_eq_getElem (by omega), Option.getD_some]
  exact h.mem.mp (List.getElem_mem _)
theorem Ord.perm {n : Nat} {l : List Nat} (h : Ord n l) : (nat l).Perm (upN n) := by
  rw [upN_nat]
  exact List.Perm.map _ h
theorem ord_of {n : Nat} {xs : List Int} (h : xs.Perm (upN n)) : ∃ l, Ord n l ∧ xs = nat l := by
  have e : xs = nat (xs.map Int.toNat) := by
    rw [nat, List.map_map]
    conv => lhs; rw [← List.map_id xs]
    refine List.map_congr_left fun x hx => ?_
    have := (mem_upN.mp (h.mem_iff.mp hx)).1
    simp only [Function.comp, id]
    omega
  refine ⟨xs.map Int.toNat, ?_, e⟩
  have := h.map Int.toNat
  rw [upN, List.map_map] at this
  simpa [Function.comp_def] using this
theorem elemN {l : List Nat} {k : Nat} (h : k < l.length) {o : O} {e : Env'} : elemI o (some (.nd true (ivL (nat l)))) (k : Int) e = .ok (.tm (I (l.getD k 0 : Nat))) e := by
  rw [elem_nat (by rw [nat_len]; exact h), nat_getD]
theorem elemD {l : List Nat} {k : Nat} (h : k < l.length) {o : O} {e : Env'} : elemI o (some (.lf (.d (intL (nat l))))) (k : Int) e = .ok (.tm (I (l.getD k 0 : Nat))) e := by
  rw [elem_dat (by rw [nat_len]; exact h), nat_getD]
theorem setN {l : List Nat} {k x : Nat} (h : k < l.length) : setF (k : Int) (I (x : Nat)) (ivL (nat l)) = some (ivL (nat (l.set k x)), fun j => j == k, ()) := by
  rw [set_iv (by rw [nat_len]; exact h), nat_set]
theorem appN {l : List Nat} {x : Nat} (h : l.length ≤ 100000) : apF (I (x : Nat)) (ivL (nat l)) = some (ivL (nat (l ++ [x])), fun i => decide ((ivL (nat l)).length ≤ i), ()) := by
  rw [apF_ok (by rw [ivL_len, nat_len]; omega)]
  simp [ivL, nat]
/-- the back of an order -/
def backN (l : List Nat) : List Nat := (List.range l.length).map fun t => l.idxOf t
theorem backN_len (l : List Nat) : (backN l).length = l.length := by simp [backN]
theorem shaped_int (i : Int) : SeqAt.shaped (.int i) = true := by
  simp only [SeqAt.shaped, PyData.canLay0, PyData.depth, Bool.true_and]
  exact decide_eq_true (by omega)
theorem eqv_ii (a b : Int) : PyData.eqv (.int a) (.int b) = decide (a = b) := by
  simp only [PyData.eqv]
  by_cases h : a = b <;> simp [h]
theorem index_nat {l : List Nat} {t : Nat} (h : t ∈ l) : fIndex (intL (nat l)) (.int (t : Nat)) = some (.int (l.idxOf t : Nat)) := by
  unfold fIndex
  simp only [shaped_ints, shaped_int, Bool.and_self, if_true]
  have e : ((nat l).map PyData.int).findIdx? (fun z => PyData.eqv z (.int (t : Nat))) = some (l.idxOf t) := by
    rw [nat, List.map_map, List.findIdx?_map]
    rw [List.findIdx?_eq_some_iff_getElem]
    refine ⟨List.idxOf_lt_length_iff.mpr h, ?_, fun j hj => ?_⟩
    · simp [eqv_ii]
    · simp only [Function.comp, eqv_ii, decide_eq_true_eq]
      intro z
      have hjl : j < l.length := Nat.lt_trans hj (List.idxOf_lt_length_iff.mpr h)
      have z' : l[j] = t := by omega
      have := List.not_of_lt_findIdx (p := (· == t)) (xs := l) (i := j) hj
      simp [z'] at this
  rw [e]
/-! ### comprehensions over lists that are told -/
theorem lcG_emb {α : Type} {own : List Nat} {tg : IV → Env' → R Unit} {mt : M Bool} {me : M O} {e0 : Env'} (emb : α → IV) (c : α → Bool) (u : α → IV) (E : α → Env') : ∀ (xs : List α) (acc : List IV), acc.length + xs.length ≤ 1000000 → (∀ t ∈ xs, tg (emb t) e0 = .ok () (E t) ∧ mt (E t) = .ok (c t) (E t) ∧ okW own (E t) = true ∧ wp own (E t) = e0 ∧ (c t = true → ∃ o, me (E t) = .ok o (E t) ∧ toV o (E t) = some (u t))) →
    lcG own tg mt me (xs.map emb) acc e0 = .ok (acc ++ (xs.filter c).map u) e0
  | [], acc, _, _ => by simp [lcG]
  | t :: ts, acc, hl, h => by
    obtain ⟨h1, h2, h3, h4, h5⟩ := h t List.mem_cons_self
    have hl' : acc.length + (ts.length + 1) ≤ 1000000 := by simpa using hl
    cases hc : c t with
    | true =>
      obtain ⟨o, h6, h7⟩ := h5 hc
      have hlim : lim (acc.length + 1) = true := decide_eq_true (by omega)
      rw [hc] at h2
      simp only [List.map_cons, lcG, h1, h2, R.bind, if_true, h6, h7, h3, hlim, Bool.and_self, h4]
      rw [lcG_emb emb c u E ts (acc ++ [u t]) (by simp; omega) fun t ht => h t (List.mem_cons_of_mem _ ht)]
      simp [hc]
    | false =>
      rw [hc] at h2
      simp only [List.map_cons, lcG, h1, h2, R.bind, Bool.false_eq_true, if_false, h3, if_true, h4]
      rw [lcG_emb emb c u E ts acc (by omega) fun t ht => h t (List.mem_cons_of_mem _ ht)]
      simp [hc]
abbrev In (k : Nat) : IV := I (k : Nat)
theorem ivL_nat (l : List Nat) : ivL (nat l) = l.map In := by simp [ivL, nat, Function.comp_def]
theorem rg_nat (n : Nat) : (rgD 0 (n : Int)).map IV.d = (List.range n).map In := by simp [rgD, Function.comp_def]
theorem ints_nat (l : List Nat) : ((nat l).map PyData.int).map IV.d = l.map In := by simp [nat, Function.comp_def]
/-- over naturals, all kept, naturals told -/
theorem lcG_nat {own : List Nat} {tg : IV → Env' → R Unit} {me : M O} {e0 : Env'} (g : Nat → Nat) (E : Nat → Env') (l : List Nat) (hl : l.length ≤ 1000000) (h : ∀ k ∈ l, tg (In k) e0 = .ok () (E k) ∧ okW own (E k) = true ∧ wp own (E k) = e0 ∧ ∃ o, me (E k) = .ok o (E k) ∧ toV o (E k) = some (In (g k))) :
    lcG own tg yesM me (l.map In) [] e0 = .ok (ivL (nat (l.map g))) e0 := by
  have := lcG_emb (own := own) (tg := tg) (mt := yesM) (me := me) (e0 := e0) In (fun _ => true) (fun k => In (g k)) E l [] (by simpa using hl) fun k hk => by
    obtain ⟨h1, h2, h3, h4⟩ := h k hk
    exact ⟨h1, rfl, h2, h3, fun _ => h4⟩
  rw [this, List.filter_eq_self.mpr (fun _ _ => rfl)]
  simp [ivL, nat, Function.comp_def]
/-- over naturals, some kept, naturals told -/
theorem lcG_natF {own : List Nat} {tg : IV → Env' → R Unit} {mt : M Bool} {me : M O} {e0 : Env'} (c : Nat → Bool) (g : Nat → Nat) (E : Nat → Env') (l : List Nat) (hl : l.length ≤ 1000000) (h : ∀ k ∈ l, tg (In k) e0 = .ok () (E k) ∧ mt (E k) = .ok (c k) (E k) ∧ okW own (E k) = true ∧ wp own (E k) = e0 ∧ (c k = true → ∃ o, me (E k) = .ok o (E k) ∧ toV o (E k) = some (In (g k)))) :
    lcG own tg mt me (l.map In) [] e0 = .ok (ivL (nat ((l.filter c).map g))) e0 := by
  have := lcG_emb (own := own) (tg := tg) (mt := mt) (me := me) (e0 := e0) In c (fun k => In (g k)) E l [] (by simpa using hl) h
  rw [this]
  simp [ivL, nat, Function.comp_def]
/-- comprehensions whose item is a name -/
theorem lcN {α : Type} {i : Nat} {mt : M Bool} {me : M O} {e0 : Env'} (emb : α → IV) (c : α → Bool) (u : α → IV) (xs : List α) (hl : xs.length ≤ 1000000) (h : ∀ t ∈ xs, mt (setA i (emb t) e0) = .ok (c t) (setA i (emb t) e0) ∧ (c t = true → me (setA i (emb t) e0) = .ok (.tm (u t)) (setA i (emb t) e0)))
    (h1 : okA i e0 = true := by rfl) (h2 : ∀ t, okW [i] (setA i t e0) = true := by intro _; rfl) (h3 : ∀ t, wp [i] (setA i t e0) = e0 := by intro _; rfl) :
    lcG [i] (nameT i) mt me (xs.map emb) [] e0 = .ok ((xs.filter c).map u) e0 := by
  have := lcG_emb (own := [i]) (tg := nameT i) (mt := mt) (me := me) (e0 := e0) emb c u (fun t => setA i (emb t) e0) xs [] (by simpa using hl) fun t ht => by
    obtain ⟨k1, k2⟩ := h t ht
    exact ⟨by rw [nameT_e, h1]; rfl, k1, h2 _, h3 _, fun hc => ⟨_, k2 hc, rfl⟩⟩
  simpa using this
theorem lcN_all {α : Type} {i : Nat} {me : M O} {e0 : Env'} (emb : α → IV) (u : α → IV) (xs : List α) (hl : xs.length ≤ 1000000) (h : ∀ t ∈ xs, me (setA i (emb t) e0) = .ok (.tm (u t)) (setA i (emb t) e0))
    (h1 : okA i e0 = true := by rfl) (h2 : ∀ t, okW [i] (setA i t e0) = true := by intro _; rfl) (h3 : ∀ t, wp [i] (setA i t e0) = e0 := by intro _; rfl) :
    lcG [i] (nameT i) yesM me (xs.map emb) [] e0 = .ok (xs.map u) e0 := by
  have := lcN (i := i) (mt := yesM) (me := me) (e0 := e0) emb (fun _ => true) u xs hl (fun t ht => ⟨rfl, fun _ => h t ht⟩) h1 h2 h3
  rwa [List.filter_eq_self.mpr (fun _ _ => rfl)] at this
theorem lcN_nat {i : Nat} {me : M O} {e0 : Env'} (g : Nat → Nat) (l : List Nat) (hl : l.length ≤ 1000000) (h : ∀ k ∈ l, me (setA i (In k) e0) = .ok (.tm (In (g k))) (setA i (In k) e0))
    (h1 : okA i e0 = true := by rfl) (h2 : ∀ t, okW [i] (setA i t e0) = true := by intro _; rfl) (h3 : ∀ t, wp [i] (setA i t e0) = e0 := by intro _; rfl) :
    lcG [i] (nameT i) yesM me (l.map In) [] e0 = .ok (ivL (nat (l.map g))) e0 := by
  rw [lcN_all In (fun k => In (g k)) l hl h h1 h2 h3]
  simp [ivL, nat, Function.comp_def]
theorem lcN_natF {i : Nat} {mt : M Bool} {me : M O} {e0 : Env'} (c : Nat → Bool) (g : Nat → Nat) (l : List Nat) (hl : l.length ≤ 1000000) (h : ∀ k ∈ l, mt (setA i (In k) e0) = .ok (c k) (setA i (In k) e0) ∧ (c k = true → me (setA i (In k) e0) = .ok (.tm (In (g k))) (setA i (In k) e0)))
    (h1 : okA i e0 = true := by rfl) (h2 : ∀ t, okW [i] (setA i t e0) = true := by intro _; rfl) (h3 : ∀ t, wp [i] (setA i t e0) = e0 := by intro _; rfl) :
    lcG [i] (nameT i) mt me (l.map In) [] e0 = .ok (ivL (nat ((l.filter c).map g))) e0 := by
  rw [lcN In c (fun k => In (g k)) l hl h h1 h2 h3]
  simp [ivL, nat, Function.comp_def]
/-- a loop whose item is a name, by an invariant -/
theorem forN {i : Nat} {fin : Env' → Env'} {body : MS} (Inv : Nat → Env' → Prop) (items : List IV) {e : Env'} (h : Inv 0 e) (step : ∀ j t e, items[j]? = some t → Inv j e → okA i e = true ∧ ∃ e2, body (setA i t e) = .nx e2 ∧ Inv (j + 1) e2) : ∃ e', forG fin (nameT i) body items e = .nx (fin e') ∧ Inv items.length e' :=
  forG_inv Inv items h fun j t e hj hi => by
    obtain ⟨h1, e2, h2, h3⟩ := step j t e hj hi
    exact ⟨setA i t e, e2, by rw [nameT_e, h1]; rfl, h2, h3⟩
theorem nat_get {l : List Nat} {j : Nat} {u : IV} (h : (l.map In)[j]? = some u) : ∃ hj : j < l.length, u = In l[j] := by
  rw [List.getElem?_map] at h
  cases hj : l[j]? with
  | none => rw [hj] at h; cases h
  | some x =>
    rw [hj] at h
    obtain ⟨h1, h2⟩ := List.getElem?_eq_some_iff.mp hj
    exact ⟨h1, by rw [h2]; exact (Option.some.inj h).symm⟩
/-- over naturals, each step known: the state is a function of the items done -/
theorem forN_nat {i : Nat} {fin : Env' → Env'} {body : MS} {σ : Type} (E : σ → Env') (l : List Nat) (s : Nat → σ) (h : ∀ j (hj : j < l.length), okA i (E (s j)) = true ∧ body (setA i (In l[j]) (E (s j))) = .nx (E (s (j + 1)))) :
    forG fin (nameT i) body (l.map In) (E (s 0)) = .nx (fin (E (s l.length))) := by
  obtain ⟨e', hf, rfl⟩ := forN (i := i) (fin := fin) (body := body) (fun j e => e = E (s j)) (l.map In) (e := E (s 0)) rfl (by
    rintro j u e hj rfl
    obtain ⟨hjl, rfl⟩ := nat_get hj
    obtain ⟨h1, h2⟩ := h j hjl
    exact ⟨h1, _, h2, rfl⟩)
  rw [List.length_map] at hf
  exact hf

/-! ### slices, sums -/
theorem partM_n {e : Env'} : partM none e = .ok none e := Eq.trans rfl rfl
theorem partM_s {b : Bool} {m : M O} {e : Env'} : partM (some (b, m)) e = R.bind (m e) fun o e' => intO (O.dat o e') e' := Eq.trans rfl rfl
theorem intO_i {i : Int} {e : Env'} : intO (some (.int i)) e = .ok (some i) e := Eq.trans rfl rfl
theorem partB_n : partB none = true := Eq.trans rfl rfl
theorem partB_s {b : Bool} {m : M O} : partB (some (b, m)) = b := Eq.trans rfl rfl
theorem cutM_e {ma : M O} {ql qh : Option (Bool × M O)} {e : Env'} : cutM ma ql qh e = R.bind (ma e) fun o e1 => R.bind (partM ql e1) fun lo e2 => R.bind (partM qh e2) fun hi e3 =>
  if O.stays (partB ql && partB qh) o then cutR (O.tree o e3) (O.kids o e3) lo hi e3 else .bad := Eq.trans rfl rfl
theorem cutR_nd {xs : List IV} {ds : List PyData} {lo hi : Option Int} {e : Env'} : cutR (some (.nd true xs)) (some ds) lo hi e = .ok (.tm (lsD (cutG ds lo hi))) e := Eq.trans rfl rfl
theorem cutR_l {l ds : List PyData} {lo hi : Option Int} {e : Env'} : cutR (some (.lf (.d (.list l)))) (some ds) lo hi e = .ok (.tm (lsD (cutG ds lo hi))) e := Eq.trans rfl rfl
theorem sIx0 {n : Nat} : HT.sIx n 0 none = 0 := HT.sIx_none n 0
theorem sIxN {n : Nat} : HT.sIx n n none = n := HT.sIx_none n n
theorem cutG_t {α : Type} {l : List α} {k : Nat} : cutG l none (some (k : Int)) = l.take k := by
  unfold cutG
  rw [sIx0, HT.sIx_nat, List.drop_zero, Nat.sub_zero]
  by_cases h : k ≤ l.length
  · rw [Nat.min_eq_left h]
  · rw [Nat.min_eq_right (by omega), List.take_of_length_le (Nat.le_refl _), List.take_of_length_le (by omega)]
theorem cutG_d {α : Type} {l : List α} {k : Nat} : cutG l (some (k : Int)) none = l.drop k := by
  unfold cutG
  rw [sIxN, HT.sIx_nat]
  by_cases h : k ≤ l.length
  · rw [Nat.min_eq_left h, List.take_of_length_le (by simp)]
  · rw [Nat.min_eq_right (by omega), List.drop_of_length_le (Nat.le_refl _), List.drop_of_length_le (by omega), List.take_nil]
theorem cutN_t {l : List Nat} {k : Nat} : lsD (cutG ((nat l).map .int) none (some (k : Int))) = .nd true (ivL (nat (l.take k))) := by rw [cutG_t, ← List.map_take, lsD_iv, nat_take]
theorem cutN_d {l : List Nat} {k : Nat} : lsD (cutG ((nat l).map .int) (some (k : Int)) none) = .nd true (ivL (nat (l.drop k))) := by rw [cutG_d, ← List.map_drop, lsD_iv, nat_drop]
def kidsLK (t : Option IV) (o : O) : Option (List PyData) := match t with
  | some (.lf (.s _)) => none
  | _ => kidsT o t
theorem kidsL_e {o : O} {e : Env'} : O.kidsL o e = kidsLK (O.tree o e) o := by
  unfold O.kidsL kidsLK O.kids
  cases O.tree o e with
  | none => rfl
  | some t => cases t with
    | lf l => cases l <;> rfl
    | nd b xs => rfl
    | dk k => rfl
theorem kidsLK_nd {b : Bool} {xs : List IV} {o : O} : kidsLK (some (.nd b xs)) o = kidsT o (some (.nd b xs)) := Eq.trans rfl rfl
theorem kidsLK_d {d : PyData} {o : O} : kidsLK (some (.lf (.d d))) o = kidsT o (some (.lf (.d d))) := Eq.trans rfl rfl
theorem plusR_n {x y : Option (List PyData)} {e : Env'} : plusR none x y e = catR x y e := Eq.trans rfl rfl
theorem catR_ok {ds es : List PyData} {e : Env'} (h : ds.length + es.length ≤ 1000000) : catR (some ds) (some es) e = .ok (.tm (lsD (ds ++ es))) e := by
  unfold catR
  simp only [show lim (ds.length + es.length) = true from decide_eq_true h, if_true]
theorem catN {a b : List Nat} : lsD ((nat a).map .int ++ (nat b).map .int) = .nd true (ivL (nat (a ++ b))) := by rw [← List.map_append, lsD_iv, nat_app]
theorem catN1 {a : List Nat} {x : Nat} : lsD ((nat a).map .int ++ [.int (x : Nat)]) = .nd true (ivL (nat (a ++ [x]))) := by rw [← catN]; rfl
theorem catN2 {a : List Nat} {x y : Nat} : lsD ((nat a).map .int ++ [.int (x : Nat), .int (y : Nat)]) = .nd true (ivL (nat (a ++ [x, y]))) := by rw [← catN]; rfl
theorem lsD_nat {a : List Nat} : lsD ((nat a).map .int) = .nd true (ivL (nat a)) := lsD_iv _
theorem lim_ok {n : Nat} (h : n ≤ 1000000) : lim n = true := decide_eq_true h
theorem cast1 {k : Nat} : ((k : Nat) : Int) + 1 = ((k + 1 : Nat) : Int) := by omega
theorem cast2 {k : Nat} : ((k : Nat) : Int) + 2 = ((k + 2 : Nat) : Int) := by omega
theorem castS1 {k : Nat} (h : 1 ≤ k) : ((k : Nat) : Int) - 1 = ((k - 1 : Nat) : Int) := by omega
theorem castA {j k : Nat} : ((j : Nat) : Int) + ((k : Nat) : Int) = ((j + k : Nat) : Int) := by omega
theorem castSub {j k : Nat} (h : k ≤ j) : ((j : Nat) : Int) - ((k : Nat) : Int) = ((j - k : Nat) : Int) := by omega
theorem rgI_n {n : Nat} {e : Env'} (h : n ≤ 1000000) : rgI (some (.int 0)) (some (.int (n : Nat))) e = .ok (rgD 0 n, none) e := rgI_ok (by rw [sm_ok (by omega), sm_ok (by omega)]; rfl)
theorem rgR_n {n : Nat} {e : Env'} (h : n ≤ 1000000) : rgR (some (.int 0)) (some (.int (n : Nat))) e = .ok (.tm (.nd true (ivL (nat (List.range n))))) e := by
  rw [rgR_ok (decide_eq_true (by omega)), rgD_upN, lsD_iv, upN_nat]
theorem lt_nat {a b : Nat} : ((a : Nat) : Int) < ((b : Nat) : Int) ↔ a < b := by omega
theorem le_nat {a b : Nat} : ((a : Nat) : Int) ≤ ((b : Nat) : Int) ↔ a ≤ b := by omega
theorem eq_nat {a b : Nat} : ((a : Nat) : Int) = ((b : Nat) : Int) ↔ a = b := by omega
theorem fEq_nat {a b : List Nat} : fEq (.list ((nat a).map .int)) (.list ((nat b).map .int)) = some (.bool (decide (a = b))) := by
  rw [fEq_ints, nat_dec]
theorem fNe_nat {a b : List Nat} : fNe (.list ((nat a).map .int)) (.list ((nat b).map .int)) = some (.bool (!decide (a = b))) := by
  rw [fNe_ints, nat_dec]
theorem fEq_nil : fEq (.list []) (.list []) = some (.bool true) := fEq_ints [] []
theorem fNe_nil : fNe (.list []) (.list []) = some (.bool false) := fNe_ints [] []
def sqTK (x : Option (List PyData)) (e : Env') : R (List PyData × Option Nat) := match x with
  | some ds => .ok (ds, none) e
  | none => .bad
theorem sqR_tmn {xs : List IV} {e : Env'} : sqR true (.tm (.nd true xs)) e = sqTK (IV.toDL xs) e := by
  unfold sqR sqTK
  simp only [IV.toD]
  cases IV.toDL xs <;> rfl
theorem sqR_tml {ds : List PyData} {e : Env'} : sqR true (.tm (.lf (.d (.list ds)))) e = .ok (ds, none) e := Eq.trans rfl rfl
theorem sqTK_s {ds : List PyData} {e : Env'} : sqTK (some ds) e = .ok (ds, none) e := Eq.trans rfl rfl
theorem elemN0 {l : List Nat} (h : 0 < l.length) {o : O} {e : Env'} : elemI o (some (.nd true (ivL (nat l)))) 0 e = .ok (.tm (In (l.getD 0 0))) e := elemN (k := 0) h
theorem elemD0 {l : List Nat} (h : 0 < l.length) {o : O} {e : Env'} : elemI o (some (.lf (.d (intL (nat l))))) 0 e = .ok (.tm (In (l.getD 0 0))) e := elemD (k := 0) h
theorem sortD_perm {n : Nat} {l : List Nat} (h : Ord n l) : sortD ((nat l).map .int) = some ((nat (List.range n)).map .int) := by rw [sortD_ints, sort_perm h.perm, upN_nat]
/-! ### while -/
theorem while_go {mt : M Bool} {body : MS} {σ : Type} (E : σ → Env') (s : Nat → σ) : ∀ (m j n : Nat), (∀ i, j ≤ i → i < j + m → mt (E (s i)) = .ok true (E (s i)) ∧ body (E (s i)) = .nx (E (s (i + 1)))) → mt (E (s (j + m))) = .ok false (E (s (j + m))) → m < n → whileF mt body n (E (s j)) = .nx (E (s (j + m)))
  | 0, j, n + 1, _, h2, _ => by
    rw [Nat.add_zero] at h2
    simp only [whileF, h2, R.toS, Bool.false_eq_true, if_false, Nat.add_zero]
  | m + 1, j, n + 1, h1, h2, hn => by
    obtain ⟨k1, k2⟩ := h1 j (Nat.le_refl _) (by omega)
    simp only [whileF, k1, R.toS, if_true, k2]
    have := while_go E s m (j + 1) n (fun i hi hm => h1 i (by omega) (by omega)) (by rw [show j + 1 + m = j + (m + 1) by omega]; exact h2) (by omega)
    rw [this, show j + 1 + m = j + (m + 1) by omega]
theorem while_is {mt : M Bool} {body : MS} {σ : Type} (E : σ → Env') (s : Nat → σ) (m : Nat) {e : Env'} (he : e = E (s 0)) (h1 : ∀ i, i < m → mt (E (s i)) = .ok true (E (s i)) ∧ body (E (s i)) = .nx (E (s (i + 1)))) (h2 : mt (E (s m)) = .ok false (E (s m))) (hm : m < 1000000 := by omega) : whileS 1000000 mt body e = .nx (E (s m)) := by
  have := while_go (mt := mt) (body := body) E s m 0 1000000 (fun i _ hi => h1 i (by omega)) (by rw [Nat.zero_add]; exact h2) hm
  rw [Nat.zero_add] at this
  rw [he]
  exact this
/-- a loop over naturals from any beginning -/
theorem for_is {i : Nat} {fin : Env' → Env'} {body : MS} {σ : Type} (E : σ → Env') (l : List Nat) (s : Nat → σ) {e : Env'} (he : e = E (s 0)) (h : ∀ j (hj : j < l.length), okA i (E (s j)) = true ∧ body (setA i (In l[j]) (E (s j))) = .nx (E (s (j + 1)))) :
    forG fin (nameT i) body (l.map In) e = .nx (fin (E (s l.length))) := by
  rw [he]
  exact forN_nat E l s h
theorem forR_is {i : Nat} {fin : Env' → Env'} {body : MS} {σ : Type} (E : σ → Env') (n : Nat) (s : Nat → σ) {e : Env'} (he : e = E (s 0)) (h : ∀ j, j < n → okA i (E (s j)) = true ∧ body (setA i (In j) (E (s j))) = .nx (E (s (j + 1)))) :
    forG fin (nameT i) body ((rgD 0 (n : Int)).map IV.d) e = .nx (fin (E (s n))) := by
  rw [rg_nat]
  have := for_is (i := i) (fin := fin) (body := body) E (List.range n) s he fun j hj => by
    rw [List.length_range] at hj
    rw [List.getElem_range]
    exact h j hj
  rw [List.length_range] at this
  exact this
theorem swapAt_perm : ∀ (xs : List Int) (k : Nat), k + 1 < xs.length → (swapAt xs k).Perm xs
  | [], k, h => by simp at h
  | [a], k, h => by simp at h
  | a :: b :: r, 0, _ => List.Perm.swap a b r
  | a :: b :: r, k + 1, h => by
    have ih := swapAt_perm (b :: r) k (by simpa using h)
    have e : swapAt (a :: b :: r) (k + 1) = a :: swapAt (b :: r) k := by simp [swapAt]
    rw [e]
    exact ih.cons a
theorem erase_perm : ∀ (l : List Int) (k : Nat) (h : k < l.length), (l[k] :: l.eraseIdx k).Perm l
  | a :: l, 0, _ => .refl _
  | a :: l, k + 1, h => by
    have h' : k < l.length := by simpa using h
    exact (List.Perm.swap a l[k] (l.eraseIdx k)).trans ((erase_perm l k h').cons a)
theorem pop_iv {ns : List Int} {k : Nat} (h : k < ns.length) (hl : ns.length ≤ 1000) : popK (pyK (some (.int (k : Nat))) (ivL ns)) (ivL ns) = some (ivL (ns.eraseIdx k), fun _ => true, I ns[k]) := by
  have e1 : pyK (some (.int (k : Nat))) (ivL ns) = some k := by
    unfold pyK
    simp only []
    rw [if_pos (decide_eq_true (by omega))]
    exact ixN_lit (by rw [ivL_len]; exact h)
  rw [e1]
  unfold popK
  simp only []
  rw [ivL_get (List.getElem?_eq_getElem h)]
  simp [ivL, erase_map]
end Z
/-! Z33: dicts that are told: displays, look-ups. -/
namespace Z
open PySem L2 PySem.Spec PyProof.Rows
def keyD : PyData → Option Key
  | .int i => some (.inl i)
  | .str s => some (.inr s)
  | _ => none
theorem keyD_eq {d : PyData} {k : Key} (h : keyD d = some k) : d = kD k := by
  cases d <;> simp only [keyD, Option.some.injEq, reduceCtorEq] at h <;> subst h <;> rfl
theorem keyD_kD (k : Key) : keyD (kD k) = some k := by cases k <;> rfl
def findD (k : Key) : List (PyData × PyData) → Option PyData
  | [] => none
  | e :: r => if keyD e.1 = some k then some e.2 else findD k r
def rDG : R2 := fun x y H Q => ∃ a v, x = .ref a ∧ DGet H a y (some v) ∧ Q v H
theorem ix_dictD {X : Cx} (hu : X.A.units + 1 < cLine) : IxR X rDG := by
  intro value slice pins s σ H x y v u Q I rx ry h hs
  obtain ⟨a, z, rfl, g, q⟩ := h
  cases (show v = Value.ref a from rx)
  unfold subscriptTail
  refine wpAny_bind ?_
  have hT := dict_typeIs I g
  rw [getitemInPython_of_ne hT.not_modules]
  refine wpAny_bind (wpAny_specialOf hT PySem.F.slot_dict_getitem.lookup ?_)
  have fin : wpAny (model X.prog X.w) X.A (subscripted slice false (.ref a) u) (fun r s₃ => wpAny (model X.prog X.w) X.A (letTemporaryGo value (.ref a) r >>= fun _ => pure r) (EP X pins σ Q) X.xe s₃) X.xe s := by
    rw [hs]
    exact wpAny_operating (wpAny_mono (d_getItem (Q := EP X pins σ Q) hu I g ry fun w' s3 I3 rw' => ⟨z, H, I3, rw', q⟩) (fun r s₃ h₃ => wpAny_bind (wpAny_letTemporaryGo (wpAny_pure h₃))) fun _ _ x => x)
  first
    | exact wpAny_pure (wpAny_bind fin)
    | exact wpAny_bind (wpAny_pure (wpAny_bind fin))
    | exact wpAny_bind fin
theorem dqe_find {K : PySem.W.Frag} {F : Hp} {k : Key} : ∀ {kvs : List (Key × V)} {des : List (PyData × PyData)}, DqE K F kvs des → (∀ d, findD k des = some d → ∃ v, valV kvs k = some v ∧ Dq K F v d) ∧ (findD k des = none → valV kvs k = none)
  | _, _, .nil => ⟨fun _ h => (nomatch h), fun _ => rfl⟩
  | _, _, .cons (k := k') (v := v') (d := d') h hs => by
    obtain ⟨i1, i2⟩ := dqe_find (k := k) hs
    simp only [findD, keyD_kD, Option.some.injEq]
    by_cases hk : k' = k
    · rw [if_pos hk, valV_pos (p := (k', v')) hk]
      exact ⟨fun d hd => ⟨v', rfl, by cases hd; exact h⟩, fun z => nomatch z⟩
    · rw [if_neg hk, valV_neg (p := (k', v')) hk]
      exact ⟨i1, i2⟩
theorem dq_key {K : PySem.W.Frag} {F : Hp} {y : V} {d : PyData} {k : Key} (h : Dq K F y d) (e : keyD d = some k) : y = kV k := by
  cases d <;> simp only [keyD, Option.some.injEq, reduceCtorEq] at e <;> subst e <;> cases h <;> rfl
def fDG : PyData → PyData → Option PyData
  | .dict des, d => match keyD d with
    | some k => findD k des
    | none => none
  | _, _ => none
theorem op2_dg {K : PySem.W.Frag} : Op2 K rDG fDG := fun x y d1 d2 d H Q h1 h2 hf q => by
  cases d1 with
  | dict des =>
    simp only [fDG] at hf
    cases hk : keyD d2 with
    | none => rw [hk] at hf; cases hf
    | some k =>
      rw [hk] at hf
      cases h1 with
      | dct ha hs =>
        obtain ⟨v, hv, dv⟩ := (dqe_find hs).1 d hf
        have ey := dq_key h2 hk
        subst ey
        exact ⟨_, v, rfl, .inl ⟨_, k, .inl ha, rfl, hv.symm⟩, q v dv⟩
  | _ => simp [fDG] at hf
/-! ### in -/
def rInDct (neg : Bool) : R2 := fun x y H Q => ∃ a o, y = .ref a ∧ DGet H a x o ∧ Q (.bl (if neg then !o.isSome else o.isSome)) H
theorem op_in_dct {X : Cx} (hu : X.A.units + 1 < cLine) : OpR X (compareOp .In) (rInDct false) := by
  intro pins s σ H x y v u Q I rx ry h
  obtain ⟨a, o, rfl, g, q⟩ := h
  cases (show u = Value.ref a from ry)
  exact d_in hu I g rx fun s' I' => ⟨.bl o.isSome, H, I', rfl, q⟩
theorem op_ni_dct {X : Cx} (hu : X.A.units + 1 < cLine) : OpR X (compareOp .NotIn) (rInDct true) := by
  intro pins s σ H x y v u Q I rx ry h
  obtain ⟨a, o, rfl, g, q⟩ := h
  cases (show u = Value.ref a from ry)
  exact d_notIn hu I g rx fun s' I' => ⟨.bl (!o.isSome), H, I', rfl, q⟩
def inDct : PyData → PyData → Option Bool
  | d, .dict des => match keyD d with
    | some k => some (findD k des).isSome
    | none => none
  | d, e => inD d e
def fIn2 : PyData → PyData → Option PyData := fun d e => (inDct d e).map .bool
def fNotIn2 : PyData → PyData → Option PyData := fun d e => (inDct d e).map fun k => .bool (!k)
theorem op2_dct {K : PySem.W.Frag} (neg : Bool) (x y : V) (d1 : PyData) (des : List (PyData × PyData)) (b : Bool) (H : Hp) (Q : VK) (h1 : Dq K H x d1) (h2 : Dq K H y (.dict des)) (hf : inDct d1 (.dict des) = some b) (q : ∀ v, Dq K H v (.bool (if neg then !b else b)) → Q v H) : rInDct neg x y H Q := by
  simp only [inDct] at hf
  cases hk : keyD d1 with
  | none => rw [hk] at hf; cases hf
  | some k =>
    rw [hk] at hf
    cases hf
    cases h2 with
    | dct ha hs =>
      have ey := dq_key h1 hk
      subst ey
      rename_i kvs
      refine ⟨_, valV kvs k, rfl, .inl ⟨_, k, .inl ha, rfl, rfl⟩, ?_⟩
      have e : (valV kvs k).isSome = (findD k des).isSome := by
        obtain ⟨i1, i2⟩ := dqe_find (k := k) hs
        cases hd : findD k des with
        | none => rw [i2 hd]; rfl
        | some d =>
          obtain ⟨v, hv, _⟩ := i1 d hd
          rw [hv]
          rfl
      rw [e]
      exact q _ (.bl _)
theorem cr_in2 {X : Cx} {k : Nat} (hr : Room k X.A) : CR2 X .In fIn2 := ⟨_, OpR.or (op_in_dct (Nat.lt_of_le_of_lt (by omega) (room65 hr))) (opr_in (room65 hr)), fun x y d1 d2 d H Q h1 h2 hf q => by
  cases d2 with
  | dict des =>
    simp only [fIn2] at hf
    cases hb : inDct d1 (.dict des) with
    | none => rw [hb] at hf; cases hf
    | some b =>
      rw [hb] at hf
      cases hf
      exact .inl (op2_dct false x y d1 des b H Q h1 h2 hb q)
  | _ => exact .inr (op2_in x y d1 _ d H Q h1 h2 hf q)⟩
theorem cr_ni2 {X : Cx} {k : Nat} (hr : Room k X.A) : CR2 X .NotIn fNotIn2 := ⟨_, OpR.or (op_ni_dct (Nat.lt_of_le_of_lt (by omega) (room65 hr))) (opr_notIn (room65 hr)), fun x y d1 d2 d H Q h1 h2 hf q => by
  cases d2 with
  | dict des =>
    simp only [fNotIn2] at hf
    cases hb : inDct d1 (.dict des) with
    | none => rw [hb] at hf; cases hf
    | some b =>
      rw [hb] at hf
      cases hf
      exact .inl (op2_dct true x y d1 des b H Q h1 h2 hb q)
  | _ => exact .inr (op2_notIn x y d1 _ d H Q h1 h2 hf q)⟩
section
variable {X : Cx} {K : PySem.W.Frag} {Φ : Fx} {io : IO} {b b1 b2 b3 : Bool} {σ : L2.St} {H F : Hp} {Q : VK} {env env0 : AEnv} {Np : List (Addr × HO)} {Lp : List (V × LF)} {x y z o : Expr} {ma mb mo mk : M O} {pos p : Pos} {g : Gh}
theorem se_dget {k : Nat} (hr : Room k X.A) (ha : SE X Φ b1 x ma) (hb : SE X Φ b2 y mb) (hp : PlainIx y := by exact fun _ _ => rfl) : SE X Φ (b1 && b2) (.Subscript x y pos) (op2M b2 fDG ma mb) :=
  PE.imp (pe_ix (ix_dictD (Nat.lt_of_le_of_lt (by omega) (room65 hr))) ha hb hp) fun σ H Q q => op2_run op2_dg σ H Q q
/-! ### displays -/
def dispA : List (M O) → M (List PyData)
  | [] => fun e => .ok [] e
  | m :: r => fun e => R.bind (m e) fun o e1 => match lfK (O.tree o e1) with
    | some d => R.bind (dispA r e1) fun ds e2 => .ok (d :: ds) e2
    | none => .bad
def dispR (ks : List Key) (ds : List PyData) (e : Env') : R O := if ks.length = ds.length ∧ ks.Nodup ∧ ks ≠ [] ∧ ks.length ≤ 15 then .ok (.tm (.d (.dict ((ks.map kD).zip ds)))) e else .bad
def dispM (ks : List Key) (ms : List (M O)) : M O := fun e => R.bind (dispA ms e) fun ds e' => dispR ks ds e'
/-- the pairs of a display -/
inductive SD (X : Cx) (Φ : Fx) (pos : Pos) : List (Option Expr) → List Expr → List Key → List (M O) → List (TE × TE) → Prop
  | nil : SD X Φ pos [] [] [] [] []
  | cons {b : Bool} {k : Key} {ke ve : Expr} {kes : List (Option Expr)} {ves : List Expr} {ks : List Key} {m : M O} {ms : List (M O)} {trs : List (TE × TE)} (h1 : PE X ke (tC (kV k))) (h2 : SE X Φ b ve m) (r : SD X Φ pos kes ves ks ms trs) :
      SD X Φ pos (some ke :: kes) (ve :: ves) (k :: ks) (m :: ms) ((tC (kV k), tE X.K Φ false m) :: trs)
theorem SD.pps {kes : List (Option Expr)} {ves : List Expr} {ks : List Key} {ms : List (M O)} {trs : List (TE × TE)} (h : SD X Φ pos kes ves ks ms trs) : PPs X pos kes ves trs := by
  induction h with
  | nil => exact pps_nil
  | cons h1 h2 r ih => exact pps_cons h1 (SE.impure h2) ih
theorem SD.facts {kes : List (Option Expr)} {ves : List Expr} {ks : List Key} {ms : List (M O)} {trs : List (TE × TE)} (h : SD X Φ pos kes ves ks ms trs) : kes.all (·.isSome) = true ∧ kes.length = ves.length ∧ kes.length = ks.length ∧ ms.length = ks.length := by
  induction h with
  | nil => exact ⟨rfl, rfl, rfl, rfl⟩
  | cons h1 h2 r ih =>
    obtain ⟨i1, i2, i3, i4⟩ := ih
    exact ⟨by simpa using i1, by simp [i2], by simp [i3], by simp [i4]⟩
theorem SD.run {kes : List (Option Expr)} {ves : List Expr} {ks : List Key} {ms : List (M O)} {trs : List (TE × TE)} (h : SD X Φ pos kes ves ks ms trs) : ∀ {f : List PyData → Env' → R O} {P : List (V × V) → Hp → Prop} {Np0 : List (Addr × HO)} {env : AEnv} {F H : Hp} {Lp0 : List (V × LF)}, CB X.K Φ.g F H (nodesE env ++ (Np0 ++ Np)) (leavesE env ++ (Lp0 ++ Lp)) → SR env σ →
    Ct X.K Φ false σ Q H env0 Np Lp (R.bind (dispA ms (erE env)) f) → LkS env0 env →
    (∀ vs ds H' F' env', CB X.K Φ.g F' H' (nodesE env' ++ (Np0 ++ Np)) (leavesE env' ++ (Lp0 ++ Lp)) → SR env' σ → DqL X.K F' vs ds → vs.length = ks.length → LkS env0 env' → Ct X.K Φ false σ Q H' env0 Np Lp (f ds (erE env')) → P ((ks.map kV).zip vs) H') → tPairs trs σ H P := by
  induction h with
  | nil => exact fun {f P Np0 env F H Lp0} c s q l k => k [] [] H F env c s .nil rfl l q
  | @cons b k ke ve kes ves ks m ms trs h1 h2 r ih =>
    intro f P Np0 env F H Lp0 c s q l kk
    show tE X.K Φ false m σ H _
    refine ⟨F, env, Np0 ++ Np, Lp0 ++ Lp, c, s, ?_⟩
    simp only [dispA] at q
    revert q
    cases m (erE env) with
    | ex cc e' => exact fun q H' F' env' a1 a2 a3 => q H' F' env' (a1.sb2 (Sb.right _ _).tail (Sb.right _ _).tail) a2 a3
    | bad => exact fun q => q
    | ok o e' =>
      intro q v H' F' env' ao a1 a2 a3 a4 a5 a6 a7
      subst a3 a4
      have q : Ct X.K Φ false σ Q H env0 Np Lp (R.bind (match lfK (O.tree (Opd.er ao) (erE env')) with
        | some d => R.bind (dispA ms (erE env')) fun ds e2 => R.ok (d :: ds) e2
        | none => R.bad) f) := q
      cases hd : lfK (O.tree (Opd.er ao) (erE env')) with
      | none => rw [hd] at q; exact q.elim
      | some d =>
        rw [hd] at q
        obtain ⟨t, ht, dq⟩ := lfK_of a1 hd
        obtain ⟨t', ht', rfl⟩ := a5
        rw [ht] at ht'
        cases ht'
        have c2 : CB X.K Φ.g F' H' (nodesE env' ++ (Np0 ++ Np)) (leavesE env' ++ (((t.val, LF.d d) :: Lp0) ++ Lp)) := ((a1.drop1).leaf (v := t.val) (l := .d d) dq).sb (.refl _) fun q hq => by
          rcases List.mem_append.mp hq with z | z
          · exact List.mem_cons_of_mem _ (List.mem_append_left _ z)
          · rcases List.mem_cons.mp z with z | z
            · rw [z]; exact List.mem_cons_self
            · exact List.mem_cons_of_mem _ (List.mem_append_right _ z)
        have q' : Ct X.K Φ false σ Q H' env0 Np Lp (R.bind (dispA ms (erE env')) fun ds e2 => f (d :: ds) e2) := by
          have q : Ct X.K Φ false σ Q H env0 Np Lp (R.bind (R.bind (dispA ms (erE env')) fun ds e2 => R.ok (d :: ds) e2) f) := q
          revert q
          cases dispA ms (erE env') with
          | ok ds e2 =>
            show Ct X.K Φ false σ Q H env0 Np Lp (f (d :: ds) e2) → Ct X.K Φ false σ Q H' env0 Np Lp (f (d :: ds) e2)
            cases f (d :: ds) e2 with
            | ok o3 e3 => exact fun q v3 H3 F3 env3 ao3 x1 x2 x3 x4 x5 x6 x7 => q v3 H3 F3 env3 ao3 x1 x2 x3 x4 x5 (fun z => nomatch z) x7
            | ex c3 e3 => exact fun q => q
            | bad => exact fun q => q
          | ex c3 e3 => exact fun q => q
          | bad => exact fun q => q
        refine ih (f := fun ds e2 => f (d :: ds) e2) (Np0 := Np0) (Lp0 := (t.val, LF.d d) :: Lp0) c2 a2 q' (l.trans a7) fun vs ds H3 F3 env3 d1 d2 d3 d4 d5 d6 => ?_
        have dq3 : Dq X.K F3 t.val d := d1.lf (t.val, .d d) (List.mem_append_right _ (List.mem_append_left _ List.mem_cons_self))
        exact kk (t.val :: vs) (d :: ds) H3 F3 env3 (d1.sb (.refl _) fun q hq => by
          rcases List.mem_append.mp hq with z | z
          · exact List.mem_append_left _ z
          · exact List.mem_append_right _ (List.mem_cons_of_mem _ z)) d2 (.cons dq3 d3) (by simp [d4]) d5 d6
theorem merge_nodup : ∀ (more acc : List (Key × V)), (∀ k ∈ more.map Prod.fst, k ∉ acc.map Prod.fst) → (more.map Prod.fst).Nodup → mergeK acc more = acc ++ more
  | [], acc, _, _ => by simp [mergeK]
  | e :: r, acc, h1, h2 => by
    obtain ⟨n1, n2⟩ := List.nodup_cons.mp h2
    have hn : valV acc e.1 = none := by
      unfold valV
      rw [List.find?_eq_none.mpr fun z hz => by
        have := h1 e.1 List.mem_cons_self
        simp only [decide_eq_true_eq]
        intro q
        exact this (List.mem_map.mpr ⟨z, hz, q⟩)]
      rfl
    show mergeK (putK acc e.1 e.2) r = _
    rw [putK_new e.2 hn, merge_nodup r (acc ++ [(e.1, e.2)]) (fun k hk => by
      rw [List.map_append, List.mem_append]
      rintro (z | z)
      · exact h1 k (List.mem_cons_of_mem _ hk) z
      · simp only [List.map_cons, List.map_nil, List.mem_singleton] at z
        subst z
        exact n1 hk) n2]
    simp
theorem dqe_zip : ∀ {ks : List Key} {vs : List V} {ds : List PyData}, DqL K F vs ds → ks.length = ds.length → DqE K F (ks.zip vs) ((ks.map kD).zip ds)
  | [], _, _, _, _ => by simp; exact .nil
  | k :: ks, _, _, .nil, h => by simp at h
  | k :: ks, _, _, .cons h hs, e => .cons h (dqe_zip hs (by simpa using e))
theorem se_disp {kes : List (Option Expr)} {ves : List Expr} {ks : List Key} {ms : List (M O)} {trs : List (TE × TE)} (h : SD X Φ pos kes ves ks ms trs) (h0 : kes ≠ []) (h15 : kes.length ≤ 15) : SE X Φ false (.Dict kes ves pos) (dispM ks ms) := by
  obtain ⟨f1, f2, f3, f4⟩ := h.facts
  refine PE.imp (pe_disp h.pps f1 f2 h0 h15) fun σ H Q q => ?_
  obtain ⟨F, env, Np, Lp, c, s, q⟩ := q
  intro a ha
  have c1 : CB X.K Φ.g F (upd H a (.dK [])) (nodesE env ++ ([(a, HO.dK [])] ++ Np)) (leavesE env ++ ([] ++ Lp)) := (c.alloc (o := .dK []) ha).sb (.of_perm (by
    have := List.perm_middle (a := (a, HO.dK [])) (l₁ := nodesE env) (l₂ := Np)
    exact this.symm)) fun _ h => h
  have q1 : Ct X.K Φ false σ Q (upd H a (.dK [])) env Np Lp (R.bind (dispA ms (erE env)) fun ds e' => dispR ks ds e') := by
    have q : Ct X.K Φ false σ Q H env Np Lp (R.bind (dispA ms (erE env)) fun ds e' => dispR ks ds e') := q
    revert q
    cases R.bind (dispA ms (erE env)) fun ds e' => dispR ks ds e' with
    | ok o3 e3 => exact fun q v3 H3 F3 env3 ao3 x1 x2 x3 x4 x5 x6 x7 => q v3 H3 F3 env3 ao3 x1 x2 x3 x4 x5 (fun z => nomatch z) x7
    | ex c3 e3 => exact fun q => q
    | bad => exact fun q => q
  refine h.run (Q := Q) (env0 := env) (Np := Np) (Lp := Lp) c1 s q1 (.refl _) fun vs ds H' F' env' d1 d2 d3 d4 d5 d6 => ?_
  have hp : H' a = some (.dK []) := d1.at_ (a, .dK []) (List.mem_append_right _ List.mem_cons_self)
  by_cases hc : ks.length = ds.length ∧ ks.Nodup ∧ ks ≠ [] ∧ ks.length ≤ 15
  · have d6 : Ct X.K Φ false σ Q H' env Np Lp (.ok (.tm (.d (.dict ((ks.map kD).zip ds)))) (erE env')) := by
      have : dispR ks ds (erE env') = .ok (.tm (.d (.dict ((ks.map kD).zip ds)))) (erE env') := if_pos hc
      rw [this] at d6
      exact d6
    obtain ⟨e1, e2, e3, e4⟩ := hc
    refine ⟨hp, ks.zip vs, ?_, by simp [List.length_zip]; omega, ?_⟩
    · rw [List.zip_map_left]
      rfl
    · have hm : mergeK [] (ks.zip vs) = ks.zip vs := by
        rw [merge_nodup (ks.zip vs) [] (fun _ _ => by simp) (by rw [List.map_fst_zip (by omega)]; exact e2)]
        rfl
      rw [hm]
      have c2 : CB X.K Φ.g F' H' ((a, HO.dK []) :: (nodesE env' ++ Np)) (leavesE env' ++ Lp) := d1.sb (.of_perm List.perm_middle) fun _ h => h
      obtain ⟨c3, l3⟩ := (c2.wr (.dK (ks.zip vs))).frz
      have dq : Dq X.K (upd F' a (.dK (ks.zip vs))) (.ref a) (.dict ((ks.map kD).zip ds)) := .dct upd_same (dqe_zip (d3.le l3) e1)
      refine d6 (.ref a) _ (upd F' a (.dK (ks.zip vs))) env' (.tm (.lf (.ref a) (.d (.dict ((ks.map kD).zip ds))))) ?_ d2 rfl rfl ⟨_, rfl, rfl⟩ (fun z => nomatch z) d5
      refine (c3.leaf (v := .ref a) (l := .d (.dict ((ks.map kD).zip ds))) dq).sb (.refl _) fun q hq => ?_
      simp only [Opd.leaves, AT.leaves] at hq
      rcases List.mem_append.mp hq with z | z
      · exact List.mem_cons_of_mem _ (List.mem_append_left _ z)
      · rcases List.mem_append.mp z with z | z
        · rw [List.mem_singleton.mp z]
          exact List.mem_cons_self
        · exact List.mem_cons_of_mem _ (List.mem_append_right _ z)
  · have : dispR ks ds (erE env') = .bad := if_neg hc
    rw [this] at d6
    exact d6.elim
end
end Z
/-! Z34: more rewriting. -/
namespace Z
open PySem L2
def dispK (x : Option PyData) (r : M (List PyData)) (e : Env') : R (List PyData) := match x with
  | some d => R.bind (r e) fun ds e2 => .ok (d :: ds) e2
  | none => .bad
theorem dispA_nil {e : Env'} : dispA [] e = .ok [] e := Eq.trans rfl rfl
theorem dispA_cons {m : M O} {r : List (M O)} {e : Env'} : dispA (m :: r) e = R.bind (m e) fun o e1 => dispK (lfK (O.tree o e1)) (dispA r) e1 := Eq.trans rfl rfl
theorem dispK_s {d : PyData} {r : M (List PyData)} {e : Env'} : dispK (some d) r e = R.bind (r e) fun ds e2 => .ok (d :: ds) e2 := Eq.trans rfl rfl
theorem dispM_e {ks : List Key} {ms : List (M O)} {e : Env'} : dispM ks ms e = R.bind (dispA ms e) fun ds e' => dispR ks ds e' := Eq.trans rfl rfl
theorem dispR_ok {ks : List Key} {ds : List PyData} {e : Env'} (h : ks.length = ds.length ∧ ks.Nodup ∧ ks ≠ [] ∧ ks.length ≤ 15) : dispR ks ds e = .ok (.tm (.d (.dict ((ks.map kD).zip ds)))) e := if_pos h
theorem fEq_str {a b : Str} (ha : PyData.strOk a = true) (hb : PyData.strOk b = true) : fEq (.str a) (.str b) = some (.bool (decide (a = b))) := by
  have hs : ∀ x : Str, PyData.strOk x = true → SeqAt.shaped (.str x) = true := fun x h => by
    simp [SeqAt.shaped, PyData.canLay0, PyData.depth, h]
  have he : PyData.eqv (.str a) (.str b) = decide (a = b) := by
    simp only [PyData.eqv]
    by_cases h : a = b <;> simp [h]
  unfold fEq
  rw [hs a ha, hs b hb, he]
  rfl
theorem fEq_bb {a b : Bool} : fEq (.bool a) (.bool b) = some (.bool (a == b)) := by cases a <;> cases b <;> rfl
theorem fNe_bb {a b : Bool} : fNe (.bool a) (.bool b) = some (.bool (a != b)) := by cases a <;> cases b <;> rfl
theorem ite_nat {k : Bool} : (if k = true then (1 : Int) else 0) = ((k.toNat : Nat) : Int) := by cases k <;> rfl
def augK (i : Nat) (x : Option PyData) (e : Env') : SR' := match x with
  | some r => if flat r then R.toS (nameT i (.d r) e) fun _ e' => .nx e' else .bad
  | none => .bad
theorem augR_s {i : Nat} {f : PyData → Option PyData} {d : PyData} {e : Env'} : Z.augR i f (some d) e = augK i (f d) e := Eq.trans rfl rfl
theorem augK_s {i : Nat} {d : PyData} {e : Env'} : augK i (some d) e = if flat d then R.toS (nameT i (.d d) e) fun _ e' => .nx e' else .bad := Eq.trans rfl rfl
def fzTK (x : Option PyData) (e : Env') : R O := match x with
  | some d => .ok (.tm (.d d)) e
  | none => .bad
theorem fzT_nd {b : Bool} {xs : List IV} {e : Env'} : fzT (.nd b xs) e = fzTK (IV.toD (.nd b xs)) e := Eq.trans rfl rfl
theorem fzTK_s {d : PyData} {e : Env'} : fzTK (some d) e = .ok (.tm (.d d)) e := Eq.trans rfl rfl
theorem revN {a : List Nat} : lsD ((nat a).map .int).reverse = .nd true (ivL (nat a.reverse)) := by rw [← List.map_reverse, nat_rev, lsD_iv]
theorem castZ : ((0 : Nat) : Int) = 0 := Eq.trans rfl rfl
theorem isT_ss {s : Str} : isT "str" (.lf (.d (.str s))) = some (.bool true) := Eq.trans rfl rfl
theorem rg_nat2 (a b : Nat) : (rgD (a : Int) (b : Int)).map IV.d = (List.range' a (b - a)).map In := by
  have : ((b : Int) - (a : Int)).toNat = b - a := by omega
  simp only [rgD, this, List.map_map, List.range'_eq_map_range]
  refine List.map_congr_left fun i _ => ?_
  simp only [Function.comp]
  congr 3
theorem rgI_n2 {a b : Nat} {e : Env'} (h : a ≤ 1000000) (h' : b ≤ 1000000) : rgI (some (.int (a : Nat))) (some (.int (b : Nat))) e = .ok (rgD a b, none) e := rgI_ok (by rw [sm_ok (by omega), sm_ok (by omega)]; rfl)
theorem zp_nat {n : Nat} {h t : List Nat} (hh : h.length = n) (ht : t.length = n) : (zpD ((nat h).map .int) ((nat t).map .int)).map IV.d = (List.range n).map fun i => IV.d (.tuple [.int (h.getD i 0 : Nat), .int (t.getD i 0 : Nat)]) := by
  refine List.ext_getElem (by simp [zpD, nat_len, hh, ht]) fun i h1 h2 => ?_
  have hi : i < n := by simpa using h2
  simp [zpD, nat, List.getD, List.getElem?_eq_getElem (show i < h.length by omega), List.getElem?_eq_getElem (show i < t.length by omega)]
/-- a range from a, by its places -/
theorem forR2_is {i : Nat} {fin : Env' → Env'} {body : MS} {σ : Type} (E : σ → Env') (a b : Nat) (s : Nat → σ) {e : Env'} (he : e = E (s 0)) (h : ∀ j, a + j < b → okA i (E (s j)) = true ∧ body (setA i (In (a + j)) (E (s j))) = .nx (E (s (j + 1)))) :
    forG fin (nameT i) body ((rgD (a : Int) (b : Int)).map IV.d) e = .nx (fin (E (s (b - a)))) := by
  rw [rg_nat2]
  have := for_is (i := i) (fin := fin) (body := body) E (List.range' a (b - a)) s he fun j hj => by
    rw [List.length_range'] at hj
    rw [List.getElem_range']
    have := h j (by omega)
    rwa [Nat.one_mul]
  rw [List.length_range'] at this
  exact this
end Z
/-! Z35: dicts of one's own: {}, d[k] = v. -/
namespace Z
open PySem L2
def newdM : M O := fun e => .ok (.tm (.dk [])) e
def putD (kvs : List (Key × PyData)) (k : Key) (d : PyData) : List (Key × PyData) :=
  if (kvs.any fun e => decide (e.1 = k)) = true then kvs.map (fun e => if e.1 = k then (e.1, d) else e) else kvs ++ [(k, d)]
def dsetP (i : Nat) (kvs : List (Key × PyData)) (k : Option Key) (d : Option PyData) (e : Env') : R Unit := match k, d with
  | some k, some d => if lim kvs.length then .ok () (e.set i (.iv (.dk (putD kvs k d)))) else .bad
  | _, _ => .bad
def dsetK (i : Nat) (s : Option (Sl IV)) (k : Option PyData) (t : IV) (e : Env') : R Unit := match s with
  | some (.iv (.dk kvs)) => dsetP i kvs (k.bind keyD) (leafD t) e
  | _ => .bad
def dsetR (o : O) (k : Option PyData) (t : IV) (e : Env') : R Unit := match o with
  | .vr i [] => dsetK i e[i]? k t e
  | _ => .bad
def dsetT (b2 : Bool) (mo mk : M O) : IV → Env' → R Unit := fun t e => R.bind (mo e) fun o e1 => R.bind (mk e1) fun k e2 => if O.stays b2 o then dsetR o (O.dat k e2) t e2 else .bad
section
variable {X : Cx} {K : PySem.W.Frag} {Φ : Fx} {io : IO} {b b1 b2 b3 : Bool} {σ : St} {D : Ends} {H F : Hp} {Q : VK} {QU : St → Hp → Prop} {env env0 : AEnv} {Np Nb : List (Addr × HO)} {Lp : List (V × LF)} {x y : Expr} {es : List Expr} {ma mb mo mk : M O} {mas : M (List O)} {pos p : Pos} {g : Gh}
theorem se_newd : SE X Φ false (.Dict [] [] pos) newdM := by
  refine PE.imp pe_dnewK fun σ H Q q => ?_
  obtain ⟨F, env, Np, Lp, c, s, q⟩ := q
  intro a ha
  refine q (.ref a) _ F env (.tm (.dk a [])) ?_ s rfl rfl ⟨_, rfl, rfl⟩ (fun z => nomatch z) (.refl _)
  exact (c.alloc (o := .dK []) ha).sb (.of_perm (by simpa [Opd.nodes, AT.nodes] using List.perm_middle.symm)) (fun q hq => by simpa [Opd.leaves, AT.leaves] using hq)
def putA (kvs : List (Key × V × PyData)) (k : Key) (v : V) (d : PyData) : List (Key × V × PyData) :=
  if (kvs.any fun e => decide (e.1 = k)) = true then kvs.map (fun e => if e.1 = k then (e.1, v, d) else e) else kvs ++ [(k, v, d)]
theorem putA_er (kvs : List (Key × V × PyData)) (k : Key) (v : V) (d : PyData) : (putA kvs k v d).map (fun e => (e.1, e.2.2)) = putD (kvs.map fun e => (e.1, e.2.2)) k d := by
  unfold putA putD
  rw [List.any_map]
  by_cases h : (kvs.any fun e => decide (e.1 = k)) = true
  · rw [if_pos h, if_pos (by simpa [Function.comp_def] using h), List.map_map, List.map_map]
    refine List.map_congr_left fun e _ => ?_
    simp only [Function.comp]
    split <;> rfl
  · rw [if_neg h, if_neg (by simpa [Function.comp_def] using h), List.map_append]
    rfl
theorem putA_ho (kvs : List (Key × V × PyData)) (k : Key) (v : V) (d : PyData) : (putA kvs k v d).map (fun e => (e.1, e.2.1)) = putK (kvs.map fun e => (e.1, e.2.1)) k v := by
  unfold putA putK
  rw [List.any_map]
  by_cases h : (kvs.any fun e => decide (e.1 = k)) = true
  · rw [if_pos h, if_pos (by simpa [Function.comp_def] using h), List.map_map, List.map_map]
    refine List.map_congr_left fun e _ => ?_
    simp only [Function.comp]
    split <;> rfl
  · rw [if_neg h, if_neg (by simpa [Function.comp_def] using h), List.map_append]
    rfl
theorem putA_leaf {kvs : List (Key × V × PyData)} {k : Key} {v : V} {d : PyData} {q : V × LF} (h : q ∈ (putA kvs k v d).map fun e => ((e.2.1, LF.d e.2.2) : V × LF)) : q = (v, .d d) ∨ q ∈ kvs.map fun e => ((e.2.1, LF.d e.2.2) : V × LF) := by
  unfold putA at h
  split at h
  · rw [List.map_map] at h
    obtain ⟨e, he, rfl⟩ := List.mem_map.mp h
    simp only [Function.comp]
    split
    · exact .inl rfl
    · exact .inr (List.mem_map.mpr ⟨e, he, rfl⟩)
  · rw [List.map_append] at h
    rcases List.mem_append.mp h with z | z
    · exact .inr z
    · exact .inl (by simpa using z)
theorem sg_dset {k : Nat} (hr : Room k X.A) (ho : SE X Φ b1 y mo) (hk : SE X Φ b2 x mk) (ha : ∀ v, assign (.Subscript y x pos) X.env v = (do
      let ov ← holding [v] (eval y X.env)
      let iv ← holding [v, ov] (eval x X.env)
      standAt pos
      holding [v, ov, iv] (setItem ov iv v)
      release [v, ov, iv] []) := by intro _; rfl) : SG X Φ io (.Subscript y x pos) (dsetT b2 mo mk) := by
  refine PG.imp (pg_sub ho hk (set_dict (Nat.lt_of_le_of_lt (by omega) (room65 hr))) ha) fun v σ H Q q => ?_
  obtain ⟨F, env, at', Np, Lp, c, s, hi, rfl, q⟩ := q
  refine seqEU (A := at'.nodes) (B := at'.leaves) c s hi q fun v1 H1 F1 env1 ao1 c1 s1 t1 p1 q1 => ?_
  refine seqEU (A := Opd.nodes ao1 ++ at'.nodes) (B := Opd.leaves ao1 ++ at'.leaves) (by simpa [List.append_assoc] using c1) s1 hi q1 fun v2 H2 F2 env2 ao2 c2 s2 t2 p2 q2 => ?_
  cases hs : O.stays b2 (Opd.er ao1) with
  | false => rw [hs] at q2; exact q2.elim
  | true =>
    rw [hs] at q2
    have q2 : CtU X.K Φ io σ Q env2 Np Lp (dsetR (Opd.er ao1) (O.dat (Opd.er ao2) (erE env2)) at'.er (erE env2)) := q2
    cases ao1 with
    | tm u => exact q2.elim
    | vr i qq =>
      cases qq with
      | cons m r => exact q2.elim
      | nil =>
        have q2 : CtU X.K Φ io σ Q env2 Np Lp (dsetK i (erE env2)[i]? (O.dat (Opd.er ao2) (erE env2)) at'.er (erE env2)) := q2
        rw [erE_get] at q2
        cases hei : env2[i]? with
        | none => rw [hei] at q2; exact q2.elim
        | some w =>
          rw [hei] at q2
          cases w with
          | un => exact q2.elim
          | lk t => exact q2.elim
          | al j pp => exact q2.elim
          | iv t =>
            cases t with
            | lf v l => exact q2.elim
            | nd a bb xs => exact q2.elim
            | dk a kvs =>
              have q2 : CtU X.K Φ io σ Q env2 Np Lp (dsetP i (kvs.map fun e => (e.1, e.2.2)) ((O.dat (Opd.er ao2) (erE env2)).bind keyD) (leafD at'.er) (erE env2)) := q2
              cases hd : O.dat (Opd.er ao2) (erE env2) with
              | none => rw [hd] at q2; exact q2.elim
              | some dk =>
                rw [hd] at q2
                cases hkey : keyD dk with
                | none =>
                  rw [show (some dk).bind keyD = none from hkey] at q2
                  exact q2.elim
                | some key =>
                  rw [show (some dk).bind keyD = some key from hkey] at q2
                  cases at' with
                  | nd a' bb xs => exact q2.elim
                  | dk a' kvs' => exact q2.elim
                  | lf w l =>
                    cases l with
                    | e n => exact q2.elim
                    | s ns => exact q2.elim
                    | d dv =>
                      have q2 : CtU X.K Φ io σ Q env2 Np Lp (if lim (kvs.map fun e => (e.1, e.2.2)).length then .ok () ((erE env2).set i (.iv (.dk (putD (kvs.map fun e => (e.1, e.2.2)) key dv)))) else .bad) := q2
                      cases hlim : lim (kvs.map fun e => (e.1, e.2.2)).length with
                      | false => rw [hlim] at q2; exact q2.elim
                      | true =>
                        rw [hlim] at q2
                        have q2 : CtU X.K Φ io σ Q env2 Np Lp (.ok () ((erE env2).set i (.iv (.dk (putD (kvs.map fun e => (e.1, e.2.2)) key dv))))) := q2
                        obtain ⟨R, S, r1, r2⟩ := env_split hei
                        have p1' := r1 (.iv (.dk a kvs))
                        have p2' := r2 (.iv (.dk a kvs))
                        rw [set_self hei] at p1' p2'
                        obtain ⟨u2, g2, k2⟩ := dat_of hd
                        have dq2 := c2.tree (ao := ao2) g2 k2
                        obtain ⟨w2, z1, z2⟩ := t2
                        rw [g2] at z1
                        cases z1
                        have ey : v2 = kV key := by rw [← z2]; exact dq_key dq2 hkey
                        have hH : H2 a = some (.dK (kvs.map fun e => (e.1, e.2.1))) := c2.at_ (a, .dK (kvs.map fun e => (e.1, e.2.1))) (List.mem_append_left _ (p1'.symm.subset (List.mem_append_left _ (by simp [Sl.nodes, AT.nodes]))))
                        have dqv : Dq X.K F2 w dv := c2.lf (w, .d dv) (List.mem_append_right _ (List.mem_append_right _ (List.mem_append_left _ (List.mem_append_right _ (by simp [AT.leaves])))))
                        have ev : v1 = .ref a := by
                          have e0 : AO.tree (.vr i []) env2 = some (.dk a kvs) := by simp [AO.tree, ctnA, rsv, hei, rootOf, Sl.tr, AT.getP]
                          exact (val_stays hs s1 s2 p2 t1 e0).symm
                        subst ev
                        refine ⟨a, upd H2 a (.dK (putK (kvs.map fun e => (e.1, e.2.1)) key w)), rfl, by rw [ey]; exact DPut.k hH (by
                          have := lim_lt hlim
                          simpa using this), ?_⟩
                        rw [← putA_ho kvs key w dv]
                        have c3 : CB X.K Φ.g F2 H2 ((a, HO.dK (kvs.map fun e => (e.1, e.2.1))) :: (R ++ Np)) ((w, LF.d dv) :: (leavesE env2 ++ Lp)) := (c2.leaf (v := w) (l := .d dv) dqv).sb (by
                          have h1 : Sb (nodesE env2 ++ Np) (nodesE env2 ++ (Opd.nodes ao2 ++ ((Opd.nodes (.vr i []) ++ AT.nodes (.lf w (.d dv))) ++ Np))) := ((Sb.right _ _).trans (Sb.right _ _)).tail
                          refine Sb.trans ?_ h1
                          refine .of_perm ((p1'.append_right Np).trans ?_)
                          simp [Sl.nodes, AT.nodes]) fun q hq => by
                          rcases List.mem_cons.mp hq with z | z
                          · rw [z]; exact List.mem_cons_self
                          · rcases List.mem_append.mp z with z | z
                            · exact List.mem_cons_of_mem _ (List.mem_append_left _ z)
                            · exact List.mem_cons_of_mem _ (List.mem_append_right _ (List.mem_append_right _ (List.mem_append_right _ z)))
                        have c4 := c3.wr (.dK ((putA kvs key w dv).map fun e => (e.1, e.2.1)))
                        refine q2 σ _ F2 (env2.set i (.iv (.dk a (putA kvs key w dv)))) ?_ ?_ hi ?_ (lks_set hei)
                        · refine c4.sb (.of_perm ?_) fun q hq => ?_
                          · have := r1 (.iv (.dk a (putA kvs key w dv)))
                            refine List.Perm.symm ((this.append_right Np).trans ?_)
                            simp [Sl.nodes, AT.nodes]
                          · rcases List.mem_append.mp hq with z | z
                            · rcases List.mem_append.mp ((r2 _).subset z) with z | z
                              · rcases putA_leaf (by simpa [Sl.leaves, AT.leaves] using z) with z | z
                                · rw [z]; exact List.mem_cons_self
                                · exact List.mem_cons_of_mem _ (List.mem_append_left _ (p2'.symm.subset (List.mem_append_left _ (by simpa [Sl.leaves, AT.leaves] using z))))
                              · exact List.mem_cons_of_mem _ (List.mem_append_left _ (p2'.symm.subset (List.mem_append_right _ z)))
                            · exact List.mem_cons_of_mem _ (List.mem_append_right _ z)
                        · have hil := (List.getElem?_eq_some_iff.mp hei).1
                          refine ⟨by rw [List.length_set]; exact s2.1, fun k u hu => ?_⟩
                          have e0 : ctnA env2 i [] = some (.dk a kvs) := by simp [ctnA, rsv, hei, rootOf, Sl.tr, AT.getP]
                          by_cases hk : i = k
                          · subst hk
                            simp only [ctnA, rsv, rootOf, List.getElem?_set_self hil, Sl.tr, List.append_nil, AT.getP, Option.some.injEq] at hu
                            subst hu
                            exact s2.2 i (.dk a kvs) e0
                          · simp only [ctnA, rsv, List.getElem?_set_ne hk] at hu
                            cases hek : env2[k]? with
                            | none => rw [hek] at hu; simp at hu
                            | some w' =>
                              rw [hek] at hu
                              cases w' with
                              | un => simp at hu
                              | iv w' => exact s2.2 k u (by simpa [ctnA, rsv, hek, rootOf_set hk] using hu)
                              | lk w' => exact s2.2 k u (by simpa [ctnA, rsv, hek, rootOf_set hk] using hu)
                              | al j pp =>
                                simp only [List.append_nil] at hu
                                by_cases hj : i = j
                                · subst hj
                                  simp only [rootOf, List.getElem?_set_self hil, Sl.tr] at hu
                                  cases pp with
                                  | nil =>
                                    simp only [AT.getP, Option.some.injEq] at hu
                                    subst hu
                                    exact s2.2 k (.dk a kvs) (by simp [ctnA, rsv, hek, rootOf, hei, Sl.tr, AT.getP])
                                  | cons m pp => simp [AT.getP, AT.kids] at hu
                                · exact s2.2 k u (by simpa [ctnA, rsv, hek, rootOf_set hj] using hu)
                        · rw [set_er]
                          simp only [Sl.map, AT.er, putA_er]
end
/-! rewriting -/
theorem newdM_e {e : Env'} : newdM e = .ok (.tm (.dk [])) e := Eq.trans rfl rfl
theorem dsetT_e {b : Bool} {mo mk : M O} {t : IV} {e : Env'} : dsetT b mo mk t e = R.bind (mo e) fun o e1 => R.bind (mk e1) fun k e2 => if O.stays b o then dsetR o (O.dat k e2) t e2 else .bad := Eq.trans rfl rfl
theorem dsetR_e {i : Nat} {k : Option PyData} {t : IV} {e : Env'} : dsetR (.vr i []) k t e = dsetK i e[i]? k t e := Eq.trans rfl rfl
theorem dsetK_dk {i : Nat} {kvs : List (Key × PyData)} {k : PyData} {d : PyData} {e : Env'} : dsetK i (some (.iv (.dk kvs))) (some k) (.lf (.d d)) e = dsetP i kvs (keyD k) (some d) e := Eq.trans rfl rfl
theorem dsetP_s {i : Nat} {kvs : List (Key × PyData)} {k : Key} {d : PyData} {e : Env'} : dsetP i kvs (some k) (some d) e = if lim kvs.length then .ok () (e.set i (.iv (.dk (putD kvs k d)))) else .bad := Eq.trans rfl rfl
theorem keyD_i {i : Int} : keyD (.int i) = some (.inl i) := Eq.trans rfl rfl
theorem keyD_s {s : Str} : keyD (.str s) = some (.inr s) := Eq.trans rfl rfl
theorem toD_dk {kvs : List (Key × PyData)} : IV.toD (.dk kvs) = some (.dict (kvs.map fun e => (kD e.1, e.2))) := by simp only [IV.toD]
theorem mvK_dk {i : Nat} {kvs : List (Key × PyData)} {e : Env'} : mvK i (some (.iv (.dk kvs))) e = .ok (.tm (.dk kvs)) (e.set i .un) := Eq.trans rfl rfl
theorem tovr_dk {kvs : List (Key × PyData)} {e : Env'} : toV (.tm (.dk kvs)) e = some (.dk kvs) := Eq.trans rfl rfl
end Z
namespace Z
open PySem L2
theorem popM_e {mo : M O} {e : Env'} : popM mo e = R.bind (mo e) fun o e1 => if isLs (O.tree o e1) then R.bind (nilM e1) fun _ e2 => if O.stays true o then popR o lastK e2 else .bad else .bad := Eq.trans rfl rfl
theorem popR_e {o : O} {k : List IV → Option Nat} {e : Env'} : popR o k e = R.bind (writeR o e fun xs => popK (k xs) xs) fun x e' => .ok (.tm x) e' := Eq.trans rfl rfl
theorem nilM_e {e : Env'} : nilM e = .ok () e := Eq.trans rfl rfl
end Z
/-! Z36: exchanges, putting in. -/
namespace Z
open PySem L2
def swap2 (xs : List Int) (p q : Nat) : List Int := (xs.set p (xs.getD q 0)).set q (xs.getD p 0)
theorem swap2_len (xs : List Int) (p q : Nat) : (swap2 xs p q).length = xs.length := by simp [swap2]
theorem set_split (xs : List Int) (p : Nat) (h : p < xs.length) (a : Int) : xs.set p a = xs.take p ++ a :: xs.drop (p + 1) := by
  rw [List.set_eq_take_append_cons_drop, if_pos h]
theorem set_permI (xs : List Int) (p : Nat) (h : p < xs.length) (a : Int) : (xs.getD p 0 :: xs.set p a).Perm (a :: xs) := by
  rw [set_split xs p h]
  have e : xs = xs.take p ++ xs.getD p 0 :: xs.drop (p + 1) := by
    have := set_split xs p h (xs.getD p 0)
    rw [← this]
    apply List.ext_getElem
    · simp
    · intro n h1 h2
      by_cases hn : p = n
      · subst hn
        simp [List.getD, List.getElem?_eq_getElem h]
      · rw [List.getElem_set_ne hn]
  have k1 : (xs.getD p 0 :: (xs.take p ++ a :: xs.drop (p + 1))).Perm (xs.getD p 0 :: a :: (xs.take p ++ xs.drop (p + 1))) := List.Perm.cons _ List.perm_middle
  have k2 : (a :: xs).Perm (a :: xs.getD p 0 :: (xs.take p ++ xs.drop (p + 1))) := by
    refine List.Perm.cons _ ?_
    conv => lhs; rw [e]
    exact List.perm_middle
  exact k1.trans ((List.Perm.swap _ _ _).trans k2.symm)
theorem swap2_perm (xs : List Int) (p q : Nat) (hp : p < xs.length) (hq : q < xs.length) : (swap2 xs p q).Perm xs := by
  have h1 := set_permI xs p hp (xs.getD q 0)
  have h2 := set_permI (xs.set p (xs.getD q 0)) q (by rw [List.length_set]; exact hq) (xs.getD p 0)
  have e : (xs.set p (xs.getD q 0)).getD q 0 = xs.getD q 0 := by
    by_cases h : p = q
    · subst h
      simp [List.getD, hp]
    · simp [List.getD, List.getElem?_set_ne h]
  rw [e] at h2
  exact List.Perm.cons_inv (h2.trans h1)
theorem ins_iv {xs : List Int} {k : Nat} {a : Int} (hk : k < 1000) (hl : xs.length ≤ 1000) : insF (k : Int) (I a) (ivL xs) = some (ivL (xs.take k ++ [a] ++ xs.drop k), fun _ => true, ()) := by
  unfold insF
  rw [show (lim (ivL xs).length && decide (0 ≤ (k : Int) ∧ (k : Int) < 2 ^ 63)) = true from by
    rw [show lim (ivL xs).length = true from decide_eq_true (by rw [ivL_len]; omega), decide_eq_true (show 0 ≤ (k : Int) ∧ (k : Int) < 2 ^ 63 by omega)]
    rfl]
  rw [if_pos rfl]
  simp [ivL, List.map_take, List.map_drop]
theorem ins_perm (xs : List Int) (k : Nat) (a : Int) : (xs.take k ++ [a] ++ xs.drop k).Perm (a :: xs) := by
  rw [List.append_assoc, List.singleton_append]
  refine List.perm_middle.trans ?_
  rw [List.take_append_drop]
/-! ### lists of orders -/
abbrev pl (l : List Nat) : PyData := .list ((nat l).map .int)
abbrev dL (l : List Nat) : IV := .d (pl l)
abbrev nL (l : List Nat) : IV := .nd true (ivL (nat l))
theorem canLay_pls : ∀ L : List (List Nat), PyData.canLayAll0 (L.map pl) = true
  | [] => by simp [PyData.canLayAll0]
  | l :: r => by simp [PyData.canLayAll0, PyData.canLay0, canLay_ints, canLay_pls r]
theorem depth_pls : ∀ L : List (List Nat), PyData.depthAll (L.map pl) ≤ 2
  | [] => by simp [PyData.depthAll]
  | l :: r => by
    have h1 := depth_pls r
    have h2 := depth_ints (nat l)
    simp only [List.map_cons, PyData.depthAll, PyData.depth]
    omega
theorem shaped_pls (L : List (List Nat)) : SeqAt.shaped (.list (L.map pl)) = true := by
  have h1 := canLay_pls L
  have h2 := depth_pls L
  simp only [SeqAt.shaped, PyData.canLay0, PyData.depth, h1, Bool.true_and]
  exact decide_eq_true (by omega)
theorem eqvAll_pls : ∀ A B : List (List Nat), PyData.eqvAll (A.map pl) (B.map pl) = decide (A = B)
  | [], [] => by simp [PyData.eqvAll]
  | [], _ :: _ => by simp [PyData.eqvAll]
  | _ :: _, [] => by simp [PyData.eqvAll]
  | a :: A, b :: B => by
    simp only [List.map_cons, PyData.eqvAll, PyData.eqv, eqvAll_ints, eqvAll_pls A B, nat_dec]
    by_cases h1 : a = b <;> by_cases h2 : A = B <;> simp [h1, h2]
theorem fEq_pls {A B : List (List Nat)} : fEq (.list (A.map pl)) (.list (B.map pl)) = some (.bool (decide (A = B))) := by
  unfold fEq
  rw [shaped_pls, shaped_pls]
  simp only [Bool.and_self, if_true, PyData.eqv, eqvAll_pls]
theorem fNe_pls {A B : List (List Nat)} : fNe (.list (A.map pl)) (.list (B.map pl)) = some (.bool (!decide (A = B))) := by
  unfold fNe
  rw [shaped_pls, shaped_pls]
  simp only [Bool.and_self, if_true, PyData.eqv, eqvAll_pls]
theorem toDL_dLs : ∀ L : List (List Nat), IV.toDL (L.map dL) = some (L.map pl)
  | [] => by simp [IV.toDL]
  | l :: r => by simp [IV.toDL, IV.toD, toDL_dLs r]
theorem toDL_nLs : ∀ L : List (List Nat), IV.toDL (L.map nL) = some (L.map pl)
  | [] => by simp [IV.toDL]
  | l :: r => by simp [IV.toDL, IV.toD, toDL_nLs r, toDL_iv]
theorem leafDs_dLs : ∀ L : List (List Nat), leafDs (L.map dL) = some (L.map pl)
  | [] => by simp [leafDs]
  | l :: r => by simp [leafDs, leafD, leafDs_dLs r]
theorem noSh_nLs : ∀ L : List (List Nat), noShL (L.map nL) = true
  | [] => by simp [noShL]
  | l :: r => by
    have := free_ivL (nat l)
    simp [noShL, noSh, noSh_nLs r, this]
theorem map_pls (L : List (List Nat)) : (L.map pl).map IV.d = L.map dL := by simp [Function.comp_def]
theorem elem_pls {L : List (List Nat)} {k : Nat} (h : k < L.length) {o : O} {e : Env'} : elemI o (some (.lf (.d (.list (L.map pl))))) (k : Int) e = .ok (.tm (dL (L.getD k []))) e := by
  rw [elem_ls, atI_nat (v := pl (L.getD k [])) (by simp [List.getD, List.getElem?_eq_getElem h])]
  rfl
theorem elem_dLs {L : List (List Nat)} {k : Nat} (h : k < L.length) {o : O} {e : Env'} : elemI o (some (.nd true (L.map dL))) (k : Int) e = .ok (.tm (dL (L.getD k []))) e := by
  rw [elem_at (x := dL (L.getD k [])) (ixN_lit (by simpa using h)) (by simp [List.getD, List.getElem?_eq_getElem h])]
  rfl
theorem frK_dk {i : Nat} {kvs : List (Key × PyData)} {e : Env'} : frK i (some (.iv (.dk kvs))) e = frD i (IV.toD (.dk kvs)) e := Eq.trans rfl rfl
/-! ### places by things -/
def plK : Nat → List Nat → List (Key × PyData)
  | _, [] => []
  | o, x :: r => (.inl (x : Int), .int (o : Int)) :: plK (o + 1) r
theorem plK_snoc : ∀ (o : Nat) (l : List Nat) (x : Nat), plK o (l ++ [x]) = plK o l ++ [(.inl (x : Int), .int ((o + l.length : Nat) : Int))]
  | o, [], x => rfl
  | o, y :: r, x => by
    simp only [List.cons_append, plK, plK_snoc (o + 1) r x, List.length_cons]
    rw [show o + 1 + r.length = o + (r.length + 1) by omega]
theorem plK_new : ∀ (o : Nat) (l : List Nat) (x : Nat), x ∉ l → ((plK o l).any fun e => decide (e.1 = Sum.inl (x : Int))) = false
  | o, [], x, _ => rfl
  | o, y :: r, x, h => by
    simp only [plK, List.any_cons, plK_new (o + 1) r x (fun z => h (List.mem_cons_of_mem _ z)), Bool.or_false]
    have hne : y ≠ x := fun z => h (z ▸ List.mem_cons_self)
    simp only [Sum.inl.injEq, decide_eq_false_iff_not]
    omega
theorem putD_new {l : List Nat} {x : Nat} (h : x ∉ l) : putD (plK 0 l) (.inl (x : Int)) (.int ((l.length : Nat) : Int)) = plK 0 (l ++ [x]) := by
  unfold putD
  rw [plK_new 0 l x h, plK_snoc, Nat.zero_add]
  rfl
theorem findD_pl : ∀ (o : Nat) (l : List Nat) (x : Nat), x ∈ l → findD (.inl (x : Int)) ((plK o l).map fun e => (kD e.1, e.2)) = some (.int ((o + l.idxOf x : Nat) : Int))
  | o, y :: r, x, h => by
    simp only [plK, List.map_cons, findD, keyD_kD, Option.some.injEq, Sum.inl.injEq]
    by_cases hyx : y = x
    · subst hyx
      rw [if_pos rfl]
      simp
    · rw [if_neg (by omega), findD_pl (o + 1) r x ((List.mem_cons.mp h).resolve_left fun z => hyx z.symm), List.idxOf_cons, show (y == x) = false from by simpa using hyx, cond_false]
      rw [show o + 1 + r.idxOf x = o + (r.idxOf x + 1) by omega]
theorem fDG_pl {l : List Nat} {x : Nat} (h : x ∈ l) : fDG (.dict ((plK 0 l).map fun e => (kD e.1, e.2))) (.int (x : Int)) = some (.int ((l.idxOf x : Nat) : Int)) := by
  have := findD_pl 0 l x h
  rw [Nat.zero_add] at this
  simpa [fDG, keyD] using this
theorem plK_len : ∀ (o : Nat) (l : List Nat), (plK o l).length = l.length
  | _, [] => rfl
  | o, x :: r => by simp [plK, plK_len (o + 1) r]
/-- a test that nothing passes -/
theorem lcN_no {α : Type} {i : Nat} {mt : M Bool} {me : M O} {e0 : Env'} (emb : α → IV) (xs : List α) (hl : xs.length ≤ 1000000) (h : ∀ t ∈ xs, mt (setA i (emb t) e0) = .ok false (setA i (emb t) e0))
    (h1 : okA i e0 = true := by rfl) (h2 : ∀ t, okW [i] (setA i t e0) = true := by intro _; rfl) (h3 : ∀ t, wp [i] (setA i t e0) = e0 := by intro _; rfl) :
    lcG [i] (nameT i) mt me (xs.map emb) [] e0 = .ok [] e0 := by
  have := lcN (i := i) (mt := mt) (me := me) (e0 := e0) emb (fun _ => false) emb xs hl (fun t ht => ⟨h t ht, fun z => nomatch z⟩) h1 h2 h3
  rwa [List.filter_eq_nil_iff.mpr (fun _ _ => Bool.false_ne_true), List.map_nil] at this
theorem sqR_tmt {ds : List PyData} {e : Env'} : sqR false (.tm (.lf (.d (.tuple ds)))) e = .ok (ds, none) e := Eq.trans rfl rfl
end Z
/-! Z37: for x in rows: x.append(c); o.clear(); d.get. -/
namespace Z
open PySem L2
def noAl {τ : Type} (e : List (Sl τ)) : Bool := e.all fun s => match s with
  | .al _ _ => false
  | _ => true
def isUn {τ : Type} (s : Option (Sl τ)) : Bool := match s with
  | some .un => true
  | _ => false
def apdL (d : PyData) : List IV → Option (List IV)
  | [] => some []
  | .nd true xs :: r => if lim xs.length then (apdL d r).map (.nd true (xs ++ [.lf (.d d)]) :: ·) else none
  | _ => none
def forAp4 (x j : Nat) (q : List Nat) (root : IV) (rows : Option (List IV)) (e : Env') : SR' := match rows with
  | some rows => if noAl e && isUn e[x]? then .nx (e.set j (.iv (root.setP q (.nd true rows)))) else .bad
  | none => .bad
def forAp3 (x : Nat) (d : PyData) (j : Nat) (q : List Nat) (root : IV) (t : Option IV) (e : Env') : SR' := match t with
  | some (.nd true rows) => forAp4 x j q root (apdL d rows) e
  | _ => .bad
def forAp2 (x : Nat) (d : PyData) (j : Nat) (q : List Nat) (s : Option (Sl IV)) (e : Env') : SR' := match s with
  | some (.iv root) => forAp3 x d j q root (root.getP q) e
  | _ => .bad
def forApR (x : Nat) (d : PyData) (o : O) (e : Env') : SR' := match o with
  | .vr j q => forAp2 x d j q e[j]? e
  | _ => .bad
def forApS (x : Nat) (d : PyData) (m : M O) : MS := fun e => R.toS (m e) fun o e1 => forApR x d o e1
section
variable {X : Cx} {K : PySem.W.Frag} {Φ : Fx} {io : IO} {b b1 b2 b3 : Bool} {σ : St} {D : Ends} {H F : Hp} {Q : VK} {env env0 env00 : AEnv} {Np Np' Nb A : List (Addr × HO)} {Lp Lp' B : List (V × LF)} {it : Expr} {ma mb : M O} {pos : Pos}
theorem noAl_at {τ : Type} {e : List (Sl τ)} (h : noAl e = true) {k j : Nat} {p : List Nat} : e[k]? ≠ some (.al j p) := fun z => by
  have := List.all_eq_true.mp h _ (List.mem_of_getElem? z)
  cases this
theorem noAl_er : noAl (erE env) = noAl env := by
  simp only [noAl, erE, List.all_map]
  congr 1
  funext s
  cases s <;> rfl
theorem noAl_set {τ : Type} {e : List (Sl τ)} (h : noAl e = true) {j : Nat} {t : τ} : noAl (e.set j (.iv t)) = true := by
  refine List.all_eq_true.mpr fun s hs => ?_
  rcases List.mem_or_eq_of_mem_set hs with z | z
  · exact List.all_eq_true.mp h s z
  · subst z
    rfl
theorem killX_no {τ : Type} {e : List (Sl τ)} (h : noAl e = true) (r : Nat) (P : List Nat) (kn : Nat → Bool) : killX r P kn e = e := by
  refine (List.map_congr_left fun s hs => ?_).trans (List.map_id e)
  have := List.all_eq_true.mp h s hs
  cases s <;> first | rfl | cases this
def appA (v : V) (l : LF) : AT → AT
  | .nd b true ys => .nd b true (ys ++ [.lf v l])
  | t => t
theorem appA_val {v : V} {l : LF} (t : AT) : (appA v l t).val = t.val := by
  cases t with
  | nd b bb ys => cases bb <;> rfl
  | _ => rfl
theorem apdL_at {d : PyData} {v : V} : ∀ (rows : List AT) (out : List IV), apdL d (AT.erL rows) = some out → AT.erL (rows.map (appA v (.d d))) = out ∧ ∀ (i : Nat) (t : AT), rows[i]? = some t → ∃ (c : Addr) (ys : List AT), t = .nd c true ys ∧ lim ys.length = true
  | [], out, h => by
    simp only [AT.erL, apdL, Option.some.injEq] at h
    subst h
    exact ⟨rfl, fun i t e => by simp at e⟩
  | .lf w l :: r, out, h => by simp [AT.erL, AT.er, apdL] at h
  | .dk c kvs :: r, out, h => by simp [AT.erL, AT.er, apdL] at h
  | .nd c false ys :: r, out, h => by simp [AT.erL, AT.er, apdL] at h
  | .nd c true ys :: r, out, h => by
    simp only [AT.erL, AT.er, apdL] at h
    cases hl : lim (AT.erL ys).length with
    | false => rw [hl] at h; simp at h
    | true =>
      rw [hl] at h
      simp only [if_true] at h
      cases hr : apdL d (AT.erL r) with
      | none => rw [hr] at h; simp at h
      | some out' =>
        rw [hr] at h
        simp only [Option.map_some, Option.some.injEq] at h
        subst h
        obtain ⟨h1, h2⟩ := apdL_at (v := v) r out' hr
        refine ⟨?_, fun i t e => ?_⟩
        · simp only [List.map_cons, appA, AT.erL, AT.er, h1, erL_append]
        · cases i with
          | zero =>
            simp only [List.getElem?_cons_zero, Option.some.injEq] at e
            subst e
            exact ⟨c, ys, rfl, by rw [← hl, erL_length]⟩
          | succ i => exact h2 i t (by simpa using e)
theorem setK_setK (t : AT) (i : Nat) (u w : AT) : (t.setK i u).setK i w = t.setK i w := by
  cases t with
  | nd a bb xs => simp [AT.setK]
  | _ => rfl
theorem setP_two : ∀ (q : List Nat) (t s u w : AT) (i : Nat), t.getP q = some s → (t.setP q u).setP (q ++ [i]) w = t.setP q (u.setP [i] w)
  | [], t, s, u, w, i, h => rfl
  | k :: q, t, s, u, w, i, h => by
    simp only [AT.getP] at h
    cases hx : t.kids[k]? with
    | none => rw [hx] at h; simp at h
    | some x =>
      rw [hx] at h
      have hk : (t.setK k (x.setP q u)).kids[k]? = some (x.setP q u) := by
        rw [kids_setK hx]
        exact List.getElem?_set_self (List.getElem?_eq_some_iff.mp hx).1
      simp only [AT.setP, hx, List.cons_append, hk]
      rw [setK_setK, setP_two q x s u w i h]
      simp only [AT.setP]
theorem SR.setUn {x : Nat} {v : V} (h : SR env σ) (hu : env[x]? = some .un) : SR env (σ.set x (some v)) := by
  refine ⟨by rw [List.length_set]; exact h.1, fun k u hk => ?_⟩
  by_cases e : x = k
  · subst e
    simp [ctnA, rsv, hu] at hk
  · rw [List.getElem?_set_ne e]
    exact h.2 k u hk
/-- the rows, the first i of them longer -/
def rowsI (v : V) (l : LF) (rows : List AT) (i : Nat) : List AT := (rows.take i).map (appA v l) ++ rows.drop i
theorem rowsI_len {v : V} {l : LF} {rows : List AT} {i : Nat} : (rowsI v l rows i).length = rows.length := by
  simp only [rowsI, List.length_append, List.length_map, List.length_take, List.length_drop]
  omega
theorem rowsI_val {v : V} {l : LF} {rows : List AT} {i : Nat} : (rowsI v l rows i).map AT.val = rows.map AT.val := by
  have h : ((rows.take i).map (appA v l)).map AT.val = (rows.take i).map AT.val := by
    rw [List.map_map]
    exact List.map_congr_left fun t _ => appA_val t
  rw [rowsI, List.map_append, h, ← List.map_append, List.take_append_drop]
theorem rowsI_at {v : V} {l : LF} {rows : List AT} {i : Nat} : (rowsI v l rows i)[i]? = rows[i]? := by
  by_cases h : i < rows.length
  · have hl : ((rows.take i).map (appA v l)).length = i := by simp; omega
    rw [rowsI, List.getElem?_append_right (by omega), hl, Nat.sub_self, List.getElem?_drop, Nat.add_zero]
  · rw [List.getElem?_eq_none (by rw [rowsI_len]; omega), List.getElem?_eq_none (by omega)]
theorem rowsI_set {v : V} {l : LF} {rows : List AT} {i : Nat} {t : AT} (h : rows[i]? = some t) : (rowsI v l rows i).set i (appA v l t) = rowsI v l rows (i + 1) := by
  obtain ⟨hi, e⟩ := List.getElem?_eq_some_iff.mp h
  have hl : ((rows.take i).map (appA v l)).length = i := by simp; omega
  have hd : rows.drop i = t :: rows.drop (i + 1) := by rw [List.drop_eq_getElem_cons hi, e]
  have ht : rows.take (i + 1) = rows.take i ++ [t] := by rw [List.take_add_one, h]; rfl
  rw [rowsI, List.set_append_right _ _ (by omega), hl, Nat.sub_self, hd, List.set_cons_zero, rowsI, ht, List.map_append, List.append_assoc]
  rfl
/-- the walk -/
theorem forAp_run {x j : Nat} {q : List Nat} {root : AT} {a : Addr} {rows : List AT} {out : List IV} {v : V} {d : PyData} (hio : io.1 x = false) (hd : ∀ F, Dq K F v d)
    (c : CB K Φ.g F H (nodesE env ++ Np) (leavesE env ++ Lp)) (s : SR env σ) (hi : SI io σ) (hj : env[j]? = some (.iv root)) (hg : root.getP q = some (.nd a true rows)) (ho : apdL d (AT.erL rows) = some out)
    (hn : noAl env = true) (hu : env[x]? = some .un)
    (qq : CtS K Φ io D env Np Lp (.nx ((erE env).set j (.iv (root.er.setP q (.nd true out)))))) :
    ∃ W : Nat → Nat → St → Hp → Prop, (∃ m, W 0 m σ H) ∧ ∀ i m σ H, W i m σ H →
      ((Itl K a).stop i H ∧ D.nx σ H) ∨ ((Itl K a).go i H ∧ ∃ N : St → Hp → Prop, (∀ σ' H', N σ' H' → ∃ m', m' < m ∧ W (i + 1) m' σ' H') ∧ ∀ w H', (Itl K a).yld i H w H' → gName x w σ H' fun σ2 H2 => tDrop (tBM K "list" rAppend (tVar x) (tCons (tC v) tNil)) { D with nx := N, ct := N, bk := D.nx } σ2 H2) := by
  have hjl := (List.getElem?_eq_some_iff.mp hj).1
  obtain ⟨o1, o2⟩ := apdL_at (v := v) rows out ho
  have hxj : j ≠ x := fun z => by
    subst z
    rw [hj] at hu
    cases hu
  let U : Nat → AT := fun i => .nd a true (rowsI v (.d d) rows i)
  let E : Nat → AEnv := fun i => env.set j (.iv (root.setP q (U i)))
  have gU : ∀ i, (root.setP q (U i)).getP q = some (U i) := fun i => AT.getP_set q root _ (U i) hg
  have eJ : ∀ i, (E i)[j]? = some (.iv (root.setP q (U i))) := fun i => List.getElem?_set_self hjl
  have eX : ∀ i, (E i)[x]? = some .un := fun i => by rw [List.getElem?_set_ne hxj]; exact hu
  have eN : ∀ i, noAl (E i) = true := fun i => noAl_set hn
  have eL : ∀ i, LkS env (E i) := fun i k t hk => by
    have hne : j ≠ k := fun z => by
      subst z
      rw [hj] at hk
      cases hk
    rw [List.getElem?_set_ne hne]
    exact hk
  have e0 : E 0 = env := by
    have h1 : rowsI v (.d d) rows 0 = rows := by simp [rowsI]
    show env.set j (.iv (root.setP q (.nd a true (rowsI v (.d d) rows 0)))) = env
    rw [h1, (AT.focus q root _ hg).1]
    exact set_self hj
  have node : ∀ (i : Nat), Sb (U i).nodes (nodesE (E i) ++ Np) := fun i => by
    have hr : rootOf (E i) j = some (root.setP q (U i)) := by simp only [rootOf, eJ i, Sl.tr]
    exact ((getP_sb (gU i)).1.trans (root_sb hr).1).trans (Sb.left _ _)
  refine ⟨fun i m σ H => m = rows.length - i ∧ i ≤ rows.length ∧ ∃ F, CB K Φ.g F H (nodesE (E i) ++ Np) (leavesE (E i) ++ Lp) ∧ SR (E i) σ ∧ SI io σ, ⟨_, rfl, Nat.zero_le _, F, by rw [e0]; exact c, by rw [e0]; exact s, hi⟩, ?_⟩
  rintro i m σ H ⟨rfl, hil, F, c, s, hi⟩
  have hH : H a = some (.lst (rows.map AT.val)) := by
    have := c.node (node i)
    rw [rowsI_val] at this
    exact this
  by_cases hlt : i < rows.length
  · obtain ⟨t, ht⟩ : ∃ t, rows[i]? = some t := ⟨_, List.getElem?_eq_getElem hlt⟩
    obtain ⟨b, ys, rfl, hl⟩ := o2 i t ht
    have hv : (rows.map AT.val)[i]? = some (.ref b) := by rw [List.getElem?_map, ht]; rfl
    refine .inr ⟨⟨_, _, SqL.of hH, hv⟩, fun σ' H' => ∃ F, CB K Φ.g F H' (nodesE (E (i + 1)) ++ Np) (leavesE (E (i + 1)) ++ Lp) ∧ SR (E (i + 1)) σ' ∧ SI io σ', fun σ' H' hN => ⟨rows.length - (i + 1), by omega, rfl, hlt, hN⟩, fun w H' hy => ?_⟩
    obtain ⟨rfl, hy⟩ := hy
    have hw : w = .ref b := by
      have := hy _ (SqL.of hH)
      rw [hv] at this
      cases this
      rfl
    subst hw
    have hxl : x < σ.length := by
      rw [← s.1]
      exact (List.getElem?_eq_some_iff.mp (eX i)).1
    -- the row
    have hgi : (root.setP q (U i)).getP (q ++ [i]) = some (.nd b true ys) := by
      rw [AT.getP_cat q [i] _ _ (gU i)]
      simp only [AT.getP, U, AT.kids, rowsI_at, ht]
    have s2 := s.setUn (v := .ref b) (eX i)
    have cl : CB K Φ.g F H' (nodesE (E i) ++ Np) (leavesE (E i) ++ ((v, .d d) :: Lp)) := (c.leaf (v := v) (l := .d d) (hd F)).sb (.refl _) fun p hp => by
      rcases List.mem_append.mp hp with z | z
      · exact List.mem_cons_of_mem _ (List.mem_append_left _ z)
      · rcases List.mem_cons.mp z with rfl | z
        · exact List.mem_cons_self
        · exact List.mem_cons_of_mem _ (List.mem_append_right _ z)
    obtain ⟨w1, w2⟩ := write_bag (kn := fun _ => false) (ys := ys ++ [.lf v (.d d)]) (M' := Np) (LM' := Lp) cl (eJ i) hgi (by
      simp only [AT.nodesL_append, AT.nodesL, AT.nodes, List.append_nil]
      exact Sb.refl _) (fun p hp => by
      rcases List.mem_append.mp hp with z | z
      · simp only [AT.leavesL_append, AT.leavesL, AT.leaves, List.append_nil] at z
        rcases List.mem_append.mp z with z | z
        · exact .inl z
        · exact .inr (List.mem_append_right _ (by rw [List.mem_singleton.mp z]; exact List.mem_cons_self))
      · exact .inr (List.mem_append_right _ (List.mem_cons_of_mem _ z)))
    · refine ⟨.ref b, List.getElem?_set_self hxl, .inl ⟨rfl, _, .inl (.inl w1)⟩, b, _, v, rfl, rfl, w1, by rw [List.length_map]; exact lim_lt hl, ?_⟩
      have e1 : (killX j (q ++ [i]) (fun _ => false) (E i)).set j (.iv ((root.setP q (U i)).setP (q ++ [i]) (.nd b true (ys ++ [.lf v (.d d)])))) = E (i + 1) := by
        rw [killX_no (eN i), setP_two q root _ _ _ i hg]
        have : (U i).setP [i] (.nd b true (ys ++ [.lf v (.d d)])) = U (i + 1) := by
          show AT.setP (.nd a true (rowsI v (.d d) rows i)) [i] (appA v (.d d) (.nd b true ys)) = .nd a true (rowsI v (.d d) rows (i + 1))
          simp only [AT.setP, AT.kids, rowsI_at, ht, AT.setK]
          rw [rowsI_set ht]
        rw [this]
        show (env.set j _).set j _ = env.set j _
        rw [List.set_set]
      have w3 := s2.write (kn := fun k => decide (ys.length ≤ k)) (ys := ys ++ [.lf v (.d d)]) (eJ i) hgi (fun k hk => by
        have : k < ys.length := by simpa using hk
        rw [List.getElem?_append_left this])
      rw [killX_no (eN i), ← killX_no (eN i) j (q ++ [i]) fun _ => false, e1] at w3
      rw [e1, List.map_append] at w2
      exact ⟨F, w2, w3, hi.set hio⟩
  · have e : i = rows.length := by omega
    subst e
    refine .inl ⟨⟨_, SqL.of hH, by rw [List.length_map]; exact Nat.le_refl _⟩, qq σ H F (E rows.length) c s hi ?_ (eL _)⟩
    have h1 : rowsI v (.d d) rows rows.length = rows.map (appA v (.d d)) := by simp [rowsI]
    show erE (env.set j (.iv (root.setP q (.nd a true (rowsI v (.d d) rows rows.length))))) = _
    rw [h1, set_er]
    simp only [Sl.map, AT.er_setP, AT.er, o1]
theorem ss_forAp {x : Nat} {n : Str} {i : Int} {kk : Nat} {pt pa pc pe apos cpos : Pos} (hp : PassesOwn (model X.prog X.w) X.A X.env X.xe) (hc : X.calm = true) (h : SE X Φ b it ma) (hN : X.N.Nodup) (hi : X.N[x]? = some n := by rfl) (hx : Loc X.env.scope n := by first | exact Or.inl rfl | exact Or.inr rfl) (hf : X.fn n = true ∨ X.env.scope.names.lookup n = some .local := by first | exact .inl rfl | exact .inr rfl | assumption) (hio : io.1 x = false := by rfl)
    (hv : Vis X.env.scope n := by first | exact Or.inl rfl | exact Or.inr (Or.inl rfl) | exact Or.inr (Or.inr rfl)) (hd : (n == ("__debug__" : Str)) = false := by decide) (hcd : (n == ("__classdict__" : Str)) = false := by decide)
    (hbase : attributeBase (.Name n pa) "append" X.env (eval (.Name n pa) X.env) = eval (.Name n pa) X.env := by rfl) (hline : (apos.endLine == cpos.line) = true := by rfl) (hst : starEach (.Constant (.int i) kk pc :: []) X.env = (false, eval (.Constant (.int i) kk pc) X.env) :: starEach [] X.env := by rfl)
    (hfew : ((backTo cpos (starEach [.Constant (.int i) kk pc] X.env)).all (fun x => !x.1) && (backToKw cpos (keywordEach [] X.env)).all (fun x => x.1.isSome) && decide (([.Constant (.int i) kk pc] : List Expr).length + ([] : List Keyword).length + (if ([] : List Keyword).isEmpty then 0 else 1) < 30)) = true := by rfl) (hpl : (backTo cpos (starEach [] X.env)).any (·.1) = false := by rfl)
    (hsw : swapsWith (.Call (.Attribute (.Name n pa) "append" apos) [.Constant (.int i) kk pc] [] cpos) none pe.line X.env = pure false := by rfl) (hs : ∀ x, foldedSetIterable it X.env x = pure x := by intro _; rfl) :
    SS X Φ io (.For (.Name n pt) it [.Expr (.Call (.Attribute (.Name n pa) "append" apos) [.Constant (.int i) kk pc] [] cpos) pe] [] pos) (forApS x (.int i) ma) := by
  refine PS.imp (ps_for hp hc (pi_list h) (pg_name hN hi hx hf) (pss_one (ps_expr (pe_bm PySem.F.plainAttrs_list PySem.F.slot_list_append PySem.F.type_list_append mt_append (pe_var hi hv hd hcd) (pa_cons pe_int pa_nil hst) hbase hfew hline hst hpl) hsw)) hs) fun D σ H q => ?_
  obtain ⟨F, env, Np, Lp, c, s, hsi, q⟩ := q
  refine seqES c s hsi q fun v H' F' env' ao c' s' t' p' q' => ?_
  cases ao with
  | tm t => exact q'.elim
  | vr j r =>
    have q' : CtS X.K Φ io D env' Np Lp (forAp2 x (.int i) j r (erE env')[j]? (erE env')) := q'
    rw [erE_get] at q'
    cases hj : env'[j]? with
    | none => rw [hj] at q'; exact q'.elim
    | some sl =>
      rw [hj] at q'
      cases sl with
      | un => exact q'.elim
      | al k p => exact q'.elim
      | lk t => exact q'.elim
      | iv root =>
        have q' : CtS X.K Φ io D env' Np Lp (forAp3 x (.int i) j r root.er (root.er.getP r) (erE env')) := q'
        rw [AT.er_getP] at q'
        cases hg : root.getP r with
        | none => rw [hg] at q'; exact q'.elim
        | some t =>
          rw [hg] at q'
          cases t with
          | lf w l => exact q'.elim
          | dk a kvs => exact q'.elim
          | nd a bb rows =>
            cases bb with
            | false => exact q'.elim
            | true =>
              have q' : CtS X.K Φ io D env' Np Lp (forAp4 x j r root.er (apdL (.int i) (AT.erL rows)) (erE env')) := q'
              cases ho : apdL (.int i) (AT.erL rows) with
              | none => rw [ho] at q'; exact q'.elim
              | some out =>
                rw [ho] at q'
                simp only [forAp4] at q'
                cases hn : noAl (erE env') && isUn (erE env')[x]? with
                | false => rw [hn] at q'; exact q'.elim
                | true =>
                  rw [hn] at q'
                  have n1 : noAl env' = true := by
                    rw [← noAl_er]
                    exact band1 hn
                  have n2 : env'[x]? = some .un := by
                    have := band2 hn
                    rw [erE_get] at this
                    cases hz : env'[x]? with
                    | none => rw [hz] at this; cases this
                    | some sl =>
                      rw [hz] at this
                      cases sl with
                      | un => rfl
                      | _ => cases this
                  have hv' : v = .ref a := by
                    obtain ⟨t, ht, e⟩ := t'
                    have : ctnA env' j r = some (.nd a true rows) := by
                      simp only [ctnA, rsv, hj, rootOf, Sl.tr, List.nil_append]
                      exact hg
                    have ht : ctnA env' j r = some t := ht
                    rw [this] at ht
                    cases ht
                    exact e.symm
                  have c2 := c'.drop1
                  have hH : H' a = some (.lst (rows.map AT.val)) := by
                    have hr : rootOf env' j = some root := by simp only [rootOf, hj, Sl.tr]
                    exact c2.node (((getP_sb hg).1.trans (root_sb hr).1).trans (Sb.left _ _))
                  exact ⟨a, hv', ⟨_, SqL.of hH⟩, forAp_run hio (fun F => .int i) c2 s' hsi hj hg ho n1 n2 q'⟩
/-! ### o.clear() -/
def clrF (xs : List IV) : Option (List IV × (Nat → Bool) × Unit) := some ([], fun _ => true, ())
def clrR (o : O) (e : Env') : R O := R.bind (writeR o e clrF) fun _ e' => .ok (.tm (.d .none)) e'
def clrM (mo : M O) : M O := methM true mo nilM fun o _ e => clrR o e
variable {mo mk md : M O} {x y o : Expr} {p : Pos}
theorem t_clear (q : tE K Φ false (clrM mo) σ H Q) : tBM0 K "list" rClear (tE K Φ b1 mo) σ H Q := by
  refine meth0 q rfl fun v1 H2 F2 env2 ao1 Np Lp c s t1 q => ?_
  have c' : CB K Φ.g F2 H2 (nodesE env2 ++ (Opd.nodes ao1 ++ Np)) (leavesE env2 ++ ((V.non, LF.d .none) :: (Opd.leaves ao1 ++ Lp))) := (c.noneL).sb (.refl _) fun q hq => by
    rcases List.mem_append.mp hq with z | z
    · exact List.mem_cons_of_mem _ (List.mem_append_left _ z)
    · rcases List.mem_cons.mp z with rfl | z
      · exact List.mem_cons_self
      · exact List.mem_cons_of_mem _ (List.mem_append_right _ z)
  simp only [clrR] at q
  obtain ⟨i, r, j, p, root, a, xs, ys, kn, z, rfl, hr, hj, hg, hf, hc, hw⟩ := write_at rfl (q_bad q)
  rw [hw] at q
  cases hf
  obtain ⟨hH, hq⟩ := Ct.wr (t := noneA) (ys := []) q c' s hj hg (fun i hi => absurd hi (by simp)) (by
    simp only [AT.nodesL, List.nil_append, noneA, AT.nodes, Opd.nodes]
    exact Sb.right _ _) (fun q hq => by
    simp only [AT.leavesL, noneA, AT.leaves, List.nil_append, List.cons_append] at hq
    refine .inr (List.mem_append_right _ ?_)
    rcases List.mem_cons.mp hq with rfl | z
    · exact List.mem_cons_self
    · exact List.mem_cons_of_mem _ (List.mem_append_right _ z))
  exact ⟨a, xs.map AT.val, (ex_all t1 _ hc).symm, rfl, hH, hq⟩
theorem me_clear {apos cpos : Pos} (ho : SE X Φ b1 o mo) (hbase : attributeBase o "clear" X.env (eval o X.env) = eval o X.env := by rfl) (hline : (apos.endLine == cpos.line) = true := by rfl) :
    SE X Φ false (.Call (.Attribute o "clear" apos) [] [] cpos) (clrM mo) :=
  PE.imp (pe_bm0 PySem.F.plainAttrs_list PySem.F.slot_list_clear PySem.F.type_list_clear mt_clear ho hbase hline) fun σ H Q q => t_clear q
/-! ### d.get(k, x) -/
def isDc : Option PyData → Bool
  | some (.dict _) => true
  | _ => false
def getD3 : Option PyData → Option PyData → Option PyData → Option PyData
  | some (.dict des), some k, some d => (keyD k).map fun k => (findD k des).getD d
  | _, _, _ => none
def getM (mo mk md : M O) : M O := fun e => R.bind (mo e) fun o e1 => if isDc (O.dat o e1) then R.bind (mk e1) fun k e2 => R.bind (md e2) fun d e3 => outM (getD3 (O.dat o e3) (O.dat k e3) (O.dat d e3)) e3 else .bad
theorem t_get (q : tE K Φ false (getM mo mk md) σ H Q) : tDGet2 (tE K Φ b1 mo) (tE K Φ true mk) (tE K Φ true md) σ H Q := by
  refine seqE q (fun z => absurd z Bool.false_ne_true) fun v1 H1 F1 env env1 ao1 Np Lp c1 s1 t1 p1 q1 => ?_
  cases hl : O.dat (Opd.er ao1) (erE env1) with
  | none => rw [hl] at q1; exact q1.elim
  | some d1 =>
    cases d1 with
    | dict des =>
      rw [hl] at q1
      obtain ⟨u1, g1, k1⟩ := dat_of hl
      have e1 : u1.val = v1 := ex_all t1 _ g1
      have r1 := c1.tree g1 k1
      rw [e1] at r1
      cases r1 with
      | dct ha hs =>
        refine ⟨_, rfl, .inl ⟨_, .inl ha⟩, ?_⟩
        refine seqA (b := false) (f := fun k e2 => R.bind (md e2) fun d e3 => outM (getD3 (O.dat (Opd.er ao1) e3) (O.dat k e3) (O.dat d e3)) e3) c1 s1 q1 (fun z => absurd z Bool.false_ne_true) fun v2 H2 F2 env2 ao2 c2 s2 t2 p2 q2 => ?_
        refine seqA (b := false) (A := Opd.nodes ao2 ++ Opd.nodes ao1) (B := Opd.leaves ao2 ++ Opd.leaves ao1) (by simpa [List.append_assoc] using c2) s2 q2 (fun z => absurd z Bool.false_ne_true) fun v3 H3 F3 env3 ao3 c3 s3 t3 p3 q3 => ?_
        obtain ⟨z2, l2⟩ := p2 rfl
        obtain ⟨z3, l3⟩ := p3 rfl
        subst z3
        subst z2
        have c3' : CB K Φ.g F3 H3 (nodesE env3 ++ (Opd.nodes ao3 ++ (Opd.nodes ao2 ++ (Opd.nodes ao1 ++ Np)))) (leavesE env3 ++ (Opd.leaves ao3 ++ (Opd.leaves ao2 ++ (Opd.leaves ao1 ++ Lp)))) := by simpa [List.append_assoc] using c3
        obtain ⟨d, hd, kk⟩ := q3.out (c3'.drop2.drop1) s3
        rw [hl] at hd
        cases h2 : O.dat (Opd.er ao2) (erE env3) with
        | none => rw [h2] at hd; cases hd
        | some d2 =>
          cases h3 : O.dat (Opd.er ao3) (erE env3) with
          | none => rw [h2, h3] at hd; cases hd
          | some d3 =>
            rw [h2, h3] at hd
            simp only [getD3] at hd
            cases hk : keyD d2 with
            | none => rw [hk] at hd; cases hd
            | some key =>
              rw [hk] at hd
              simp only [Option.map_some, Option.some.injEq] at hd
              obtain ⟨u2, g2, k2⟩ := dat_of h2
              obtain ⟨u3, g3, k3⟩ := dat_of h3
              have r2 := (c2.tree g2 k2)
              rw [ex_all t2 _ g2] at r2
              have r3 := (c3'.tree g3 k3)
              rw [ex_all t3 _ g3] at r3
              have ey := dq_key r2 hk
              subst ey
              have hle := l2.trans l3
              refine ⟨_, .inl ⟨_, key, .inl (hle _ _ ha), rfl, rfl⟩, ?_⟩
              obtain ⟨f1, f2⟩ := dqe_find (k := key) hs
              cases hfi : findD key des with
              | none =>
                rw [hfi] at hd
                rw [f2 hfi]
                simp only [Option.getD_none] at hd ⊢
                subst hd
                exact kk _ _ r3
              | some dd =>
                rw [hfi] at hd
                obtain ⟨v, hv, dv⟩ := f1 dd hfi
                rw [hv]
                simp only [Option.getD_some] at hd ⊢
                subst hd
                exact kk _ _ dv
    | _ => rw [hl] at q1; exact q1.elim
theorem me_get {k : Nat} {o x y : Expr} {apos cpos : Pos} (hr : Room k X.A) (ho : SE X Φ b1 o mo) (hk : SE X Φ true x mk) (hd : SE X Φ true y md) (m : M2 X o "get" apos x y cpos := by exact ⟨rfl, rfl, rfl, rfl⟩) :
    SE X Φ false (.Call (.Attribute o "get" apos) [x, y] [] cpos) (getM mo mk md) :=
  PE.imp (pe_dget2 (Nat.lt_of_le_of_lt (by omega) (room65 hr)) ho hk hd m) fun σ H Q q => t_get q
end
end Z
/-! Z38: repr(x). -/
namespace Z
open PySem L2
section
variable {X : Cx} {pins : List (Addr × Obj)} {σ : L2.St} {H : Hp} {s : Shared}
/-- what is told of a datum that is written out -/
structure Wr (P : Program) (w : World) (h : Heap) (u : Value) (d : PyData) : Prop where
  ex : ∃ as bs, Reads h u d as ∧ ReadAtMost h d.depth bs ∧ ReprK P w bs h d.depth u d.shown
structure WrL (P : Program) (w : World) (h : Heap) (us : List Value) (ds : List PyData) : Prop where
  ex : ∃ as bs, ReadsAll h us ds as ∧ ReadAtMost h (PyData.depthAll ds) bs ∧ ReprAllK P w bs h (PyData.depthAll ds) us (PyData.shownAll ds)
theorem WrL.cons {P : Program} {w : World} {h : Heap} {u : Value} {us : List Value} {d : PyData} {ds : List PyData} (a : Wr P w h u d) (b : WrL P w h us ds) : WrL P w h (u :: us) (d :: ds) := by
  obtain ⟨as, bs, r, n, k⟩ := a.ex
  obtain ⟨as', bs', r', n', k'⟩ := b.ex
  have l1 : d.depth ≤ PyData.depthAll (d :: ds) := by
    simp only [PyData.depthAll]
    omega
  have l2 : PyData.depthAll ds ≤ PyData.depthAll (d :: ds) := by
    simp only [PyData.depthAll]
    omega
  refine ⟨_, bs ++ bs', .cons r r', (n.mono l1).append (n'.mono l2), ?_⟩
  simp only [PyData.shownAll]
  exact .cons ((k.more fun b hb => List.mem_append_left _ hb).level_le l1) (k'.more_le (fun b hb => List.mem_append_right _ hb) l2)
theorem WrL.nil {P : Program} {w : World} {h : Heap} : WrL P w h [] [] := ⟨[], [], .nil, fun _ z => (nomatch z), by simp only [PyData.shownAll]; exact .nil⟩
/-- a key as it stands -/
theorem wr_key {P : Program} {w : World} {h : Heap} {k : Key} {u : Value} (hk : (mixKind P w).is k u = true) (hs : (kD k).showable = true) (hz : (kD k).shown.length ≤ sizeLine) : Wr P w h u (kD k) := by
  rcases keyIs_shape hk with ⟨i, t, rfl, rfl⟩ | ⟨x, t, rfl, rfl⟩
  · exact ⟨_, [], .int i t, fun _ z => (nomatch z), by
      simp only [kD, PyData.shown]
      exact .of_is (ReprIs.int t (by simpa [kD, PyData.showable] using hs)) _ _ _⟩
  · exact ⟨_, [], .str x t, fun _ z => (nomatch z), by
      simp only [kD, PyData.shown]
      exact .of_is (ReprIs.str x t (by simpa only [kD, PyData.shown] using hz)) _ _ _⟩
theorem wr_list {P : Program} {w : World} {h : Heap} {a : Addr} {o : Obj} {us : List Value} {n : Nat} {ds : List PyData} (h1 : h.get? a = some o) (h2 : o.cls = .type "list") (h3 : o.data = .seq us.toArray n) (l : WrL P w h us ds) : Wr P w h (.ref a) (.list ds) := by
  obtain ⟨as, bs, r, m, k⟩ := l.ex
  have whole : Reads h (.ref a) (.list ds) (a :: as) := .list h1 h2 h3 (by simpa using r)
  have up : PyData.depthAll ds < (PyData.list ds).depth := by
    simp only [PyData.depth]
    omega
  refine ⟨_, a :: bs, whole, .cons whole (Nat.le_refl _) (m.mono (Nat.le_of_lt up)), ?_⟩
  simp only [PyData.depth, PyData.shown]
  cases us with
  | nil =>
    cases r
    simp only [PyData.shownAll, listText_nil]
    exact ReprK.listEmpty h1 h2 h3
  | cons u us => exact ReprK.list h1 h2 h3 (not_mem_of_deeper whole up m) (by simpa using k.length_eq) fun i y e => k.item i y (by simpa using e)
theorem wr_tup {P : Program} {w : World} {h : Heap} {a : Addr} {o : Obj} {its : Array Value} {n : Nat} {ds : List PyData} (h1 : h.get? a = some o) (h2 : o.cls = .type "tuple") (h3 : o.data = .seq its n) (l : WrL P w h its.toList ds) : Wr P w h (.ref a) (.tuple ds) := by
  obtain ⟨as, bs, r, m, k⟩ := l.ex
  have whole : Reads h (.ref a) (.tuple ds) as := .tuple h1 h2 h3 r
  have up : PyData.depthAll ds < (PyData.tuple ds).depth := by
    simp only [PyData.depth]
    omega
  refine ⟨_, a :: bs, whole, .cons whole (Nat.le_refl _) (m.mono (Nat.le_of_lt up)), ?_⟩
  simp only [PyData.depth, PyData.shown]
  exact ReprK.tuple h1 h2 h3 (not_mem_of_deeper whole up m) k
/-- the facts of a dict -/
structure WrD (P : Program) (w : World) (h : Heap) (a : Addr) (kvs : List (PyData × PyData)) : Prop where
  ex : ∃ o es n, h.get? a = some o ∧ o.cls = .type "dict" ∧ o.data = .dict es n ∧ (a == sysModules) = false ∧ WrL P w h (es.toList.map (·.key)) (kvs.map (·.1)) ∧ WrL P w h (es.toList.map (·.val)) (kvs.map (·.2))
theorem WrD.all {P : Program} {w : World} {h : Heap} {a : Addr} {kvs : List (PyData × PyData)} (l : WrD P w h a kvs) : ∃ o es n bs, h.get? a = some o ∧ o.cls = .type "dict" ∧ o.data = .dict es n ∧ (a == sysModules) = false ∧ a ∉ bs ∧ ReadAtMost h (PyData.depthKv kvs) bs ∧ (∃ as, Reads h (.ref a) (.dict kvs) as) ∧
    ReprEntriesK P w bs h (PyData.depthKv kvs) es.toList (PyData.shownKv kvs) := by
  obtain ⟨o, es, n, h1, h2, h3, h4, l1, l2⟩ := l.ex
  obtain ⟨a1, b1, r1, m1, k1⟩ := l1.ex
  obtain ⟨a2, b2, r2, m2, k2⟩ := l2.ex
  have whole : Reads h (.ref a) (.dict kvs) _ := .dict h1 h2 h3 r1 r2
  have m := (m1.mono (PyData.depthAll_keys_le kvs)).append (m2.mono (PyData.depthAll_vals_le kvs))
  refine ⟨o, es, n, b1 ++ b2, h1, h2, h3, h4, not_mem_of_deeper whole (by simp only [PyData.depth]; omega) m, m, ⟨_, whole⟩, ?_⟩
  rw [PyData.shownKv_eq]
  exact ReprEntriesK.of_two es.toList _ _ (k1.more_le (fun _ z => List.mem_append_left _ z) (PyData.depthAll_keys_le kvs)) (k2.more_le (fun _ z => List.mem_append_right _ z) (PyData.depthAll_vals_le kvs))
theorem WrD.wr {P : Program} {w : World} {h : Heap} {a : Addr} {kvs : List (PyData × PyData)} (l : WrD P w h a kvs) : Wr P w h (.ref a) (.dict kvs) := by
  obtain ⟨o, es, n, bs, h1, h2, h3, h4, h5, m, ⟨as, whole⟩, k⟩ := l.all
  refine ⟨_, a :: bs, whole, .cons whole (Nat.le_refl _) (m.mono (by simp only [PyData.depth]; omega)), ?_⟩
  simp only [PyData.depth, PyData.shown]
  exact ReprK.dict h1 h2 h3 h4 h5 k
def wrOk (d : PyData) : Prop := d.showable = true ∧ d.shown.length ≤ sizeLine
def wrOkL (ds : List PyData) : Prop := PyData.showableAll ds = true ∧ ∀ t ∈ PyData.shownAll ds, t.length ≤ sizeLine
theorem wrOkL.one {d : PyData} {ds : List PyData} (h : wrOkL (d :: ds)) : wrOk d ∧ wrOkL ds := by
  obtain ⟨h1, h2⟩ := h
  simp only [PyData.showableAll, Bool.and_eq_true] at h1
  simp only [PyData.shownAll, List.mem_cons, forall_eq_or_imp] at h2
  exact ⟨⟨h1.1, h2.1⟩, h1.2, h2.2⟩
theorem wrOk.list {ds : List PyData} (h : wrOk (.list ds)) : wrOkL ds := ⟨by simpa [PyData.showable] using h.1, fun t z => Nat.le_trans (listText_mem_le z) (by simpa only [PyData.shown] using h.2)⟩
theorem wrOk.tup {ds : List PyData} (h : wrOk (.tuple ds)) : wrOkL ds := ⟨by simpa [PyData.showable] using h.1, fun t z => Nat.le_trans (tupleText_mem_le z) (by simpa only [PyData.shown] using h.2)⟩
theorem wrOk.dct {ds : List (PyData × PyData)} (h : wrOk (.dict ds)) : wrOkL (ds.map (·.1)) ∧ wrOkL (ds.map (·.2)) := by
  obtain ⟨h1, h2⟩ := PyData.showableKv_split ds (by simpa [PyData.showable] using h.1)
  have h3 : (dictText (PyData.shownKv ds)).length ≤ sizeLine := by simpa only [PyData.shown] using h.2
  refine ⟨⟨h1, fun t z => ?_⟩, h2, fun t z => ?_⟩
  · obtain ⟨p, hp, hl⟩ := PyData.shownKv_key_le ds t z
    exact Nat.le_trans hl (Nat.le_trans (dictText_mem_le hp) h3)
  · obtain ⟨p, hp, hl⟩ := PyData.shownKv_val_le ds t z
    exact Nat.le_trans hl (Nat.le_trans (dictText_mem_le hp) h3)
mutual
theorem Dq.wr (I : Inv X pins σ H s) : ∀ {v : V} {d : PyData} {u : Value}, Dq X.K H v d → RelV v u → wrOk d → Wr X.prog X.w s.heap u d
  | _, _, _, .non, r, _ => by
    cases r
    exact ⟨_, [], .none, fun _ z => (nomatch z), by simp only [PyData.shown]; exact .of_is ReprIs.none _ _ _⟩
  | _, _, _, .bl b, r, _ => by
    cases r
    exact ⟨_, [], .bool b, fun _ z => (nomatch z), by simp only [PyData.shown]; exact .of_is (ReprIs.bool b) _ _ _⟩
  | _, _, _, .int i, r, ok => by
    obtain ⟨t, rfl⟩ := r
    exact wr_key (k := .inl i) (P := X.prog) (w := X.w) (keyIs_int i t) ok.1 ok.2
  | _, _, _, .str x, r, ok => by
    obtain ⟨t, rfl⟩ := r
    exact wr_key (k := .inr x) (P := X.prog) (w := X.w) (keyIs_str x t) ok.1 ok.2
  | _, _, _, .lst ha hs, r, ok => by
    cases r
    obtain ⟨its, rv, ⟨o, n, h1, h2, _, h3⟩, _⟩ := I.list (SqL.of ha)
    exact wr_list h1 h2 (us := its) h3 (DqL.wr I hs rv ok.list)
  | _, _, _, .tup ha hs, r, ok => by
    cases r
    obtain ⟨its, rv, ⟨o, h1, h2, n, h3⟩, _⟩ := I.tuple ha
    exact wr_tup h1 h2 h3 (by simpa using DqL.wr I hs rv ok.tup)
  | _, _, _, .dct ha hs, r, ok => by
    cases r
    obtain ⟨_, h4, vs, kv, o, es, ep, h1, h2, h3, _, h5, _⟩ := dk_rd I.hok (.inl ha)
    obtain ⟨o1, o2⟩ := ok.dct
    obtain ⟨l1, l2⟩ := DqE.wr I hs kv h5 o1 o2
    exact (WrD.mk ⟨o, es, ep, h1, h2.1, h3, h4, l1, l2⟩).wr
theorem DqL.wr (I : Inv X pins σ H s) : ∀ {vs : List V} {ds : List PyData} {us : List Value}, DqL X.K H vs ds → Vals vs us → wrOkL ds → WrL X.prog X.w s.heap us ds
  | _, _, _, .nil, r, _ => by
    cases r
    exact .nil
  | _, _, _, .cons h hs, r, ok => by
    cases r with
    | cons r rs =>
      obtain ⟨o1, o2⟩ := ok.one
      exact .cons (Dq.wr I h r o1) (DqL.wr I hs rs o2)
theorem DqE.wr (I : Inv X pins σ H s) : ∀ {kvs : List (Key × V)} {des : List (PyData × PyData)} {vs : List (Key × Value)} {es : List DictEntry}, DqE X.K H kvs des → KV kvs vs → Pairs (mixKind X.prog X.w) es vs → wrOkL (des.map (·.1)) → wrOkL (des.map (·.2)) →
    WrL X.prog X.w s.heap (es.map (·.key)) (des.map (·.1)) ∧ WrL X.prog X.w s.heap (es.map (·.val)) (des.map (·.2))
  | _, _, _, _, .nil, kv, p, _, _ => by
    cases kv
    cases p
    exact ⟨.nil, .nil⟩
  | _, _, _, _, .cons h hs, kv, p, o1, o2 => by
    cases kv with
    | cons r rs =>
      cases p with
      | cons p1 p2 ps =>
        obtain ⟨a1, a2⟩ := o1.one
        obtain ⟨b1, b2⟩ := o2.one
        obtain ⟨l1, l2⟩ := DqE.wr I hs rs ps a2 b2
        refine ⟨.cons ?_ l1, .cons ?_ l2⟩
        · have e := r.1
          simp only at e
          subst e
          exact wr_key p1 a1.1 a1.2
        · have l := Dq.wr I h r.2 b1
          rw [← p2] at l
          exact l
end
/-! ### how long it is -/
mutual
def rsz : PyData → Nat
  | .none => 1
  | .bool _ => 1
  | .int i => if i.natAbs < 10 ^ 30 then 110 else 1000000
  | .str x => if (x.cps.toList.all fun c => decide (c < 4294967296)) = true then x.cps.size + 1 else 1000000
  | .list xs => rszL xs + 1
  | .tuple xs => rszL xs + 1
  | .dict kvs => rszD kvs + 1
def rszL : List PyData → Nat
  | [] => 0
  | x :: xs => rsz x + 1 + rszL xs
def rszD : List (PyData × PyData) → Nat
  | [] => 0
  | (k, v) :: r => rsz k + rsz v + 2 + rszD r
end
mutual
theorem rsz_ok : ∀ d : PyData, rsz d ≤ 400000 → d.showable = true ∧ d.leavesShort 31 = true ∧ d.weight ≤ rsz d
  | .none, _ => by simp [PyData.showable, PyData.leavesShort, PyData.weight]
  | .bool b, _ => by simp [PyData.showable, PyData.leavesShort, PyData.weight]
  | .int i, h => by
    simp only [rsz] at h ⊢
    by_cases hi : i.natAbs < 10 ^ 30
    · rw [if_pos hi]
      have hl : i.natAbs.log2 < 100 := by
        by_cases h0 : i.natAbs = 0
        · rw [h0]
          decide
        · exact (Nat.log2_lt h0).mpr (Nat.lt_trans hi (by decide))
      refine ⟨by simp only [PyData.showable, decide_eq_true_eq]; omega, ?_, ?_⟩
      · simp only [PyData.leavesShort, decide_eq_true_eq]
        have e := int_text_length_le10 (k := 30) (by decide) hi
        show (Str.ofString (toString i)).length ≤ 31
        rw [ofString_length]
        exact e
      · simp only [PyData.weight]
        split <;> omega
    · rw [if_neg hi] at h
      omega
  | .str x, h => by
    simp only [rsz] at h ⊢
    by_cases hx : (x.cps.toList.all fun c => decide (c < 4294967296)) = true
    · rw [if_pos hx]
      refine ⟨by simp [PyData.showable], ?_, by simp only [PyData.weight]; omega⟩
      simpa only [PyData.leavesShort] using hx
    · rw [if_neg hx] at h
      omega
  | .list xs, h => by
    simp only [rsz] at h ⊢
    obtain ⟨h1, h2, h3⟩ := rszL_ok xs (by omega)
    exact ⟨by simpa only [PyData.showable] using h1, by simpa only [PyData.leavesShort] using h2, by simp only [PyData.weight]; omega⟩
  | .tuple xs, h => by
    simp only [rsz] at h ⊢
    obtain ⟨h1, h2, h3⟩ := rszL_ok xs (by omega)
    exact ⟨by simpa only [PyData.showable] using h1, by simpa only [PyData.leavesShort] using h2, by simp only [PyData.weight]; omega⟩
  | .dict kvs, h => by
    simp only [rsz] at h ⊢
    obtain ⟨h1, h2, h3⟩ := rszD_ok kvs (by omega)
    exact ⟨by simpa only [PyData.showable] using h1, by simpa only [PyData.leavesShort] using h2, by simp only [PyData.weight]; omega⟩
theorem rszL_ok : ∀ ds : List PyData, rszL ds ≤ 400000 → PyData.showableAll ds = true ∧ PyData.leavesShortAll 31 ds = true ∧ PyData.weightAll ds ≤ rszL ds
  | [], _ => by simp [PyData.showableAll, PyData.leavesShortAll, PyData.weightAll]
  | x :: xs, h => by
    simp only [rszL] at h ⊢
    obtain ⟨h1, h2, h3⟩ := rsz_ok x (by omega)
    obtain ⟨k1, k2, k3⟩ := rszL_ok xs (by omega)
    exact ⟨by simp only [PyData.showableAll, h1, k1, Bool.and_self], by simp only [PyData.leavesShortAll, h2, k2, Bool.and_self], by simp only [PyData.weightAll]; omega⟩
theorem rszD_ok : ∀ ds : List (PyData × PyData), rszD ds ≤ 400000 → PyData.showableKv ds = true ∧ PyData.leavesShortKv 31 ds = true ∧ PyData.weightKv ds ≤ rszD ds
  | [], _ => by simp [PyData.showableKv, PyData.leavesShortKv, PyData.weightKv]
  | (k, v) :: xs, h => by
    simp only [rszD] at h ⊢
    obtain ⟨h1, h2, h3⟩ := rsz_ok k (by omega)
    obtain ⟨j1, j2, j3⟩ := rsz_ok v (by omega)
    obtain ⟨k1, k2, k3⟩ := rszD_ok xs (by omega)
    exact ⟨by simp only [PyData.showableKv, h1, j1, k1, Bool.and_self], by simp only [PyData.leavesShortKv, h2, j2, k2, Bool.and_self], by simp only [PyData.weightKv]; omega⟩
end
def okR (d : PyData) : Bool := decide (rsz d ≤ 400000) && decide (d.depth ≤ 40)
theorem okR_wr {d : PyData} (h : okR d = true) : wrOk d ∧ d.depth ≤ 40 := by
  simp only [okR, Bool.and_eq_true, decide_eq_true_eq] at h
  obtain ⟨h1, h2, h3⟩ := rsz_ok d h.1
  refine ⟨⟨h1, ?_⟩, h.2⟩
  have e := PyData.shown_le 31 (by decide) d h2
  have e2 : (31 + 2) * d.weight ≤ 33 * 400000 := Nat.mul_le_mul (by decide) (by omega)
  rw [sizeLine_eq]
  omega
def fRepr (d : PyData) : Option PyData := if okR d = true then some (.str d.shown) else none
def rRepr (K : PySem.W.Frag) : List V → Hp → VK → Prop := fun xs H Q => ∃ x d, xs = [x] ∧ Dq K H x d ∧ okR d = true ∧ Q (.str d.shown) H
theorem call_reprG {k : Nat} (hr : Room k X.A) : CallR X (.builtin "repr") (rRepr X.K) := by
  intro pins s σ H xs us Q I rel h
  obtain ⟨x, d, rfl, dq, ok, q⟩ := h
  obtain ⟨u, rfl, r⟩ := vals1 rel
  obtain ⟨wo, dep⟩ := okR_wr ok
  have un := hr.un
  have fin : ∀ (h' : Heap) (t : Tok) (tk : Nat), (∀ b o, s.heap.get? b = some o → h'.get? b = some o) → EP X pins σ Q (.str d.shown t) { s with heap := h', toks := tk } := fun h' t tk k => ⟨.str d.shown, H, I.kept k, ⟨_, rfl⟩, q⟩
  have clr : ∀ (bs : List Addr), ∀ b ∈ bs, Clear ([] : List Code) b := fun _ b _ => Clear.nil b
  cases dq with
  | non =>
    cases r
    exact PySem.P.repr_of_none (by simpa only [PyData.shown] using fin s.heap _ _ fun _ _ e => e)
  | bl b =>
    cases r
    exact PySem.P.repr_of_bool (by simpa only [PyData.shown] using fin s.heap _ _ fun _ _ e => e)
  | int i =>
    obtain ⟨t, rfl⟩ := r
    exact PySem.P.repr_of_int (by simpa [PyData.showable] using wo.1) (by simpa only [PyData.shown] using fin s.heap _ _ fun _ _ e => e)
  | str y =>
    obtain ⟨t, rfl⟩ := r
    exact PySem.P.repr_of_str (by simpa only [PyData.shown] using fin s.heap _ _ fun _ _ e => e) (by simpa only [PyData.shown] using wo.2)
  | lst ha hs =>
    cases r
    obtain ⟨its, rv, ⟨o, n, h1, h2, _, h3⟩, _⟩ := I.list (SqL.of ha)
    obtain ⟨as, bs, rd, m, kk⟩ := (DqL.wr I hs rv wo.list).ex
    refine call_repr_slot (T := "list") (idr := "list.__repr__") (by omega) ⟨o, h1, h2⟩ F.slot_list_repr.toG ?_
    cases its with
    | nil =>
      cases rd
      refine call_list_repr_empty ⟨o, h1, h2⟩ h1 h3 ⟨_, _, rfl, ?_⟩
      have := fin s.heap s.toks (s.toks + 1) fun _ _ e => e
      simp only [PyData.shown, PyData.shownAll, listText_nil] at this
      exact this
    | cons y l =>
      simp only [PyData.depth] at dep
      have whole : Reads s.heap (.ref _) (.list _) _ := .list h1 h2 h3 (by simpa using rd)
      refine call_list_reprK h1 h2 h3 (not_mem_of_deeper whole (by simp only [PyData.depth]; omega) m) (by simpa using kk.length_eq) (fun i z e => kk.item i z (by simpa using e)) hr.gu (clr _) (by show X.A.units + 1 + _ < _; omega) (fun _ _ e => e) (fun h' t tk k => ⟨_, _, rfl, ?_⟩) (by simpa only [PyData.shown] using wo.2)
      simpa only [PyData.shown] using fin h' t tk k
  | tup ha hs =>
    cases r
    obtain ⟨its, rv, ⟨o, h1, h2, n, h3⟩, _⟩ := I.tuple ha
    obtain ⟨as, bs, rd, m, kk⟩ := (DqL.wr I hs rv wo.tup).ex
    simp only [PyData.depth] at dep
    have whole : Reads s.heap (.ref _) (.tuple _) _ := .tuple h1 h2 h3 (by simpa using rd)
    refine call_repr_slot (T := "tuple") (idr := "tuple.__repr__") (by omega) ⟨o, h1, h2⟩ F.slot_tuple_repr ?_
    refine call_tuple_reprK h1 h2 h3 (not_mem_of_deeper whole (by simp only [PyData.depth]; omega) m) (by simpa using kk) hr.gu (clr _) (by show X.A.units + 1 + _ < _; omega) (fun _ _ e => e) (fun h' t tk k => ⟨_, _, rfl, ?_⟩) (by simpa only [PyData.shown] using wo.2)
    simpa only [PyData.shown] using fin h' t tk k
  | dct ha hs =>
    cases r
    obtain ⟨_, h4, vs, kv, o, es, ep, h1, h2, h3, _, h5, _⟩ := dk_rd I.hok (.inl ha)
    obtain ⟨o1, o2⟩ := wo.dct
    obtain ⟨l1, l2⟩ := DqE.wr I hs kv h5 o1 o2
    obtain ⟨o', es', n', bs, g1, g2, g3, g4, g5, m, _, kk⟩ := (WrD.mk ⟨o, es, ep, h1, h2.1, h3, h4, l1, l2⟩).all
    simp only [PyData.depth] at dep
    refine call_repr_slot (T := "dict") (idr := "dict.__repr__") (by omega) ⟨o', g1, g2⟩ F.slot_dict_repr ?_
    refine call_dict_reprK g1 g2 g3 g4 g5 kk hr.gu (clr _) (by show X.A.units + 1 + _ < _; omega) (fun _ _ e => e) (fun h' t tk k => ⟨_, _, rfl, ?_⟩) (by simpa only [PyData.shown] using wo.2)
    simpa only [PyData.shown] using fin h' t tk k
variable {Φ : Fx} {b : Bool} {x : Expr} {ma : M O} {pos : Pos}
theorem se_repr {k : Nat} {p : Pos} (hr : Room k X.A) (hg : Gl X "repr") (hm : X.mg "repr" = none) (ha : SE X Φ b x ma) (hst : starEach [x] X.env = (false, eval x X.env) :: starEach [] X.env := by rfl) : SE X Φ b (.Call (.Name "repr" p) [x] [] pos) (un1M fRepr ma) :=
  PE.imp (pe_callB (call_reprG hr) hg hm (by decide +kernel) (pa_cons ha pa_nil hst) (by decide) (by decide) hst rfl) fun σ H Q q =>
    seqE q (fun z => z) fun v1 H1 F1 env env1 ao Np Lp c1 s1 t1 p1 q1 => op1_end (r := fun v => rRepr X.K [v]) (f := fRepr) (fun v d1 d H Q h1 hf k => by
      simp only [fRepr] at hf
      split at hf
      · next ok =>
        cases hf
        exact ⟨v, d1, rfl, h1, ok, k _ (.str _)⟩
      · cases hf) c1 s1 t1 q1
end
end Z
/-! Z39: dict(enumerate(xs)). -/
namespace Z
open PySem L2
def enK {α : Type} : Nat → List α → List (Key × α)
  | _, [] => []
  | n, x :: xs => (.inl (n : Int), x) :: enK (n + 1) xs
theorem enK_len {α : Type} : ∀ (n : Nat) (xs : List α), (enK n xs).length = xs.length
  | _, [] => rfl
  | n, x :: xs => by simp [enK, enK_len (n + 1) xs]
theorem enK_get {α : Type} : ∀ (n : Nat) (xs : List α) (i : Nat), (enK n xs)[i]? = xs[i]?.map fun x => (.inl ((n + i : Nat) : Int), x)
  | _, [], i => by simp [enK]
  | n, x :: xs, 0 => by simp [enK]
  | n, x :: xs, i + 1 => by
    simp only [enK, List.getElem?_cons_succ]
    rw [enK_get (n + 1) xs i]
    have : n + 1 + i = n + (i + 1) := by omega
    rw [this]
theorem enK_key {α : Type} : ∀ (n : Nat) (xs : List α), (∀ k ∈ (enK n xs).map Prod.fst, ∃ m : Nat, n ≤ m ∧ k = .inl (m : Int)) ∧ ((enK n xs).map Prod.fst).Nodup
  | n, [] => ⟨fun k h => by simp [enK] at h, by simp [enK]⟩
  | n, x :: xs => by
    obtain ⟨h1, h2⟩ := enK_key (n + 1) xs
    simp only [enK, List.map_cons, List.mem_cons, List.nodup_cons]
    refine ⟨?_, ?_, h2⟩
    · rintro k (rfl | h)
      · exact ⟨n, Nat.le_refl _, rfl⟩
      · obtain ⟨m, hm, e⟩ := h1 k h
        exact ⟨m, by omega, e⟩
    · intro h
      obtain ⟨m, hm, e⟩ := h1 _ h
      have e' : (n : Int) = (m : Int) := Sum.inl.inj e
      omega
theorem enK_kv : ∀ (n : Nat) {xs : List V} {us : List Value}, Vals xs us → KV (enK n xs) (enK n us)
  | _, _, _, .nil => .nil
  | n, _, _, .cons r rs => .cons ⟨rfl, r⟩ (enK_kv (n + 1) rs)
def enKD : Nat → List PyData → List (PyData × PyData)
  | _, [] => []
  | n, x :: xs => (.int (n : Int), x) :: enKD (n + 1) xs
theorem enK_dq {K : PySem.W.Frag} {F : Hp} : ∀ (n : Nat) {xs : List V} {ds : List PyData}, DqL K F xs ds → DqE K F (enK n xs) (enKD n ds)
  | _, _, _, .nil => .nil
  | n, _, _, .cons h hs => .cons (k := .inl (n : Int)) h (enK_dq (n + 1) hs)
theorem enK_merge (xs : List V) : mergeK [] (enK 0 xs) = enK 0 xs := by
  rw [merge_nodup (enK 0 xs) [] (fun k _ h => nomatch h) (enK_key 0 xs).2]
  rfl
section
variable {X : Cx} {Φ : Fx} {b : Bool} {x : Expr} {ma : M O} {ta : TE} {p p2 q pos : Pos}
def tDictEn (K : PySem.W.Frag) (ta : TE) : TE := fun σ H Q => ta σ H fun x H1 => ∃ l xs, x = V.ref l ∧ SqL K H1 l xs ∧ ∀ a, H1 a = none → Q (.ref a) (upd H1 a (.dK (enK 0 xs)))
theorem pe_dictEn (hc : X.calm = true) (hg : Gl X "dict") (hm : X.mg "dict" = none) (hg2 : Gl X "enumerate") (hm2 : X.mg "enumerate" = none) (ha : PE X x ta) (na : starEach [x] X.env = (false, eval x X.env) :: starEach [] X.env) : PE X (.Call (.Name "dict" p) [.Call (.Name "enumerate" p2) [x] [] q] [] pos) (tDictEn X.K ta) := by
  refine ⟨fun pins s σ H Q I h => PyProof.Rows.Call_ (ld_blt I hg hm PyProof.Rows.boot_dict (PyProof.Rows.callWith_type1 (PyProof.Rows.args_cons (PyProof.Rows.Call_ (ld_blt I hg2 hm2 PyProof.Rows.boot_enumerate (PyProof.Rows.callWith_type1 (PyProof.Rows.args_cons (thn (ha.run pins s σ H _ I h) fun v s1 ⟨y, H1, I1, r1, q1⟩ => PyProof.Rows.args_nil ?_) na) na rfl))) rfl) rfl rfl))⟩
  obtain ⟨l, xs, rfl, hq, q1⟩ := q1
  cases r1
  obtain ⟨its, rv, pl, hz⟩ := I1.list hq
  have hll : l < s1.heap.objs.size := by
    obtain ⟨o, ho, _⟩ := pl.isList
    exact Heap.lt_size ho
  refine call_enumerate_list pl.isList fun h' he hit hsz hk => PyProof.Rows.args_nil ?_
  have hl' : h'.IsList l its.toArray := pl.isList.at fun o e => hk _ _ e
  have hlen : its.length = xs.length := rv.length.symm
  refine PySem.call_dict_pairs (knd := mixKind X.prog X.w) (kvs := enK 0 its) (PairArg.enumerate (s1.heap.objs.size + 1) s1.heap.objs.size l (Nat.succ_ne_self _) (Nat.ne_of_lt (Nat.lt_succ_of_lt hll)) (Nat.ne_of_lt hll) its.toArray) (I1.ok.hd hc) ⟨⟨.none, he⟩, hit, hl'⟩ ⟨by simp [enK_len], fun i key v => ?_⟩ (by simpa [hlen] using hz) fun h'' tk hd kp => ?_
  · rintro ⟨⟨t, rfl⟩, hv⟩
    refine ⟨.inl (i : Int), ?_, mixKind_int _ _ _ _⟩
    rw [enK_get]
    have hv : its[i]? = some v := by simpa using hv
    rw [hv]
    simp
  · have keep : ∀ b u, s1.heap.get? b = some u → h''.get? b = some u := fun b u e => by
      have hb : b < s1.heap.objs.size := Heap.lt_size e
      refine kp b u ?_ (hk b u e)
      simp only [List.mem_cons, List.not_mem_nil, or_false, not_or]
      exact ⟨Nat.ne_of_lt (Nat.lt_succ_of_lt hb), Nat.ne_of_lt hb⟩
    have big : s1.heap.objs.size ≤ h'.objs.size := by omega
    have hsys : (h'.objs.size == sysModules) = false := beq_eq_false_iff_ne.mpr (Nat.ne_of_gt (Nat.lt_of_lt_of_le I1.big big))
    refine ⟨.ref h'.objs.size, upd H1 h'.objs.size (.dK (enK 0 xs)), I1.laid (t' := tk) keep big (show ObjOk X.prog X.w _ _ _ (.dK (enK 0 xs)) from ⟨by rw [enK_len]; omega, hsys, merged [] (enK 0 its), ?_, hd⟩), rfl, q1 _ (I1.hok.fresh big)⟩
    have := KV.merge (enK_kv 0 rv) .nil
    rw [enK_merge] at this
    exact this
def enDR (t : Option PyData) (e : Env') : R O := match t with
  | some (.list ds) => if ds.all flat then .ok (.tm (.d (.dict (enKD 0 ds)))) e else .bad
  | _ => .bad
def dctEnM (ma : M O) : M O := fun e => R.bind (ma e) fun o e' => enDR (O.dat o e') e'
theorem se_dctEn (hc : X.calm = true) (hg : Gl X "dict") (hm : X.mg "dict" = none) (hg2 : Gl X "enumerate") (hm2 : X.mg "enumerate" = none) (ha : SE X Φ b x ma) (na : starEach [x] X.env = (false, eval x X.env) :: starEach [] X.env := by rfl) :
    SE X Φ false (.Call (.Name "dict" p) [.Call (.Name "enumerate" p2) [x] [] q] [] pos) (dctEnM ma) := by
  refine PE.imp (pe_dictEn hc hg hm hg2 hm2 ha na) fun σ H Q q => ?_
  refine seqE q (fun z => absurd z Bool.false_ne_true) fun v1 H1 F1 env env1 ao Np Lp c1 s1 t1 p1 q1 => ?_
  cases hd : O.dat (Opd.er ao) (erE env1) with
  | none => rw [hd] at q1; exact q1.elim
  | some d =>
    rw [hd] at q1
    cases d with
    | list ds =>
      simp only [enDR] at q1
      cases hf : ds.all flat with
      | false => rw [hf] at q1; exact q1.elim
      | true =>
        rw [hf] at q1
        obtain ⟨u1, g1, k1⟩ := dat_of hd
        have r1 := c1.tree g1 k1
        rw [ex_all t1 _ g1] at r1
        cases r1 with
        | @lst la xs _ hl hs =>
          refine ⟨_, xs, rfl, SqL.of hl, fun a ha => ?_⟩
          obtain ⟨c2, l2⟩ := (c1.drop1).allocF (o := .dK (enK 0 xs)) ha
          have low : ∀ {vs : List V} {ds : List PyData} {F' : Hp}, DqL X.K H1 vs ds → ds.all flat = true → DqL X.K F' vs ds := by
            intro vs ds F' h
            revert vs
            induction ds with
            | nil => intro vs h _; cases h; exact .nil
            | cons d ds ih =>
              intro vs h hf
              cases h with
              | cons h1 h2 =>
                simp only [List.all_cons, Bool.and_eq_true] at hf
                exact .cons (h1.flat hf.1) (ih h2 hf.2)
          have dq : Dq X.K (upd F1 a (.dK (enK 0 xs))) (.ref a) (.dict (enKD 0 ds)) := .dct upd_same (enK_dq 0 (low hs hf))
          refine q1 (.ref a) (upd H1 a (.dK (enK 0 xs))) (upd F1 a (.dK (enK 0 xs))) env1 (.tm (.lf (.ref a) (.d (.dict (enKD 0 ds))))) ?_ s1 rfl rfl ⟨_, rfl, rfl⟩ (fun z => nomatch z) (.refl _)
          exact (c2.leaf (v := .ref a) (l := .d _) dq).sb (by simpa [Opd.nodes, AT.nodes] using Sb.refl _) fun z hz => by
            simp only [Opd.leaves, AT.leaves] at hz
            rcases List.mem_append.mp hz with y | y
            · exact List.mem_cons_of_mem _ (List.mem_append_left _ y)
            · rcases List.mem_append.mp y with y | y
              · rw [List.mem_singleton.mp y]
                exact List.mem_cons_self
              · exact List.mem_cons_of_mem _ (List.mem_append_right _ y)
    | _ => exact q1.elim
end
end Z
/-! Z40: == and != of lists of unlike lengths, whatever is in them. -/
namespace Z
open PySem L2
def orE : Option PyData → Option PyData → Option PyData
  | some d, _ => some d
  | none, e => e
theorem orE_some {d : PyData} {e : Option PyData} : orE (some d) e = some d := Eq.trans rfl rfl
theorem orE_none {e : Option PyData} : orE none e = e := Eq.trans rfl rfl
def lenNe (k : Bool) : PyData → PyData → Option PyData
  | .list xs, .list ys => if xs.length = ys.length then none else some (.bool k)
  | _, _ => none
theorem lenNe_cons {k : Bool} {x : PyData} {xs : List PyData} : lenNe k (.list (x :: xs)) (.list []) = some (.bool k) := Eq.trans rfl rfl
def strE : PyData → PyData → Option PyData
  | .str x, .str y => some (.bool (decide (x = y)))
  | _, _ => none
def fEq2 (a b : PyData) : Option PyData := orE (fEq a b) (orE (lenNe false a b) (strE a b))
def fNe2 (a b : PyData) : Option PyData := orE (fNe a b) (lenNe true a b)
theorem fEq2_e {a b : PyData} : fEq2 a b = orE (fEq a b) (orE (lenNe false a b) (strE a b)) := Eq.trans rfl rfl
theorem fNe2_e {a b : PyData} : fNe2 a b = orE (fNe a b) (lenNe true a b) := Eq.trans rfl rfl
section
variable {X : Cx}
def rLen (K : PySem.W.Frag) (k : Bool) : R2 := fun x y H Q => ∃ a b xs ys, x = .ref a ∧ y = .ref b ∧ SqL K H a xs ∧ SqL K H b ys ∧ xs.length ≠ ys.length ∧ Q (.bl k) H
theorem op_len (k : Bool) {op : CmpOp} (hop : ∀ {A : Around} {s : Shared} {l b : Addr} {its its2 : Array Value} {prog : Program} {w : World} {E Q : Value → Shared → Prop}, s.heap.IsList l its → s.heap.IsList b its2 → (its.size != its2.size) = true → A.units < cLine → Q (.bool k) s → wpAny (model prog w) A (compareOp op (.ref l) (.ref b)) Q E s) (hu : X.A.units + 64 < cLine) : OpR X (compareOp op) (rLen X.K k) := by
  intro pins s σ H x y v u Q I rx ry h
  obtain ⟨a, b, xs, ys, rfl, rfl, h1, h2, h3, q⟩ := h
  cases rx
  cases ry
  obtain ⟨its, r1, p1, _⟩ := I.list h1
  obtain ⟨its2, r2, p2, _⟩ := I.list h2
  refine hop p1.isList p2.isList ?_ (by omega) ⟨.bl k, H, I, rfl, q⟩
  simp only [List.size_toArray, bne_iff_ne, ne_eq]
  rw [← r1.length, ← r2.length]
  exact h3
theorem op2_len {K : PySem.W.Frag} (k : Bool) : Op2 K (rLen K k) (lenNe k) := fun x y d1 d2 d H Q h1 h2 hf q => by
  cases d1 with
  | list xs =>
    cases d2 with
    | list ys =>
      simp only [lenNe] at hf
      split at hf
      · cases hf
      · next hne =>
        cases hf
        cases h1 with
        | lst ha hs =>
          cases h2 with
          | lst hb ht => exact ⟨_, _, _, _, rfl, rfl, SqL.of ha, SqL.of hb, by rw [hs.length, ht.length]; exact hne, q _ (.bl k)⟩
    | _ => cases hf
  | _ => cases hf
theorem op2_orE {K : PySem.W.Frag} {r r' : R2} {f g : PyData → PyData → Option PyData} (h : Op2 K r f) (h' : Op2 K r' g) : Op2 K (fun x y H Q => r x y H Q ∨ r' x y H Q) fun a b => orE (f a b) (g a b) := fun x y d1 d2 d H Q h1 h2 hf q => by
  cases hd : f d1 d2 with
  | some e =>
    have hf : orE (f d1 d2) (g d1 d2) = some d := hf
    rw [hd] at hf
    cases hf
    exact .inl (h x y d1 d2 _ H Q h1 h2 hd q)
  | none =>
    have hf : orE (f d1 d2) (g d1 d2) = some d := hf
    rw [hd] at hf
    exact .inr (h' x y d1 d2 _ H Q h1 h2 hf q)
theorem op2_str {K : PySem.W.Frag} : Op2 K rEq strE := fun x y d1 d2 d H Q h1 h2 hf q => by
  cases d1 with
  | str a =>
    cases d2 with
    | str b =>
      cases hf
      cases h1
      cases h2
      refine ⟨rfl, ?_⟩
      have e : (decide (V.str a = V.str b)) = decide (a = b) := by
        by_cases h : a = b
        · subst h
          simp
        · rw [decide_eq_false h, decide_eq_false fun z => h (V.str.inj z)]
      rw [e]
      exact q _ (.bl _)
    | _ => cases hf
  | _ => cases hf
theorem strE_same (x : Str) : orE (fEq (.str x) (.str x)) (orE (lenNe false (.str x) (.str x)) (strE (.str x) (.str x))) = some (.bool true) := by
  rw [fEq]
  cases SeqAt.shaped (.str x) && SeqAt.shaped (.str x) with
  | false => simp [orE, lenNe, strE]
  | true => simp [orE, PyData.eqv]
theorem cr_eq2 {k : Nat} (hr : Room k X.A) : CR2 X .Eq fEq2 := ⟨_, OpR.or (op_eqD hr.units) (OpR.or (op_len false (fun a b c d e => SeqAt.eq_list_lengthsAt a b c d e) hr.units) op_eq), op2_orE op2_eq (op2_orE (op2_len false) op2_str)⟩
theorem cr_ne2 {k : Nat} (hr : Room k X.A) : CR2 X .NotEq fNe2 := ⟨_, OpR.or (op_neD hr.units) (op_len true (fun a b c d e => SeqAt.RcNeAt.lists_lengths a b c d _ _ _ _ e) hr.units), op2_orE op2_ne (op2_len true)⟩
end
end Z
namespace L
open PySem L2 Z
/-! ### the text by places -/
def top (i : Nat) : Stmt := PySem.Challenge.pw_ordersapart_k01_what_is_an_order.main.body.getD i (.Pass ⟨0, 0, 0, 0⟩)
abbrev s__law_deck : Stmt := top 5
abbrev s__law_draw : Stmt := top 6
abbrev s__law_order : Stmt := top 7
abbrev s__law_things : Stmt := top 8
abbrev s_is_whole : Stmt := top 2
abbrev s_is_order : Stmt := top 3
abbrev s__law_good : Stmt := top 10
abbrev s__law_right : Stmt := top 11
abbrev s__law_no_order : Stmt := top 9
abbrev s_law : Stmt := top 12
def n__law_deck : List Str := ["script", "pools", "k", "cell"]
def n__law_draw : List Str := ["deck", "many", "pool", "found", "number"]
def n__law_order : List Str := ["deck", "n", "left", "way", "k", "p"]
def n__law_things : List Str := ["deck"]
def n_is_whole : List Str := ["thing"]
def n_is_order : List Str := ["thing", "one"]
def n__law_good : List Str := ["thing", "met", "one"]
def n__law_right : List Str := ["thing", "kept", "found"]
def n__law_no_order : List Str := ["deck", "order", "n", "at", "to", "odd", "changed", "longer", "some", "one"]
def n_law : List Str := ["script", "deck", "k", "order", "turn", "thing"]
/-! ### what is reckoned -/
def b__law_deck_0 : MS := (posS (drE [false, false, true, true]) (seqS (asgS (cstM (.int 0)) (nameT 3))
 (seqS (ifS (tstM (op2M true fLt (varM 2) (tr1M lenT (varM 0)))) (posS (fzE 3) (aliS 3 (idxM true (varM 0) (varM 2)))) nxS)
 (exprS (appM false (varM 1) (lstM (consA true (frM 3) (consA true (un1M fInt1 (op2M true fGe (varM 3) (op2M true fPow (cstM (.int 10)) (cstM (.int 18))))) (consA true (mulM true (cstM (.int 31)) (varM 2)) nilA)))))))))
def m__law_deck : MS := (seqS (asgS (lstM nilA) (nameT 1))
 (seqS (posS (drE [true, false, true, true]) (forS (posI (drE [false, false, true, true]) (rg1I (op2M true fMax2 (cstM (.int 1)) (op2M true fMin2 (cstM (.int 63)) (tr1M lenT (varM 0)))))) (nameT 2) b__law_deck_0))
 (retS (lstM (consA true (mvM 1) (consA true (cstM (.int 0)) nilA))))))
def f__law_deck : Sem' := bodyF 4 [false] m__law_deck
def m__law_draw : MS := (seqS (aliS 2 (idxM true (idxM true (varM 0) (cstM (.int 0))) (op2M true fMod (idxM true (varM 0) (cstM (.int 1))) (tr1M lenT (idxM true (varM 0) (cstM (.int 0)))))))
 (seqS (asgS (addM true (idxM true (varM 0) (cstM (.int 1))) (cstM (.int 1))) (subT true (varM 0) (cstM (.int 1))))
 (seqS (ifS (andT (tstM (op2M true fEq2 (idxM true (varM 2) (cstM (.int 1))) (cstM (.int 1)))) (tstM (op2M true fGt (idxM true (varM 2) (cstM (.int 0))) (cstM (.int 0))))) (seqS (asgS (op2M true fMod (idxM true (varM 2) (cstM (.int 0))) (varM 1)) (nameT 3))
 (seqS (asgS (op2M true fDiv (idxM true (varM 2) (cstM (.int 0))) (varM 1)) (subT true (varM 2) (cstM (.int 0))))
 (retS (mvM 3)))) nxS)
 (seqS (asgS (addM true (idxM true (varM 2) (cstM (.int 2))) (cstM (.int 1))) (subT true (varM 2) (cstM (.int 2))))
 (seqS (asgS (op2M true fMod (addM true (op2M true fMod (idxM true (varM 2) (cstM (.int 0))) (cstM (.int 99999999977))) (mulM true (cstM (.int 700001)) (idxM true (varM 2) (cstM (.int 2))))) (cstM (.int 99999999947))) (nameT 4))
 (seqS (asgS (op2M true fMod (mulM true (varM 4) (varM 4)) (cstM (.int 99999999821))) (nameT 4))
 (seqS (asgS (op2M true fMod (mulM true (varM 4) (addM true (varM 4) (cstM (.int 19)))) (cstM (.int 9999999967))) (nameT 4))
 (retS (op2M true fMod (op2M true fDiv (varM 4) (cstM (.int 13))) (varM 1))))))))))
def f__law_draw : Sem' := bodyF 5 [true, false] m__law_draw
def b__law_order_0 : M O := (popAtM false (varM 2) (callM [true, false] f__law_draw (consA true (varM 0) (consA true (tr1M lenT (varM 2)) nilA))))
def b__law_order_1 : MS := (posS (drE [false, false, false, true, true, true]) (seqS (asgS (callM [true, false] f__law_draw (consA true (varM 0) (consA true (op2M true fSub (varM 1) (cstM (.int 1))) nilA))) (nameT 5))
 (asgS (tplM (consA true (idxM true (varM 2) (addM true (varM 5) (cstM (.int 1)))) (consA true (idxM true (varM 2) (varM 5)) nilA))) (tupT 2 (consT (subT true (varM 2) (varM 5)) (consT (subT true (varM 2) (addM true (varM 5) (cstM (.int 1)))) nilT))))))
def m__law_order : MS := (seqS (asgS (lrg1M (varM 1)) (nameT 2))
 (seqS (asgS (callM [true, false] f__law_draw (consA true (varM 0) (consA true (cstM (.int 4)) nilA))) (nameT 3))
 (seqS (ifS (tstM (op2M true fEq2 (varM 3) (cstM (.int 0)))) (preS (drE [false, false, false, true, true, true]) (retS (lcM [4] (rg1I (varM 1)) (nameT 4) yesM b__law_order_0))) nxS)
 (seqS (posS (drE [false, false, false, true, true, true]) (ifS (tstM (op2M true fEq2 (varM 3) (cstM (.int 1)))) (asgS (revM (varM 2)) (nameT 2)) nxS))
 (seqS (posS (drE [false, true, false, true, true, true]) (forS (posI (drE [false, false, false, true, true, true]) (rg1I (mulM true (callM [true, false] f__law_draw (consA true (varM 0) (consA true (cstM (.int 7)) nilA))) (un1M fInt1 (op2M true fGt (varM 1) (cstM (.int 1))))))) (nameT 4) b__law_order_1))
 (retS (mvM 2)))))))
def f__law_order : Sem' := bodyF 6 [true, false] m__law_order
def m__law_things : MS := (retS (idxM false (lstM (consA false (addM false (cstM (.int 1)) (callM [true, false] f__law_draw (consA true (varM 0) (consA true (cstM (.int 4)) nilA)))) (consA false (addM false (cstM (.int 1)) (callM [true, false] f__law_draw (consA true (varM 0) (consA true (cstM (.int 8)) nilA)))) (consA true (addM false (cstM (.int 1)) (callM [true, false] f__law_draw (consA true (varM 0) (consA true (cstM (.int 12)) nilA)))) (consA true (cstM (.int 12)) nilA))))) (callM [true, false] f__law_draw (consA true (varM 0) (consA true (cstM (.int 4)) nilA)))))
def f__law_things : Sem' := bodyF 1 [true] m__law_things
def m_is_whole : MS := (retS (andM (tr1M (isT "int") (varM 0)) (notM (tr1M (isT "bool") (varM 0)))))
def f_is_whole : Sem' := bodyF 1 [false] m_is_whole
def b_is_order_0 : M Bool := (notT (tstM (callM [false] f_is_whole (consA true (varM 1) nilA))))
def b_is_order_1 : M O := (frM 1)
def m_is_order : MS := (seqS (ifS (orT (notT (tstM (tr1M (isT "list") (varM 0)))) (notT (tstM (chM fLe fLe (cstM (.int 1)) (tr1M lenT (varM 0)) (cstM (.int 12)))))) (retS (cstM (.bool false))) nxS)
 (seqS (preS (drE [false, true]) (ifS (tstM (op2M true fNe2 (lcM [1] (lsI (varM 0)) (nameT 1) b_is_order_0 b_is_order_1) (lstM nilA))) (retS (cstM (.bool false))) nxS))
 (retS (op2M true fEq2 (ls1M sortD (varM 0)) (lrg1M (tr1M lenT (varM 0)))))))
def f_is_order : Sem' := bodyF 2 [false] m_is_order
def b__law_good_0 : MS := (posS (drE [false, false, true]) (seqS (ifS (orT (notT (tstM (tr1M (isT "int") (varM 2)))) (orT (tstM (tr1M (isT "bool") (varM 2))) (orT (notT (tstM (chM fLe fLt (cstM (.int 0)) (varM 2) (tr1M lenT (varM 0))))) (tstM (op2M true fIn2 (varM 2) (varM 1)))))) (retS (cstM (.bool false))) nxS)
 (exprS (appM false (varM 1) (mvM 2)))))
def m__law_good : MS := (seqS (ifS (orT (notT (tstM (tr1M (isT "list") (varM 0)))) (orT (tstM (op2M true fLt (tr1M lenT (varM 0)) (cstM (.int 1)))) (tstM (op2M true fGt (tr1M lenT (varM 0)) (cstM (.int 12)))))) (retS (cstM (.bool false))) nxS)
 (seqS (asgS (lstM nilA) (nameT 1))
 (seqS (posS (drE [true, true, true]) (forS (posI (drE [false, false, true]) (lsI (varM 0))) (nameT 2) b__law_good_0))
 (retS (cstM (.bool true))))))
def f__law_good : Sem' := bodyF 3 [false] m__law_good
def m__law_right : MS := (seqS (asgS (un1M fRepr (varM 0)) (nameT 1))
 (seqS (asgS (callM [false] f_is_order (consA true (varM 0) nilA)) (nameT 2))
 (retS (andM (tr1M (isT "bool") (varM 2)) (andM (op2M true fEq2 (varM 2) (callM [false] f__law_good (consA true (varM 0) nilA))) (op2M true fEq2 (un1M fRepr (varM 0)) (varM 1)))))))
def f__law_right : Sem' := bodyF 3 [false] m__law_right
def b__law_no_order_0 : M O := (addM true (varM 9) (cstM (.int 1)))
def b__law_no_order_1 : M O := (op2M true fSub (cstM (.int 0)) (varM 9))
def m__law_no_order : MS := (seqS (asgS (tr1M lenT (varM 1)) (nameT 2))
 (seqS (asgS (callM [true, false] f__law_draw (consA true (varM 0) (consA true (varM 2) nilA))) (nameT 3))
 (seqS (asgS (callM [true, false] f__law_draw (consA true (varM 0) (consA true (varM 2) nilA))) (nameT 4))
 (seqS (posS (fzE 5) (asgS (lstM (consA false (frM 2) (consA false (addM false (addM true (varM 2) (cstM (.int 1))) (callM [true, false] f__law_draw (consA true (varM 0) (consA true (cstM (.int 20)) nilA)))) (consA false (un1M fNeg (cstM (.int 1))) (consA false (op2M true fSub (cstM (.int 0)) (varM 2)) (consA false (cstM (.bool true)) (consA false (cstM (.bool false)) (consA false (cstM .none) (consA false (cstM (.str "0")) (consA false (lstM (consA true (cstM (.int 0)) nilA)) (consA false (tplM (consA true (cstM (.int 0)) nilA)) (consA true newdM (consA true (op2M true fPow (cstM (.int 10)) (cstM (.int 25))) (consA true (idxM true (varM 1) (varM 4)) (consA true (cstM (.int 0)) (consA true (cstM (.int 1)) nilA)))))))))))))))) (nameT 5)))
 (seqS (posS (fzE 5) (aliS 5 (idxM false (varM 5) (callM [true, false] f__law_draw (consA true (varM 0) (consA true (cstM (.int 15)) nilA))))))
 (seqS (asgS (addM true (addM false (cutM (varM 1) none (some (true, (varM 3)))) (lstM (consA true (frM 5) nilA))) (cutM (varM 1) (some (true, (addM true (varM 3) (cstM (.int 1))))) none)) (nameT 6))
 (seqS (asgS (addM true (addM false (cutM (varM 1) none (some (true, (varM 3)))) (lstM (consA true (mvM 5) nilA))) (cutM (varM 1) (some (true, (varM 3))) none)) (nameT 7))
 (seqS (posS (fzE 8) (asgS (addM false (mulM true (lstM (consA true (mvM 6) nilA)) (cstM (.int 5))) (mulM true (lstM (consA true (mvM 7) nilA)) (cstM (.int 2)))) (nameT 8)))
 (seqS (posS (fzE 8) (asgS (addM false (varM 8) (lstM (consA false (addM true (cutM (varM 1) none (some (true, (varM 3)))) (cutM (varM 1) (some (true, (addM true (varM 3) (cstM (.int 1))))) none)) (consA false (addM false (varM 1) (lstM (consA true (mvM 2) nilA))) (consA false (addM true (varM 1) (varM 1)) (consA false (tupM (varM 1)) (consA false (lstM (consA true (frM 1) nilA)) (consA false (cstM .none) (consA false (cstM (.str "")) (consA false (cstM (.int 0)) (consA true newdM (consA true (lstM nilA) nilA)))))))))))) (nameT 8)))
 (seqS (preS (drE [false, false, true, true, true, true, true, true, false, true]) (posS (fzE 8) (asgS (addM false (varM 8) (lstM (consA false (lcM [9] (lsI (varM 1)) (nameT 9) yesM b__law_no_order_0) (consA false (lcM [9] (lsI (varM 1)) (nameT 9) yesM b__law_no_order_1) (consA true (dctEnM (varM 1)) (consA true (cstM (.bool true)) (consA true (revM (varM 1)) nilA))))))) (nameT 8))))
 (retS (idxM false (varM 8) (callM [true, false] f__law_draw (consA true (varM 0) (consA true (cstM (.int 22)) nilA)))))))))))))))
def f__law_no_order : Sem' := bodyF 10 [true, false] m__law_no_order
def b_law_0 : MS := (posS (drE [true, false, true, false, true, true]) (ifS (notT (tstM (callM [false] f__law_right (consA true (callM [true, false] f__law_no_order (consA true (varM 1) (consA true (varM 3) nilA))) nilA)))) (retS (cstM (.bool false))) nxS))
def b_law_1 : MS := (posS (drE [true, false, true, true, true, true]) (seqS (posS (fzE 3) (asgS (callM [true, false] f__law_order (consA false (varM 1) (consA true (callM [true] f__law_things (consA true (varM 1) nilA)) nilA))) (nameT 3)))
 (seqS (ifS (tstM (op2M true fIsNot (callM [false] f_is_order (consA true (ls1M some (varM 3)) nilA)) (cstM (.bool true)))) (retS (cstM (.bool false))) nxS)
 (posS (drE [true, false, true, true, true, true]) (forS (posI (drE [true, false, true, false, true, true]) (rg1I (cstM (.int 8)))) (nameT 4) b_law_0)))))
def b_law_2 : MS := (posS (drE [true, true, true, true, true, true]) (ifS (notT (tstM (callM [false] f__law_right (consA true (varM 5) nilA)))) (retS (cstM (.bool false))) nxS))
def m_law : MS := (seqS (asgS (callM [false] f__law_deck (consA true (varM 0) nilA)) (nameT 1))
 (seqS (posS (drE [true, true, true, true, true, true]) (forS (posI (drE [true, false, true, true, true, true]) (rg1I (cstM (.int 10)))) (nameT 2) b_law_1))
 (seqS (posS (drE [true, true, true, true, true, true]) (forS (posI (drE [true, true, true, true, true, true]) (lsI (lstM (consA false (cstM .none) (consA false (cstM (.int 0)) (consA false (cstM (.bool true)) (consA false (cstM (.str "")) (consA false (cstM (.str "0 1")) (consA false (lstM nilA) (consA false (tplM nilA) (consA true newdM (consA true (lstM (consA true (cstM (.int 0)) nilA)) (consA true (lstM (consA true (cstM (.int 1)) nilA)) (consA true (lstM (consA true (cstM (.bool true)) nilA)) (consA true (lstM (consA true (cstM (.bool false)) nilA)) (consA true (lstM (consA true (cstM (.int 0)) (consA true (cstM (.int 0)) nilA))) (consA true (tplM (consA true (cstM (.int 0)) (consA true (cstM (.int 1)) nilA))) (consA true (lrg1M (cstM (.int 13))) nilA)))))))))))))))))) (nameT 5) b_law_2))
 (retS (andM (op2M true fIs (callM [false] f_is_order (consA true (lrg1M (cstM (.int 12))) nilA)) (cstM (.bool true))) (op2M true fIs (callM [false] f_is_order (consA true (revM (lrg1M (cstM (.int 12)))) nilA)) (cstM (.bool true))))))))
def f_law : Sem' := bodyF 6 [false] m_law
/-! ### what the top has written -/
structure Txt (K : PySem.W.Frag) (mg : Str → Option Value) (xc : Nat → Value) : Prop where
  b_bool : mg "bool" = none
  b_dict : mg "dict" = none
  b_enumerate : mg "enumerate" = none
  b_int : mg "int" = none
  b_isinstance : mg "isinstance" = none
  b_len : mg "len" = none
  b_list : mg "list" = none
  b_max : mg "max" = none
  b_min : mg "min" = none
  b_range : mg "range" = none
  b_repr : mg "repr" = none
  b_sorted : mg "sorted" = none
  b_tuple : mg "tuple" = none
  c_MOST_THINGS : CstG K mg "MOST_THINGS" (.int 12)
section
variable {P : Program} {w : World} {K : PySem.W.Frag} {mg : Str → Option Value} {base : Heap} {xc : Nat → Value}
theorem sc__law_deck : FnScope n__law_deck ["script"] (defScope s__law_deck) := ⟨rfl, rfl, rfl, by decide +kernel, rfl, by decide +kernel, by decide +kernel⟩
theorem ok__law_deck {fa : Addr} (T : Txt K mg xc) : BodyOk P w K mg base n__law_deck "_law_deck" (defScope s__law_deck) fa 0 xc [false] (defBody s__law_deck) m__law_deck :=
  have S := sc__law_deck
  fun cdv A outer s H E g σ0 hr => (sb_cons (ss_asg (se_lst sa_nil) (sg_name (i := 1) S.nd))
 (sb_cons (ss_pos (drE [true, false, true, true]) (drE_ok _) (ss_for (passes_of rfl) rfl (sit_pos (drE [false, false, true, true]) (drE_ok _) (sit_rg1 (by exact rfl) T.b_range (se_max2 (by exact rfl) (by exact rfl) T.b_max se_int (se_min2 (by exact rfl) (by exact rfl) T.b_min se_int (se_len (by exact rfl) T.b_len (se_var 0)))))) (sg_name (i := 2) S.nd)
 (sb_pos (drE [false, false, true, true]) (drE_ok _) (sb_cons (ss_asg se_int (sg_name (i := 3) S.nd))
 (sb_cons (ss_if (st_cmp cr_lt (se_var 2) (se_len (by exact rfl) T.b_len (se_var 0))) (sb_one (ss_pos (fzE 3) (fzE_ok _) (ss_ali (i := 3) S.nd (se_idx (se_var 0) (se_var 2))))) sb_nil)
 (sb_one (ss_expr (me_append (se_var 1) (se_lst (sa_cons (se_fr 3) (sa_cons (se_int1 (by exact rfl) T.b_int (se_cmp cr_ge (se_var 3) (se_pow se_int se_int))) (sa_cons (se_times se_int (se_var 2)) sa_nil))))))))))))
 (sb_one (ss_ret (se_lst (sa_cons (se_mv 1) (sa_cons se_int sa_nil)))))))
theorem sc__law_draw : FnScope n__law_draw ["deck", "many"] (defScope s__law_draw) := ⟨rfl, rfl, rfl, by decide +kernel, rfl, by decide +kernel, by decide +kernel⟩
theorem ok__law_draw {fa : Addr} (T : Txt K mg xc) : BodyOk P w K mg base n__law_draw "_law_draw" (defScope s__law_draw) fa 0 xc [true, false] (defBody s__law_draw) m__law_draw :=
  have S := sc__law_draw
  fun cdv A outer s H E g σ0 hr => (sb_cons (ss_ali (i := 2) S.nd (se_idx (se_idx (se_var 0) se_int) (se_mod (se_idx (se_var 0) se_int) (se_len (by exact rfl) T.b_len (se_idx (se_var 0) se_int)))))
 (sb_cons (ss_asg (se_plus (se_idx (se_var 0) se_int) se_int) (sg_sub (se_var 0) se_int fun _ => rfl))
 (sb_cons (ss_if (st_bo (sw_and (st_cmp (cr_eq2 hr) (se_idx (se_var 2) se_int) se_int) (sw_and1 (st_cmp cr_gt (se_idx (se_var 2) se_int) se_int)))) (sb_cons (ss_asg (se_mod (se_idx (se_var 2) se_int) (se_var 1)) (sg_name (i := 3) S.nd))
 (sb_cons (ss_asg (se_div (se_idx (se_var 2) se_int) (se_var 1)) (sg_sub (se_var 2) se_int fun _ => rfl))
 (sb_one (ss_ret (se_mv 3))))) sb_nil)
 (sb_cons (ss_asg (se_plus (se_idx (se_var 2) se_int) se_int) (sg_sub (se_var 2) se_int fun _ => rfl))
 (sb_cons (ss_asg (se_mod (se_plus (se_mod (se_idx (se_var 2) se_int) se_int) (se_times se_int (se_idx (se_var 2) se_int))) se_int) (sg_name (i := 4) S.nd))
 (sb_cons (ss_asg (se_mod (se_times (se_var 4) (se_var 4)) se_int) (sg_name (i := 4) S.nd))
 (sb_cons (ss_asg (se_mod (se_times (se_var 4) (se_plus (se_var 4) se_int)) se_int) (sg_name (i := 4) S.nd))
 (sb_one (ss_ret (se_mod (se_div (se_var 4) se_int) (se_var 1)))))))))))
theorem sc__law_order : FnScope n__law_order ["deck", "n"] (defScope s__law_order) := ⟨rfl, rfl, rfl, by decide +kernel, rfl, by decide +kernel, by decide +kernel⟩
theorem ok__law_order {fa : Addr} (T : Txt K mg xc) (R__law_draw : FnR P w K mg base xc 1 "_law_draw" [true, false] f__law_draw) : BodyOk P w K mg base n__law_order "_law_order" (defScope s__law_order) fa 1 xc [true, false] (defBody s__law_order) m__law_order :=
  have S := sc__law_order
  fun cdv A outer s H E g σ0 hr => (sb_cons (ss_asg (se_lrg1 (by exact rfl) (by exact rfl) T.b_list (by exact rfl) T.b_range (se_var 1)) (sg_name (i := 2) S.nd))
 (sb_cons (ss_asg (se_cal R__law_draw (hr.mono (by decide)) (by exact rfl) (takes_of rfl rfl rfl rfl) (sa_cons (se_var 0) (sa_cons se_int sa_nil))) (sg_name (i := 3) S.nd))
 (sb_cons (ss_if (st_cmp (cr_eq2 hr) (se_var 3) se_int) (sb_one (ss_pre (drE [false, false, false, true, true, true]) (drE_ok _) (ss_ret (se_lc (own := [("k", 4)]) rfl S.nd (sit_rg1 (by exact rfl) T.b_range (se_var 1)) (blkOk_by (N := n__law_order) (sc := defScope s__law_order) (by decide +kernel)) (fun _ _ _ _ _ _ => (sg_name (i := 4) S.nd)) (fun _ _ _ _ _ => sts_nil) (fun _ _ _ _ _ => (me_popAt (se_var 2) (se_cal R__law_draw (hr.mono (by decide)) (by exact rfl) takes0 (sa_cons (se_var 0) (sa_cons (se_len (by exact rfl) T.b_len (se_var 2)) sa_nil))))))))) sb_nil)
 (sb_cons (ss_pos (drE [false, false, false, true, true, true]) (drE_ok _) (ss_if (st_cmp (cr_eq2 hr) (se_var 3) se_int) (sb_one (ss_asg (se_rev (se_var 2)) (sg_name (i := 2) S.nd))) sb_nil))
 (sb_cons (ss_pos (drE [false, true, false, true, true, true]) (drE_ok _) (ss_for (passes_of rfl) rfl (sit_pos (drE [false, false, false, true, true, true]) (drE_ok _) (sit_rg1 (by exact rfl) T.b_range (se_times (se_cal R__law_draw (hr.mono (by decide)) (by exact rfl) (takes_of rfl rfl rfl rfl) (sa_cons (se_var 0) (sa_cons se_int sa_nil))) (se_int1 (by exact rfl) T.b_int (se_cmp cr_gt (se_var 1) se_int))))) (sg_name (i := 4) S.nd)
 (sb_pos (drE [false, false, false, true, true, true]) (drE_ok _) (sb_cons (ss_asg (se_cal R__law_draw (hr.mono (by decide)) (by exact rfl) (takes_of rfl rfl rfl rfl) (sa_cons (se_var 0) (sa_cons (se_sub (se_var 1) se_int) sa_nil))) (sg_name (i := 5) S.nd))
 (sb_one (ss_asg (se_tpl (sa_cons (se_idx (se_var 2) (se_plus (se_var 5) se_int)) (sa_cons (se_idx (se_var 2) (se_var 5)) sa_nil))) (sg_tup (by exact rfl) (sgs_cons (sg_sub (se_var 2) (se_var 5) fun _ => rfl) (sgs_cons (sg_sub (se_var 2) (se_plus (se_var 5) se_int) fun _ => rfl) sgs_nil)))))))))
 (sb_one (ss_ret (se_mv 2))))))))
theorem sc__law_things : FnScope n__law_things ["deck"] (defScope s__law_things) := ⟨rfl, rfl, rfl, by decide +kernel, rfl, by decide +kernel, by decide +kernel⟩
theorem ok__law_things {fa : Addr} (T : Txt K mg xc) (R__law_draw : FnR P w K mg base xc 1 "_law_draw" [true, false] f__law_draw) : BodyOk P w K mg base n__law_things "_law_things" (defScope s__law_things) fa 1 xc [true] (defBody s__law_things) m__law_things :=
  have S := sc__law_things
  fun cdv A outer s H E g σ0 hr => (sb_one (ss_ret (se_idx (se_lst (sa_cons (se_plus se_int (se_cal R__law_draw (hr.mono (by decide)) (by exact rfl) (takes_of rfl rfl rfl rfl) (sa_cons (se_var 0) (sa_cons se_int sa_nil)))) (sa_cons (se_plus se_int (se_cal R__law_draw (hr.mono (by decide)) (by exact rfl) (takes_of rfl rfl rfl rfl) (sa_cons (se_var 0) (sa_cons se_int sa_nil)))) (sa_cons (se_plus se_int (se_cal R__law_draw (hr.mono (by decide)) (by exact rfl) (takes_of rfl rfl rfl rfl) (sa_cons (se_var 0) (sa_cons se_int sa_nil)))) (sa_cons se_int sa_nil))))) (se_cal R__law_draw (hr.mono (by decide)) (by exact rfl) (takes_of rfl rfl rfl rfl) (sa_cons (se_var 0) (sa_cons se_int sa_nil))))))
theorem sc_is_whole : FnScope n_is_whole ["thing"] (defScope s_is_whole) := ⟨rfl, rfl, rfl, by decide +kernel, rfl, by decide +kernel, by decide +kernel⟩
theorem ok_is_whole {fa : Addr} (T : Txt K mg xc) : BodyOk P w K mg base n_is_whole "is_whole" (defScope s_is_whole) fa 0 xc [false] (defBody s_is_whole) m_is_whole :=
  have S := sc_is_whole
  fun cdv A outer s H E g σ0 hr => (sb_one (ss_ret (se_and (se_isi (by exact rfl) T.b_isinstance (by exact rfl) T.b_int (se_var 0)) (se_bo1 (se_not (se_isi (by exact rfl) T.b_isinstance (by exact rfl) T.b_bool (se_var 0)))))))
theorem sc_is_order : FnScope n_is_order ["thing"] (defScope s_is_order) := ⟨rfl, rfl, rfl, by decide +kernel, rfl, by decide +kernel, by decide +kernel⟩
theorem ok_is_order {fa : Addr} (T : Txt K mg xc) (R_is_whole : FnR P w K mg base xc 1 "is_whole" [false] f_is_whole) : BodyOk P w K mg base n_is_order "is_order" (defScope s_is_order) fa 1 xc [false] (defBody s_is_order) m_is_order :=
  have S := sc_is_order
  fun cdv A outer s H E g σ0 hr => (sb_cons (ss_if (st_bo (sw_or (st_not (st_val (se_isi (by exact rfl) T.b_isinstance (by exact rfl) T.b_list (se_var 0)))) (sw_or1 (st_not (st_chn cr_le cr_le se_int (se_len (by exact rfl) T.b_len (se_var 0)) (se_globE (by exact rfl) T.c_MOST_THINGS)))))) (sb_one (ss_ret se_bool)) sb_nil)
 (sb_cons (ss_pre (drE [false, true]) (drE_ok _) (ss_if (st_cmp (cr_ne2 hr) (se_lc (own := [("one", 1)]) rfl S.nd (sit_list (se_var 0)) (blkOk_by (N := n_is_order) (sc := defScope s_is_order) (by decide +kernel)) (fun _ _ _ _ _ _ => (sg_name (i := 1) S.nd)) (fun _ _ _ _ _ => (sts_one (st_not (st_val (se_cal R_is_whole (hr.mono (by decide)) (by exact rfl) takes0 (sa_cons (se_var 1) sa_nil)))))) (fun _ _ _ _ _ => (se_fr 1))) (se_lst sa_nil)) (sb_one (ss_ret se_bool)) sb_nil))
 (sb_one (ss_ret (se_cmp (cr_eq2 hr) (se_sorted (by exact rfl) T.b_sorted (se_var 0)) (se_lrg1 (by exact rfl) (by exact rfl) T.b_list (by exact rfl) T.b_range (se_len (by exact rfl) T.b_len (se_var 0))))))))
theorem sc__law_good : FnScope n__law_good ["thing"] (defScope s__law_good) := ⟨rfl, rfl, rfl, by decide +kernel, rfl, by decide +kernel, by decide +kernel⟩
theorem ok__law_good {fa : Addr} (T : Txt K mg xc) : BodyOk P w K mg base n__law_good "_law_good" (defScope s__law_good) fa 0 xc [false] (defBody s__law_good) m__law_good :=
  have S := sc__law_good
  fun cdv A outer s H E g σ0 hr => (sb_cons (ss_if (st_bo (sw_or (st_not (st_val (se_isi (by exact rfl) T.b_isinstance (by exact rfl) T.b_list (se_var 0)))) (sw_or (st_cmp cr_lt (se_len (by exact rfl) T.b_len (se_var 0)) se_int) (sw_or1 (st_cmp cr_gt (se_len (by exact rfl) T.b_len (se_var 0)) se_int))))) (sb_one (ss_ret se_bool)) sb_nil)
 (sb_cons (ss_asg (se_lst sa_nil) (sg_name (i := 1) S.nd))
 (sb_cons (ss_pos (drE [true, true, true]) (drE_ok _) (ss_for (passes_of rfl) rfl (sit_pos (drE [false, false, true]) (drE_ok _) (sit_list (se_var 0))) (sg_name (i := 2) S.nd)
 (sb_pos (drE [false, false, true]) (drE_ok _) (sb_cons (ss_if (st_bo (sw_or (st_not (st_val (se_isi (by exact rfl) T.b_isinstance (by exact rfl) T.b_int (se_var 2)))) (sw_or (st_val (se_isi (by exact rfl) T.b_isinstance (by exact rfl) T.b_bool (se_var 2))) (sw_or (st_not (st_chn cr_le cr_lt se_int (se_var 2) (se_len (by exact rfl) T.b_len (se_var 0)))) (sw_or1 (st_cmp (cr_in2 hr) (se_var 2) (se_var 1))))))) (sb_one (ss_ret se_bool)) sb_nil)
 (sb_one (ss_expr (me_append (se_var 1) (se_mv 2))))))))
 (sb_one (ss_ret se_bool)))))
theorem sc__law_right : FnScope n__law_right ["thing"] (defScope s__law_right) := ⟨rfl, rfl, rfl, by decide +kernel, rfl, by decide +kernel, by decide +kernel⟩
theorem ok__law_right {fa : Addr} (T : Txt K mg xc) (R_is_order : FnR P w K mg base xc 2 "is_order" [false] f_is_order) (R__law_good : FnR P w K mg base xc 1 "_law_good" [false] f__law_good) : BodyOk P w K mg base n__law_right "_law_right" (defScope s__law_right) fa 2 xc [false] (defBody s__law_right) m__law_right :=
  have S := sc__law_right
  fun cdv A outer s H E g σ0 hr => (sb_cons (ss_asg (se_repr hr (by exact rfl) T.b_repr (se_var 0)) (sg_name (i := 1) S.nd))
 (sb_cons (ss_asg (se_cal R_is_order (hr.mono (by decide)) (by exact rfl) (takes_of rfl rfl rfl rfl) (sa_cons (se_var 0) sa_nil)) (sg_name (i := 2) S.nd))
 (sb_one (ss_ret (se_and (se_isi (by exact rfl) T.b_isinstance (by exact rfl) T.b_bool (se_var 2)) (se_and (se_cmp (cr_eq2 hr) (se_var 2) (se_cal R__law_good (hr.mono (by decide)) (by exact rfl) (takes_of rfl rfl rfl rfl) (sa_cons (se_var 0) sa_nil))) (se_bo1 (se_cmp (cr_eq2 hr) (se_repr hr (by exact rfl) T.b_repr (se_var 0)) (se_var 1)))))))))
theorem sc__law_no_order : FnScope n__law_no_order ["deck", "order"] (defScope s__law_no_order) := ⟨rfl, rfl, rfl, by decide +kernel, rfl, by decide +kernel, by decide +kernel⟩
theorem ok__law_no_order {fa : Addr} (T : Txt K mg xc) (R__law_draw : FnR P w K mg base xc 1 "_law_draw" [true, false] f__law_draw) : BodyOk P w K mg base n__law_no_order "_law_no_order" (defScope s__law_no_order) fa 1 xc [true, false] (defBody s__law_no_order) m__law_no_order :=
  have S := sc__law_no_order
  fun cdv A outer s H E g σ0 hr => (sb_cons (ss_asg (se_len (by exact rfl) T.b_len (se_var 1)) (sg_name (i := 2) S.nd))
 (sb_cons (ss_asg (se_cal R__law_draw (hr.mono (by decide)) (by exact rfl) (takes_of rfl rfl rfl rfl) (sa_cons (se_var 0) (sa_cons (se_var 2) sa_nil))) (sg_name (i := 3) S.nd))
 (sb_cons (ss_asg (se_cal R__law_draw (hr.mono (by decide)) (by exact rfl) (takes_of rfl rfl rfl rfl) (sa_cons (se_var 0) (sa_cons (se_var 2) sa_nil))) (sg_name (i := 4) S.nd))
 (sb_cons (ss_pos (fzE 5) (fzE_ok _) (ss_asg (se_lst (sa_cons (se_fr 2) (sa_cons (se_plus (se_plus (se_var 2) se_int) (se_cal R__law_draw (hr.mono (by decide)) (by exact rfl) (takes_of rfl rfl rfl rfl) (sa_cons (se_var 0) (sa_cons se_int sa_nil)))) (sa_cons (se_neg se_int) (sa_cons (se_sub se_int (se_var 2)) (sa_cons se_bool (sa_cons se_bool (sa_cons se_none (sa_cons se_str (sa_cons (se_lst (sa_cons se_int sa_nil)) (sa_cons (se_tpl (sa_cons se_int sa_nil)) (sa_cons se_newd (sa_cons (se_pow se_int se_int) (sa_cons (se_idx (se_var 1) (se_var 4)) (sa_cons se_int (sa_cons se_int sa_nil)))))))))))))))) (sg_name (i := 5) S.nd)))
 (sb_cons (ss_pos (fzE 5) (fzE_ok _) (ss_ali (i := 5) S.nd (se_idx (se_var 5) (se_cal R__law_draw (hr.mono (by decide)) (by exact rfl) (takes_of rfl rfl rfl rfl) (sa_cons (se_var 0) (sa_cons se_int sa_nil))))))
 (sb_cons (ss_asg (se_plus (se_plus (se_cut (se_var 1) SO.none (SO.some (se_var 3))) (se_lst (sa_cons (se_fr 5) sa_nil))) (se_cut (se_var 1) (SO.some (se_plus (se_var 3) se_int)) SO.none)) (sg_name (i := 6) S.nd))
 (sb_cons (ss_asg (se_plus (se_plus (se_cut (se_var 1) SO.none (SO.some (se_var 3))) (se_lst (sa_cons (se_mv 5) sa_nil))) (se_cut (se_var 1) (SO.some (se_var 3)) SO.none)) (sg_name (i := 7) S.nd))
 (sb_cons (ss_pos (fzE 8) (fzE_ok _) (ss_asg (se_plus (se_times (se_lst (sa_cons (se_mv 6) sa_nil)) se_int) (se_times (se_lst (sa_cons (se_mv 7) sa_nil)) se_int)) (sg_name (i := 8) S.nd)))
 (sb_cons (ss_pos (fzE 8) (fzE_ok _) (ss_asg (se_plus (se_var 8) (se_lst (sa_cons (se_plus (se_cut (se_var 1) SO.none (SO.some (se_var 3))) (se_cut (se_var 1) (SO.some (se_plus (se_var 3) se_int)) SO.none)) (sa_cons (se_plus (se_var 1) (se_lst (sa_cons (se_mv 2) sa_nil))) (sa_cons (se_plus (se_var 1) (se_var 1)) (sa_cons (se_tuple (by exact rfl) T.b_tuple (se_var 1)) (sa_cons (se_lst (sa_cons (se_fr 1) sa_nil)) (sa_cons se_none (sa_cons se_str (sa_cons se_int (sa_cons se_newd (sa_cons (se_lst sa_nil) sa_nil)))))))))))) (sg_name (i := 8) S.nd)))
 (sb_cons (ss_pre (drE [false, false, true, true, true, true, true, true, false, true]) (drE_ok _) (ss_pos (fzE 8) (fzE_ok _) (ss_asg (se_plus (se_var 8) (se_lst (sa_cons (se_lc (own := [("one", 9)]) rfl S.nd (sit_list (se_var 1)) (blkOk_by (N := n__law_no_order) (sc := defScope s__law_no_order) (by decide +kernel)) (fun _ _ _ _ _ _ => (sg_name (i := 9) S.nd)) (fun _ _ _ _ _ => sts_nil) (fun _ _ _ _ _ => (se_plus (se_var 9) se_int))) (sa_cons (se_lc (own := [("one", 9)]) rfl S.nd (sit_list (se_var 1)) (blkOk_by (N := n__law_no_order) (sc := defScope s__law_no_order) (by decide +kernel)) (fun _ _ _ _ _ _ => (sg_name (i := 9) S.nd)) (fun _ _ _ _ _ => sts_nil) (fun _ _ _ _ _ => (se_sub se_int (se_var 9)))) (sa_cons (se_dctEn (by exact rfl) (by exact rfl) T.b_dict (by exact rfl) T.b_enumerate (se_var 1)) (sa_cons se_bool (sa_cons (se_rev (se_var 1)) sa_nil))))))) (sg_name (i := 8) S.nd))))
 (sb_one (ss_ret (se_idx (se_var 8) (se_cal R__law_draw (hr.mono (by decide)) (by exact rfl) (takes_of rfl rfl rfl rfl) (sa_cons (se_var 0) (sa_cons se_int sa_nil))))))))))))))))
theorem sc_law : FnScope n_law ["script"] (defScope s_law) := ⟨rfl, rfl, rfl, by decide +kernel, rfl, by decide +kernel, by decide +kernel⟩
theorem ok_law {fa : Addr} (T : Txt K mg xc) (R__law_deck : FnR P w K mg base xc 1 "_law_deck" [false] f__law_deck) (R__law_order : FnR P w K mg base xc 2 "_law_order" [true, false] f__law_order) (R__law_things : FnR P w K mg base xc 2 "_law_things" [true] f__law_things) (R_is_order : FnR P w K mg base xc 2 "is_order" [false] f_is_order) (R__law_right : FnR P w K mg base xc 3 "_law_right" [false] f__law_right) (R__law_no_order : FnR P w K mg base xc 2 "_law_no_order" [true, false] f__law_no_order) : BodyOk P w K mg base n_law "law" (defScope s_law) fa 3 xc [false] (defBody s_law) m_law :=
  have S := sc_law
  fun cdv A outer s H E g σ0 hr => (sb_cons (ss_asg (se_cal R__law_deck (hr.mono (by decide)) (by exact rfl) (takes_of rfl rfl rfl rfl) (sa_cons (se_var 0) sa_nil)) (sg_name (i := 1) S.nd))
 (sb_cons (ss_pos (drE [true, true, true, true, true, true]) (drE_ok _) (ss_for (passes_of rfl) rfl (sit_pos (drE [true, false, true, true, true, true]) (drE_ok _) (sit_rg1 (by exact rfl) T.b_range se_int)) (sg_name (i := 2) S.nd)
 (sb_pos (drE [true, false, true, true, true, true]) (drE_ok _) (sb_cons (ss_pos (fzE 3) (fzE_ok _) (ss_asg (se_cal R__law_order (hr.mono (by decide)) (by exact rfl) (takes_of rfl rfl rfl rfl) (sa_cons (se_var 1) (sa_cons (se_cal R__law_things (hr.mono (by decide)) (by exact rfl) (takes_of rfl rfl rfl rfl) (sa_cons (se_var 1) sa_nil)) sa_nil))) (sg_name (i := 3) S.nd)))
 (sb_cons (ss_if (st_cmp cr_isn (se_cal R_is_order (hr.mono (by decide)) (by exact rfl) (takes_of rfl rfl rfl rfl) (sa_cons (se_list (by exact rfl) T.b_list (se_var 3)) sa_nil)) se_bool) (sb_one (ss_ret se_bool)) sb_nil)
 (sb_one (ss_pos (drE [true, false, true, true, true, true]) (drE_ok _) (ss_for (passes_of rfl) rfl (sit_pos (drE [true, false, true, false, true, true]) (drE_ok _) (sit_rg1 (by exact rfl) T.b_range se_int)) (sg_name (i := 4) S.nd)
 (sb_pos (drE [true, false, true, false, true, true]) (drE_ok _) (sb_one (ss_if (st_not (st_val (se_cal R__law_right (hr.mono (by decide)) (by exact rfl) (takes_of rfl rfl rfl rfl) (sa_cons (se_cal R__law_no_order (hr.mono (by decide)) (by exact rfl) (takes_of rfl rfl rfl rfl) (sa_cons (se_var 1) (sa_cons (se_var 3) sa_nil))) sa_nil)))) (sb_one (ss_ret se_bool)) sb_nil)))))))))))
 (sb_cons (ss_pos (drE [true, true, true, true, true, true]) (drE_ok _) (ss_for (passes_of rfl) rfl (sit_pos (drE [true, true, true, true, true, true]) (drE_ok _) (sit_list (se_lst (sa_cons se_none (sa_cons se_int (sa_cons se_bool (sa_cons se_str (sa_cons se_str (sa_cons (se_lst sa_nil) (sa_cons (se_tpl sa_nil) (sa_cons se_newd (sa_cons (se_lst (sa_cons se_int sa_nil)) (sa_cons (se_lst (sa_cons se_int sa_nil)) (sa_cons (se_lst (sa_cons se_bool sa_nil)) (sa_cons (se_lst (sa_cons se_bool sa_nil)) (sa_cons (se_lst (sa_cons se_int (sa_cons se_int sa_nil))) (sa_cons (se_tpl (sa_cons se_int (sa_cons se_int sa_nil))) (sa_cons (se_lrg1 (by exact rfl) (by exact rfl) T.b_list (by exact rfl) T.b_range se_int) sa_nil)))))))))))))))))) (sg_name (i := 5) S.nd)
 (sb_pos (drE [true, true, true, true, true, true]) (drE_ok _) (sb_one (ss_if (st_not (st_val (se_cal R__law_right (hr.mono (by decide)) (by exact rfl) (takes_of rfl rfl rfl rfl) (sa_cons (se_var 5) sa_nil)))) (sb_one (ss_ret se_bool)) sb_nil)))))
 (sb_one (ss_ret (se_and (se_cmp cr_is (se_cal R_is_order (hr.mono (by decide)) (by exact rfl) (takes_of rfl rfl rfl rfl) (sa_cons (se_lrg1 (by exact rfl) (by exact rfl) T.b_list (by exact rfl) T.b_range se_int) sa_nil)) se_bool) (se_bo1 (se_cmp cr_is (se_cal R_is_order (hr.mono (by decide)) (by exact rfl) (takes_of rfl rfl rfl rfl) (sa_cons (se_rev (se_lrg1 (by exact rfl) (by exact rfl) T.b_list (by exact rfl) T.b_range se_int)) sa_nil)) se_bool))))))))
end
/-! ### the deck -/
def poolT (p : Int × Int × Int) : IV := .nd true [.d (.int p.1), .d (.int p.2.1), .d (.int p.2.2)]
def deckT (ps : List (Int × Int × Int)) (k : Int) : IV := .nd true [.nd true (ps.map poolT), .d (.int k)]
theorem draw_ok (ps : List (Int × Int × Int)) (k m : Int) (hp : ps ≠ []) (hm : 0 < m) (hm2 : m < 2 ^ 63) :
    ∃ ps' v, ps' ≠ [] ∧ 0 ≤ v ∧ v < m ∧ f__law_draw [deckT ps k, .d (.int m)] = .ok (.d (.int v)) [deckT ps' (k + 1)] := by
  have hl : 0 < ((ps.map poolT).length : Int) := by
    cases ps with
    | nil => exact absurd rfl hp
    | cons a b => simp
  have hm3 : m < 2 ^ 200 := Int.lt_trans hm2 (by decide)
  have z0 := Int.emod_nonneg k (show ((ps.map poolT).length : Int) ≠ 0 by omega)
  have z1 := Int.emod_lt_of_pos k hl
  obtain ⟨n, hn⟩ : ∃ n : Nat, k % ((ps.map poolT).length : Int) = n := ⟨(k % ((ps.map poolT).length : Int)).toNat, by omega⟩
  have hnl : n < ps.length := by rw [List.length_map] at *; omega
  have hx : (ps.map poolT)[n]? = some (poolT ps[n]) := by simp [hnl]
  have hE : ∀ o e, elemI o (some (.nd true (ps.map poolT))) (n : Int) e = .ok (subO o n (poolT ps[n])) e := fun o e => elem_at (ixN_lit (by simpa using hnl)) hx
  have hS : ∀ u, ((ps.map poolT).set n u)[n]? = some u := fun u => List.getElem?_set_self (by simpa using hnl)
  have hN : ∀ q, ps.set n q ≠ [] := fun q z => by
    have := congrArg List.length z
    rw [List.length_set, List.length_nil] at this
    omega
  generalize ps[n] = p at hE hx
  obtain ⟨a, b, c⟩ := p
  have dv : ∀ x, fDiv (.int x) (.int m) = some (.int (x / m)) := fun x => fDiv_i hm hm3
  have m1 : ∀ c, fMul (.int 700001) (.int c) = some (.int (700001 * c)) := fun c => fMul_i (mulOk_l (by decide))
  have m2 : ∀ x y, fMul (.int (x % 99999999947)) (.int y) = some (.int (x % 99999999947 * y)) := fun x y => fMul_i (mulOk_l (by omega))
  have m3 : ∀ x y, fMul (.int (x % 99999999821)) (.int y) = some (.int (x % 99999999821 * y)) := fun x y => fMul_i (mulOk_l (by omega))
  have done : ∀ v q, 0 ≤ v → v < m → f__law_draw [deckT ps k, .d (.int m)] = .ok (.d (.int v)) [.nd true [.nd true ((ps.map poolT).set n (poolT q)), .d (.int (k + 1))]] → ∃ ps' v, ps' ≠ [] ∧ 0 ≤ v ∧ v < m ∧ f__law_draw [deckT ps k, .d (.int m)] = .ok (.d (.int v)) [deckT ps' (k + 1)] := fun v q h1 h2 h3 =>
    ⟨ps.set n q, v, hN q, h1, h2, by rw [h3, deckT, List.map_set]⟩
  by_cases hc : b = 1 ∧ 0 < a
  · obtain ⟨rfl, ha⟩ := hc
    refine done (a % m) (a / m, 1, c) (Int.emod_nonneg _ (by omega)) (Int.emod_lt_of_pos _ hm) ?_
    simp only [f__law_draw, m__law_draw, deckT, bind_ok, bind_ex, toS_ok, toS_ex, sbind_nx, sbind_rt, sbind_bk, sbind_ex, iteR_t, iteR_f, nxS_e, bkS_e, exS_e, retN_e, exprS_e, ifS_e, retS_e, asgS_e, aliS_e, aliR_tm, aliR_vr, aliK_nd, aliQ_s, varM_e, varK_s, ctn_e, ctnK_s, getK_s, rsv_e, rsvK_iv, rsvK_lk, rsvK_al, rootOf_e, trK_iv, trK_lk, datK_s, toD_lf, toD_ndt, toD_ndf, toDL_nil, toDL_cons, consO_s, getP_nil, getP_cons, kids_nd, setP_nil, setP_cons, setPK_s, setK_nd, okA_e, okK_iv, okK_un, okK_al, okK_lk, writeR_e, wrK_s, wrR_iv, wrP_nd, wrF_s, toVR_vr, toVK_s, toV_tm, toV_vr, tovK_s, toVs_cons, mvM_e, mvK_lf, mvK_nd, mvK_al, frM_e, frK_lf, frK_nd, frD_s, endF_e, endK_s, outsE_nil, outsE_t, outsE_f, kl_un, kl_iv, kl_lk, kl_al, kx_un, kx_iv, kx_lk, kx_al, nextIs_nil, nextIs_cons, aliK_lf, endB_nx, endB_rt, setR_i, callR_e, callK1_s, callK2_s, backK_ok, backR_t, takeG_nil, takeG_f, takeG_t, tk1_s, tk2_s, tk3_s, tk4_s, argsL_nil, argsL_f, argsL_t, argK_lf, argK_nd, lent_nil, lent_f, lent_t, lentO_tm, lentO_vr, lentT_lf, lentT_nd, putG_nil, putG_cons, sqR_vr, sqK_l, sqK_t, noSh_d, noShL_nil, noShL_cons, noSh_nd, flat_i, okW_nil, okW_cons, wp_nil, wp_cons, kids_vrO, kidsT_l, kidsT_n, kidsT_m, bindL_e, bindLK_s, lstR_s, dat_tmn, lim_0, lim_1, lim_2, lim_3, lim_4, lim_5, lim_6, lim_7, lim_8, lim_9, lim_10, lim_11, lim_12, lim_13, lim_14, tupR_s, tupQ_s, leafDs_nil, leafDs_cons, leafD_d, consT_c, nilT_n, tupT_d, sqK_nt, sqN_s, sqM_iv, sqM_lk, unlkO_s, unlkK_lk, insM_e, insR_s, toVR_tm, cstM_e, op2M_e, addM_e, mulM_e, idxM_e, tstM_e, notT_e, andT_e, orT_e, andM_e, orM_e, notM_e, ifM_e, un1M_e, tr1M_e, ls1M_e, revM_e, nilA_e, consA_e, lstM_e, tplM_e, callM_e, subT_e, nameT_e, lrg1M_e, lrg2M_e, forS_e, sqI_e, rg1I_e, rg2I_e, lcM_e, augS_e, appM_e, popAtM_e, extM_e, stays_tm, stays_nil, stays_t, dat_tm, tree_tm, tree_vr, dat_vr, isB_b, asB_b, elemR_i, elem0, elem1, elem2, elem3, subO_lf, subO_nd, subO_tm, dat2_s, plusR_i, plusR_s, timesR_i, outM_i, outM_b, outM_s, fAdd_i, fSub_i, fLt_i, fLe_i, fGt_i, fGe_i, fEq_i, fNe_i, toVs_nil, mapT_s, fInt_i, fInt1_b, fInt1_i, lenT_s, lenT_l, elem_sc, elem_ls, elem_tu, okD_s, isLs_nd, apR_s, unlkO_n, mapI_ok, lenT_nd, seqS_e, List.getElem?_cons_zero, List.getElem?_cons_succ, List.set_cons_zero, List.set_cons_succ, List.append_nil, List.nil_append, List.cons_append, List.map_cons, List.map_nil, setA, killA, reduceIte, if_true, Option.map_some, Option.map_none, Bool.not_true, Bool.not_false, Bool.false_eq_true, if_false, ite_true, ite_false, id_eq, decide_true, decide_false, IV.toDL_d, lsD, Option.bind_some, killX, set0, set1, set2, envB, List.replicate, List.length_cons, List.length_nil, bodyF_e, List.isPrefixOf, List.drop, Bool.or_false, Bool.false_or, Bool.or_true, Bool.true_or, Bool.or_self, and_self, and_true, true_and, and_false, false_and, and_self, List.isPrefixOf_cons₂, List.drop_succ_cons, BEq.rfl, beq_self_eq_true, Bool.and_self, Bool.and_true, Bool.true_and, Nat.reduceAdd, Nat.reduceSub, Nat.reduceBEq, Nat.reduceEqDiff, beq_iff_eq, Int.reduceLT, Int.reducePow, Int.reduceNeg, List.isPrefixOf_nil_left, List.drop_zero, preS_e, posS_e, posR_nx, posR_bk, posR_rt, posR_ex, drE_nil, drE_t, drE_f, dr1_un, dr1_iv, dr1_lk, dr1_al, fzE_e, fzK_lf, fzK_nd, fzD_s, fzK_al, fzK_un, rdM_e, isLD_l, fzM_e, fzO_tm, fzO_vr, fzT_lf, zpI_e, lfK_d, zpR_s, yesM_e, preS_e, posS_e, posR_nx, posR_bk, posR_rt, posR_ex, drE_nil, drE_t, drE_f, dr1_un, dr1_iv, dr1_lk, dr1_al, fzE_e, fzK_lf, fzK_nd, fzD_s, fzK_al, fzK_un, rdM_e, isLD_l, fzM_e, fzO_tm, fzO_vr, fzT_lf, zpI_e, lfK_d, zpR_s, posI_e, posIR_ok, yesM_e, fEq2_e, fNe2_e, orE_some, fMod_i, dv, hl, hm, hn, hE, poolT, hx, ha, decide_true, hS]
  · refine done ((((((a % 99999999977 + 700001 * (c + 1)) % 99999999947) * ((a % 99999999977 + 700001 * (c + 1)) % 99999999947) % 99999999821) * ((((a % 99999999977 + 700001 * (c + 1)) % 99999999947) * ((a % 99999999977 + 700001 * (c + 1)) % 99999999947) % 99999999821) + 19) % 9999999967) / 13) % m) (a, b, c + 1) (Int.emod_nonneg _ (by omega)) (Int.emod_lt_of_pos _ hm) ?_
    have hc' : iteR (decide (b = 1)) (decide (0 < a)) false = false := by
      by_cases hb : b = 1
      · have : ¬ 0 < a := fun z => hc ⟨hb, z⟩
        simp [iteR, this]
      · simp [iteR, hb]
    have hI : ∀ e : Env', iteR (decide (b = 1)) (R.ok (decide (0 < a)) e) (R.ok false e) = R.ok false e := fun e => by
      by_cases hb : b = 1
      · have : ¬ 0 < a := fun z => hc ⟨hb, z⟩
        simp [iteR, this]
      · simp [iteR, hb]
    simp only [f__law_draw, m__law_draw, deckT, bind_ok, bind_ex, toS_ok, toS_ex, sbind_nx, sbind_rt, sbind_bk, sbind_ex, iteR_t, iteR_f, nxS_e, bkS_e, exS_e, retN_e, exprS_e, ifS_e, retS_e, asgS_e, aliS_e, aliR_tm, aliR_vr, aliK_nd, aliQ_s, varM_e, varK_s, ctn_e, ctnK_s, getK_s, rsv_e, rsvK_iv, rsvK_lk, rsvK_al, rootOf_e, trK_iv, trK_lk, datK_s, toD_lf, toD_ndt, toD_ndf, toDL_nil, toDL_cons, consO_s, getP_nil, getP_cons, kids_nd, setP_nil, setP_cons, setPK_s, setK_nd, okA_e, okK_iv, okK_un, okK_al, okK_lk, writeR_e, wrK_s, wrR_iv, wrP_nd, wrF_s, toVR_vr, toVK_s, toV_tm, toV_vr, tovK_s, toVs_cons, mvM_e, mvK_lf, mvK_nd, mvK_al, frM_e, frK_lf, frK_nd, frD_s, endF_e, endK_s, outsE_nil, outsE_t, outsE_f, kl_un, kl_iv, kl_lk, kl_al, kx_un, kx_iv, kx_lk, kx_al, nextIs_nil, nextIs_cons, aliK_lf, endB_nx, endB_rt, setR_i, callR_e, callK1_s, callK2_s, backK_ok, backR_t, takeG_nil, takeG_f, takeG_t, tk1_s, tk2_s, tk3_s, tk4_s, argsL_nil, argsL_f, argsL_t, argK_lf, argK_nd, lent_nil, lent_f, lent_t, lentO_tm, lentO_vr, lentT_lf, lentT_nd, putG_nil, putG_cons, sqR_vr, sqK_l, sqK_t, noSh_d, noShL_nil, noShL_cons, noSh_nd, flat_i, okW_nil, okW_cons, wp_nil, wp_cons, kids_vrO, kidsT_l, kidsT_n, kidsT_m, bindL_e, bindLK_s, lstR_s, dat_tmn, lim_0, lim_1, lim_2, lim_3, lim_4, lim_5, lim_6, lim_7, lim_8, lim_9, lim_10, lim_11, lim_12, lim_13, lim_14, tupR_s, tupQ_s, leafDs_nil, leafDs_cons, leafD_d, consT_c, nilT_n, tupT_d, sqK_nt, sqN_s, sqM_iv, sqM_lk, unlkO_s, unlkK_lk, insM_e, insR_s, toVR_tm, cstM_e, op2M_e, addM_e, mulM_e, idxM_e, tstM_e, notT_e, andT_e, orT_e, andM_e, orM_e, notM_e, ifM_e, un1M_e, tr1M_e, ls1M_e, revM_e, nilA_e, consA_e, lstM_e, tplM_e, callM_e, subT_e, nameT_e, lrg1M_e, lrg2M_e, forS_e, sqI_e, rg1I_e, rg2I_e, lcM_e, augS_e, appM_e, popAtM_e, extM_e, stays_tm, stays_nil, stays_t, dat_tm, tree_tm, tree_vr, dat_vr, isB_b, asB_b, elemR_i, elem0, elem1, elem2, elem3, subO_lf, subO_nd, subO_tm, dat2_s, plusR_i, plusR_s, timesR_i, outM_i, outM_b, outM_s, fAdd_i, fSub_i, fLt_i, fLe_i, fGt_i, fGe_i, fEq_i, fNe_i, toVs_nil, mapT_s, fInt_i, fInt1_b, fInt1_i, lenT_s, lenT_l, elem_sc, elem_ls, elem_tu, okD_s, isLs_nd, apR_s, unlkO_n, mapI_ok, lenT_nd, seqS_e, List.getElem?_cons_zero, List.getElem?_cons_succ, List.set_cons_zero, List.set_cons_succ, List.append_nil, List.nil_append, List.cons_append, List.map_cons, List.map_nil, setA, killA, reduceIte, if_true, Option.map_some, Option.map_none, Bool.not_true, Bool.not_false, Bool.false_eq_true, if_false, ite_true, ite_false, id_eq, decide_true, decide_false, IV.toDL_d, lsD, Option.bind_some, killX, set0, set1, set2, envB, List.replicate, List.length_cons, List.length_nil, bodyF_e, List.isPrefixOf, List.drop, Bool.or_false, Bool.false_or, Bool.or_true, Bool.true_or, Bool.or_self, and_self, and_true, true_and, and_false, false_and, and_self, List.isPrefixOf_cons₂, List.drop_succ_cons, BEq.rfl, beq_self_eq_true, Bool.and_self, Bool.and_true, Bool.true_and, Nat.reduceAdd, Nat.reduceSub, Nat.reduceBEq, Nat.reduceEqDiff, beq_iff_eq, Int.reduceLT, Int.reducePow, Int.reduceNeg, List.isPrefixOf_nil_left, List.drop_zero, preS_e, posS_e, posR_nx, posR_bk, posR_rt, posR_ex, drE_nil, drE_t, drE_f, dr1_un, dr1_iv, dr1_lk, dr1_al, fzE_e, fzK_lf, fzK_nd, fzD_s, fzK_al, fzK_un, rdM_e, isLD_l, fzM_e, fzO_tm, fzO_vr, fzT_lf, zpI_e, lfK_d, zpR_s, yesM_e, preS_e, posS_e, posR_nx, posR_bk, posR_rt, posR_ex, drE_nil, drE_t, drE_f, dr1_un, dr1_iv, dr1_lk, dr1_al, fzE_e, fzK_lf, fzK_nd, fzD_s, fzK_al, fzK_un, rdM_e, isLD_l, fzM_e, fzO_tm, fzO_vr, fzT_lf, zpI_e, lfK_d, zpR_s, posI_e, posIR_ok, yesM_e, fEq2_e, fNe2_e, orE_some, fMod_i, fDiv_i, hl, hm, hm3, hn, hE, poolT, hx, hS, hI, m1, m2, m3]
theorem deck_step (ns : List Int) (ps : List (Int × Int × Int)) (k : Nat) (hp : ps.length ≤ 1000) : ∃ q, b__law_deck_0 [.iv (.lf (.s ns)), .iv (.nd true (ps.map poolT)), .iv (.d (.int (k : Nat))), .un] = .nx [.iv (.lf (.s ns)), .iv (.nd true ((ps ++ [q]).map poolT)), .un, .un] := by
  have e10 : fPow (.int 10) (.int 18) = some (.int 1000000000000000000) := rfl
  have m31 : ∀ x, fMul (.int 31) (.int x) = some (.int (31 * x)) := fun x => fMul_i (mulOk_l (by decide))
  have hap : ∀ u, apF u (ps.map poolT) = some (ps.map poolT ++ [u], fun i => decide ((ps.map poolT).length ≤ i), ()) := fun u => apF_ok (by rw [List.length_map]; omega)
  have l3 : lim 3 = true := by decide
  by_cases hk : k < ns.length
  · have ha : atI ns (k : Int) = some ns[k] := atI_nat (List.getElem?_eq_getElem hk)
    have hk' : ((k : Int) < ns.length) = True := by simp; omega
    refine ⟨(ns[k], if decide (1000000000000000000 ≤ ns[k]) = true then 1 else 0, 31 * k), ?_⟩
    simp only [b__law_deck_0, bind_ok, bind_ex, toS_ok, toS_ex, sbind_nx, sbind_rt, sbind_bk, sbind_ex, iteR_t, iteR_f, nxS_e, bkS_e, exS_e, retN_e, exprS_e, ifS_e, retS_e, asgS_e, aliS_e, aliR_tm, aliR_vr, aliK_nd, aliQ_s, varM_e, varK_s, ctn_e, ctnK_s, getK_s, rsv_e, rsvK_iv, rsvK_lk, rsvK_al, rootOf_e, trK_iv, trK_lk, datK_s, toD_lf, toD_ndt, toD_ndf, toDL_nil, toDL_cons, consO_s, getP_nil, getP_cons, kids_nd, setP_nil, setP_cons, setPK_s, setK_nd, okA_e, okK_iv, okK_un, okK_al, okK_lk, writeR_e, wrK_s, wrR_iv, wrP_nd, wrF_s, toVR_vr, toVK_s, toV_tm, toV_vr, tovK_s, toVs_cons, mvM_e, mvK_lf, mvK_nd, mvK_al, frM_e, frK_lf, frK_nd, frD_s, endF_e, endK_s, outsE_nil, outsE_t, outsE_f, kl_un, kl_iv, kl_lk, kl_al, kx_un, kx_iv, kx_lk, kx_al, nextIs_nil, nextIs_cons, aliK_lf, endB_nx, endB_rt, setR_i, callR_e, callK1_s, callK2_s, backK_ok, backR_t, takeG_nil, takeG_f, takeG_t, tk1_s, tk2_s, tk3_s, tk4_s, argsL_nil, argsL_f, argsL_t, argK_lf, argK_nd, lent_nil, lent_f, lent_t, lentO_tm, lentO_vr, lentT_lf, lentT_nd, putG_nil, putG_cons, sqR_vr, sqK_l, sqK_t, noSh_d, noShL_nil, noShL_cons, noSh_nd, flat_i, okW_nil, okW_cons, wp_nil, wp_cons, kids_vrO, kidsT_l, kidsT_n, kidsT_m, bindL_e, bindLK_s, lstR_s, dat_tmn, lim_0, lim_1, lim_2, lim_3, lim_4, lim_5, lim_6, lim_7, lim_8, lim_9, lim_10, lim_11, lim_12, lim_13, lim_14, tupR_s, tupQ_s, leafDs_nil, leafDs_cons, leafD_d, consT_c, nilT_n, tupT_d, sqK_nt, sqN_s, sqM_iv, sqM_lk, unlkO_s, unlkK_lk, insM_e, insR_s, toVR_tm, cstM_e, op2M_e, addM_e, mulM_e, idxM_e, tstM_e, notT_e, andT_e, orT_e, andM_e, orM_e, notM_e, ifM_e, un1M_e, tr1M_e, ls1M_e, revM_e, nilA_e, consA_e, lstM_e, tplM_e, callM_e, subT_e, nameT_e, lrg1M_e, lrg2M_e, forS_e, sqI_e, rg1I_e, rg2I_e, lcM_e, augS_e, appM_e, popAtM_e, extM_e, stays_tm, stays_nil, stays_t, dat_tm, tree_tm, tree_vr, dat_vr, isB_b, asB_b, elemR_i, elem0, elem1, elem2, elem3, subO_lf, subO_nd, subO_tm, dat2_s, plusR_i, plusR_s, timesR_i, outM_i, outM_b, outM_s, fAdd_i, fSub_i, fLt_i, fLe_i, fGt_i, fGe_i, fEq_i, fNe_i, toVs_nil, mapT_s, fInt_i, fInt1_b, fInt1_i, lenT_s, lenT_l, elem_sc, elem_ls, elem_tu, okD_s, isLs_nd, apR_s, unlkO_n, mapI_ok, lenT_nd, seqS_e, List.getElem?_cons_zero, List.getElem?_cons_succ, List.set_cons_zero, List.set_cons_succ, List.append_nil, List.nil_append, List.cons_append, List.map_cons, List.map_nil, setA, killA, reduceIte, if_true, Option.map_some, Option.map_none, Bool.not_true, Bool.not_false, Bool.false_eq_true, if_false, ite_true, ite_false, id_eq, decide_true, decide_false, IV.toDL_d, lsD, Option.bind_some, killX, set0, set1, set2, envB, List.replicate, List.length_cons, List.length_nil, bodyF_e, List.isPrefixOf, List.drop, Bool.or_false, Bool.false_or, Bool.or_true, Bool.true_or, Bool.or_self, and_self, and_true, true_and, and_false, false_and, and_self, List.isPrefixOf_cons₂, List.drop_succ_cons, BEq.rfl, beq_self_eq_true, Bool.and_self, Bool.and_true, Bool.true_and, Nat.reduceAdd, Nat.reduceSub, Nat.reduceBEq, Nat.reduceEqDiff, beq_iff_eq, Int.reduceLT, Int.reducePow, Int.reduceNeg, List.isPrefixOf_nil_left, List.drop_zero, preS_e, posS_e, posR_nx, posR_bk, posR_rt, posR_ex, drE_nil, drE_t, drE_f, dr1_un, dr1_iv, dr1_lk, dr1_al, fzE_e, fzK_lf, fzK_nd, fzD_s, fzK_al, fzK_un, rdM_e, isLD_l, fzM_e, fzO_tm, fzO_vr, fzT_lf, zpI_e, lfK_d, zpR_s, yesM_e, preS_e, posS_e, posR_nx, posR_bk, posR_rt, posR_ex, drE_nil, drE_t, drE_f, dr1_un, dr1_iv, dr1_lk, dr1_al, fzE_e, fzK_lf, fzK_nd, fzD_s, fzK_al, fzK_un, rdM_e, isLD_l, fzM_e, fzO_tm, fzO_vr, fzT_lf, zpI_e, lfK_d, zpR_s, posI_e, posIR_ok, yesM_e, fEq2_e, fNe2_e, orE_some, hk', decide_true, ha, e10, m31, l3, hap, poolT, List.map_append]
  · have hk' : ((k : Int) < ns.length) = False := by simp; omega
    refine ⟨(0, if decide (1000000000000000000 ≤ (0 : Int)) = true then 1 else 0, 31 * k), ?_⟩
    simp only [b__law_deck_0, bind_ok, bind_ex, toS_ok, toS_ex, sbind_nx, sbind_rt, sbind_bk, sbind_ex, iteR_t, iteR_f, nxS_e, bkS_e, exS_e, retN_e, exprS_e, ifS_e, retS_e, asgS_e, aliS_e, aliR_tm, aliR_vr, aliK_nd, aliQ_s, varM_e, varK_s, ctn_e, ctnK_s, getK_s, rsv_e, rsvK_iv, rsvK_lk, rsvK_al, rootOf_e, trK_iv, trK_lk, datK_s, toD_lf, toD_ndt, toD_ndf, toDL_nil, toDL_cons, consO_s, getP_nil, getP_cons, kids_nd, setP_nil, setP_cons, setPK_s, setK_nd, okA_e, okK_iv, okK_un, okK_al, okK_lk, writeR_e, wrK_s, wrR_iv, wrP_nd, wrF_s, toVR_vr, toVK_s, toV_tm, toV_vr, tovK_s, toVs_cons, mvM_e, mvK_lf, mvK_nd, mvK_al, frM_e, frK_lf, frK_nd, frD_s, endF_e, endK_s, outsE_nil, outsE_t, outsE_f, kl_un, kl_iv, kl_lk, kl_al, kx_un, kx_iv, kx_lk, kx_al, nextIs_nil, nextIs_cons, aliK_lf, endB_nx, endB_rt, setR_i, callR_e, callK1_s, callK2_s, backK_ok, backR_t, takeG_nil, takeG_f, takeG_t, tk1_s, tk2_s, tk3_s, tk4_s, argsL_nil, argsL_f, argsL_t, argK_lf, argK_nd, lent_nil, lent_f, lent_t, lentO_tm, lentO_vr, lentT_lf, lentT_nd, putG_nil, putG_cons, sqR_vr, sqK_l, sqK_t, noSh_d, noShL_nil, noShL_cons, noSh_nd, flat_i, okW_nil, okW_cons, wp_nil, wp_cons, kids_vrO, kidsT_l, kidsT_n, kidsT_m, bindL_e, bindLK_s, lstR_s, dat_tmn, lim_0, lim_1, lim_2, lim_3, lim_4, lim_5, lim_6, lim_7, lim_8, lim_9, lim_10, lim_11, lim_12, lim_13, lim_14, tupR_s, tupQ_s, leafDs_nil, leafDs_cons, leafD_d, consT_c, nilT_n, tupT_d, sqK_nt, sqN_s, sqM_iv, sqM_lk, unlkO_s, unlkK_lk, insM_e, insR_s, toVR_tm, cstM_e, op2M_e, addM_e, mulM_e, idxM_e, tstM_e, notT_e, andT_e, orT_e, andM_e, orM_e, notM_e, ifM_e, un1M_e, tr1M_e, ls1M_e, revM_e, nilA_e, consA_e, lstM_e, tplM_e, callM_e, subT_e, nameT_e, lrg1M_e, lrg2M_e, forS_e, sqI_e, rg1I_e, rg2I_e, lcM_e, augS_e, appM_e, popAtM_e, extM_e, stays_tm, stays_nil, stays_t, dat_tm, tree_tm, tree_vr, dat_vr, isB_b, asB_b, elemR_i, elem0, elem1, elem2, elem3, subO_lf, subO_nd, subO_tm, dat2_s, plusR_i, plusR_s, timesR_i, outM_i, outM_b, outM_s, fAdd_i, fSub_i, fLt_i, fLe_i, fGt_i, fGe_i, fEq_i, fNe_i, toVs_nil, mapT_s, fInt_i, fInt1_b, fInt1_i, lenT_s, lenT_l, elem_sc, elem_ls, elem_tu, okD_s, isLs_nd, apR_s, unlkO_n, mapI_ok, lenT_nd, seqS_e, List.getElem?_cons_zero, List.getElem?_cons_succ, List.set_cons_zero, List.set_cons_succ, List.append_nil, List.nil_append, List.cons_append, List.map_cons, List.map_nil, setA, killA, reduceIte, if_true, Option.map_some, Option.map_none, Bool.not_true, Bool.not_false, Bool.false_eq_true, if_false, ite_true, ite_false, id_eq, decide_true, decide_false, IV.toDL_d, lsD, Option.bind_some, killX, set0, set1, set2, envB, List.replicate, List.length_cons, List.length_nil, bodyF_e, List.isPrefixOf, List.drop, Bool.or_false, Bool.false_or, Bool.or_true, Bool.true_or, Bool.or_self, and_self, and_true, true_and, and_false, false_and, and_self, List.isPrefixOf_cons₂, List.drop_succ_cons, BEq.rfl, beq_self_eq_true, Bool.and_self, Bool.and_true, Bool.true_and, Nat.reduceAdd, Nat.reduceSub, Nat.reduceBEq, Nat.reduceEqDiff, beq_iff_eq, Int.reduceLT, Int.reducePow, Int.reduceNeg, List.isPrefixOf_nil_left, List.drop_zero, preS_e, posS_e, posR_nx, posR_bk, posR_rt, posR_ex, drE_nil, drE_t, drE_f, dr1_un, dr1_iv, dr1_lk, dr1_al, fzE_e, fzK_lf, fzK_nd, fzD_s, fzK_al, fzK_un, rdM_e, isLD_l, fzM_e, fzO_tm, fzO_vr, fzT_lf, zpI_e, lfK_d, zpR_s, yesM_e, preS_e, posS_e, posR_nx, posR_bk, posR_rt, posR_ex, drE_nil, drE_t, drE_f, dr1_un, dr1_iv, dr1_lk, dr1_al, fzE_e, fzK_lf, fzK_nd, fzD_s, fzK_al, fzK_un, rdM_e, isLD_l, fzM_e, fzO_tm, fzO_vr, fzT_lf, zpI_e, lfK_d, zpR_s, posI_e, posIR_ok, yesM_e, fEq2_e, fNe2_e, orE_some, hk', decide_false, e10, m31, l3, hap, poolT, List.map_append]
theorem deck_ok (ns : List Int) (hl : ns.length ≤ 63) : ∃ ps, ps ≠ [] ∧ f__law_deck [.lf (.s ns)] = .ok (deckT ps 0) [] := by
  have hmm : (if (if (ns.length : Int) < 63 then (ns.length : Int) else 63) > 1 then (if (ns.length : Int) < 63 then (ns.length : Int) else 63) else 1) = ((max 1 ns.length : Nat) : Int) := by
    split <;> split <;> omega
  obtain ⟨e', h1, ps, hps, rfl⟩ := forG_inv (fin := id) (tg := nameT 2) (body := b__law_deck_0) (fun j e => ∃ (ps : List (Int × Int × Int)), ps.length = j ∧ e = [.iv (.lf (.s ns)), .iv (.nd true (ps.map poolT)), .un, .un]) ((rgD 0 (max 1 ns.length : Nat)).map IV.d) (e := [.iv (.lf (.s ns)), .iv (.nd true []), .un, .un]) ⟨[], rfl, rfl⟩ (by
    rintro j t e hj ⟨ps, rfl, rfl⟩
    obtain ⟨rfl, hjl⟩ := rg_get hj
    rw [Int.zero_add]
    obtain ⟨q, h2⟩ := deck_step ns ps ps.length (by omega)
    exact ⟨_, _, by simp only [bind_ok, bind_ex, toS_ok, toS_ex, sbind_nx, sbind_rt, sbind_bk, sbind_ex, iteR_t, iteR_f, nxS_e, bkS_e, exS_e, retN_e, exprS_e, ifS_e, retS_e, asgS_e, aliS_e, aliR_tm, aliR_vr, aliK_nd, aliQ_s, varM_e, varK_s, ctn_e, ctnK_s, getK_s, rsv_e, rsvK_iv, rsvK_lk, rsvK_al, rootOf_e, trK_iv, trK_lk, datK_s, toD_lf, toD_ndt, toD_ndf, toDL_nil, toDL_cons, consO_s, getP_nil, getP_cons, kids_nd, setP_nil, setP_cons, setPK_s, setK_nd, okA_e, okK_iv, okK_un, okK_al, okK_lk, writeR_e, wrK_s, wrR_iv, wrP_nd, wrF_s, toVR_vr, toVK_s, toV_tm, toV_vr, tovK_s, toVs_cons, mvM_e, mvK_lf, mvK_nd, mvK_al, frM_e, frK_lf, frK_nd, frD_s, endF_e, endK_s, outsE_nil, outsE_t, outsE_f, kl_un, kl_iv, kl_lk, kl_al, kx_un, kx_iv, kx_lk, kx_al, nextIs_nil, nextIs_cons, aliK_lf, endB_nx, endB_rt, setR_i, callR_e, callK1_s, callK2_s, backK_ok, backR_t, takeG_nil, takeG_f, takeG_t, tk1_s, tk2_s, tk3_s, tk4_s, argsL_nil, argsL_f, argsL_t, argK_lf, argK_nd, lent_nil, lent_f, lent_t, lentO_tm, lentO_vr, lentT_lf, lentT_nd, putG_nil, putG_cons, sqR_vr, sqK_l, sqK_t, noSh_d, noShL_nil, noShL_cons, noSh_nd, flat_i, okW_nil, okW_cons, wp_nil, wp_cons, kids_vrO, kidsT_l, kidsT_n, kidsT_m, bindL_e, bindLK_s, lstR_s, dat_tmn, lim_0, lim_1, lim_2, lim_3, lim_4, lim_5, lim_6, lim_7, lim_8, lim_9, lim_10, lim_11, lim_12, lim_13, lim_14, tupR_s, tupQ_s, leafDs_nil, leafDs_cons, leafD_d, consT_c, nilT_n, tupT_d, sqK_nt, sqN_s, sqM_iv, sqM_lk, unlkO_s, unlkK_lk, insM_e, insR_s, toVR_tm, cstM_e, op2M_e, addM_e, mulM_e, idxM_e, tstM_e, notT_e, andT_e, orT_e, andM_e, orM_e, notM_e, ifM_e, un1M_e, tr1M_e, ls1M_e, revM_e, nilA_e, consA_e, lstM_e, tplM_e, callM_e, subT_e, nameT_e, lrg1M_e, lrg2M_e, forS_e, sqI_e, rg1I_e, rg2I_e, lcM_e, augS_e, appM_e, popAtM_e, extM_e, stays_tm, stays_nil, stays_t, dat_tm, tree_tm, tree_vr, dat_vr, isB_b, asB_b, elemR_i, elem0, elem1, elem2, elem3, subO_lf, subO_nd, subO_tm, dat2_s, plusR_i, plusR_s, timesR_i, outM_i, outM_b, outM_s, fAdd_i, fSub_i, fLt_i, fLe_i, fGt_i, fGe_i, fEq_i, fNe_i, toVs_nil, mapT_s, fInt_i, fInt1_b, fInt1_i, lenT_s, lenT_l, elem_sc, elem_ls, elem_tu, okD_s, isLs_nd, apR_s, unlkO_n, mapI_ok, lenT_nd, seqS_e, List.getElem?_cons_zero, List.getElem?_cons_succ, List.set_cons_zero, List.set_cons_succ, List.append_nil, List.nil_append, List.cons_append, List.map_cons, List.map_nil, setA, killA, reduceIte, if_true, Option.map_some, Option.map_none, Bool.not_true, Bool.not_false, Bool.false_eq_true, if_false, ite_true, ite_false, id_eq, decide_true, decide_false, IV.toDL_d, lsD, Option.bind_some, killX, set0, set1, set2, envB, List.replicate, List.length_cons, List.length_nil, bodyF_e, List.isPrefixOf, List.drop, Bool.or_false, Bool.false_or, Bool.or_true, Bool.true_or, Bool.or_self, and_self, and_true, true_and, and_false, false_and, and_self, List.isPrefixOf_cons₂, List.drop_succ_cons, BEq.rfl, beq_self_eq_true, Bool.and_self, Bool.and_true, Bool.true_and, Nat.reduceAdd, Nat.reduceSub, Nat.reduceBEq, Nat.reduceEqDiff, beq_iff_eq, Int.reduceLT, Int.reducePow, Int.reduceNeg, List.isPrefixOf_nil_left, List.drop_zero, preS_e, posS_e, posR_nx, posR_bk, posR_rt, posR_ex, drE_nil, drE_t, drE_f, dr1_un, dr1_iv, dr1_lk, dr1_al, fzE_e, fzK_lf, fzK_nd, fzD_s, fzK_al, fzK_un, rdM_e, isLD_l, fzM_e, fzO_tm, fzO_vr, fzT_lf, zpI_e, lfK_d, zpR_s, yesM_e, preS_e, posS_e, posR_nx, posR_bk, posR_rt, posR_ex, drE_nil, drE_t, drE_f, dr1_un, dr1_iv, dr1_lk, dr1_al, fzE_e, fzK_lf, fzK_nd, fzD_s, fzK_al, fzK_un, rdM_e, isLD_l, fzM_e, fzO_tm, fzO_vr, fzT_lf, zpI_e, lfK_d, zpR_s, posI_e, posIR_ok, yesM_e, fEq2_e, fNe2_e, orE_some], h2, ps ++ [q], by simp, rfl⟩)
  have hne : ps ≠ [] := fun z => by
    rw [z, rg_len] at hps
    simp at hps
    omega
  refine ⟨ps, hne, ?_⟩
  have sm : ∀ x : Int, 0 ≤ x → x ≤ 63 → smI x = true := fun x h1 h2 => sm_ok (by omega)
  have hr : ∀ e, rgI (some (.int 0)) (some (.int (if (if (ns.length : Int) < 63 then (ns.length : Int) else 63) > 1 then (if (ns.length : Int) < 63 then (ns.length : Int) else 63) else 1))) e = .ok (rgD 0 ((max 1 ns.length : Nat) : Int), none) e := fun e => by
    rw [hmm]
    exact rgI_ok (by rw [sm _ (by omega) (by omega), sm _ (by omega) (by omega)]; rfl)
  have h1' : forG (unlkO none) (nameT 2) b__law_deck_0 ((rgD 0 (max 1 ns.length : Nat)).map IV.d) [.iv (.lf (.s ns)), .iv (.nd true []), .un, .un] = .nx [.iv (.lf (.s ns)), .iv (.nd true (ps.map poolT)), .un, .un] := h1
  simp only [f__law_deck, m__law_deck, bind_ok, bind_ex, toS_ok, toS_ex, sbind_nx, sbind_rt, sbind_bk, sbind_ex, iteR_t, iteR_f, nxS_e, bkS_e, exS_e, retN_e, exprS_e, ifS_e, retS_e, asgS_e, aliS_e, aliR_tm, aliR_vr, aliK_nd, aliQ_s, varM_e, varK_s, ctn_e, ctnK_s, getK_s, rsv_e, rsvK_iv, rsvK_lk, rsvK_al, rootOf_e, trK_iv, trK_lk, datK_s, toD_lf, toD_ndt, toD_ndf, toDL_nil, toDL_cons, consO_s, getP_nil, getP_cons, kids_nd, setP_nil, setP_cons, setPK_s, setK_nd, okA_e, okK_iv, okK_un, okK_al, okK_lk, writeR_e, wrK_s, wrR_iv, wrP_nd, wrF_s, toVR_vr, toVK_s, toV_tm, toV_vr, tovK_s, toVs_cons, mvM_e, mvK_lf, mvK_nd, mvK_al, frM_e, frK_lf, frK_nd, frD_s, endF_e, endK_s, outsE_nil, outsE_t, outsE_f, kl_un, kl_iv, kl_lk, kl_al, kx_un, kx_iv, kx_lk, kx_al, nextIs_nil, nextIs_cons, aliK_lf, endB_nx, endB_rt, setR_i, callR_e, callK1_s, callK2_s, backK_ok, backR_t, takeG_nil, takeG_f, takeG_t, tk1_s, tk2_s, tk3_s, tk4_s, argsL_nil, argsL_f, argsL_t, argK_lf, argK_nd, lent_nil, lent_f, lent_t, lentO_tm, lentO_vr, lentT_lf, lentT_nd, putG_nil, putG_cons, sqR_vr, sqK_l, sqK_t, noSh_d, noShL_nil, noShL_cons, noSh_nd, flat_i, okW_nil, okW_cons, wp_nil, wp_cons, kids_vrO, kidsT_l, kidsT_n, kidsT_m, bindL_e, bindLK_s, lstR_s, dat_tmn, lim_0, lim_1, lim_2, lim_3, lim_4, lim_5, lim_6, lim_7, lim_8, lim_9, lim_10, lim_11, lim_12, lim_13, lim_14, tupR_s, tupQ_s, leafDs_nil, leafDs_cons, leafD_d, consT_c, nilT_n, tupT_d, sqK_nt, sqN_s, sqM_iv, sqM_lk, unlkO_s, unlkK_lk, insM_e, insR_s, toVR_tm, cstM_e, op2M_e, addM_e, mulM_e, idxM_e, tstM_e, notT_e, andT_e, orT_e, andM_e, orM_e, notM_e, ifM_e, un1M_e, tr1M_e, ls1M_e, revM_e, nilA_e, consA_e, lstM_e, tplM_e, callM_e, subT_e, nameT_e, lrg1M_e, lrg2M_e, forS_e, sqI_e, rg1I_e, rg2I_e, lcM_e, augS_e, appM_e, popAtM_e, extM_e, stays_tm, stays_nil, stays_t, dat_tm, tree_tm, tree_vr, dat_vr, isB_b, asB_b, elemR_i, elem0, elem1, elem2, elem3, subO_lf, subO_nd, subO_tm, dat2_s, plusR_i, plusR_s, timesR_i, outM_i, outM_b, outM_s, fAdd_i, fSub_i, fLt_i, fLe_i, fGt_i, fGe_i, fEq_i, fNe_i, toVs_nil, mapT_s, fInt_i, fInt1_b, fInt1_i, lenT_s, lenT_l, elem_sc, elem_ls, elem_tu, okD_s, isLs_nd, apR_s, unlkO_n, mapI_ok, lenT_nd, seqS_e, List.getElem?_cons_zero, List.getElem?_cons_succ, List.set_cons_zero, List.set_cons_succ, List.append_nil, List.nil_append, List.cons_append, List.map_cons, List.map_nil, setA, killA, reduceIte, if_true, Option.map_some, Option.map_none, Bool.not_true, Bool.not_false, Bool.false_eq_true, if_false, ite_true, ite_false, id_eq, decide_true, decide_false, IV.toDL_d, lsD, Option.bind_some, killX, set0, set1, set2, envB, List.replicate, List.length_cons, List.length_nil, bodyF_e, List.isPrefixOf, List.drop, Bool.or_false, Bool.false_or, Bool.or_true, Bool.true_or, Bool.or_self, and_self, and_true, true_and, and_false, false_and, and_self, List.isPrefixOf_cons₂, List.drop_succ_cons, BEq.rfl, beq_self_eq_true, Bool.and_self, Bool.and_true, Bool.true_and, Nat.reduceAdd, Nat.reduceSub, Nat.reduceBEq, Nat.reduceEqDiff, beq_iff_eq, Int.reduceLT, Int.reducePow, Int.reduceNeg, List.isPrefixOf_nil_left, List.drop_zero, preS_e, posS_e, posR_nx, posR_bk, posR_rt, posR_ex, drE_nil, drE_t, drE_f, dr1_un, dr1_iv, dr1_lk, dr1_al, fzE_e, fzK_lf, fzK_nd, fzD_s, fzK_al, fzK_un, rdM_e, isLD_l, fzM_e, fzO_tm, fzO_vr, fzT_lf, zpI_e, lfK_d, zpR_s, yesM_e, preS_e, posS_e, posR_nx, posR_bk, posR_rt, posR_ex, drE_nil, drE_t, drE_f, dr1_un, dr1_iv, dr1_lk, dr1_al, fzE_e, fzK_lf, fzK_nd, fzD_s, fzK_al, fzK_un, rdM_e, isLD_l, fzM_e, fzO_tm, fzO_vr, fzT_lf, zpI_e, lfK_d, zpR_s, posI_e, posIR_ok, yesM_e, fEq2_e, fNe2_e, orE_some, hr, h1', deckT]
def Deck (t : IV) : Prop := ∃ ps k, ps ≠ [] ∧ t = deckT ps k
theorem draw_is {t : IV} (h : Deck t) (m : Int) (hm : 0 < m) (hm2 : m < 2 ^ 63) : ∃ t' v, Deck t' ∧ 0 ≤ v ∧ v < m ∧ f__law_draw [t, .d (.int m)] = .ok (I v) [t'] := by
  obtain ⟨ps, k, hp, rfl⟩ := h
  obtain ⟨ps', v, h1, h2, h3, h4⟩ := draw_ok ps k m hp hm hm2
  exact ⟨_, v, ⟨ps', k + 1, h1, rfl⟩, h2, h3, h4⟩
theorem draw_nat {t : IV} (h : Deck t) (m : Nat) (hm : 0 < m) (hm2 : m < 2 ^ 62) : ∃ t' v, Deck t' ∧ v < m ∧ f__law_draw [t, .d (.int (m : Nat))] = .ok (I (v : Nat)) [t'] := by
  obtain ⟨t', v, h1, h2, h3, h4⟩ := draw_is h (m : Nat) (by omega) (by omega)
  obtain ⟨k, rfl⟩ : ∃ k : Nat, v = k := ⟨v.toNat, by omega⟩
  exact ⟨t', k, h1, by omega, h4⟩
/-! ### a drawn order -/
def ordE (t : IV) (n : Nat) (xs : List Int) (w : Sl IV) (s4 s5 : Sl IV) : Env' := [.iv t, .iv (I (n : Nat)), .iv (.nd true (ivL xs)), w, s4, s5]
theorem order_pops (n : Nat) (hn : n ≤ 12) (t : IV) (ht : Deck t) : ∃ t' ys xs, Deck t' ∧ (ys ++ xs).Perm (upN n) ∧ ys.length = n ∧ lcG [4] (nameT 4) yesM b__law_order_0 ((rgD 0 (n : Int)).map IV.d) [] (ordE t n (upN n) .un .un .un) = .ok (ivL ys) (ordE t' n xs .un .un .un) := by
  have := lcG_inv (own := [4]) (tg := nameT 4) (mt := yesM) (me := b__law_order_0) (fun j acc e => ∃ t ys xs, Deck t ∧ (ys ++ xs).Perm (upN n) ∧ ys.length = j ∧ acc = ivL ys ∧ e = ordE t n xs .un .un .un) ((rgD 0 (n : Int)).map IV.d) (e := ordE t n (upN n) .un .un .un) ⟨t, [], upN n, ht, .refl _, rfl, rfl, rfl⟩ (by rw [rg_len]; omega) (by
    rintro j u acc e hj ⟨t, ys, xs, ht, hp, rfl, rfl, rfl⟩
    obtain ⟨rfl, hjl⟩ := rg_get hj
    have hlen : ys.length + xs.length = n := by
      have := hp.length_eq
      rw [List.length_append, upN_len] at this
      exact this
    obtain ⟨t', v, ht', h0, h1, hd⟩ := draw_is ht (xs.length : Nat) (by omega) (by omega)
    obtain ⟨k, rfl⟩ : ∃ k : Nat, v = k := ⟨v.toNat, by omega⟩
    have hk : k < xs.length := by omega
    have hpop := pop_iv hk (by omega)
    refine ⟨ordE t n xs .un (.iv (I (0 + (ys.length : Nat)))) .un, true, ordE t n xs .un (.iv (I (0 + (ys.length : Nat)))) .un, by simp only [ordE, bind_ok, bind_ex, toS_ok, toS_ex, sbind_nx, sbind_rt, sbind_bk, sbind_ex, iteR_t, iteR_f, nxS_e, bkS_e, exS_e, retN_e, exprS_e, ifS_e, retS_e, asgS_e, aliS_e, aliR_tm, aliR_vr, aliK_nd, aliQ_s, varM_e, varK_s, ctn_e, ctnK_s, getK_s, rsv_e, rsvK_iv, rsvK_lk, rsvK_al, rootOf_e, trK_iv, trK_lk, datK_s, toD_lf, toD_ndt, toD_ndf, toDL_nil, toDL_cons, consO_s, getP_nil, getP_cons, kids_nd, setP_nil, setP_cons, setPK_s, setK_nd, okA_e, okK_iv, okK_un, okK_al, okK_lk, writeR_e, wrK_s, wrR_iv, wrP_nd, wrF_s, toVR_vr, toVK_s, toV_tm, toV_vr, tovK_s, toVs_cons, mvM_e, mvK_lf, mvK_nd, mvK_al, frM_e, frK_lf, frK_nd, frD_s, endF_e, endK_s, outsE_nil, outsE_t, outsE_f, kl_un, kl_iv, kl_lk, kl_al, kx_un, kx_iv, kx_lk, kx_al, nextIs_nil, nextIs_cons, aliK_lf, endB_nx, endB_rt, setR_i, callR_e, callK1_s, callK2_s, backK_ok, backR_t, takeG_nil, takeG_f, takeG_t, tk1_s, tk2_s, tk3_s, tk4_s, argsL_nil, argsL_f, argsL_t, argK_lf, argK_nd, lent_nil, lent_f, lent_t, lentO_tm, lentO_vr, lentT_lf, lentT_nd, putG_nil, putG_cons, sqR_vr, sqK_l, sqK_t, noSh_d, noShL_nil, noShL_cons, noSh_nd, flat_i, okW_nil, okW_cons, wp_nil, wp_cons, kids_vrO, kidsT_l, kidsT_n, kidsT_m, bindL_e, bindLK_s, lstR_s, dat_tmn, lim_0, lim_1, lim_2, lim_3, lim_4, lim_5, lim_6, lim_7, lim_8, lim_9, lim_10, lim_11, lim_12, lim_13, lim_14, tupR_s, tupQ_s, leafDs_nil, leafDs_cons, leafD_d, consT_c, nilT_n, tupT_d, sqK_nt, sqN_s, sqM_iv, sqM_lk, unlkO_s, unlkK_lk, insM_e, insR_s, toVR_tm, cstM_e, op2M_e, addM_e, mulM_e, idxM_e, tstM_e, notT_e, andT_e, orT_e, andM_e, orM_e, notM_e, ifM_e, un1M_e, tr1M_e, ls1M_e, revM_e, nilA_e, consA_e, lstM_e, tplM_e, callM_e, subT_e, nameT_e, lrg1M_e, lrg2M_e, forS_e, sqI_e, rg1I_e, rg2I_e, lcM_e, augS_e, appM_e, popAtM_e, extM_e, stays_tm, stays_nil, stays_t, dat_tm, tree_tm, tree_vr, dat_vr, isB_b, asB_b, elemR_i, elem0, elem1, elem2, elem3, subO_lf, subO_nd, subO_tm, dat2_s, plusR_i, plusR_s, timesR_i, outM_i, outM_b, outM_s, fAdd_i, fSub_i, fLt_i, fLe_i, fGt_i, fGe_i, fEq_i, fNe_i, toVs_nil, mapT_s, fInt_i, fInt1_b, fInt1_i, lenT_s, lenT_l, elem_sc, elem_ls, elem_tu, okD_s, isLs_nd, apR_s, unlkO_n, mapI_ok, lenT_nd, seqS_e, List.getElem?_cons_zero, List.getElem?_cons_succ, List.set_cons_zero, List.set_cons_succ, List.append_nil, List.nil_append, List.cons_append, List.map_cons, List.map_nil, setA, killA, reduceIte, if_true, Option.map_some, Option.map_none, Bool.not_true, Bool.not_false, Bool.false_eq_true, if_false, ite_true, ite_false, id_eq, decide_true, decide_false, IV.toDL_d, lsD, Option.bind_some, killX, set0, set1, set2, envB, List.replicate, List.length_cons, List.length_nil, bodyF_e, List.isPrefixOf, List.drop, Bool.or_false, Bool.false_or, Bool.or_true, Bool.true_or, Bool.or_self, and_self, and_true, true_and, and_false, false_and, and_self, List.isPrefixOf_cons₂, List.drop_succ_cons, BEq.rfl, beq_self_eq_true, Bool.and_self, Bool.and_true, Bool.true_and, Nat.reduceAdd, Nat.reduceSub, Nat.reduceBEq, Nat.reduceEqDiff, beq_iff_eq, Int.reduceLT, Int.reducePow, Int.reduceNeg, List.isPrefixOf_nil_left, List.drop_zero, preS_e, posS_e, posR_nx, posR_bk, posR_rt, posR_ex, drE_nil, drE_t, drE_f, dr1_un, dr1_iv, dr1_lk, dr1_al, fzE_e, fzK_lf, fzK_nd, fzD_s, fzK_al, fzK_un, rdM_e, isLD_l, fzM_e, fzO_tm, fzO_vr, fzT_lf, zpI_e, lfK_d, zpR_s, yesM_e, preS_e, posS_e, posR_nx, posR_bk, posR_rt, posR_ex, drE_nil, drE_t, drE_f, dr1_un, dr1_iv, dr1_lk, dr1_al, fzE_e, fzK_lf, fzK_nd, fzD_s, fzK_al, fzK_un, rdM_e, isLD_l, fzM_e, fzO_tm, fzO_vr, fzT_lf, zpI_e, lfK_d, zpR_s, posI_e, posIR_ok, yesM_e, fEq2_e, fNe2_e, orE_some], rfl, .inl ⟨rfl, .tm (I xs[k]), ordE t' n (xs.eraseIdx k) .un (.iv (I (0 + (ys.length : Nat)))) .un, I xs[k], ?_, rfl, rfl, t', ys ++ [xs[k]], xs.eraseIdx k, ht', ?_, by simp, by simp [ivL], rfl⟩⟩
    · simp only [b__law_order_0, ordE, bind_ok, bind_ex, toS_ok, toS_ex, sbind_nx, sbind_rt, sbind_bk, sbind_ex, iteR_t, iteR_f, nxS_e, bkS_e, exS_e, retN_e, exprS_e, ifS_e, retS_e, asgS_e, aliS_e, aliR_tm, aliR_vr, aliK_nd, aliQ_s, varM_e, varK_s, ctn_e, ctnK_s, getK_s, rsv_e, rsvK_iv, rsvK_lk, rsvK_al, rootOf_e, trK_iv, trK_lk, datK_s, toD_lf, toD_ndt, toD_ndf, toDL_nil, toDL_cons, consO_s, getP_nil, getP_cons, kids_nd, setP_nil, setP_cons, setPK_s, setK_nd, okA_e, okK_iv, okK_un, okK_al, okK_lk, writeR_e, wrK_s, wrR_iv, wrP_nd, wrF_s, toVR_vr, toVK_s, toV_tm, toV_vr, tovK_s, toVs_cons, mvM_e, mvK_lf, mvK_nd, mvK_al, frM_e, frK_lf, frK_nd, frD_s, endF_e, endK_s, outsE_nil, outsE_t, outsE_f, kl_un, kl_iv, kl_lk, kl_al, kx_un, kx_iv, kx_lk, kx_al, nextIs_nil, nextIs_cons, aliK_lf, endB_nx, endB_rt, setR_i, callR_e, callK1_s, callK2_s, backK_ok, backR_t, takeG_nil, takeG_f, takeG_t, tk1_s, tk2_s, tk3_s, tk4_s, argsL_nil, argsL_f, argsL_t, argK_lf, argK_nd, lent_nil, lent_f, lent_t, lentO_tm, lentO_vr, lentT_lf, lentT_nd, putG_nil, putG_cons, sqR_vr, sqK_l, sqK_t, noSh_d, noShL_nil, noShL_cons, noSh_nd, flat_i, okW_nil, okW_cons, wp_nil, wp_cons, kids_vrO, kidsT_l, kidsT_n, kidsT_m, bindL_e, bindLK_s, lstR_s, dat_tmn, lim_0, lim_1, lim_2, lim_3, lim_4, lim_5, lim_6, lim_7, lim_8, lim_9, lim_10, lim_11, lim_12, lim_13, lim_14, tupR_s, tupQ_s, leafDs_nil, leafDs_cons, leafD_d, consT_c, nilT_n, tupT_d, sqK_nt, sqN_s, sqM_iv, sqM_lk, unlkO_s, unlkK_lk, insM_e, insR_s, toVR_tm, cstM_e, op2M_e, addM_e, mulM_e, idxM_e, tstM_e, notT_e, andT_e, orT_e, andM_e, orM_e, notM_e, ifM_e, un1M_e, tr1M_e, ls1M_e, revM_e, nilA_e, consA_e, lstM_e, tplM_e, callM_e, subT_e, nameT_e, lrg1M_e, lrg2M_e, forS_e, sqI_e, rg1I_e, rg2I_e, lcM_e, augS_e, appM_e, popAtM_e, extM_e, stays_tm, stays_nil, stays_t, dat_tm, tree_tm, tree_vr, dat_vr, isB_b, asB_b, elemR_i, elem0, elem1, elem2, elem3, subO_lf, subO_nd, subO_tm, dat2_s, plusR_i, plusR_s, timesR_i, outM_i, outM_b, outM_s, fAdd_i, fSub_i, fLt_i, fLe_i, fGt_i, fGe_i, fEq_i, fNe_i, toVs_nil, mapT_s, fInt_i, fInt1_b, fInt1_i, lenT_s, lenT_l, elem_sc, elem_ls, elem_tu, okD_s, isLs_nd, apR_s, unlkO_n, mapI_ok, lenT_nd, seqS_e, List.getElem?_cons_zero, List.getElem?_cons_succ, List.set_cons_zero, List.set_cons_succ, List.append_nil, List.nil_append, List.cons_append, List.map_cons, List.map_nil, setA, killA, reduceIte, if_true, Option.map_some, Option.map_none, Bool.not_true, Bool.not_false, Bool.false_eq_true, if_false, ite_true, ite_false, id_eq, decide_true, decide_false, IV.toDL_d, lsD, Option.bind_some, killX, set0, set1, set2, envB, List.replicate, List.length_cons, List.length_nil, bodyF_e, List.isPrefixOf, List.drop, Bool.or_false, Bool.false_or, Bool.or_true, Bool.true_or, Bool.or_self, and_self, and_true, true_and, and_false, false_and, and_self, List.isPrefixOf_cons₂, List.drop_succ_cons, BEq.rfl, beq_self_eq_true, Bool.and_self, Bool.and_true, Bool.true_and, Nat.reduceAdd, Nat.reduceSub, Nat.reduceBEq, Nat.reduceEqDiff, beq_iff_eq, Int.reduceLT, Int.reducePow, Int.reduceNeg, List.isPrefixOf_nil_left, List.drop_zero, preS_e, posS_e, posR_nx, posR_bk, posR_rt, posR_ex, drE_nil, drE_t, drE_f, dr1_un, dr1_iv, dr1_lk, dr1_al, fzE_e, fzK_lf, fzK_nd, fzD_s, fzK_al, fzK_un, rdM_e, isLD_l, fzM_e, fzO_tm, fzO_vr, fzT_lf, zpI_e, lfK_d, zpR_s, yesM_e, preS_e, posS_e, posR_nx, posR_bk, posR_rt, posR_ex, drE_nil, drE_t, drE_f, dr1_un, dr1_iv, dr1_lk, dr1_al, fzE_e, fzK_lf, fzK_nd, fzD_s, fzK_al, fzK_un, rdM_e, isLD_l, fzM_e, fzO_tm, fzO_vr, fzT_lf, zpI_e, lfK_d, zpR_s, posI_e, posIR_ok, yesM_e, fEq2_e, fNe2_e, orE_some, ivL_len, hd, popR, hpop]
    · refine List.Perm.trans ?_ hp
      rw [List.append_assoc]
      exact List.Perm.append_left _ (erase_perm xs k hk))
  obtain ⟨acc, e, h1, t', ys, xs, ht', hp, hl, rfl, rfl⟩ := this
  rw [rg_len] at hl
  exact ⟨t', ys, xs, ht', hp, by omega, h1⟩
theorem order_swap (n : Nat) (hn1 : 1 < n) (hn : n ≤ 12) (t : IV) (ht : Deck t) (cur : List Int) (hc : cur.length = n) (u : IV) :
    ∃ t' k, Deck t' ∧ k + 1 < n ∧ b__law_order_1 (ordE t n cur .un (.iv u) .un) = .nx (ordE t' n (swapAt cur k) .un .un .un) := by
  obtain ⟨t', v, ht', h0, h1, hd⟩ := draw_is ht ((n : Nat) - 1 : Int) (by omega) (by omega)
  obtain ⟨k, rfl⟩ : ∃ k : Nat, v = k := ⟨v.toNat, by omega⟩
  have hk : k + 1 < cur.length := by omega
  refine ⟨t', k, ht', by omega, ?_⟩
  have c : ((k : Nat) : Int) + 1 = ((k + 1 : Nat) : Int) := by omega
  have x1 : ∀ o e, elemI o (some (.nd true (ivL cur))) (k : Int) e = .ok (.tm (I (cur.getD k 0))) e := fun o e => elem_nat (by omega)
  have x2 : ∀ o e, elemI o (some (.nd true (ivL cur))) ((k + 1 : Nat) : Int) e = .ok (.tm (I (cur.getD (k + 1) 0))) e := fun o e => elem_nat hk
  have y1 : ∀ i, setF (k : Int) (I i) (ivL cur) = some (ivL (cur.set k i), fun j => j == k, ()) := fun i => set_iv (by omega)
  have y2 : ∀ i j, setF ((k + 1 : Nat) : Int) (I i) (ivL (cur.set k j)) = some (ivL ((cur.set k j).set (k + 1) i), fun j => j == k + 1, ()) := fun i j => set_iv (by rw [List.length_set]; exact hk)
  simp only [b__law_order_1, ordE, bind_ok, bind_ex, toS_ok, toS_ex, sbind_nx, sbind_rt, sbind_bk, sbind_ex, iteR_t, iteR_f, nxS_e, bkS_e, exS_e, retN_e, exprS_e, ifS_e, retS_e, asgS_e, aliS_e, aliR_tm, aliR_vr, aliK_nd, aliQ_s, varM_e, varK_s, ctn_e, ctnK_s, getK_s, rsv_e, rsvK_iv, rsvK_lk, rsvK_al, rootOf_e, trK_iv, trK_lk, datK_s, toD_lf, toD_ndt, toD_ndf, toDL_nil, toDL_cons, consO_s, getP_nil, getP_cons, kids_nd, setP_nil, setP_cons, setPK_s, setK_nd, okA_e, okK_iv, okK_un, okK_al, okK_lk, writeR_e, wrK_s, wrR_iv, wrP_nd, wrF_s, toVR_vr, toVK_s, toV_tm, toV_vr, tovK_s, toVs_cons, mvM_e, mvK_lf, mvK_nd, mvK_al, frM_e, frK_lf, frK_nd, frD_s, endF_e, endK_s, outsE_nil, outsE_t, outsE_f, kl_un, kl_iv, kl_lk, kl_al, kx_un, kx_iv, kx_lk, kx_al, nextIs_nil, nextIs_cons, aliK_lf, endB_nx, endB_rt, setR_i, callR_e, callK1_s, callK2_s, backK_ok, backR_t, takeG_nil, takeG_f, takeG_t, tk1_s, tk2_s, tk3_s, tk4_s, argsL_nil, argsL_f, argsL_t, argK_lf, argK_nd, lent_nil, lent_f, lent_t, lentO_tm, lentO_vr, lentT_lf, lentT_nd, putG_nil, putG_cons, sqR_vr, sqK_l, sqK_t, noSh_d, noShL_nil, noShL_cons, noSh_nd, flat_i, okW_nil, okW_cons, wp_nil, wp_cons, kids_vrO, kidsT_l, kidsT_n, kidsT_m, bindL_e, bindLK_s, lstR_s, dat_tmn, lim_0, lim_1, lim_2, lim_3, lim_4, lim_5, lim_6, lim_7, lim_8, lim_9, lim_10, lim_11, lim_12, lim_13, lim_14, tupR_s, tupQ_s, leafDs_nil, leafDs_cons, leafD_d, consT_c, nilT_n, tupT_d, sqK_nt, sqN_s, sqM_iv, sqM_lk, unlkO_s, unlkK_lk, insM_e, insR_s, toVR_tm, cstM_e, op2M_e, addM_e, mulM_e, idxM_e, tstM_e, notT_e, andT_e, orT_e, andM_e, orM_e, notM_e, ifM_e, un1M_e, tr1M_e, ls1M_e, revM_e, nilA_e, consA_e, lstM_e, tplM_e, callM_e, subT_e, nameT_e, lrg1M_e, lrg2M_e, forS_e, sqI_e, rg1I_e, rg2I_e, lcM_e, augS_e, appM_e, popAtM_e, extM_e, stays_tm, stays_nil, stays_t, dat_tm, tree_tm, tree_vr, dat_vr, isB_b, asB_b, elemR_i, elem0, elem1, elem2, elem3, subO_lf, subO_nd, subO_tm, dat2_s, plusR_i, plusR_s, timesR_i, outM_i, outM_b, outM_s, fAdd_i, fSub_i, fLt_i, fLe_i, fGt_i, fGe_i, fEq_i, fNe_i, toVs_nil, mapT_s, fInt_i, fInt1_b, fInt1_i, lenT_s, lenT_l, elem_sc, elem_ls, elem_tu, okD_s, isLs_nd, apR_s, unlkO_n, mapI_ok, lenT_nd, seqS_e, List.getElem?_cons_zero, List.getElem?_cons_succ, List.set_cons_zero, List.set_cons_succ, List.append_nil, List.nil_append, List.cons_append, List.map_cons, List.map_nil, setA, killA, reduceIte, if_true, Option.map_some, Option.map_none, Bool.not_true, Bool.not_false, Bool.false_eq_true, if_false, ite_true, ite_false, id_eq, decide_true, decide_false, IV.toDL_d, lsD, Option.bind_some, killX, set0, set1, set2, envB, List.replicate, List.length_cons, List.length_nil, bodyF_e, List.isPrefixOf, List.drop, Bool.or_false, Bool.false_or, Bool.or_true, Bool.true_or, Bool.or_self, and_self, and_true, true_and, and_false, false_and, and_self, List.isPrefixOf_cons₂, List.drop_succ_cons, BEq.rfl, beq_self_eq_true, Bool.and_self, Bool.and_true, Bool.true_and, Nat.reduceAdd, Nat.reduceSub, Nat.reduceBEq, Nat.reduceEqDiff, beq_iff_eq, Int.reduceLT, Int.reducePow, Int.reduceNeg, List.isPrefixOf_nil_left, List.drop_zero, preS_e, posS_e, posR_nx, posR_bk, posR_rt, posR_ex, drE_nil, drE_t, drE_f, dr1_un, dr1_iv, dr1_lk, dr1_al, fzE_e, fzK_lf, fzK_nd, fzD_s, fzK_al, fzK_un, rdM_e, isLD_l, fzM_e, fzO_tm, fzO_vr, fzT_lf, zpI_e, lfK_d, zpR_s, yesM_e, preS_e, posS_e, posR_nx, posR_bk, posR_rt, posR_ex, drE_nil, drE_t, drE_f, dr1_un, dr1_iv, dr1_lk, dr1_al, fzE_e, fzK_lf, fzK_nd, fzD_s, fzK_al, fzK_un, rdM_e, isLD_l, fzM_e, fzO_tm, fzO_vr, fzT_lf, zpI_e, lfK_d, zpR_s, posI_e, posIR_ok, yesM_e, fEq2_e, fNe2_e, orE_some, hd, c, x1, x2, y1, y2, swapAt]
theorem order_swaps (n : Nat) (hn : n ≤ 12) (c : Int) (hc : 0 < c → 1 < n) (t : IV) (ht : Deck t) (cur : List Int) (hp : cur.Perm (upN n)) : ∃ t' cur', Deck t' ∧ cur'.Perm (upN n) ∧ forG (unlkO none) (nameT 4) b__law_order_1 ((rgD 0 c).map IV.d) (ordE t n cur .un .un .un) = .nx (ordE t' n cur' .un .un .un) := by
  obtain ⟨e', h1, t', cur', ht', hp', rfl⟩ := forG_inv (fin := unlkO none) (tg := nameT 4) (body := b__law_order_1) (fun _ e => ∃ t cur, Deck t ∧ cur.Perm (upN n) ∧ e = ordE t n cur .un .un .un) ((rgD 0 c).map IV.d) (e := ordE t n cur .un .un .un) ⟨t, cur, ht, hp, rfl⟩ (by
    rintro j u e hj ⟨t, cur, ht, hp, rfl⟩
    obtain ⟨rfl, hjl⟩ := rg_get hj
    have hlen : cur.length = n := by rw [hp.length_eq, upN_len]
    obtain ⟨t', k, ht', hk, hb⟩ := order_swap n (hc (by omega)) hn t ht cur hlen (I (0 + (j : Nat)))
    refine ⟨ordE t n cur .un (.iv (I (0 + (j : Nat)))) .un, _, ?_, hb, t', swapAt cur k, ht', (swapAt_perm cur k (by omega)).trans hp, rfl⟩
    simp only [ordE, bind_ok, bind_ex, toS_ok, toS_ex, sbind_nx, sbind_rt, sbind_bk, sbind_ex, iteR_t, iteR_f, nxS_e, bkS_e, exS_e, retN_e, exprS_e, ifS_e, retS_e, asgS_e, aliS_e, aliR_tm, aliR_vr, aliK_nd, aliQ_s, varM_e, varK_s, ctn_e, ctnK_s, getK_s, rsv_e, rsvK_iv, rsvK_lk, rsvK_al, rootOf_e, trK_iv, trK_lk, datK_s, toD_lf, toD_ndt, toD_ndf, toDL_nil, toDL_cons, consO_s, getP_nil, getP_cons, kids_nd, setP_nil, setP_cons, setPK_s, setK_nd, okA_e, okK_iv, okK_un, okK_al, okK_lk, writeR_e, wrK_s, wrR_iv, wrP_nd, wrF_s, toVR_vr, toVK_s, toV_tm, toV_vr, tovK_s, toVs_cons, mvM_e, mvK_lf, mvK_nd, mvK_al, frM_e, frK_lf, frK_nd, frD_s, endF_e, endK_s, outsE_nil, outsE_t, outsE_f, kl_un, kl_iv, kl_lk, kl_al, kx_un, kx_iv, kx_lk, kx_al, nextIs_nil, nextIs_cons, aliK_lf, endB_nx, endB_rt, setR_i, callR_e, callK1_s, callK2_s, backK_ok, backR_t, takeG_nil, takeG_f, takeG_t, tk1_s, tk2_s, tk3_s, tk4_s, argsL_nil, argsL_f, argsL_t, argK_lf, argK_nd, lent_nil, lent_f, lent_t, lentO_tm, lentO_vr, lentT_lf, lentT_nd, putG_nil, putG_cons, sqR_vr, sqK_l, sqK_t, noSh_d, noShL_nil, noShL_cons, noSh_nd, flat_i, okW_nil, okW_cons, wp_nil, wp_cons, kids_vrO, kidsT_l, kidsT_n, kidsT_m, bindL_e, bindLK_s, lstR_s, dat_tmn, lim_0, lim_1, lim_2, lim_3, lim_4, lim_5, lim_6, lim_7, lim_8, lim_9, lim_10, lim_11, lim_12, lim_13, lim_14, tupR_s, tupQ_s, leafDs_nil, leafDs_cons, leafD_d, consT_c, nilT_n, tupT_d, sqK_nt, sqN_s, sqM_iv, sqM_lk, unlkO_s, unlkK_lk, insM_e, insR_s, toVR_tm, cstM_e, op2M_e, addM_e, mulM_e, idxM_e, tstM_e, notT_e, andT_e, orT_e, andM_e, orM_e, notM_e, ifM_e, un1M_e, tr1M_e, ls1M_e, revM_e, nilA_e, consA_e, lstM_e, tplM_e, callM_e, subT_e, nameT_e, lrg1M_e, lrg2M_e, forS_e, sqI_e, rg1I_e, rg2I_e, lcM_e, augS_e, appM_e, popAtM_e, extM_e, stays_tm, stays_nil, stays_t, dat_tm, tree_tm, tree_vr, dat_vr, isB_b, asB_b, elemR_i, elem0, elem1, elem2, elem3, subO_lf, subO_nd, subO_tm, dat2_s, plusR_i, plusR_s, timesR_i, outM_i, outM_b, outM_s, fAdd_i, fSub_i, fLt_i, fLe_i, fGt_i, fGe_i, fEq_i, fNe_i, toVs_nil, mapT_s, fInt_i, fInt1_b, fInt1_i, lenT_s, lenT_l, elem_sc, elem_ls, elem_tu, okD_s, isLs_nd, apR_s, unlkO_n, mapI_ok, lenT_nd, seqS_e, List.getElem?_cons_zero, List.getElem?_cons_succ, List.set_cons_zero, List.set_cons_succ, List.append_nil, List.nil_append, List.cons_append, List.map_cons, List.map_nil, setA, killA, reduceIte, if_true, Option.map_some, Option.map_none, Bool.not_true, Bool.not_false, Bool.false_eq_true, if_false, ite_true, ite_false, id_eq, decide_true, decide_false, IV.toDL_d, lsD, Option.bind_some, killX, set0, set1, set2, envB, List.replicate, List.length_cons, List.length_nil, bodyF_e, List.isPrefixOf, List.drop, Bool.or_false, Bool.false_or, Bool.or_true, Bool.true_or, Bool.or_self, and_self, and_true, true_and, and_false, false_and, and_self, List.isPrefixOf_cons₂, List.drop_succ_cons, BEq.rfl, beq_self_eq_true, Bool.and_self, Bool.and_true, Bool.true_and, Nat.reduceAdd, Nat.reduceSub, Nat.reduceBEq, Nat.reduceEqDiff, beq_iff_eq, Int.reduceLT, Int.reducePow, Int.reduceNeg, List.isPrefixOf_nil_left, List.drop_zero, preS_e, posS_e, posR_nx, posR_bk, posR_rt, posR_ex, drE_nil, drE_t, drE_f, dr1_un, dr1_iv, dr1_lk, dr1_al, fzE_e, fzK_lf, fzK_nd, fzD_s, fzK_al, fzK_un, rdM_e, isLD_l, fzM_e, fzO_tm, fzO_vr, fzT_lf, zpI_e, lfK_d, zpR_s, yesM_e, preS_e, posS_e, posR_nx, posR_bk, posR_rt, posR_ex, drE_nil, drE_t, drE_f, dr1_un, dr1_iv, dr1_lk, dr1_al, fzE_e, fzK_lf, fzK_nd, fzD_s, fzK_al, fzK_un, rdM_e, isLD_l, fzM_e, fzO_tm, fzO_vr, fzT_lf, zpI_e, lfK_d, zpR_s, posI_e, posIR_ok, yesM_e, fEq2_e, fNe2_e, orE_some])
  exact ⟨t', cur', ht', hp', h1⟩
theorem order_draw (n : Nat) (h1 : 1 ≤ n) (hn : n ≤ 12) (t : IV) (ht : Deck t) : ∃ t' xs, Deck t' ∧ xs.Perm (upN n) ∧ f__law_order [t, I (n : Nat)] = .ok (.nd true (ivL xs)) [t'] := by
  obtain ⟨t1, v, d1, a1, b1, e1⟩ := draw_is ht 4 (by decide) (by decide)
  have hrk : rgOk 0 (n : Int) = true := decide_eq_true (by omega)
  have hls : ∀ e, rgR (some (.int 0)) (some (.int (n : Int))) e = .ok (.tm (.nd true (ivL (upN n)))) e := fun e => by rw [rgR_ok hrk, rgD_upN, lsD_iv]
  have hri : ∀ (c : Int) e, 0 ≤ c → c ≤ 12 → rgI (some (.int 0)) (some (.int c)) e = .ok (rgD 0 c, none) e := fun c e h h' => rgI_ok (by rw [sm_ok (by omega), sm_ok (by omega)]; rfl)
  by_cases hv0 : v = 0
  · subst hv0
    obtain ⟨t', ys, xs, ht', hp, hl, hg⟩ := order_pops n hn t1 d1
    have hx : xs = [] := by
      have := hp.length_eq
      rw [List.length_append, upN_len] at this
      exact List.length_eq_zero_iff.mp (by omega)
    subst hx
    rw [List.append_nil] at hp
    refine ⟨t', ys, ht', hp, ?_⟩
    simp only [ordE] at hg
    have hr := fun e => hri (n : Nat) e (by omega) (by omega)
    simp only [f__law_order, m__law_order, bind_ok, bind_ex, toS_ok, toS_ex, sbind_nx, sbind_rt, sbind_bk, sbind_ex, iteR_t, iteR_f, nxS_e, bkS_e, exS_e, retN_e, exprS_e, ifS_e, retS_e, asgS_e, aliS_e, aliR_tm, aliR_vr, aliK_nd, aliQ_s, varM_e, varK_s, ctn_e, ctnK_s, getK_s, rsv_e, rsvK_iv, rsvK_lk, rsvK_al, rootOf_e, trK_iv, trK_lk, datK_s, toD_lf, toD_ndt, toD_ndf, toDL_nil, toDL_cons, consO_s, getP_nil, getP_cons, kids_nd, setP_nil, setP_cons, setPK_s, setK_nd, okA_e, okK_iv, okK_un, okK_al, okK_lk, writeR_e, wrK_s, wrR_iv, wrP_nd, wrF_s, toVR_vr, toVK_s, toV_tm, toV_vr, tovK_s, toVs_cons, mvM_e, mvK_lf, mvK_nd, mvK_al, frM_e, frK_lf, frK_nd, frD_s, endF_e, endK_s, outsE_nil, outsE_t, outsE_f, kl_un, kl_iv, kl_lk, kl_al, kx_un, kx_iv, kx_lk, kx_al, nextIs_nil, nextIs_cons, aliK_lf, endB_nx, endB_rt, setR_i, callR_e, callK1_s, callK2_s, backK_ok, backR_t, takeG_nil, takeG_f, takeG_t, tk1_s, tk2_s, tk3_s, tk4_s, argsL_nil, argsL_f, argsL_t, argK_lf, argK_nd, lent_nil, lent_f, lent_t, lentO_tm, lentO_vr, lentT_lf, lentT_nd, putG_nil, putG_cons, sqR_vr, sqK_l, sqK_t, noSh_d, noShL_nil, noShL_cons, noSh_nd, flat_i, okW_nil, okW_cons, wp_nil, wp_cons, kids_vrO, kidsT_l, kidsT_n, kidsT_m, bindL_e, bindLK_s, lstR_s, dat_tmn, lim_0, lim_1, lim_2, lim_3, lim_4, lim_5, lim_6, lim_7, lim_8, lim_9, lim_10, lim_11, lim_12, lim_13, lim_14, tupR_s, tupQ_s, leafDs_nil, leafDs_cons, leafD_d, consT_c, nilT_n, tupT_d, sqK_nt, sqN_s, sqM_iv, sqM_lk, unlkO_s, unlkK_lk, insM_e, insR_s, toVR_tm, cstM_e, op2M_e, addM_e, mulM_e, idxM_e, tstM_e, notT_e, andT_e, orT_e, andM_e, orM_e, notM_e, ifM_e, un1M_e, tr1M_e, ls1M_e, revM_e, nilA_e, consA_e, lstM_e, tplM_e, callM_e, subT_e, nameT_e, lrg1M_e, lrg2M_e, forS_e, sqI_e, rg1I_e, rg2I_e, lcM_e, augS_e, appM_e, popAtM_e, extM_e, stays_tm, stays_nil, stays_t, dat_tm, tree_tm, tree_vr, dat_vr, isB_b, asB_b, elemR_i, elem0, elem1, elem2, elem3, subO_lf, subO_nd, subO_tm, dat2_s, plusR_i, plusR_s, timesR_i, outM_i, outM_b, outM_s, fAdd_i, fSub_i, fLt_i, fLe_i, fGt_i, fGe_i, fEq_i, fNe_i, toVs_nil, mapT_s, fInt_i, fInt1_b, fInt1_i, lenT_s, lenT_l, elem_sc, elem_ls, elem_tu, okD_s, isLs_nd, apR_s, unlkO_n, mapI_ok, lenT_nd, seqS_e, List.getElem?_cons_zero, List.getElem?_cons_succ, List.set_cons_zero, List.set_cons_succ, List.append_nil, List.nil_append, List.cons_append, List.map_cons, List.map_nil, setA, killA, reduceIte, if_true, Option.map_some, Option.map_none, Bool.not_true, Bool.not_false, Bool.false_eq_true, if_false, ite_true, ite_false, id_eq, decide_true, decide_false, IV.toDL_d, lsD, Option.bind_some, killX, set0, set1, set2, envB, List.replicate, List.length_cons, List.length_nil, bodyF_e, List.isPrefixOf, List.drop, Bool.or_false, Bool.false_or, Bool.or_true, Bool.true_or, Bool.or_self, and_self, and_true, true_and, and_false, false_and, and_self, List.isPrefixOf_cons₂, List.drop_succ_cons, BEq.rfl, beq_self_eq_true, Bool.and_self, Bool.and_true, Bool.true_and, Nat.reduceAdd, Nat.reduceSub, Nat.reduceBEq, Nat.reduceEqDiff, beq_iff_eq, Int.reduceLT, Int.reducePow, Int.reduceNeg, List.isPrefixOf_nil_left, List.drop_zero, preS_e, posS_e, posR_nx, posR_bk, posR_rt, posR_ex, drE_nil, drE_t, drE_f, dr1_un, dr1_iv, dr1_lk, dr1_al, fzE_e, fzK_lf, fzK_nd, fzD_s, fzK_al, fzK_un, rdM_e, isLD_l, fzM_e, fzO_tm, fzO_vr, fzT_lf, zpI_e, lfK_d, zpR_s, yesM_e, preS_e, posS_e, posR_nx, posR_bk, posR_rt, posR_ex, drE_nil, drE_t, drE_f, dr1_un, dr1_iv, dr1_lk, dr1_al, fzE_e, fzK_lf, fzK_nd, fzD_s, fzK_al, fzK_un, rdM_e, isLD_l, fzM_e, fzO_tm, fzO_vr, fzT_lf, zpI_e, lfK_d, zpR_s, posI_e, posIR_ok, yesM_e, fEq2_e, fNe2_e, orE_some, hls, e1, hr, hg]
  · obtain ⟨t2, m, d2, a2, b2, e2⟩ := draw_is d1 7 (by decide) (by decide)
    have d0 : decide (v = 0) = false := decide_eq_false hv0
    have m7 : ∀ y, fMul (.int m) (.int y) = some (.int (m * y)) := fun y => fMul_i (mulOk_l (by omega))
    have hcn : ∀ x : Int, x = m * (if decide (1 < (n : Int)) = true then 1 else 0) → 0 ≤ x ∧ x ≤ 12 ∧ (0 < x → 1 < n) := fun x hx => by
      by_cases hh : (1 : Int) < n
      · rw [if_pos (decide_eq_true hh)] at hx
        omega
      · rw [if_neg (by simpa using hh)] at hx
        omega
    obtain ⟨c1, c2, c3⟩ := hcn _ rfl
    have hr := fun e => hri (m * (if decide (1 < (n : Int)) = true then 1 else 0)) e c1 c2
    by_cases hv1 : v = 1
    · subst hv1
      obtain ⟨t', cur', ht', hp', hf⟩ := order_swaps n hn (m * (if decide (1 < (n : Int)) = true then 1 else 0)) c3 t2 d2 (upN n).reverse (List.reverse_perm _)
      refine ⟨t', cur', ht', hp', ?_⟩
      simp only [ordE] at hf
      have hrev : (((upN n).map PyData.int).reverse).map IV.d = ivL (upN n).reverse := by rw [← List.map_reverse]; simp [ivL, Function.comp_def]
      simp only [f__law_order, m__law_order, bind_ok, bind_ex, toS_ok, toS_ex, sbind_nx, sbind_rt, sbind_bk, sbind_ex, iteR_t, iteR_f, nxS_e, bkS_e, exS_e, retN_e, exprS_e, ifS_e, retS_e, asgS_e, aliS_e, aliR_tm, aliR_vr, aliK_nd, aliQ_s, varM_e, varK_s, ctn_e, ctnK_s, getK_s, rsv_e, rsvK_iv, rsvK_lk, rsvK_al, rootOf_e, trK_iv, trK_lk, datK_s, toD_lf, toD_ndt, toD_ndf, toDL_nil, toDL_cons, consO_s, getP_nil, getP_cons, kids_nd, setP_nil, setP_cons, setPK_s, setK_nd, okA_e, okK_iv, okK_un, okK_al, okK_lk, writeR_e, wrK_s, wrR_iv, wrP_nd, wrF_s, toVR_vr, toVK_s, toV_tm, toV_vr, tovK_s, toVs_cons, mvM_e, mvK_lf, mvK_nd, mvK_al, frM_e, frK_lf, frK_nd, frD_s, endF_e, endK_s, outsE_nil, outsE_t, outsE_f, kl_un, kl_iv, kl_lk, kl_al, kx_un, kx_iv, kx_lk, kx_al, nextIs_nil, nextIs_cons, aliK_lf, endB_nx, endB_rt, setR_i, callR_e, callK1_s, callK2_s, backK_ok, backR_t, takeG_nil, takeG_f, takeG_t, tk1_s, tk2_s, tk3_s, tk4_s, argsL_nil, argsL_f, argsL_t, argK_lf, argK_nd, lent_nil, lent_f, lent_t, lentO_tm, lentO_vr, lentT_lf, lentT_nd, putG_nil, putG_cons, sqR_vr, sqK_l, sqK_t, noSh_d, noShL_nil, noShL_cons, noSh_nd, flat_i, okW_nil, okW_cons, wp_nil, wp_cons, kids_vrO, kidsT_l, kidsT_n, kidsT_m, bindL_e, bindLK_s, lstR_s, dat_tmn, lim_0, lim_1, lim_2, lim_3, lim_4, lim_5, lim_6, lim_7, lim_8, lim_9, lim_10, lim_11, lim_12, lim_13, lim_14, tupR_s, tupQ_s, leafDs_nil, leafDs_cons, leafD_d, consT_c, nilT_n, tupT_d, sqK_nt, sqN_s, sqM_iv, sqM_lk, unlkO_s, unlkK_lk, insM_e, insR_s, toVR_tm, cstM_e, op2M_e, addM_e, mulM_e, idxM_e, tstM_e, notT_e, andT_e, orT_e, andM_e, orM_e, notM_e, ifM_e, un1M_e, tr1M_e, ls1M_e, revM_e, nilA_e, consA_e, lstM_e, tplM_e, callM_e, subT_e, nameT_e, lrg1M_e, lrg2M_e, forS_e, sqI_e, rg1I_e, rg2I_e, lcM_e, augS_e, appM_e, popAtM_e, extM_e, stays_tm, stays_nil, stays_t, dat_tm, tree_tm, tree_vr, dat_vr, isB_b, asB_b, elemR_i, elem0, elem1, elem2, elem3, subO_lf, subO_nd, subO_tm, dat2_s, plusR_i, plusR_s, timesR_i, outM_i, outM_b, outM_s, fAdd_i, fSub_i, fLt_i, fLe_i, fGt_i, fGe_i, fEq_i, fNe_i, toVs_nil, mapT_s, fInt_i, fInt1_b, fInt1_i, lenT_s, lenT_l, elem_sc, elem_ls, elem_tu, okD_s, isLs_nd, apR_s, unlkO_n, mapI_ok, lenT_nd, seqS_e, List.getElem?_cons_zero, List.getElem?_cons_succ, List.set_cons_zero, List.set_cons_succ, List.append_nil, List.nil_append, List.cons_append, List.map_cons, List.map_nil, setA, killA, reduceIte, if_true, Option.map_some, Option.map_none, Bool.not_true, Bool.not_false, Bool.false_eq_true, if_false, ite_true, ite_false, id_eq, decide_true, decide_false, IV.toDL_d, lsD, Option.bind_some, killX, set0, set1, set2, envB, List.replicate, List.length_cons, List.length_nil, bodyF_e, List.isPrefixOf, List.drop, Bool.or_false, Bool.false_or, Bool.or_true, Bool.true_or, Bool.or_self, and_self, and_true, true_and, and_false, false_and, and_self, List.isPrefixOf_cons₂, List.drop_succ_cons, BEq.rfl, beq_self_eq_true, Bool.and_self, Bool.and_true, Bool.true_and, Nat.reduceAdd, Nat.reduceSub, Nat.reduceBEq, Nat.reduceEqDiff, beq_iff_eq, Int.reduceLT, Int.reducePow, Int.reduceNeg, List.isPrefixOf_nil_left, List.drop_zero, preS_e, posS_e, posR_nx, posR_bk, posR_rt, posR_ex, drE_nil, drE_t, drE_f, dr1_un, dr1_iv, dr1_lk, dr1_al, fzE_e, fzK_lf, fzK_nd, fzD_s, fzK_al, fzK_un, rdM_e, isLD_l, fzM_e, fzO_tm, fzO_vr, fzT_lf, zpI_e, lfK_d, zpR_s, yesM_e, preS_e, posS_e, posR_nx, posR_bk, posR_rt, posR_ex, drE_nil, drE_t, drE_f, dr1_un, dr1_iv, dr1_lk, dr1_al, fzE_e, fzK_lf, fzK_nd, fzD_s, fzK_al, fzK_un, rdM_e, isLD_l, fzM_e, fzO_tm, fzO_vr, fzT_lf, zpI_e, lfK_d, zpR_s, posI_e, posIR_ok, yesM_e, fEq2_e, fNe2_e, orE_some, hls, e1, e2, d0, leafDs_iv, hrev, m7, hr, hf]
    · have d1' : decide (v = 1) = false := decide_eq_false hv1
      obtain ⟨t', cur', ht', hp', hf⟩ := order_swaps n hn (m * (if decide (1 < (n : Int)) = true then 1 else 0)) c3 t2 d2 (upN n) (.refl _)
      refine ⟨t', cur', ht', hp', ?_⟩
      simp only [ordE] at hf
      simp only [f__law_order, m__law_order, bind_ok, bind_ex, toS_ok, toS_ex, sbind_nx, sbind_rt, sbind_bk, sbind_ex, iteR_t, iteR_f, nxS_e, bkS_e, exS_e, retN_e, exprS_e, ifS_e, retS_e, asgS_e, aliS_e, aliR_tm, aliR_vr, aliK_nd, aliQ_s, varM_e, varK_s, ctn_e, ctnK_s, getK_s, rsv_e, rsvK_iv, rsvK_lk, rsvK_al, rootOf_e, trK_iv, trK_lk, datK_s, toD_lf, toD_ndt, toD_ndf, toDL_nil, toDL_cons, consO_s, getP_nil, getP_cons, kids_nd, setP_nil, setP_cons, setPK_s, setK_nd, okA_e, okK_iv, okK_un, okK_al, okK_lk, writeR_e, wrK_s, wrR_iv, wrP_nd, wrF_s, toVR_vr, toVK_s, toV_tm, toV_vr, tovK_s, toVs_cons, mvM_e, mvK_lf, mvK_nd, mvK_al, frM_e, frK_lf, frK_nd, frD_s, endF_e, endK_s, outsE_nil, outsE_t, outsE_f, kl_un, kl_iv, kl_lk, kl_al, kx_un, kx_iv, kx_lk, kx_al, nextIs_nil, nextIs_cons, aliK_lf, endB_nx, endB_rt, setR_i, callR_e, callK1_s, callK2_s, backK_ok, backR_t, takeG_nil, takeG_f, takeG_t, tk1_s, tk2_s, tk3_s, tk4_s, argsL_nil, argsL_f, argsL_t, argK_lf, argK_nd, lent_nil, lent_f, lent_t, lentO_tm, lentO_vr, lentT_lf, lentT_nd, putG_nil, putG_cons, sqR_vr, sqK_l, sqK_t, noSh_d, noShL_nil, noShL_cons, noSh_nd, flat_i, okW_nil, okW_cons, wp_nil, wp_cons, kids_vrO, kidsT_l, kidsT_n, kidsT_m, bindL_e, bindLK_s, lstR_s, dat_tmn, lim_0, lim_1, lim_2, lim_3, lim_4, lim_5, lim_6, lim_7, lim_8, lim_9, lim_10, lim_11, lim_12, lim_13, lim_14, tupR_s, tupQ_s, leafDs_nil, leafDs_cons, leafD_d, consT_c, nilT_n, tupT_d, sqK_nt, sqN_s, sqM_iv, sqM_lk, unlkO_s, unlkK_lk, insM_e, insR_s, toVR_tm, cstM_e, op2M_e, addM_e, mulM_e, idxM_e, tstM_e, notT_e, andT_e, orT_e, andM_e, orM_e, notM_e, ifM_e, un1M_e, tr1M_e, ls1M_e, revM_e, nilA_e, consA_e, lstM_e, tplM_e, callM_e, subT_e, nameT_e, lrg1M_e, lrg2M_e, forS_e, sqI_e, rg1I_e, rg2I_e, lcM_e, augS_e, appM_e, popAtM_e, extM_e, stays_tm, stays_nil, stays_t, dat_tm, tree_tm, tree_vr, dat_vr, isB_b, asB_b, elemR_i, elem0, elem1, elem2, elem3, subO_lf, subO_nd, subO_tm, dat2_s, plusR_i, plusR_s, timesR_i, outM_i, outM_b, outM_s, fAdd_i, fSub_i, fLt_i, fLe_i, fGt_i, fGe_i, fEq_i, fNe_i, toVs_nil, mapT_s, fInt_i, fInt1_b, fInt1_i, lenT_s, lenT_l, elem_sc, elem_ls, elem_tu, okD_s, isLs_nd, apR_s, unlkO_n, mapI_ok, lenT_nd, seqS_e, List.getElem?_cons_zero, List.getElem?_cons_succ, List.set_cons_zero, List.set_cons_succ, List.append_nil, List.nil_append, List.cons_append, List.map_cons, List.map_nil, setA, killA, reduceIte, if_true, Option.map_some, Option.map_none, Bool.not_true, Bool.not_false, Bool.false_eq_true, if_false, ite_true, ite_false, id_eq, decide_true, decide_false, IV.toDL_d, lsD, Option.bind_some, killX, set0, set1, set2, envB, List.replicate, List.length_cons, List.length_nil, bodyF_e, List.isPrefixOf, List.drop, Bool.or_false, Bool.false_or, Bool.or_true, Bool.true_or, Bool.or_self, and_self, and_true, true_and, and_false, false_and, and_self, List.isPrefixOf_cons₂, List.drop_succ_cons, BEq.rfl, beq_self_eq_true, Bool.and_self, Bool.and_true, Bool.true_and, Nat.reduceAdd, Nat.reduceSub, Nat.reduceBEq, Nat.reduceEqDiff, beq_iff_eq, Int.reduceLT, Int.reducePow, Int.reduceNeg, List.isPrefixOf_nil_left, List.drop_zero, preS_e, posS_e, posR_nx, posR_bk, posR_rt, posR_ex, drE_nil, drE_t, drE_f, dr1_un, dr1_iv, dr1_lk, dr1_al, fzE_e, fzK_lf, fzK_nd, fzD_s, fzK_al, fzK_un, rdM_e, isLD_l, fzM_e, fzO_tm, fzO_vr, fzT_lf, zpI_e, lfK_d, zpR_s, yesM_e, preS_e, posS_e, posR_nx, posR_bk, posR_rt, posR_ex, drE_nil, drE_t, drE_f, dr1_un, dr1_iv, dr1_lk, dr1_al, fzE_e, fzK_lf, fzK_nd, fzD_s, fzK_al, fzK_un, rdM_e, isLD_l, fzM_e, fzO_tm, fzO_vr, fzT_lf, zpI_e, lfK_d, zpR_s, posI_e, posIR_ok, yesM_e, fEq2_e, fNe2_e, orE_some, hls, e1, e2, d0, d1', m7, hr, hf]
theorem things_is {t : IV} (h : Deck t) : ∃ t' v, Deck t' ∧ 1 ≤ v ∧ v ≤ 12 ∧ f__law_things [t] = .ok (I v) [t'] := by
  obtain ⟨t1, v1, d1, a1, b1, e1⟩ := draw_is h 4 (by decide) (by decide)
  obtain ⟨t2, v2, d2, a2, b2, e2⟩ := draw_is d1 8 (by decide) (by decide)
  obtain ⟨t3, v3, d3, a3, b3, e3⟩ := draw_is d2 12 (by decide) (by decide)
  obtain ⟨t4, v4, d4, a4, b4, e4⟩ := draw_is d3 4 (by decide) (by decide)
  have hv : v4 = 0 ∨ v4 = 1 ∨ v4 = 2 ∨ v4 = 3 := by omega
  rcases hv with rfl | rfl | rfl | rfl
  · exact ⟨t4, 1 + v1, d4, by omega, by omega, by simp only [f__law_things, m__law_things, bind_ok, bind_ex, toS_ok, toS_ex, sbind_nx, sbind_rt, sbind_bk, sbind_ex, iteR_t, iteR_f, nxS_e, bkS_e, exS_e, retN_e, exprS_e, ifS_e, retS_e, asgS_e, aliS_e, aliR_tm, aliR_vr, aliK_nd, aliQ_s, varM_e, varK_s, ctn_e, ctnK_s, getK_s, rsv_e, rsvK_iv, rsvK_lk, rsvK_al, rootOf_e, trK_iv, trK_lk, datK_s, toD_lf, toD_ndt, toD_ndf, toDL_nil, toDL_cons, consO_s, getP_nil, getP_cons, kids_nd, setP_nil, setP_cons, setPK_s, setK_nd, okA_e, okK_iv, okK_un, okK_al, okK_lk, writeR_e, wrK_s, wrR_iv, wrP_nd, wrF_s, toVR_vr, toVK_s, toV_tm, toV_vr, tovK_s, toVs_cons, mvM_e, mvK_lf, mvK_nd, mvK_al, frM_e, frK_lf, frK_nd, frD_s, endF_e, endK_s, outsE_nil, outsE_t, outsE_f, kl_un, kl_iv, kl_lk, kl_al, kx_un, kx_iv, kx_lk, kx_al, nextIs_nil, nextIs_cons, aliK_lf, endB_nx, endB_rt, setR_i, callR_e, callK1_s, callK2_s, backK_ok, backR_t, takeG_nil, takeG_f, takeG_t, tk1_s, tk2_s, tk3_s, tk4_s, argsL_nil, argsL_f, argsL_t, argK_lf, argK_nd, lent_nil, lent_f, lent_t, lentO_tm, lentO_vr, lentT_lf, lentT_nd, putG_nil, putG_cons, sqR_vr, sqK_l, sqK_t, noSh_d, noShL_nil, noShL_cons, noSh_nd, flat_i, okW_nil, okW_cons, wp_nil, wp_cons, kids_vrO, kidsT_l, kidsT_n, kidsT_m, bindL_e, bindLK_s, lstR_s, dat_tmn, lim_0, lim_1, lim_2, lim_3, lim_4, lim_5, lim_6, lim_7, lim_8, lim_9, lim_10, lim_11, lim_12, lim_13, lim_14, tupR_s, tupQ_s, leafDs_nil, leafDs_cons, leafD_d, consT_c, nilT_n, tupT_d, sqK_nt, sqN_s, sqM_iv, sqM_lk, unlkO_s, unlkK_lk, insM_e, insR_s, toVR_tm, cstM_e, op2M_e, addM_e, mulM_e, idxM_e, tstM_e, notT_e, andT_e, orT_e, andM_e, orM_e, notM_e, ifM_e, un1M_e, tr1M_e, ls1M_e, revM_e, nilA_e, consA_e, lstM_e, tplM_e, callM_e, subT_e, nameT_e, lrg1M_e, lrg2M_e, forS_e, sqI_e, rg1I_e, rg2I_e, lcM_e, augS_e, appM_e, popAtM_e, extM_e, stays_tm, stays_nil, stays_t, dat_tm, tree_tm, tree_vr, dat_vr, isB_b, asB_b, elemR_i, elem0, elem1, elem2, elem3, subO_lf, subO_nd, subO_tm, dat2_s, plusR_i, plusR_s, timesR_i, outM_i, outM_b, outM_s, fAdd_i, fSub_i, fLt_i, fLe_i, fGt_i, fGe_i, fEq_i, fNe_i, toVs_nil, mapT_s, fInt_i, fInt1_b, fInt1_i, lenT_s, lenT_l, elem_sc, elem_ls, elem_tu, okD_s, isLs_nd, apR_s, unlkO_n, mapI_ok, lenT_nd, seqS_e, List.getElem?_cons_zero, List.getElem?_cons_succ, List.set_cons_zero, List.set_cons_succ, List.append_nil, List.nil_append, List.cons_append, List.map_cons, List.map_nil, setA, killA, reduceIte, if_true, Option.map_some, Option.map_none, Bool.not_true, Bool.not_false, Bool.false_eq_true, if_false, ite_true, ite_false, id_eq, decide_true, decide_false, IV.toDL_d, lsD, Option.bind_some, killX, set0, set1, set2, envB, List.replicate, List.length_cons, List.length_nil, bodyF_e, List.isPrefixOf, List.drop, Bool.or_false, Bool.false_or, Bool.or_true, Bool.true_or, Bool.or_self, and_self, and_true, true_and, and_false, false_and, and_self, List.isPrefixOf_cons₂, List.drop_succ_cons, BEq.rfl, beq_self_eq_true, Bool.and_self, Bool.and_true, Bool.true_and, Nat.reduceAdd, Nat.reduceSub, Nat.reduceBEq, Nat.reduceEqDiff, beq_iff_eq, Int.reduceLT, Int.reducePow, Int.reduceNeg, List.isPrefixOf_nil_left, List.drop_zero, preS_e, posS_e, posR_nx, posR_bk, posR_rt, posR_ex, drE_nil, drE_t, drE_f, dr1_un, dr1_iv, dr1_lk, dr1_al, fzE_e, fzK_lf, fzK_nd, fzD_s, fzK_al, fzK_un, rdM_e, isLD_l, fzM_e, fzO_tm, fzO_vr, fzT_lf, zpI_e, lfK_d, zpR_s, yesM_e, preS_e, posS_e, posR_nx, posR_bk, posR_rt, posR_ex, drE_nil, drE_t, drE_f, dr1_un, dr1_iv, dr1_lk, dr1_al, fzE_e, fzK_lf, fzK_nd, fzD_s, fzK_al, fzK_un, rdM_e, isLD_l, fzM_e, fzO_tm, fzO_vr, fzT_lf, zpI_e, lfK_d, zpR_s, posI_e, posIR_ok, yesM_e, fEq2_e, fNe2_e, orE_some, e1, e2, e3, e4]⟩
  · exact ⟨t4, 1 + v2, d4, by omega, by omega, by simp only [f__law_things, m__law_things, bind_ok, bind_ex, toS_ok, toS_ex, sbind_nx, sbind_rt, sbind_bk, sbind_ex, iteR_t, iteR_f, nxS_e, bkS_e, exS_e, retN_e, exprS_e, ifS_e, retS_e, asgS_e, aliS_e, aliR_tm, aliR_vr, aliK_nd, aliQ_s, varM_e, varK_s, ctn_e, ctnK_s, getK_s, rsv_e, rsvK_iv, rsvK_lk, rsvK_al, rootOf_e, trK_iv, trK_lk, datK_s, toD_lf, toD_ndt, toD_ndf, toDL_nil, toDL_cons, consO_s, getP_nil, getP_cons, kids_nd, setP_nil, setP_cons, setPK_s, setK_nd, okA_e, okK_iv, okK_un, okK_al, okK_lk, writeR_e, wrK_s, wrR_iv, wrP_nd, wrF_s, toVR_vr, toVK_s, toV_tm, toV_vr, tovK_s, toVs_cons, mvM_e, mvK_lf, mvK_nd, mvK_al, frM_e, frK_lf, frK_nd, frD_s, endF_e, endK_s, outsE_nil, outsE_t, outsE_f, kl_un, kl_iv, kl_lk, kl_al, kx_un, kx_iv, kx_lk, kx_al, nextIs_nil, nextIs_cons, aliK_lf, endB_nx, endB_rt, setR_i, callR_e, callK1_s, callK2_s, backK_ok, backR_t, takeG_nil, takeG_f, takeG_t, tk1_s, tk2_s, tk3_s, tk4_s, argsL_nil, argsL_f, argsL_t, argK_lf, argK_nd, lent_nil, lent_f, lent_t, lentO_tm, lentO_vr, lentT_lf, lentT_nd, putG_nil, putG_cons, sqR_vr, sqK_l, sqK_t, noSh_d, noShL_nil, noShL_cons, noSh_nd, flat_i, okW_nil, okW_cons, wp_nil, wp_cons, kids_vrO, kidsT_l, kidsT_n, kidsT_m, bindL_e, bindLK_s, lstR_s, dat_tmn, lim_0, lim_1, lim_2, lim_3, lim_4, lim_5, lim_6, lim_7, lim_8, lim_9, lim_10, lim_11, lim_12, lim_13, lim_14, tupR_s, tupQ_s, leafDs_nil, leafDs_cons, leafD_d, consT_c, nilT_n, tupT_d, sqK_nt, sqN_s, sqM_iv, sqM_lk, unlkO_s, unlkK_lk, insM_e, insR_s, toVR_tm, cstM_e, op2M_e, addM_e, mulM_e, idxM_e, tstM_e, notT_e, andT_e, orT_e, andM_e, orM_e, notM_e, ifM_e, un1M_e, tr1M_e, ls1M_e, revM_e, nilA_e, consA_e, lstM_e, tplM_e, callM_e, subT_e, nameT_e, lrg1M_e, lrg2M_e, forS_e, sqI_e, rg1I_e, rg2I_e, lcM_e, augS_e, appM_e, popAtM_e, extM_e, stays_tm, stays_nil, stays_t, dat_tm, tree_tm, tree_vr, dat_vr, isB_b, asB_b, elemR_i, elem0, elem1, elem2, elem3, subO_lf, subO_nd, subO_tm, dat2_s, plusR_i, plusR_s, timesR_i, outM_i, outM_b, outM_s, fAdd_i, fSub_i, fLt_i, fLe_i, fGt_i, fGe_i, fEq_i, fNe_i, toVs_nil, mapT_s, fInt_i, fInt1_b, fInt1_i, lenT_s, lenT_l, elem_sc, elem_ls, elem_tu, okD_s, isLs_nd, apR_s, unlkO_n, mapI_ok, lenT_nd, seqS_e, List.getElem?_cons_zero, List.getElem?_cons_succ, List.set_cons_zero, List.set_cons_succ, List.append_nil, List.nil_append, List.cons_append, List.map_cons, List.map_nil, setA, killA, reduceIte, if_true, Option.map_some, Option.map_none, Bool.not_true, Bool.not_false, Bool.false_eq_true, if_false, ite_true, ite_false, id_eq, decide_true, decide_false, IV.toDL_d, lsD, Option.bind_some, killX, set0, set1, set2, envB, List.replicate, List.length_cons, List.length_nil, bodyF_e, List.isPrefixOf, List.drop, Bool.or_false, Bool.false_or, Bool.or_true, Bool.true_or, Bool.or_self, and_self, and_true, true_and, and_false, false_and, and_self, List.isPrefixOf_cons₂, List.drop_succ_cons, BEq.rfl, beq_self_eq_true, Bool.and_self, Bool.and_true, Bool.true_and, Nat.reduceAdd, Nat.reduceSub, Nat.reduceBEq, Nat.reduceEqDiff, beq_iff_eq, Int.reduceLT, Int.reducePow, Int.reduceNeg, List.isPrefixOf_nil_left, List.drop_zero, preS_e, posS_e, posR_nx, posR_bk, posR_rt, posR_ex, drE_nil, drE_t, drE_f, dr1_un, dr1_iv, dr1_lk, dr1_al, fzE_e, fzK_lf, fzK_nd, fzD_s, fzK_al, fzK_un, rdM_e, isLD_l, fzM_e, fzO_tm, fzO_vr, fzT_lf, zpI_e, lfK_d, zpR_s, yesM_e, preS_e, posS_e, posR_nx, posR_bk, posR_rt, posR_ex, drE_nil, drE_t, drE_f, dr1_un, dr1_iv, dr1_lk, dr1_al, fzE_e, fzK_lf, fzK_nd, fzD_s, fzK_al, fzK_un, rdM_e, isLD_l, fzM_e, fzO_tm, fzO_vr, fzT_lf, zpI_e, lfK_d, zpR_s, posI_e, posIR_ok, yesM_e, fEq2_e, fNe2_e, orE_some, e1, e2, e3, e4]⟩
  · exact ⟨t4, 1 + v3, d4, by omega, by omega, by simp only [f__law_things, m__law_things, bind_ok, bind_ex, toS_ok, toS_ex, sbind_nx, sbind_rt, sbind_bk, sbind_ex, iteR_t, iteR_f, nxS_e, bkS_e, exS_e, retN_e, exprS_e, ifS_e, retS_e, asgS_e, aliS_e, aliR_tm, aliR_vr, aliK_nd, aliQ_s, varM_e, varK_s, ctn_e, ctnK_s, getK_s, rsv_e, rsvK_iv, rsvK_lk, rsvK_al, rootOf_e, trK_iv, trK_lk, datK_s, toD_lf, toD_ndt, toD_ndf, toDL_nil, toDL_cons, consO_s, getP_nil, getP_cons, kids_nd, setP_nil, setP_cons, setPK_s, setK_nd, okA_e, okK_iv, okK_un, okK_al, okK_lk, writeR_e, wrK_s, wrR_iv, wrP_nd, wrF_s, toVR_vr, toVK_s, toV_tm, toV_vr, tovK_s, toVs_cons, mvM_e, mvK_lf, mvK_nd, mvK_al, frM_e, frK_lf, frK_nd, frD_s, endF_e, endK_s, outsE_nil, outsE_t, outsE_f, kl_un, kl_iv, kl_lk, kl_al, kx_un, kx_iv, kx_lk, kx_al, nextIs_nil, nextIs_cons, aliK_lf, endB_nx, endB_rt, setR_i, callR_e, callK1_s, callK2_s, backK_ok, backR_t, takeG_nil, takeG_f, takeG_t, tk1_s, tk2_s, tk3_s, tk4_s, argsL_nil, argsL_f, argsL_t, argK_lf, argK_nd, lent_nil, lent_f, lent_t, lentO_tm, lentO_vr, lentT_lf, lentT_nd, putG_nil, putG_cons, sqR_vr, sqK_l, sqK_t, noSh_d, noShL_nil, noShL_cons, noSh_nd, flat_i, okW_nil, okW_cons, wp_nil, wp_cons, kids_vrO, kidsT_l, kidsT_n, kidsT_m, bindL_e, bindLK_s, lstR_s, dat_tmn, lim_0, lim_1, lim_2, lim_3, lim_4, lim_5, lim_6, lim_7, lim_8, lim_9, lim_10, lim_11, lim_12, lim_13, lim_14, tupR_s, tupQ_s, leafDs_nil, leafDs_cons, leafD_d, consT_c, nilT_n, tupT_d, sqK_nt, sqN_s, sqM_iv, sqM_lk, unlkO_s, unlkK_lk, insM_e, insR_s, toVR_tm, cstM_e, op2M_e, addM_e, mulM_e, idxM_e, tstM_e, notT_e, andT_e, orT_e, andM_e, orM_e, notM_e, ifM_e, un1M_e, tr1M_e, ls1M_e, revM_e, nilA_e, consA_e, lstM_e, tplM_e, callM_e, subT_e, nameT_e, lrg1M_e, lrg2M_e, forS_e, sqI_e, rg1I_e, rg2I_e, lcM_e, augS_e, appM_e, popAtM_e, extM_e, stays_tm, stays_nil, stays_t, dat_tm, tree_tm, tree_vr, dat_vr, isB_b, asB_b, elemR_i, elem0, elem1, elem2, elem3, subO_lf, subO_nd, subO_tm, dat2_s, plusR_i, plusR_s, timesR_i, outM_i, outM_b, outM_s, fAdd_i, fSub_i, fLt_i, fLe_i, fGt_i, fGe_i, fEq_i, fNe_i, toVs_nil, mapT_s, fInt_i, fInt1_b, fInt1_i, lenT_s, lenT_l, elem_sc, elem_ls, elem_tu, okD_s, isLs_nd, apR_s, unlkO_n, mapI_ok, lenT_nd, seqS_e, List.getElem?_cons_zero, List.getElem?_cons_succ, List.set_cons_zero, List.set_cons_succ, List.append_nil, List.nil_append, List.cons_append, List.map_cons, List.map_nil, setA, killA, reduceIte, if_true, Option.map_some, Option.map_none, Bool.not_true, Bool.not_false, Bool.false_eq_true, if_false, ite_true, ite_false, id_eq, decide_true, decide_false, IV.toDL_d, lsD, Option.bind_some, killX, set0, set1, set2, envB, List.replicate, List.length_cons, List.length_nil, bodyF_e, List.isPrefixOf, List.drop, Bool.or_false, Bool.false_or, Bool.or_true, Bool.true_or, Bool.or_self, and_self, and_true, true_and, and_false, false_and, and_self, List.isPrefixOf_cons₂, List.drop_succ_cons, BEq.rfl, beq_self_eq_true, Bool.and_self, Bool.and_true, Bool.true_and, Nat.reduceAdd, Nat.reduceSub, Nat.reduceBEq, Nat.reduceEqDiff, beq_iff_eq, Int.reduceLT, Int.reducePow, Int.reduceNeg, List.isPrefixOf_nil_left, List.drop_zero, preS_e, posS_e, posR_nx, posR_bk, posR_rt, posR_ex, drE_nil, drE_t, drE_f, dr1_un, dr1_iv, dr1_lk, dr1_al, fzE_e, fzK_lf, fzK_nd, fzD_s, fzK_al, fzK_un, rdM_e, isLD_l, fzM_e, fzO_tm, fzO_vr, fzT_lf, zpI_e, lfK_d, zpR_s, yesM_e, preS_e, posS_e, posR_nx, posR_bk, posR_rt, posR_ex, drE_nil, drE_t, drE_f, dr1_un, dr1_iv, dr1_lk, dr1_al, fzE_e, fzK_lf, fzK_nd, fzD_s, fzK_al, fzK_un, rdM_e, isLD_l, fzM_e, fzO_tm, fzO_vr, fzT_lf, zpI_e, lfK_d, zpR_s, posI_e, posIR_ok, yesM_e, fEq2_e, fNe2_e, orE_some, e1, e2, e3, e4]⟩
  · exact ⟨t4, 12, d4, by omega, by omega, by simp only [f__law_things, m__law_things, bind_ok, bind_ex, toS_ok, toS_ex, sbind_nx, sbind_rt, sbind_bk, sbind_ex, iteR_t, iteR_f, nxS_e, bkS_e, exS_e, retN_e, exprS_e, ifS_e, retS_e, asgS_e, aliS_e, aliR_tm, aliR_vr, aliK_nd, aliQ_s, varM_e, varK_s, ctn_e, ctnK_s, getK_s, rsv_e, rsvK_iv, rsvK_lk, rsvK_al, rootOf_e, trK_iv, trK_lk, datK_s, toD_lf, toD_ndt, toD_ndf, toDL_nil, toDL_cons, consO_s, getP_nil, getP_cons, kids_nd, setP_nil, setP_cons, setPK_s, setK_nd, okA_e, okK_iv, okK_un, okK_al, okK_lk, writeR_e, wrK_s, wrR_iv, wrP_nd, wrF_s, toVR_vr, toVK_s, toV_tm, toV_vr, tovK_s, toVs_cons, mvM_e, mvK_lf, mvK_nd, mvK_al, frM_e, frK_lf, frK_nd, frD_s, endF_e, endK_s, outsE_nil, outsE_t, outsE_f, kl_un, kl_iv, kl_lk, kl_al, kx_un, kx_iv, kx_lk, kx_al, nextIs_nil, nextIs_cons, aliK_lf, endB_nx, endB_rt, setR_i, callR_e, callK1_s, callK2_s, backK_ok, backR_t, takeG_nil, takeG_f, takeG_t, tk1_s, tk2_s, tk3_s, tk4_s, argsL_nil, argsL_f, argsL_t, argK_lf, argK_nd, lent_nil, lent_f, lent_t, lentO_tm, lentO_vr, lentT_lf, lentT_nd, putG_nil, putG_cons, sqR_vr, sqK_l, sqK_t, noSh_d, noShL_nil, noShL_cons, noSh_nd, flat_i, okW_nil, okW_cons, wp_nil, wp_cons, kids_vrO, kidsT_l, kidsT_n, kidsT_m, bindL_e, bindLK_s, lstR_s, dat_tmn, lim_0, lim_1, lim_2, lim_3, lim_4, lim_5, lim_6, lim_7, lim_8, lim_9, lim_10, lim_11, lim_12, lim_13, lim_14, tupR_s, tupQ_s, leafDs_nil, leafDs_cons, leafD_d, consT_c, nilT_n, tupT_d, sqK_nt, sqN_s, sqM_iv, sqM_lk, unlkO_s, unlkK_lk, insM_e, insR_s, toVR_tm, cstM_e, op2M_e, addM_e, mulM_e, idxM_e, tstM_e, notT_e, andT_e, orT_e, andM_e, orM_e, notM_e, ifM_e, un1M_e, tr1M_e, ls1M_e, revM_e, nilA_e, consA_e, lstM_e, tplM_e, callM_e, subT_e, nameT_e, lrg1M_e, lrg2M_e, forS_e, sqI_e, rg1I_e, rg2I_e, lcM_e, augS_e, appM_e, popAtM_e, extM_e, stays_tm, stays_nil, stays_t, dat_tm, tree_tm, tree_vr, dat_vr, isB_b, asB_b, elemR_i, elem0, elem1, elem2, elem3, subO_lf, subO_nd, subO_tm, dat2_s, plusR_i, plusR_s, timesR_i, outM_i, outM_b, outM_s, fAdd_i, fSub_i, fLt_i, fLe_i, fGt_i, fGe_i, fEq_i, fNe_i, toVs_nil, mapT_s, fInt_i, fInt1_b, fInt1_i, lenT_s, lenT_l, elem_sc, elem_ls, elem_tu, okD_s, isLs_nd, apR_s, unlkO_n, mapI_ok, lenT_nd, seqS_e, List.getElem?_cons_zero, List.getElem?_cons_succ, List.set_cons_zero, List.set_cons_succ, List.append_nil, List.nil_append, List.cons_append, List.map_cons, List.map_nil, setA, killA, reduceIte, if_true, Option.map_some, Option.map_none, Bool.not_true, Bool.not_false, Bool.false_eq_true, if_false, ite_true, ite_false, id_eq, decide_true, decide_false, IV.toDL_d, lsD, Option.bind_some, killX, set0, set1, set2, envB, List.replicate, List.length_cons, List.length_nil, bodyF_e, List.isPrefixOf, List.drop, Bool.or_false, Bool.false_or, Bool.or_true, Bool.true_or, Bool.or_self, and_self, and_true, true_and, and_false, false_and, and_self, List.isPrefixOf_cons₂, List.drop_succ_cons, BEq.rfl, beq_self_eq_true, Bool.and_self, Bool.and_true, Bool.true_and, Nat.reduceAdd, Nat.reduceSub, Nat.reduceBEq, Nat.reduceEqDiff, beq_iff_eq, Int.reduceLT, Int.reducePow, Int.reduceNeg, List.isPrefixOf_nil_left, List.drop_zero, preS_e, posS_e, posR_nx, posR_bk, posR_rt, posR_ex, drE_nil, drE_t, drE_f, dr1_un, dr1_iv, dr1_lk, dr1_al, fzE_e, fzK_lf, fzK_nd, fzD_s, fzK_al, fzK_un, rdM_e, isLD_l, fzM_e, fzO_tm, fzO_vr, fzT_lf, zpI_e, lfK_d, zpR_s, yesM_e, preS_e, posS_e, posR_nx, posR_bk, posR_rt, posR_ex, drE_nil, drE_t, drE_f, dr1_un, dr1_iv, dr1_lk, dr1_al, fzE_e, fzK_lf, fzK_nd, fzD_s, fzK_al, fzK_un, rdM_e, isLD_l, fzM_e, fzO_tm, fzO_vr, fzT_lf, zpI_e, lfK_d, zpR_s, posI_e, posIR_ok, yesM_e, fEq2_e, fNe2_e, orE_some, e1, e2, e3, e4]⟩
/-! ### is_order of anything -/
def isW : PyData → Bool
  | .int _ => true
  | _ => false
theorem whole_any (d : PyData) : f_is_whole [.d d] = .ok (.d (.bool (isW d))) [] := by
  cases d <;> rfl
theorem toDL_ds : ∀ ds : List PyData, IV.toDL (ds.map IV.d) = some ds
  | [] => rfl
  | d :: ds => by
    simp only [List.map_cons, IV.toDL, IV.toD, toDL_ds ds]
theorem fNe2_cons (x : PyData) (xs : List PyData) : orE (fNe (.list (x :: xs)) (.list [])) (lenNe true (.list (x :: xs)) (.list [])) = some (.bool true) := by
  rw [fNe]
  cases SeqAt.shaped (.list (x :: xs)) && SeqAt.shaped (.list []) with
  | false => rfl
  | true => rfl
def gl (n : Nat) : List Int → List PyData → Bool
  | _, [] => true
  | met, .int i :: r => if 0 ≤ i ∧ i < n ∧ i ∉ met then gl n (met ++ [i]) r else false
  | _, _ :: _ => false
theorem gl_ints {n : Nat} : ∀ {ds : List PyData} {met : List Int}, gl n met ds = true → ∃ ns : List Int, ds = ns.map .int ∧ (∀ i ∈ ns, 0 ≤ i ∧ i < n) ∧ (met.Nodup → (met ++ ns).Nodup)
  | [], met, _ => ⟨[], rfl, fun _ h => by simp at h, fun h => by simpa using h⟩
  | d :: r, met, h => by
    cases d with
    | int i =>
      simp only [gl] at h
      split at h
      · next hc =>
        obtain ⟨ns, rfl, h1, h2⟩ := gl_ints h
        refine ⟨i :: ns, rfl, ?_, fun hm => ?_⟩
        · intro j hj
          rcases List.mem_cons.mp hj with rfl | z
          · exact ⟨hc.1, hc.2.1⟩
          · exact h1 j z
        · have := h2 (List.nodup_append.mpr ⟨hm, by simp, fun a ha b hb => by
            rw [List.mem_singleton.mp hb]
            rintro rfl
            exact hc.2.2 ha⟩)
          simpa using this
      · cases h
    | _ => cases h
theorem gl_of {n : Nat} : ∀ {ns : List Int} {met : List Int}, (∀ i ∈ ns, 0 ≤ i ∧ i < n) → (met ++ ns).Nodup → gl n met (ns.map .int) = true
  | [], _, _, _ => rfl
  | i :: ns, met, h1, h2 => by
    simp only [List.map_cons, gl]
    have hi := h1 i List.mem_cons_self
    have hm : i ∉ met := fun z => by
      have := (List.nodup_append.mp h2).2.2 i z i List.mem_cons_self
      exact this rfl
    rw [if_pos ⟨hi.1, hi.2, hm⟩]
    exact gl_of (fun j hj => h1 j (List.mem_cons_of_mem _ hj)) (by simpa using h2)
theorem perm_of_gl {ns : List Int} (h1 : ∀ i ∈ ns, 0 ≤ i ∧ i < (ns.length : Nat)) (h2 : ns.Nodup) : ns.Perm (upN ns.length) := by
  have hsub : ∀ k : Nat, k < ns.length → (k : Int) ∈ ns := by
    intro k hk
    apply Classical.byContradiction
    intro hn
    have hl := L2.nat_nodup_len (ns.map Int.toNat) ((List.range ns.length).filter (· ≠ k)) (by
      refine List.pairwise_map.mpr (h2.imp_of_mem fun {a b} ha hb hab => ?_)
      have := h1 a ha
      have := h1 b hb
      omega) (by
      intro x hx
      obtain ⟨i, hi, rfl⟩ := List.mem_map.mp hx
      have hb := h1 i hi
      refine List.mem_filter.mpr ⟨List.mem_range.mpr (by omega), decide_eq_true fun z => hn ?_⟩
      have e : i = (k : Int) := by omega
      exact e ▸ hi)
    have hlt := List.length_filter_lt_length_iff_exists (p := fun x => decide (x ≠ k)) (l := List.range ns.length)
    have := hlt.mpr ⟨k, List.mem_range.mpr hk, by simp⟩
    simp only [List.length_map, List.length_range] at hl this
    omega
  have hp := L2.perm_range ns.length (ns.map Int.toNat) (by simp) fun k hk => List.mem_map.mpr ⟨(k : Int), hsub k hk, by simp⟩
  have e : (ns.map Int.toNat).map (fun (k : Nat) => (k : Int)) = ns := by
    rw [List.map_map]
    conv => rhs; rw [← List.map_id ns]
    refine List.map_congr_left fun i hi => ?_
    have := h1 i hi
    show ((i.toNat : Nat) : Int) = i
    omega
  rw [← e, upN]
  simpa using hp.map (fun (k : Nat) => (k : Int))
theorem gl_eq (ns : List Int) : gl ns.length [] (ns.map .int) = decide (sortI ns = upN ns.length) := by
  by_cases h : sortI ns = upN ns.length
  · rw [decide_eq_true h]
    have hp : ns.Perm (upN ns.length) := by
      have := (sortI_perm ns).symm
      rwa [h] at this
    refine gl_of (fun i hi => ?_) ?_
    · obtain ⟨k, hk, rfl⟩ := List.mem_map.mp (hp.mem_iff.mp hi)
      have := List.mem_range.mp hk
      omega
    · rw [List.nil_append]
      refine hp.nodup_iff.mpr (List.pairwise_map.mpr (List.nodup_range.imp fun {a b} hab z => hab ?_))
      omega
  · rw [decide_eq_false h]
    cases hg : gl ns.length [] (ns.map .int) with
    | false => rfl
    | true =>
      obtain ⟨ms, e, h1, h2⟩ := gl_ints hg
      have e' : ns = ms := by
        have := List.map_inj_right (f := PyData.int) (fun _ _ z => PyData.int.inj z) |>.mp e
        exact this
      subst e'
      exact absurd (sort_perm (perm_of_gl h1 (by simpa using h2 List.nodup_nil))) h
theorem gl_non {n : Nat} {ds : List PyData} : ∀ {met : List Int}, (∃ d ∈ ds, isW d = false) → gl n met ds = false := by
  intro met h
  cases hg : gl n met ds with
  | false => rfl
  | true =>
    obtain ⟨ns, rfl, _⟩ := gl_ints hg
    obtain ⟨d, hd, hw⟩ := h
    obtain ⟨i, _, rfl⟩ := List.mem_map.mp hd
    cases hw
/-- the answer for anything -/
def ordD : PyData → Bool
  | .list ds => decide (1 ≤ ds.length ∧ ds.length ≤ 12) && gl ds.length [] ds
  | _ => false
theorem ints_of : ∀ {ds : List PyData}, (∀ d ∈ ds, isW d = true) → ∃ ns : List Int, ds = ns.map .int
  | [], _ => ⟨[], rfl⟩
  | d :: ds, h => by
    obtain ⟨ns, rfl⟩ := ints_of fun d hd => h d (List.mem_cons_of_mem _ hd)
    have := h d List.mem_cons_self
    cases d with
    | int i => exact ⟨i :: ns, rfl⟩
    | _ => cases this
theorem is_order_any (d : PyData) : f_is_order [.d d] = .ok (.d (.bool (ordD d))) [] := by
  cases d with
  | list ds =>
    by_cases h1 : 1 ≤ ds.length
    · by_cases h2 : ds.length ≤ 12
      · have c1 : decide ((1 : Int) ≤ (ds.length : Nat)) = true := decide_eq_true (by omega)
        have c2 : decide (((ds.length : Nat) : Int) ≤ 12) = true := decide_eq_true (by omega)
        have hw : lcG [1] (nameT 1) b_is_order_0 b_is_order_1 (ds.map IV.d) [] [.iv (.d (.list ds)), .un] = .ok ((ds.filter fun d => !isW d).map IV.d) [.iv (.d (.list ds)), .un] := by
          refine lcN (i := 1) (fun d : PyData => IV.d d) (fun d => !isW d) (fun d => IV.d d) ds (by omega) fun d hd => ?_
          have hwd := whole_any d
          refine ⟨?_, fun _ => ?_⟩
          · simp only [b_is_order_0, bind_ok, bind_ex, toS_ok, toS_ex, sbind_nx, sbind_rt, sbind_bk, sbind_ex, iteR_t, iteR_f, nxS_e, bkS_e, exS_e, retN_e, exprS_e, ifS_e, retS_e, asgS_e, aliS_e, aliR_tm, aliR_vr, aliK_nd, aliQ_s, varM_e, varK_s, ctn_e, ctnK_s, getK_s, rsv_e, rsvK_iv, rsvK_lk, rsvK_al, rootOf_e, trK_iv, trK_lk, datK_s, toD_lf, toD_ndt, toD_ndf, toDL_nil, toDL_cons, consO_s, getP_nil, getP_cons, kids_nd, setP_nil, setP_cons, setPK_s, setK_nd, okA_e, okK_iv, okK_un, okK_al, okK_lk, writeR_e, wrK_s, wrR_iv, wrP_nd, wrF_s, toVR_vr, toVK_s, toV_tm, toV_vr, tovK_s, toVs_cons, mvM_e, mvK_lf, mvK_nd, mvK_al, frM_e, frK_lf, frK_nd, frD_s, endF_e, endK_s, outsE_nil, outsE_t, outsE_f, kl_un, kl_iv, kl_lk, kl_al, kx_un, kx_iv, kx_lk, kx_al, nextIs_nil, nextIs_cons, aliK_lf, endB_nx, endB_rt, setR_i, callR_e, callK1_s, callK2_s, backK_ok, backR_t, takeG_nil, takeG_f, takeG_t, tk1_s, tk2_s, tk3_s, tk4_s, argsL_nil, argsL_f, argsL_t, argK_lf, argK_nd, lent_nil, lent_f, lent_t, lentO_tm, lentO_vr, lentT_lf, lentT_nd, putG_nil, putG_cons, sqR_vr, sqK_l, sqK_t, noSh_d, noShL_nil, noShL_cons, noSh_nd, flat_i, okW_nil, okW_cons, wp_nil, wp_cons, kids_vrO, kidsT_l, kidsT_n, kidsT_m, bindL_e, bindLK_s, lstR_s, dat_tmn, lim_0, lim_1, lim_2, lim_3, lim_4, lim_5, lim_6, lim_7, lim_8, lim_9, lim_10, lim_11, lim_12, lim_13, lim_14, tupR_s, tupQ_s, leafDs_nil, leafDs_cons, leafD_d, consT_c, nilT_n, tupT_d, sqK_nt, sqN_s, sqM_iv, sqM_lk, unlkO_s, unlkK_lk, insM_e, insR_s, toVR_tm, cstM_e, op2M_e, addM_e, mulM_e, idxM_e, tstM_e, notT_e, andT_e, orT_e, andM_e, orM_e, notM_e, ifM_e, un1M_e, tr1M_e, ls1M_e, revM_e, nilA_e, consA_e, lstM_e, tplM_e, callM_e, subT_e, nameT_e, lrg1M_e, lrg2M_e, forS_e, sqI_e, rg1I_e, rg2I_e, lcM_e, augS_e, appM_e, popAtM_e, extM_e, stays_tm, stays_nil, stays_t, dat_tm, tree_tm, tree_vr, dat_vr, isB_b, asB_b, elemR_i, elem0, elem1, elem2, elem3, subO_lf, subO_nd, subO_tm, dat2_s, plusR_i, plusR_s, timesR_i, outM_i, outM_b, outM_s, fAdd_i, fSub_i, fLt_i, fLe_i, fGt_i, fGe_i, fEq_i, fNe_i, toVs_nil, mapT_s, fInt_i, fInt1_b, fInt1_i, lenT_s, lenT_l, elem_sc, elem_ls, elem_tu, okD_s, isLs_nd, apR_s, unlkO_n, mapI_ok, lenT_nd, seqS_e, List.getElem?_cons_zero, List.getElem?_cons_succ, List.set_cons_zero, List.set_cons_succ, List.append_nil, List.nil_append, List.cons_append, List.map_cons, List.map_nil, setA, killA, reduceIte, if_true, Option.map_some, Option.map_none, Bool.not_true, Bool.not_false, Bool.false_eq_true, if_false, ite_true, ite_false, id_eq, decide_true, decide_false, IV.toDL_d, lsD, Option.bind_some, killX, set0, set1, set2, envB, List.replicate, List.length_cons, List.length_nil, bodyF_e, List.isPrefixOf, List.drop, Bool.or_false, Bool.false_or, Bool.or_true, Bool.true_or, Bool.or_self, and_self, and_true, true_and, and_false, false_and, and_self, List.isPrefixOf_cons₂, List.drop_succ_cons, BEq.rfl, beq_self_eq_true, Bool.and_self, Bool.and_true, Bool.true_and, Nat.reduceAdd, Nat.reduceSub, Nat.reduceBEq, Nat.reduceEqDiff, beq_iff_eq, Int.reduceLT, Int.reducePow, Int.reduceNeg, List.isPrefixOf_nil_left, List.drop_zero, preS_e, posS_e, posR_nx, posR_bk, posR_rt, posR_ex, drE_nil, drE_t, drE_f, dr1_un, dr1_iv, dr1_lk, dr1_al, fzE_e, fzK_lf, fzK_nd, fzD_s, fzK_al, fzK_un, rdM_e, isLD_l, fzM_e, fzO_tm, fzO_vr, fzT_lf, zpI_e, lfK_d, zpR_s, yesM_e, preS_e, posS_e, posR_nx, posR_bk, posR_rt, posR_ex, drE_nil, drE_t, drE_f, dr1_un, dr1_iv, dr1_lk, dr1_al, fzE_e, fzK_lf, fzK_nd, fzD_s, fzK_al, fzK_un, rdM_e, isLD_l, fzM_e, fzO_tm, fzO_vr, fzT_lf, zpI_e, lfK_d, zpR_s, posI_e, posIR_ok, yesM_e, fEq2_e, fNe2_e, orE_some, hwd, flat]
          · simp only [b_is_order_1, bind_ok, bind_ex, toS_ok, toS_ex, sbind_nx, sbind_rt, sbind_bk, sbind_ex, iteR_t, iteR_f, nxS_e, bkS_e, exS_e, retN_e, exprS_e, ifS_e, retS_e, asgS_e, aliS_e, aliR_tm, aliR_vr, aliK_nd, aliQ_s, varM_e, varK_s, ctn_e, ctnK_s, getK_s, rsv_e, rsvK_iv, rsvK_lk, rsvK_al, rootOf_e, trK_iv, trK_lk, datK_s, toD_lf, toD_ndt, toD_ndf, toDL_nil, toDL_cons, consO_s, getP_nil, getP_cons, kids_nd, setP_nil, setP_cons, setPK_s, setK_nd, okA_e, okK_iv, okK_un, okK_al, okK_lk, writeR_e, wrK_s, wrR_iv, wrP_nd, wrF_s, toVR_vr, toVK_s, toV_tm, toV_vr, tovK_s, toVs_cons, mvM_e, mvK_lf, mvK_nd, mvK_al, frM_e, frK_lf, frK_nd, frD_s, endF_e, endK_s, outsE_nil, outsE_t, outsE_f, kl_un, kl_iv, kl_lk, kl_al, kx_un, kx_iv, kx_lk, kx_al, nextIs_nil, nextIs_cons, aliK_lf, endB_nx, endB_rt, setR_i, callR_e, callK1_s, callK2_s, backK_ok, backR_t, takeG_nil, takeG_f, takeG_t, tk1_s, tk2_s, tk3_s, tk4_s, argsL_nil, argsL_f, argsL_t, argK_lf, argK_nd, lent_nil, lent_f, lent_t, lentO_tm, lentO_vr, lentT_lf, lentT_nd, putG_nil, putG_cons, sqR_vr, sqK_l, sqK_t, noSh_d, noShL_nil, noShL_cons, noSh_nd, flat_i, okW_nil, okW_cons, wp_nil, wp_cons, kids_vrO, kidsT_l, kidsT_n, kidsT_m, bindL_e, bindLK_s, lstR_s, dat_tmn, lim_0, lim_1, lim_2, lim_3, lim_4, lim_5, lim_6, lim_7, lim_8, lim_9, lim_10, lim_11, lim_12, lim_13, lim_14, tupR_s, tupQ_s, leafDs_nil, leafDs_cons, leafD_d, consT_c, nilT_n, tupT_d, sqK_nt, sqN_s, sqM_iv, sqM_lk, unlkO_s, unlkK_lk, insM_e, insR_s, toVR_tm, cstM_e, op2M_e, addM_e, mulM_e, idxM_e, tstM_e, notT_e, andT_e, orT_e, andM_e, orM_e, notM_e, ifM_e, un1M_e, tr1M_e, ls1M_e, revM_e, nilA_e, consA_e, lstM_e, tplM_e, callM_e, subT_e, nameT_e, lrg1M_e, lrg2M_e, forS_e, sqI_e, rg1I_e, rg2I_e, lcM_e, augS_e, appM_e, popAtM_e, extM_e, stays_tm, stays_nil, stays_t, dat_tm, tree_tm, tree_vr, dat_vr, isB_b, asB_b, elemR_i, elem0, elem1, elem2, elem3, subO_lf, subO_nd, subO_tm, dat2_s, plusR_i, plusR_s, timesR_i, outM_i, outM_b, outM_s, fAdd_i, fSub_i, fLt_i, fLe_i, fGt_i, fGe_i, fEq_i, fNe_i, toVs_nil, mapT_s, fInt_i, fInt1_b, fInt1_i, lenT_s, lenT_l, elem_sc, elem_ls, elem_tu, okD_s, isLs_nd, apR_s, unlkO_n, mapI_ok, lenT_nd, seqS_e, List.getElem?_cons_zero, List.getElem?_cons_succ, List.set_cons_zero, List.set_cons_succ, List.append_nil, List.nil_append, List.cons_append, List.map_cons, List.map_nil, setA, killA, reduceIte, if_true, Option.map_some, Option.map_none, Bool.not_true, Bool.not_false, Bool.false_eq_true, if_false, ite_true, ite_false, id_eq, decide_true, decide_false, IV.toDL_d, lsD, Option.bind_some, killX, set0, set1, set2, envB, List.replicate, List.length_cons, List.length_nil, bodyF_e, List.isPrefixOf, List.drop, Bool.or_false, Bool.false_or, Bool.or_true, Bool.true_or, Bool.or_self, and_self, and_true, true_and, and_false, false_and, and_self, List.isPrefixOf_cons₂, List.drop_succ_cons, BEq.rfl, beq_self_eq_true, Bool.and_self, Bool.and_true, Bool.true_and, Nat.reduceAdd, Nat.reduceSub, Nat.reduceBEq, Nat.reduceEqDiff, beq_iff_eq, Int.reduceLT, Int.reducePow, Int.reduceNeg, List.isPrefixOf_nil_left, List.drop_zero, preS_e, posS_e, posR_nx, posR_bk, posR_rt, posR_ex, drE_nil, drE_t, drE_f, dr1_un, dr1_iv, dr1_lk, dr1_al, fzE_e, fzK_lf, fzK_nd, fzD_s, fzK_al, fzK_un, rdM_e, isLD_l, fzM_e, fzO_tm, fzO_vr, fzT_lf, zpI_e, lfK_d, zpR_s, yesM_e, preS_e, posS_e, posR_nx, posR_bk, posR_rt, posR_ex, drE_nil, drE_t, drE_f, dr1_un, dr1_iv, dr1_lk, dr1_al, fzE_e, fzK_lf, fzK_nd, fzD_s, fzK_al, fzK_un, rdM_e, isLD_l, fzM_e, fzO_tm, fzO_vr, fzT_lf, zpI_e, lfK_d, zpR_s, posI_e, posIR_ok, yesM_e, fEq2_e, fNe2_e, orE_some]
        by_cases h3 : ∀ d ∈ ds, isW d = true
        · obtain ⟨ns, rfl⟩ := ints_of h3
          have hf : (ns.map PyData.int).filter (fun d => !isW d) = [] := List.filter_eq_nil_iff.mpr fun d hd => by rw [h3 d hd]; decide
          rw [hf] at hw
          have hrg : rgOk 0 ((ns.length : Nat) : Int) = true := decide_eq_true (by simp only [List.length_map] at *; omega)
          have hfn : fNe (.list []) (.list []) = some (.bool false) := rfl
          have hg : ordD (.list (ns.map .int)) = decide (sortI ns = upN ns.length) := by
            simp only [ordD, List.length_map] at *
            rw [decide_eq_true ⟨h1, h2⟩, Bool.true_and, gl_eq]
          rw [hg]
          simp only [List.length_map] at *
          have hfe := fEq_ints (sortI ns) (upN ns.length)
          simp only [f_is_order, m_is_order, bind_ok, bind_ex, toS_ok, toS_ex, sbind_nx, sbind_rt, sbind_bk, sbind_ex, iteR_t, iteR_f, nxS_e, bkS_e, exS_e, retN_e, exprS_e, ifS_e, retS_e, asgS_e, aliS_e, aliR_tm, aliR_vr, aliK_nd, aliQ_s, varM_e, varK_s, ctn_e, ctnK_s, getK_s, rsv_e, rsvK_iv, rsvK_lk, rsvK_al, rootOf_e, trK_iv, trK_lk, datK_s, toD_lf, toD_ndt, toD_ndf, toDL_nil, toDL_cons, consO_s, getP_nil, getP_cons, kids_nd, setP_nil, setP_cons, setPK_s, setK_nd, okA_e, okK_iv, okK_un, okK_al, okK_lk, writeR_e, wrK_s, wrR_iv, wrP_nd, wrF_s, toVR_vr, toVK_s, toV_tm, toV_vr, tovK_s, toVs_cons, mvM_e, mvK_lf, mvK_nd, mvK_al, frM_e, frK_lf, frK_nd, frD_s, endF_e, endK_s, outsE_nil, outsE_t, outsE_f, kl_un, kl_iv, kl_lk, kl_al, kx_un, kx_iv, kx_lk, kx_al, nextIs_nil, nextIs_cons, aliK_lf, endB_nx, endB_rt, setR_i, callR_e, callK1_s, callK2_s, backK_ok, backR_t, takeG_nil, takeG_f, takeG_t, tk1_s, tk2_s, tk3_s, tk4_s, argsL_nil, argsL_f, argsL_t, argK_lf, argK_nd, lent_nil, lent_f, lent_t, lentO_tm, lentO_vr, lentT_lf, lentT_nd, putG_nil, putG_cons, sqR_vr, sqK_l, sqK_t, noSh_d, noShL_nil, noShL_cons, noSh_nd, flat_i, okW_nil, okW_cons, wp_nil, wp_cons, kids_vrO, kidsT_l, kidsT_n, kidsT_m, bindL_e, bindLK_s, lstR_s, dat_tmn, lim_0, lim_1, lim_2, lim_3, lim_4, lim_5, lim_6, lim_7, lim_8, lim_9, lim_10, lim_11, lim_12, lim_13, lim_14, tupR_s, tupQ_s, leafDs_nil, leafDs_cons, leafD_d, consT_c, nilT_n, tupT_d, sqK_nt, sqN_s, sqM_iv, sqM_lk, unlkO_s, unlkK_lk, insM_e, insR_s, toVR_tm, cstM_e, op2M_e, addM_e, mulM_e, idxM_e, tstM_e, notT_e, andT_e, orT_e, andM_e, orM_e, notM_e, ifM_e, un1M_e, tr1M_e, ls1M_e, revM_e, nilA_e, consA_e, lstM_e, tplM_e, callM_e, subT_e, nameT_e, lrg1M_e, lrg2M_e, forS_e, sqI_e, rg1I_e, rg2I_e, lcM_e, augS_e, appM_e, popAtM_e, extM_e, stays_tm, stays_nil, stays_t, dat_tm, tree_tm, tree_vr, dat_vr, isB_b, asB_b, elemR_i, elem0, elem1, elem2, elem3, subO_lf, subO_nd, subO_tm, dat2_s, plusR_i, plusR_s, timesR_i, outM_i, outM_b, outM_s, fAdd_i, fSub_i, fLt_i, fLe_i, fGt_i, fGe_i, fEq_i, fNe_i, toVs_nil, mapT_s, fInt_i, fInt1_b, fInt1_i, lenT_s, lenT_l, elem_sc, elem_ls, elem_tu, okD_s, isLs_nd, apR_s, unlkO_n, mapI_ok, lenT_nd, seqS_e, List.getElem?_cons_zero, List.getElem?_cons_succ, List.set_cons_zero, List.set_cons_succ, List.append_nil, List.nil_append, List.cons_append, List.map_cons, List.map_nil, setA, killA, reduceIte, if_true, Option.map_some, Option.map_none, Bool.not_true, Bool.not_false, Bool.false_eq_true, if_false, ite_true, ite_false, id_eq, decide_true, decide_false, IV.toDL_d, lsD, Option.bind_some, killX, set0, set1, set2, envB, List.replicate, List.length_cons, List.length_nil, bodyF_e, List.isPrefixOf, List.drop, Bool.or_false, Bool.false_or, Bool.or_true, Bool.true_or, Bool.or_self, and_self, and_true, true_and, and_false, false_and, and_self, List.isPrefixOf_cons₂, List.drop_succ_cons, BEq.rfl, beq_self_eq_true, Bool.and_self, Bool.and_true, Bool.true_and, Nat.reduceAdd, Nat.reduceSub, Nat.reduceBEq, Nat.reduceEqDiff, beq_iff_eq, Int.reduceLT, Int.reducePow, Int.reduceNeg, List.isPrefixOf_nil_left, List.drop_zero, preS_e, posS_e, posR_nx, posR_bk, posR_rt, posR_ex, drE_nil, drE_t, drE_f, dr1_un, dr1_iv, dr1_lk, dr1_al, fzE_e, fzK_lf, fzK_nd, fzD_s, fzK_al, fzK_un, rdM_e, isLD_l, fzM_e, fzO_tm, fzO_vr, fzT_lf, zpI_e, lfK_d, zpR_s, yesM_e, preS_e, posS_e, posR_nx, posR_bk, posR_rt, posR_ex, drE_nil, drE_t, drE_f, dr1_un, dr1_iv, dr1_lk, dr1_al, fzE_e, fzK_lf, fzK_nd, fzD_s, fzK_al, fzK_un, rdM_e, isLD_l, fzM_e, fzO_tm, fzO_vr, fzT_lf, zpI_e, lfK_d, zpR_s, posI_e, posIR_ok, yesM_e, fEq2_e, fNe2_e, orE_some, isT_ll, chM_e, flatO_i, withD_s, List.length_map, c1, c2, hw, hfn, sortD_ints, rgR_ok hrg, rgD_upN, hfe, flat]
        · have h3' : ∃ d ∈ ds, isW d = false := Classical.byContradiction fun z => h3 fun d hd => by
            cases hh : isW d with
            | true => rfl
            | false => exact absurd ⟨d, hd, hh⟩ z
          have hg : ordD (.list ds) = false := by rw [ordD, gl_non h3', Bool.and_false]
          rw [hg]
          obtain ⟨x, xs, hx⟩ : ∃ x xs, ds.filter (fun d => !isW d) = x :: xs := by
            obtain ⟨d, hd, hh⟩ := h3'
            cases hf : ds.filter (fun d => !isW d) with
            | nil =>
              have := List.filter_eq_nil_iff.mp hf d hd
              rw [hh] at this
              exact absurd rfl this
            | cons x xs => exact ⟨x, xs, rfl⟩
          rw [hx] at hw
          have hfn := fNe2_cons x xs
          have htd : IV.toDL ((x :: xs).map IV.d) = some (x :: xs) := toDL_ds _
          simp only [f_is_order, m_is_order, bind_ok, bind_ex, toS_ok, toS_ex, sbind_nx, sbind_rt, sbind_bk, sbind_ex, iteR_t, iteR_f, nxS_e, bkS_e, exS_e, retN_e, exprS_e, ifS_e, retS_e, asgS_e, aliS_e, aliR_tm, aliR_vr, aliK_nd, aliQ_s, varM_e, varK_s, ctn_e, ctnK_s, getK_s, rsv_e, rsvK_iv, rsvK_lk, rsvK_al, rootOf_e, trK_iv, trK_lk, datK_s, toD_lf, toD_ndt, toD_ndf, toDL_nil, toDL_cons, consO_s, getP_nil, getP_cons, kids_nd, setP_nil, setP_cons, setPK_s, setK_nd, okA_e, okK_iv, okK_un, okK_al, okK_lk, writeR_e, wrK_s, wrR_iv, wrP_nd, wrF_s, toVR_vr, toVK_s, toV_tm, toV_vr, tovK_s, toVs_cons, mvM_e, mvK_lf, mvK_nd, mvK_al, frM_e, frK_lf, frK_nd, frD_s, endF_e, endK_s, outsE_nil, outsE_t, outsE_f, kl_un, kl_iv, kl_lk, kl_al, kx_un, kx_iv, kx_lk, kx_al, nextIs_nil, nextIs_cons, aliK_lf, endB_nx, endB_rt, setR_i, callR_e, callK1_s, callK2_s, backK_ok, backR_t, takeG_nil, takeG_f, takeG_t, tk1_s, tk2_s, tk3_s, tk4_s, argsL_nil, argsL_f, argsL_t, argK_lf, argK_nd, lent_nil, lent_f, lent_t, lentO_tm, lentO_vr, lentT_lf, lentT_nd, putG_nil, putG_cons, sqR_vr, sqK_l, sqK_t, noSh_d, noShL_nil, noShL_cons, noSh_nd, flat_i, okW_nil, okW_cons, wp_nil, wp_cons, kids_vrO, kidsT_l, kidsT_n, kidsT_m, bindL_e, bindLK_s, lstR_s, dat_tmn, lim_0, lim_1, lim_2, lim_3, lim_4, lim_5, lim_6, lim_7, lim_8, lim_9, lim_10, lim_11, lim_12, lim_13, lim_14, tupR_s, tupQ_s, leafDs_nil, leafDs_cons, leafD_d, consT_c, nilT_n, tupT_d, sqK_nt, sqN_s, sqM_iv, sqM_lk, unlkO_s, unlkK_lk, insM_e, insR_s, toVR_tm, cstM_e, op2M_e, addM_e, mulM_e, idxM_e, tstM_e, notT_e, andT_e, orT_e, andM_e, orM_e, notM_e, ifM_e, un1M_e, tr1M_e, ls1M_e, revM_e, nilA_e, consA_e, lstM_e, tplM_e, callM_e, subT_e, nameT_e, lrg1M_e, lrg2M_e, forS_e, sqI_e, rg1I_e, rg2I_e, lcM_e, augS_e, appM_e, popAtM_e, extM_e, stays_tm, stays_nil, stays_t, dat_tm, tree_tm, tree_vr, dat_vr, isB_b, asB_b, elemR_i, elem0, elem1, elem2, elem3, subO_lf, subO_nd, subO_tm, dat2_s, plusR_i, plusR_s, timesR_i, outM_i, outM_b, outM_s, fAdd_i, fSub_i, fLt_i, fLe_i, fGt_i, fGe_i, fEq_i, fNe_i, toVs_nil, mapT_s, fInt_i, fInt1_b, fInt1_i, lenT_s, lenT_l, elem_sc, elem_ls, elem_tu, okD_s, isLs_nd, apR_s, unlkO_n, mapI_ok, lenT_nd, seqS_e, List.getElem?_cons_zero, List.getElem?_cons_succ, List.set_cons_zero, List.set_cons_succ, List.append_nil, List.nil_append, List.cons_append, List.map_cons, List.map_nil, setA, killA, reduceIte, if_true, Option.map_some, Option.map_none, Bool.not_true, Bool.not_false, Bool.false_eq_true, if_false, ite_true, ite_false, id_eq, decide_true, decide_false, IV.toDL_d, lsD, Option.bind_some, killX, set0, set1, set2, envB, List.replicate, List.length_cons, List.length_nil, bodyF_e, List.isPrefixOf, List.drop, Bool.or_false, Bool.false_or, Bool.or_true, Bool.true_or, Bool.or_self, and_self, and_true, true_and, and_false, false_and, and_self, List.isPrefixOf_cons₂, List.drop_succ_cons, BEq.rfl, beq_self_eq_true, Bool.and_self, Bool.and_true, Bool.true_and, Nat.reduceAdd, Nat.reduceSub, Nat.reduceBEq, Nat.reduceEqDiff, beq_iff_eq, Int.reduceLT, Int.reducePow, Int.reduceNeg, List.isPrefixOf_nil_left, List.drop_zero, preS_e, posS_e, posR_nx, posR_bk, posR_rt, posR_ex, drE_nil, drE_t, drE_f, dr1_un, dr1_iv, dr1_lk, dr1_al, fzE_e, fzK_lf, fzK_nd, fzD_s, fzK_al, fzK_un, rdM_e, isLD_l, fzM_e, fzO_tm, fzO_vr, fzT_lf, zpI_e, lfK_d, zpR_s, yesM_e, preS_e, posS_e, posR_nx, posR_bk, posR_rt, posR_ex, drE_nil, drE_t, drE_f, dr1_un, dr1_iv, dr1_lk, dr1_al, fzE_e, fzK_lf, fzK_nd, fzD_s, fzK_al, fzK_un, rdM_e, isLD_l, fzM_e, fzO_tm, fzO_vr, fzT_lf, zpI_e, lfK_d, zpR_s, posI_e, posIR_ok, yesM_e, fEq2_e, fNe2_e, orE_some, isT_ll, chM_e, flatO_i, withD_s, c1, c2, hw, htd, hfn, flat]
      · have c1 : decide ((1 : Int) ≤ (ds.length : Nat)) = true := decide_eq_true (by omega)
        have c2 : decide (((ds.length : Nat) : Int) ≤ 12) = false := decide_eq_false (by omega)
        have hg : ordD (.list ds) = false := by rw [ordD, decide_eq_false (by omega), Bool.false_and]
        rw [hg]
        simp only [f_is_order, m_is_order, bind_ok, bind_ex, toS_ok, toS_ex, sbind_nx, sbind_rt, sbind_bk, sbind_ex, iteR_t, iteR_f, nxS_e, bkS_e, exS_e, retN_e, exprS_e, ifS_e, retS_e, asgS_e, aliS_e, aliR_tm, aliR_vr, aliK_nd, aliQ_s, varM_e, varK_s, ctn_e, ctnK_s, getK_s, rsv_e, rsvK_iv, rsvK_lk, rsvK_al, rootOf_e, trK_iv, trK_lk, datK_s, toD_lf, toD_ndt, toD_ndf, toDL_nil, toDL_cons, consO_s, getP_nil, getP_cons, kids_nd, setP_nil, setP_cons, setPK_s, setK_nd, okA_e, okK_iv, okK_un, okK_al, okK_lk, writeR_e, wrK_s, wrR_iv, wrP_nd, wrF_s, toVR_vr, toVK_s, toV_tm, toV_vr, tovK_s, toVs_cons, mvM_e, mvK_lf, mvK_nd, mvK_al, frM_e, frK_lf, frK_nd, frD_s, endF_e, endK_s, outsE_nil, outsE_t, outsE_f, kl_un, kl_iv, kl_lk, kl_al, kx_un, kx_iv, kx_lk, kx_al, nextIs_nil, nextIs_cons, aliK_lf, endB_nx, endB_rt, setR_i, callR_e, callK1_s, callK2_s, backK_ok, backR_t, takeG_nil, takeG_f, takeG_t, tk1_s, tk2_s, tk3_s, tk4_s, argsL_nil, argsL_f, argsL_t, argK_lf, argK_nd, lent_nil, lent_f, lent_t, lentO_tm, lentO_vr, lentT_lf, lentT_nd, putG_nil, putG_cons, sqR_vr, sqK_l, sqK_t, noSh_d, noShL_nil, noShL_cons, noSh_nd, flat_i, okW_nil, okW_cons, wp_nil, wp_cons, kids_vrO, kidsT_l, kidsT_n, kidsT_m, bindL_e, bindLK_s, lstR_s, dat_tmn, lim_0, lim_1, lim_2, lim_3, lim_4, lim_5, lim_6, lim_7, lim_8, lim_9, lim_10, lim_11, lim_12, lim_13, lim_14, tupR_s, tupQ_s, leafDs_nil, leafDs_cons, leafD_d, consT_c, nilT_n, tupT_d, sqK_nt, sqN_s, sqM_iv, sqM_lk, unlkO_s, unlkK_lk, insM_e, insR_s, toVR_tm, cstM_e, op2M_e, addM_e, mulM_e, idxM_e, tstM_e, notT_e, andT_e, orT_e, andM_e, orM_e, notM_e, ifM_e, un1M_e, tr1M_e, ls1M_e, revM_e, nilA_e, consA_e, lstM_e, tplM_e, callM_e, subT_e, nameT_e, lrg1M_e, lrg2M_e, forS_e, sqI_e, rg1I_e, rg2I_e, lcM_e, augS_e, appM_e, popAtM_e, extM_e, stays_tm, stays_nil, stays_t, dat_tm, tree_tm, tree_vr, dat_vr, isB_b, asB_b, elemR_i, elem0, elem1, elem2, elem3, subO_lf, subO_nd, subO_tm, dat2_s, plusR_i, plusR_s, timesR_i, outM_i, outM_b, outM_s, fAdd_i, fSub_i, fLt_i, fLe_i, fGt_i, fGe_i, fEq_i, fNe_i, toVs_nil, mapT_s, fInt_i, fInt1_b, fInt1_i, lenT_s, lenT_l, elem_sc, elem_ls, elem_tu, okD_s, isLs_nd, apR_s, unlkO_n, mapI_ok, lenT_nd, seqS_e, List.getElem?_cons_zero, List.getElem?_cons_succ, List.set_cons_zero, List.set_cons_succ, List.append_nil, List.nil_append, List.cons_append, List.map_cons, List.map_nil, setA, killA, reduceIte, if_true, Option.map_some, Option.map_none, Bool.not_true, Bool.not_false, Bool.false_eq_true, if_false, ite_true, ite_false, id_eq, decide_true, decide_false, IV.toDL_d, lsD, Option.bind_some, killX, set0, set1, set2, envB, List.replicate, List.length_cons, List.length_nil, bodyF_e, List.isPrefixOf, List.drop, Bool.or_false, Bool.false_or, Bool.or_true, Bool.true_or, Bool.or_self, and_self, and_true, true_and, and_false, false_and, and_self, List.isPrefixOf_cons₂, List.drop_succ_cons, BEq.rfl, beq_self_eq_true, Bool.and_self, Bool.and_true, Bool.true_and, Nat.reduceAdd, Nat.reduceSub, Nat.reduceBEq, Nat.reduceEqDiff, beq_iff_eq, Int.reduceLT, Int.reducePow, Int.reduceNeg, List.isPrefixOf_nil_left, List.drop_zero, preS_e, posS_e, posR_nx, posR_bk, posR_rt, posR_ex, drE_nil, drE_t, drE_f, dr1_un, dr1_iv, dr1_lk, dr1_al, fzE_e, fzK_lf, fzK_nd, fzD_s, fzK_al, fzK_un, rdM_e, isLD_l, fzM_e, fzO_tm, fzO_vr, fzT_lf, zpI_e, lfK_d, zpR_s, yesM_e, preS_e, posS_e, posR_nx, posR_bk, posR_rt, posR_ex, drE_nil, drE_t, drE_f, dr1_un, dr1_iv, dr1_lk, dr1_al, fzE_e, fzK_lf, fzK_nd, fzD_s, fzK_al, fzK_un, rdM_e, isLD_l, fzM_e, fzO_tm, fzO_vr, fzT_lf, zpI_e, lfK_d, zpR_s, posI_e, posIR_ok, yesM_e, fEq2_e, fNe2_e, orE_some, isT_ll, chM_e, flatO_i, withD_s, c1, c2, flat]
    · have c1 : decide ((1 : Int) ≤ (ds.length : Nat)) = false := decide_eq_false (by omega)
      have hg : ordD (.list ds) = false := by rw [ordD, decide_eq_false (by omega), Bool.false_and]
      rw [hg]
      simp only [f_is_order, m_is_order, bind_ok, bind_ex, toS_ok, toS_ex, sbind_nx, sbind_rt, sbind_bk, sbind_ex, iteR_t, iteR_f, nxS_e, bkS_e, exS_e, retN_e, exprS_e, ifS_e, retS_e, asgS_e, aliS_e, aliR_tm, aliR_vr, aliK_nd, aliQ_s, varM_e, varK_s, ctn_e, ctnK_s, getK_s, rsv_e, rsvK_iv, rsvK_lk, rsvK_al, rootOf_e, trK_iv, trK_lk, datK_s, toD_lf, toD_ndt, toD_ndf, toDL_nil, toDL_cons, consO_s, getP_nil, getP_cons, kids_nd, setP_nil, setP_cons, setPK_s, setK_nd, okA_e, okK_iv, okK_un, okK_al, okK_lk, writeR_e, wrK_s, wrR_iv, wrP_nd, wrF_s, toVR_vr, toVK_s, toV_tm, toV_vr, tovK_s, toVs_cons, mvM_e, mvK_lf, mvK_nd, mvK_al, frM_e, frK_lf, frK_nd, frD_s, endF_e, endK_s, outsE_nil, outsE_t, outsE_f, kl_un, kl_iv, kl_lk, kl_al, kx_un, kx_iv, kx_lk, kx_al, nextIs_nil, nextIs_cons, aliK_lf, endB_nx, endB_rt, setR_i, callR_e, callK1_s, callK2_s, backK_ok, backR_t, takeG_nil, takeG_f, takeG_t, tk1_s, tk2_s, tk3_s, tk4_s, argsL_nil, argsL_f, argsL_t, argK_lf, argK_nd, lent_nil, lent_f, lent_t, lentO_tm, lentO_vr, lentT_lf, lentT_nd, putG_nil, putG_cons, sqR_vr, sqK_l, sqK_t, noSh_d, noShL_nil, noShL_cons, noSh_nd, flat_i, okW_nil, okW_cons, wp_nil, wp_cons, kids_vrO, kidsT_l, kidsT_n, kidsT_m, bindL_e, bindLK_s, lstR_s, dat_tmn, lim_0, lim_1, lim_2, lim_3, lim_4, lim_5, lim_6, lim_7, lim_8, lim_9, lim_10, lim_11, lim_12, lim_13, lim_14, tupR_s, tupQ_s, leafDs_nil, leafDs_cons, leafD_d, consT_c, nilT_n, tupT_d, sqK_nt, sqN_s, sqM_iv, sqM_lk, unlkO_s, unlkK_lk, insM_e, insR_s, toVR_tm, cstM_e, op2M_e, addM_e, mulM_e, idxM_e, tstM_e, notT_e, andT_e, orT_e, andM_e, orM_e, notM_e, ifM_e, un1M_e, tr1M_e, ls1M_e, revM_e, nilA_e, consA_e, lstM_e, tplM_e, callM_e, subT_e, nameT_e, lrg1M_e, lrg2M_e, forS_e, sqI_e, rg1I_e, rg2I_e, lcM_e, augS_e, appM_e, popAtM_e, extM_e, stays_tm, stays_nil, stays_t, dat_tm, tree_tm, tree_vr, dat_vr, isB_b, asB_b, elemR_i, elem0, elem1, elem2, elem3, subO_lf, subO_nd, subO_tm, dat2_s, plusR_i, plusR_s, timesR_i, outM_i, outM_b, outM_s, fAdd_i, fSub_i, fLt_i, fLe_i, fGt_i, fGe_i, fEq_i, fNe_i, toVs_nil, mapT_s, fInt_i, fInt1_b, fInt1_i, lenT_s, lenT_l, elem_sc, elem_ls, elem_tu, okD_s, isLs_nd, apR_s, unlkO_n, mapI_ok, lenT_nd, seqS_e, List.getElem?_cons_zero, List.getElem?_cons_succ, List.set_cons_zero, List.set_cons_succ, List.append_nil, List.nil_append, List.cons_append, List.map_cons, List.map_nil, setA, killA, reduceIte, if_true, Option.map_some, Option.map_none, Bool.not_true, Bool.not_false, Bool.false_eq_true, if_false, ite_true, ite_false, id_eq, decide_true, decide_false, IV.toDL_d, lsD, Option.bind_some, killX, set0, set1, set2, envB, List.replicate, List.length_cons, List.length_nil, bodyF_e, List.isPrefixOf, List.drop, Bool.or_false, Bool.false_or, Bool.or_true, Bool.true_or, Bool.or_self, and_self, and_true, true_and, and_false, false_and, and_self, List.isPrefixOf_cons₂, List.drop_succ_cons, BEq.rfl, beq_self_eq_true, Bool.and_self, Bool.and_true, Bool.true_and, Nat.reduceAdd, Nat.reduceSub, Nat.reduceBEq, Nat.reduceEqDiff, beq_iff_eq, Int.reduceLT, Int.reducePow, Int.reduceNeg, List.isPrefixOf_nil_left, List.drop_zero, preS_e, posS_e, posR_nx, posR_bk, posR_rt, posR_ex, drE_nil, drE_t, drE_f, dr1_un, dr1_iv, dr1_lk, dr1_al, fzE_e, fzK_lf, fzK_nd, fzD_s, fzK_al, fzK_un, rdM_e, isLD_l, fzM_e, fzO_tm, fzO_vr, fzT_lf, zpI_e, lfK_d, zpR_s, yesM_e, preS_e, posS_e, posR_nx, posR_bk, posR_rt, posR_ex, drE_nil, drE_t, drE_f, dr1_un, dr1_iv, dr1_lk, dr1_al, fzE_e, fzK_lf, fzK_nd, fzD_s, fzK_al, fzK_un, rdM_e, isLD_l, fzM_e, fzO_tm, fzO_vr, fzT_lf, zpI_e, lfK_d, zpR_s, posI_e, posIR_ok, yesM_e, fEq2_e, fNe2_e, orE_some, isT_ll, chM_e, flatO_i, withD_s, c1, flat]
  | _ => rfl
theorem fIn2_ints (i : Int) (ms : List Int) : fIn2 (.int i) (intL ms) = some (.bool (decide (i ∈ ms))) := by
  have h : ∀ ms : List Int, (ms.map PyData.int).any (fun y => PyData.eqv y (.int i)) = decide (i ∈ ms) := by
    intro ms
    induction ms with
    | nil => rfl
    | cons m ms ih =>
      rw [List.map_cons, List.any_cons, ih]
      by_cases h1 : i = m
      · subst h1
        simp [PyData.eqv]
      · have : (PyData.eqv (.int m) (.int i)) = false := by
          simp [PyData.eqv]
          exact fun z => h1 z.symm
        rw [this]
        simp [h1]
  show ((inD (.int i) (.list (ms.map .int))).map PyData.bool) = _
  rw [inD]
  have hs : SeqAt.shaped (.list (ms.map PyData.int)) = true := shaped_ints ms
  rw [hs, h, show SeqAt.shaped (.int i) = true from rfl]
  rfl
theorem good_body (L : List PyData) (hn2 : L.length ≤ 12) (d : PyData) (met : List Int) (hm : met.length ≤ 12) : ∀ r, gl L.length met (d :: r) = true ∧ (∃ i, d = .int i ∧ gl L.length (met ++ [i]) r = true ∧ b__law_good_0 [.iv (.d (.list L)), .iv (.nd true (ivL met)), .iv (IV.d d)] = .nx [.iv (.d (.list L)), .iv (.nd true (ivL (met ++ [i]))), .un]) ∨
    gl L.length met (d :: r) = false ∧ ((∃ w e', b__law_good_0 [.iv (.d (.list L)), .iv (.nd true (ivL met)), .iv (IV.d d)] = .rt (.d (.bool false)) (w :: e')) ∨ ∃ i, d = .int i ∧ gl L.length (met ++ [i]) r = false ∧ b__law_good_0 [.iv (.d (.list L)), .iv (.nd true (ivL met)), .iv (IV.d d)] = .nx [.iv (.d (.list L)), .iv (.nd true (ivL (met ++ [i]))), .un]) := by
  intro r
  cases d with
  | int i =>
    have hin := fIn2_ints i met
    have hap : apF (I i) (ivL met) = some (ivL (met ++ [i]), fun j => decide ((ivL met).length ≤ j), ()) := by
      simp only [apF, ivL_len, lim, decide_eq_true (show met.length ≤ 1000000 by omega), if_true]
      simp [ivL]
    by_cases h1 : 0 ≤ i
    · by_cases h2 : i < (L.length : Nat)
      · by_cases h3 : i ∈ met
        · refine .inr ⟨by simp only [gl]; rw [if_neg (fun z => z.2.2 h3)], .inl ⟨.iv (.d (.list L)), [.iv (.nd true (ivL met)), .iv (IV.d (.int i))], ?_⟩⟩
          rw [decide_eq_true h3] at hin
          simp only [b__law_good_0, bind_ok, bind_ex, toS_ok, toS_ex, sbind_nx, sbind_rt, sbind_bk, sbind_ex, iteR_t, iteR_f, nxS_e, bkS_e, exS_e, retN_e, exprS_e, ifS_e, retS_e, asgS_e, aliS_e, aliR_tm, aliR_vr, aliK_nd, aliQ_s, varM_e, varK_s, ctn_e, ctnK_s, getK_s, rsv_e, rsvK_iv, rsvK_lk, rsvK_al, rootOf_e, trK_iv, trK_lk, datK_s, toD_lf, toD_ndt, toD_ndf, toDL_nil, toDL_cons, consO_s, getP_nil, getP_cons, kids_nd, setP_nil, setP_cons, setPK_s, setK_nd, okA_e, okK_iv, okK_un, okK_al, okK_lk, writeR_e, wrK_s, wrR_iv, wrP_nd, wrF_s, toVR_vr, toVK_s, toV_tm, toV_vr, tovK_s, toVs_cons, mvM_e, mvK_lf, mvK_nd, mvK_al, frM_e, frK_lf, frK_nd, frD_s, endF_e, endK_s, outsE_nil, outsE_t, outsE_f, kl_un, kl_iv, kl_lk, kl_al, kx_un, kx_iv, kx_lk, kx_al, nextIs_nil, nextIs_cons, aliK_lf, endB_nx, endB_rt, setR_i, callR_e, callK1_s, callK2_s, backK_ok, backR_t, takeG_nil, takeG_f, takeG_t, tk1_s, tk2_s, tk3_s, tk4_s, argsL_nil, argsL_f, argsL_t, argK_lf, argK_nd, lent_nil, lent_f, lent_t, lentO_tm, lentO_vr, lentT_lf, lentT_nd, putG_nil, putG_cons, sqR_vr, sqK_l, sqK_t, noSh_d, noShL_nil, noShL_cons, noSh_nd, flat_i, okW_nil, okW_cons, wp_nil, wp_cons, kids_vrO, kidsT_l, kidsT_n, kidsT_m, bindL_e, bindLK_s, lstR_s, dat_tmn, lim_0, lim_1, lim_2, lim_3, lim_4, lim_5, lim_6, lim_7, lim_8, lim_9, lim_10, lim_11, lim_12, lim_13, lim_14, tupR_s, tupQ_s, leafDs_nil, leafDs_cons, leafD_d, consT_c, nilT_n, tupT_d, sqK_nt, sqN_s, sqM_iv, sqM_lk, unlkO_s, unlkK_lk, insM_e, insR_s, toVR_tm, cstM_e, op2M_e, addM_e, mulM_e, idxM_e, tstM_e, notT_e, andT_e, orT_e, andM_e, orM_e, notM_e, ifM_e, un1M_e, tr1M_e, ls1M_e, revM_e, nilA_e, consA_e, lstM_e, tplM_e, callM_e, subT_e, nameT_e, lrg1M_e, lrg2M_e, forS_e, sqI_e, rg1I_e, rg2I_e, lcM_e, augS_e, appM_e, popAtM_e, extM_e, stays_tm, stays_nil, stays_t, dat_tm, tree_tm, tree_vr, dat_vr, isB_b, asB_b, elemR_i, elem0, elem1, elem2, elem3, subO_lf, subO_nd, subO_tm, dat2_s, plusR_i, plusR_s, timesR_i, outM_i, outM_b, outM_s, fAdd_i, fSub_i, fLt_i, fLe_i, fGt_i, fGe_i, fEq_i, fNe_i, toVs_nil, mapT_s, fInt_i, fInt1_b, fInt1_i, lenT_s, lenT_l, elem_sc, elem_ls, elem_tu, okD_s, isLs_nd, apR_s, unlkO_n, mapI_ok, lenT_nd, seqS_e, List.getElem?_cons_zero, List.getElem?_cons_succ, List.set_cons_zero, List.set_cons_succ, List.append_nil, List.nil_append, List.cons_append, List.map_cons, List.map_nil, setA, killA, reduceIte, if_true, Option.map_some, Option.map_none, Bool.not_true, Bool.not_false, Bool.false_eq_true, if_false, ite_true, ite_false, id_eq, decide_true, decide_false, IV.toDL_d, lsD, Option.bind_some, killX, set0, set1, set2, envB, List.replicate, List.length_cons, List.length_nil, bodyF_e, List.isPrefixOf, List.drop, Bool.or_false, Bool.false_or, Bool.or_true, Bool.true_or, Bool.or_self, and_self, and_true, true_and, and_false, false_and, and_self, List.isPrefixOf_cons₂, List.drop_succ_cons, BEq.rfl, beq_self_eq_true, Bool.and_self, Bool.and_true, Bool.true_and, Nat.reduceAdd, Nat.reduceSub, Nat.reduceBEq, Nat.reduceEqDiff, beq_iff_eq, Int.reduceLT, Int.reducePow, Int.reduceNeg, List.isPrefixOf_nil_left, List.drop_zero, preS_e, posS_e, posR_nx, posR_bk, posR_rt, posR_ex, drE_nil, drE_t, drE_f, dr1_un, dr1_iv, dr1_lk, dr1_al, fzE_e, fzK_lf, fzK_nd, fzD_s, fzK_al, fzK_un, rdM_e, isLD_l, fzM_e, fzO_tm, fzO_vr, fzT_lf, zpI_e, lfK_d, zpR_s, yesM_e, preS_e, posS_e, posR_nx, posR_bk, posR_rt, posR_ex, drE_nil, drE_t, drE_f, dr1_un, dr1_iv, dr1_lk, dr1_al, fzE_e, fzK_lf, fzK_nd, fzD_s, fzK_al, fzK_un, rdM_e, isLD_l, fzM_e, fzO_tm, fzO_vr, fzT_lf, zpI_e, lfK_d, zpR_s, posI_e, posIR_ok, yesM_e, fEq2_e, fNe2_e, orE_some, isT_ii, isT_bi, chM_e, flatO_i, withD_s, decide_eq_true h1, decide_eq_true h2, toDL_iv, hin]
        · have hb : b__law_good_0 [.iv (.d (.list L)), .iv (.nd true (ivL met)), .iv (IV.d (.int i))] = .nx [.iv (.d (.list L)), .iv (.nd true (ivL (met ++ [i]))), .un] := by
            rw [decide_eq_false h3] at hin
            simp only [b__law_good_0, bind_ok, bind_ex, toS_ok, toS_ex, sbind_nx, sbind_rt, sbind_bk, sbind_ex, iteR_t, iteR_f, nxS_e, bkS_e, exS_e, retN_e, exprS_e, ifS_e, retS_e, asgS_e, aliS_e, aliR_tm, aliR_vr, aliK_nd, aliQ_s, varM_e, varK_s, ctn_e, ctnK_s, getK_s, rsv_e, rsvK_iv, rsvK_lk, rsvK_al, rootOf_e, trK_iv, trK_lk, datK_s, toD_lf, toD_ndt, toD_ndf, toDL_nil, toDL_cons, consO_s, getP_nil, getP_cons, kids_nd, setP_nil, setP_cons, setPK_s, setK_nd, okA_e, okK_iv, okK_un, okK_al, okK_lk, writeR_e, wrK_s, wrR_iv, wrP_nd, wrF_s, toVR_vr, toVK_s, toV_tm, toV_vr, tovK_s, toVs_cons, mvM_e, mvK_lf, mvK_nd, mvK_al, frM_e, frK_lf, frK_nd, frD_s, endF_e, endK_s, outsE_nil, outsE_t, outsE_f, kl_un, kl_iv, kl_lk, kl_al, kx_un, kx_iv, kx_lk, kx_al, nextIs_nil, nextIs_cons, aliK_lf, endB_nx, endB_rt, setR_i, callR_e, callK1_s, callK2_s, backK_ok, backR_t, takeG_nil, takeG_f, takeG_t, tk1_s, tk2_s, tk3_s, tk4_s, argsL_nil, argsL_f, argsL_t, argK_lf, argK_nd, lent_nil, lent_f, lent_t, lentO_tm, lentO_vr, lentT_lf, lentT_nd, putG_nil, putG_cons, sqR_vr, sqK_l, sqK_t, noSh_d, noShL_nil, noShL_cons, noSh_nd, flat_i, okW_nil, okW_cons, wp_nil, wp_cons, kids_vrO, kidsT_l, kidsT_n, kidsT_m, bindL_e, bindLK_s, lstR_s, dat_tmn, lim_0, lim_1, lim_2, lim_3, lim_4, lim_5, lim_6, lim_7, lim_8, lim_9, lim_10, lim_11, lim_12, lim_13, lim_14, tupR_s, tupQ_s, leafDs_nil, leafDs_cons, leafD_d, consT_c, nilT_n, tupT_d, sqK_nt, sqN_s, sqM_iv, sqM_lk, unlkO_s, unlkK_lk, insM_e, insR_s, toVR_tm, cstM_e, op2M_e, addM_e, mulM_e, idxM_e, tstM_e, notT_e, andT_e, orT_e, andM_e, orM_e, notM_e, ifM_e, un1M_e, tr1M_e, ls1M_e, revM_e, nilA_e, consA_e, lstM_e, tplM_e, callM_e, subT_e, nameT_e, lrg1M_e, lrg2M_e, forS_e, sqI_e, rg1I_e, rg2I_e, lcM_e, augS_e, appM_e, popAtM_e, extM_e, stays_tm, stays_nil, stays_t, dat_tm, tree_tm, tree_vr, dat_vr, isB_b, asB_b, elemR_i, elem0, elem1, elem2, elem3, subO_lf, subO_nd, subO_tm, dat2_s, plusR_i, plusR_s, timesR_i, outM_i, outM_b, outM_s, fAdd_i, fSub_i, fLt_i, fLe_i, fGt_i, fGe_i, fEq_i, fNe_i, toVs_nil, mapT_s, fInt_i, fInt1_b, fInt1_i, lenT_s, lenT_l, elem_sc, elem_ls, elem_tu, okD_s, isLs_nd, apR_s, unlkO_n, mapI_ok, lenT_nd, seqS_e, List.getElem?_cons_zero, List.getElem?_cons_succ, List.set_cons_zero, List.set_cons_succ, List.append_nil, List.nil_append, List.cons_append, List.map_cons, List.map_nil, setA, killA, reduceIte, if_true, Option.map_some, Option.map_none, Bool.not_true, Bool.not_false, Bool.false_eq_true, if_false, ite_true, ite_false, id_eq, decide_true, decide_false, IV.toDL_d, lsD, Option.bind_some, killX, set0, set1, set2, envB, List.replicate, List.length_cons, List.length_nil, bodyF_e, List.isPrefixOf, List.drop, Bool.or_false, Bool.false_or, Bool.or_true, Bool.true_or, Bool.or_self, and_self, and_true, true_and, and_false, false_and, and_self, List.isPrefixOf_cons₂, List.drop_succ_cons, BEq.rfl, beq_self_eq_true, Bool.and_self, Bool.and_true, Bool.true_and, Nat.reduceAdd, Nat.reduceSub, Nat.reduceBEq, Nat.reduceEqDiff, beq_iff_eq, Int.reduceLT, Int.reducePow, Int.reduceNeg, List.isPrefixOf_nil_left, List.drop_zero, preS_e, posS_e, posR_nx, posR_bk, posR_rt, posR_ex, drE_nil, drE_t, drE_f, dr1_un, dr1_iv, dr1_lk, dr1_al, fzE_e, fzK_lf, fzK_nd, fzD_s, fzK_al, fzK_un, rdM_e, isLD_l, fzM_e, fzO_tm, fzO_vr, fzT_lf, zpI_e, lfK_d, zpR_s, yesM_e, preS_e, posS_e, posR_nx, posR_bk, posR_rt, posR_ex, drE_nil, drE_t, drE_f, dr1_un, dr1_iv, dr1_lk, dr1_al, fzE_e, fzK_lf, fzK_nd, fzD_s, fzK_al, fzK_un, rdM_e, isLD_l, fzM_e, fzO_tm, fzO_vr, fzT_lf, zpI_e, lfK_d, zpR_s, posI_e, posIR_ok, yesM_e, fEq2_e, fNe2_e, orE_some, isT_ii, isT_bi, chM_e, flatO_i, withD_s, decide_eq_true h1, decide_eq_true h2, toDL_iv, hin, hap]
          have hg : gl L.length met (.int i :: r) = gl L.length (met ++ [i]) r := by simp only [gl]; rw [if_pos ⟨h1, h2, h3⟩]
          cases hc : gl L.length (met ++ [i]) r with
          | true => exact .inl ⟨hg.trans hc, i, rfl, hc, hb⟩
          | false => exact .inr ⟨hg.trans hc, .inr ⟨i, rfl, hc, hb⟩⟩
      · refine .inr ⟨by simp only [gl]; rw [if_neg (fun z => h2 z.2.1)], .inl ⟨.iv (.d (.list L)), [.iv (.nd true (ivL met)), .iv (IV.d (.int i))], ?_⟩⟩
        simp only [b__law_good_0, bind_ok, bind_ex, toS_ok, toS_ex, sbind_nx, sbind_rt, sbind_bk, sbind_ex, iteR_t, iteR_f, nxS_e, bkS_e, exS_e, retN_e, exprS_e, ifS_e, retS_e, asgS_e, aliS_e, aliR_tm, aliR_vr, aliK_nd, aliQ_s, varM_e, varK_s, ctn_e, ctnK_s, getK_s, rsv_e, rsvK_iv, rsvK_lk, rsvK_al, rootOf_e, trK_iv, trK_lk, datK_s, toD_lf, toD_ndt, toD_ndf, toDL_nil, toDL_cons, consO_s, getP_nil, getP_cons, kids_nd, setP_nil, setP_cons, setPK_s, setK_nd, okA_e, okK_iv, okK_un, okK_al, okK_lk, writeR_e, wrK_s, wrR_iv, wrP_nd, wrF_s, toVR_vr, toVK_s, toV_tm, toV_vr, tovK_s, toVs_cons, mvM_e, mvK_lf, mvK_nd, mvK_al, frM_e, frK_lf, frK_nd, frD_s, endF_e, endK_s, outsE_nil, outsE_t, outsE_f, kl_un, kl_iv, kl_lk, kl_al, kx_un, kx_iv, kx_lk, kx_al, nextIs_nil, nextIs_cons, aliK_lf, endB_nx, endB_rt, setR_i, callR_e, callK1_s, callK2_s, backK_ok, backR_t, takeG_nil, takeG_f, takeG_t, tk1_s, tk2_s, tk3_s, tk4_s, argsL_nil, argsL_f, argsL_t, argK_lf, argK_nd, lent_nil, lent_f, lent_t, lentO_tm, lentO_vr, lentT_lf, lentT_nd, putG_nil, putG_cons, sqR_vr, sqK_l, sqK_t, noSh_d, noShL_nil, noShL_cons, noSh_nd, flat_i, okW_nil, okW_cons, wp_nil, wp_cons, kids_vrO, kidsT_l, kidsT_n, kidsT_m, bindL_e, bindLK_s, lstR_s, dat_tmn, lim_0, lim_1, lim_2, lim_3, lim_4, lim_5, lim_6, lim_7, lim_8, lim_9, lim_10, lim_11, lim_12, lim_13, lim_14, tupR_s, tupQ_s, leafDs_nil, leafDs_cons, leafD_d, consT_c, nilT_n, tupT_d, sqK_nt, sqN_s, sqM_iv, sqM_lk, unlkO_s, unlkK_lk, insM_e, insR_s, toVR_tm, cstM_e, op2M_e, addM_e, mulM_e, idxM_e, tstM_e, notT_e, andT_e, orT_e, andM_e, orM_e, notM_e, ifM_e, un1M_e, tr1M_e, ls1M_e, revM_e, nilA_e, consA_e, lstM_e, tplM_e, callM_e, subT_e, nameT_e, lrg1M_e, lrg2M_e, forS_e, sqI_e, rg1I_e, rg2I_e, lcM_e, augS_e, appM_e, popAtM_e, extM_e, stays_tm, stays_nil, stays_t, dat_tm, tree_tm, tree_vr, dat_vr, isB_b, asB_b, elemR_i, elem0, elem1, elem2, elem3, subO_lf, subO_nd, subO_tm, dat2_s, plusR_i, plusR_s, timesR_i, outM_i, outM_b, outM_s, fAdd_i, fSub_i, fLt_i, fLe_i, fGt_i, fGe_i, fEq_i, fNe_i, toVs_nil, mapT_s, fInt_i, fInt1_b, fInt1_i, lenT_s, lenT_l, elem_sc, elem_ls, elem_tu, okD_s, isLs_nd, apR_s, unlkO_n, mapI_ok, lenT_nd, seqS_e, List.getElem?_cons_zero, List.getElem?_cons_succ, List.set_cons_zero, List.set_cons_succ, List.append_nil, List.nil_append, List.cons_append, List.map_cons, List.map_nil, setA, killA, reduceIte, if_true, Option.map_some, Option.map_none, Bool.not_true, Bool.not_false, Bool.false_eq_true, if_false, ite_true, ite_false, id_eq, decide_true, decide_false, IV.toDL_d, lsD, Option.bind_some, killX, set0, set1, set2, envB, List.replicate, List.length_cons, List.length_nil, bodyF_e, List.isPrefixOf, List.drop, Bool.or_false, Bool.false_or, Bool.or_true, Bool.true_or, Bool.or_self, and_self, and_true, true_and, and_false, false_and, and_self, List.isPrefixOf_cons₂, List.drop_succ_cons, BEq.rfl, beq_self_eq_true, Bool.and_self, Bool.and_true, Bool.true_and, Nat.reduceAdd, Nat.reduceSub, Nat.reduceBEq, Nat.reduceEqDiff, beq_iff_eq, Int.reduceLT, Int.reducePow, Int.reduceNeg, List.isPrefixOf_nil_left, List.drop_zero, preS_e, posS_e, posR_nx, posR_bk, posR_rt, posR_ex, drE_nil, drE_t, drE_f, dr1_un, dr1_iv, dr1_lk, dr1_al, fzE_e, fzK_lf, fzK_nd, fzD_s, fzK_al, fzK_un, rdM_e, isLD_l, fzM_e, fzO_tm, fzO_vr, fzT_lf, zpI_e, lfK_d, zpR_s, yesM_e, preS_e, posS_e, posR_nx, posR_bk, posR_rt, posR_ex, drE_nil, drE_t, drE_f, dr1_un, dr1_iv, dr1_lk, dr1_al, fzE_e, fzK_lf, fzK_nd, fzD_s, fzK_al, fzK_un, rdM_e, isLD_l, fzM_e, fzO_tm, fzO_vr, fzT_lf, zpI_e, lfK_d, zpR_s, posI_e, posIR_ok, yesM_e, fEq2_e, fNe2_e, orE_some, isT_ii, isT_bi, chM_e, flatO_i, withD_s, decide_eq_true h1, decide_eq_false h2]
    · refine .inr ⟨by simp only [gl]; rw [if_neg (fun z => h1 z.1)], .inl ⟨.iv (.d (.list L)), [.iv (.nd true (ivL met)), .iv (IV.d (.int i))], ?_⟩⟩
      simp only [b__law_good_0, bind_ok, bind_ex, toS_ok, toS_ex, sbind_nx, sbind_rt, sbind_bk, sbind_ex, iteR_t, iteR_f, nxS_e, bkS_e, exS_e, retN_e, exprS_e, ifS_e, retS_e, asgS_e, aliS_e, aliR_tm, aliR_vr, aliK_nd, aliQ_s, varM_e, varK_s, ctn_e, ctnK_s, getK_s, rsv_e, rsvK_iv, rsvK_lk, rsvK_al, rootOf_e, trK_iv, trK_lk, datK_s, toD_lf, toD_ndt, toD_ndf, toDL_nil, toDL_cons, consO_s, getP_nil, getP_cons, kids_nd, setP_nil, setP_cons, setPK_s, setK_nd, okA_e, okK_iv, okK_un, okK_al, okK_lk, writeR_e, wrK_s, wrR_iv, wrP_nd, wrF_s, toVR_vr, toVK_s, toV_tm, toV_vr, tovK_s, toVs_cons, mvM_e, mvK_lf, mvK_nd, mvK_al, frM_e, frK_lf, frK_nd, frD_s, endF_e, endK_s, outsE_nil, outsE_t, outsE_f, kl_un, kl_iv, kl_lk, kl_al, kx_un, kx_iv, kx_lk, kx_al, nextIs_nil, nextIs_cons, aliK_lf, endB_nx, endB_rt, setR_i, callR_e, callK1_s, callK2_s, backK_ok, backR_t, takeG_nil, takeG_f, takeG_t, tk1_s, tk2_s, tk3_s, tk4_s, argsL_nil, argsL_f, argsL_t, argK_lf, argK_nd, lent_nil, lent_f, lent_t, lentO_tm, lentO_vr, lentT_lf, lentT_nd, putG_nil, putG_cons, sqR_vr, sqK_l, sqK_t, noSh_d, noShL_nil, noShL_cons, noSh_nd, flat_i, okW_nil, okW_cons, wp_nil, wp_cons, kids_vrO, kidsT_l, kidsT_n, kidsT_m, bindL_e, bindLK_s, lstR_s, dat_tmn, lim_0, lim_1, lim_2, lim_3, lim_4, lim_5, lim_6, lim_7, lim_8, lim_9, lim_10, lim_11, lim_12, lim_13, lim_14, tupR_s, tupQ_s, leafDs_nil, leafDs_cons, leafD_d, consT_c, nilT_n, tupT_d, sqK_nt, sqN_s, sqM_iv, sqM_lk, unlkO_s, unlkK_lk, insM_e, insR_s, toVR_tm, cstM_e, op2M_e, addM_e, mulM_e, idxM_e, tstM_e, notT_e, andT_e, orT_e, andM_e, orM_e, notM_e, ifM_e, un1M_e, tr1M_e, ls1M_e, revM_e, nilA_e, consA_e, lstM_e, tplM_e, callM_e, subT_e, nameT_e, lrg1M_e, lrg2M_e, forS_e, sqI_e, rg1I_e, rg2I_e, lcM_e, augS_e, appM_e, popAtM_e, extM_e, stays_tm, stays_nil, stays_t, dat_tm, tree_tm, tree_vr, dat_vr, isB_b, asB_b, elemR_i, elem0, elem1, elem2, elem3, subO_lf, subO_nd, subO_tm, dat2_s, plusR_i, plusR_s, timesR_i, outM_i, outM_b, outM_s, fAdd_i, fSub_i, fLt_i, fLe_i, fGt_i, fGe_i, fEq_i, fNe_i, toVs_nil, mapT_s, fInt_i, fInt1_b, fInt1_i, lenT_s, lenT_l, elem_sc, elem_ls, elem_tu, okD_s, isLs_nd, apR_s, unlkO_n, mapI_ok, lenT_nd, seqS_e, List.getElem?_cons_zero, List.getElem?_cons_succ, List.set_cons_zero, List.set_cons_succ, List.append_nil, List.nil_append, List.cons_append, List.map_cons, List.map_nil, setA, killA, reduceIte, if_true, Option.map_some, Option.map_none, Bool.not_true, Bool.not_false, Bool.false_eq_true, if_false, ite_true, ite_false, id_eq, decide_true, decide_false, IV.toDL_d, lsD, Option.bind_some, killX, set0, set1, set2, envB, List.replicate, List.length_cons, List.length_nil, bodyF_e, List.isPrefixOf, List.drop, Bool.or_false, Bool.false_or, Bool.or_true, Bool.true_or, Bool.or_self, and_self, and_true, true_and, and_false, false_and, and_self, List.isPrefixOf_cons₂, List.drop_succ_cons, BEq.rfl, beq_self_eq_true, Bool.and_self, Bool.and_true, Bool.true_and, Nat.reduceAdd, Nat.reduceSub, Nat.reduceBEq, Nat.reduceEqDiff, beq_iff_eq, Int.reduceLT, Int.reducePow, Int.reduceNeg, List.isPrefixOf_nil_left, List.drop_zero, preS_e, posS_e, posR_nx, posR_bk, posR_rt, posR_ex, drE_nil, drE_t, drE_f, dr1_un, dr1_iv, dr1_lk, dr1_al, fzE_e, fzK_lf, fzK_nd, fzD_s, fzK_al, fzK_un, rdM_e, isLD_l, fzM_e, fzO_tm, fzO_vr, fzT_lf, zpI_e, lfK_d, zpR_s, yesM_e, preS_e, posS_e, posR_nx, posR_bk, posR_rt, posR_ex, drE_nil, drE_t, drE_f, dr1_un, dr1_iv, dr1_lk, dr1_al, fzE_e, fzK_lf, fzK_nd, fzD_s, fzK_al, fzK_un, rdM_e, isLD_l, fzM_e, fzO_tm, fzO_vr, fzT_lf, zpI_e, lfK_d, zpR_s, posI_e, posIR_ok, yesM_e, fEq2_e, fNe2_e, orE_some, isT_ii, isT_bi, chM_e, flatO_i, withD_s, decide_eq_false h1]
  | _ => exact .inr ⟨rfl, .inl ⟨_, _, rfl⟩⟩
theorem good_loop (L : List PyData) (hn2 : L.length ≤ 12) (ds : List PyData) : ∀ (met : List Int), met.length + ds.length ≤ 12 →
    (gl L.length met ds = true ∧ ∃ met', forG (unlkO none) (nameT 2) b__law_good_0 (ds.map IV.d) [.iv (.d (.list L)), .iv (.nd true (ivL met)), .un] = .nx [.iv (.d (.list L)), .iv (.nd true (ivL met')), .un]) ∨
    (gl L.length met ds = false ∧ ∃ w e', forG (unlkO none) (nameT 2) b__law_good_0 (ds.map IV.d) [.iv (.d (.list L)), .iv (.nd true (ivL met)), .un] = .rt (.d (.bool false)) (w :: e')) := by
  induction ds with
  | nil => exact fun met _ => .inl ⟨rfl, met, rfl⟩
  | cons d ds ih =>
    intro met hm
    simp only [List.length_cons] at hm
    have hcons : forG (unlkO none) (nameT 2) b__law_good_0 ((d :: ds).map IV.d) [.iv (.d (.list L)), .iv (.nd true (ivL met)), .un] = (match b__law_good_0 [.iv (.d (.list L)), .iv (.nd true (ivL met)), .iv (IV.d d)] with
        | .nx e2 => forG (unlkO none) (nameT 2) b__law_good_0 (ds.map IV.d) e2
        | .bk e2 => .nx (unlkO none e2)
        | r => r) := rfl
    rw [hcons]
    rcases good_body L hn2 d met (by omega) ds with ⟨hg, i, rfl, hg2, hb⟩ | ⟨hg, ⟨w, e', hb⟩ | ⟨i, rfl, hg2, hb⟩⟩
    · rw [hb, hg]
      rcases ih (met ++ [i]) (by simp; omega) with ⟨_, h⟩ | ⟨h, _⟩
      · exact .inl ⟨rfl, h⟩
      · rw [hg2] at h
        cases h
    · rw [hb, hg]
      exact .inr ⟨rfl, w, e', rfl⟩
    · rw [hb, hg]
      rcases ih (met ++ [i]) (by simp; omega) with ⟨h, _⟩ | ⟨_, h⟩
      · rw [hg2] at h
        cases h
      · exact .inr ⟨rfl, h⟩
theorem good_any (d : PyData) : f__law_good [.d d] = .ok (.d (.bool (ordD d))) [] := by
  cases d with
  | list ds =>
    by_cases h1 : 1 ≤ ds.length
    · by_cases h2 : ds.length ≤ 12
      · have c1 : decide (((ds.length : Nat) : Int) < 1) = false := decide_eq_false (by omega)
        have c2 : decide (((ds.length : Nat) : Int) > 12) = false := decide_eq_false (by omega)
        have hg : ordD (.list ds) = gl ds.length [] ds := by rw [ordD, decide_eq_true ⟨h1, h2⟩, Bool.true_and]
        rw [hg]
        rcases good_loop ds h2 ds [] (by simpa using h2) with ⟨hgl, met', hf⟩ | ⟨hgl, w, e', hf⟩
        · rw [hgl]
          rw [show ivL [] = [] from rfl] at hf
          simp only [f__law_good, m__law_good, bind_ok, bind_ex, toS_ok, toS_ex, sbind_nx, sbind_rt, sbind_bk, sbind_ex, iteR_t, iteR_f, nxS_e, bkS_e, exS_e, retN_e, exprS_e, ifS_e, retS_e, asgS_e, aliS_e, aliR_tm, aliR_vr, aliK_nd, aliQ_s, varM_e, varK_s, ctn_e, ctnK_s, getK_s, rsv_e, rsvK_iv, rsvK_lk, rsvK_al, rootOf_e, trK_iv, trK_lk, datK_s, toD_lf, toD_ndt, toD_ndf, toDL_nil, toDL_cons, consO_s, getP_nil, getP_cons, kids_nd, setP_nil, setP_cons, setPK_s, setK_nd, okA_e, okK_iv, okK_un, okK_al, okK_lk, writeR_e, wrK_s, wrR_iv, wrP_nd, wrF_s, toVR_vr, toVK_s, toV_tm, toV_vr, tovK_s, toVs_cons, mvM_e, mvK_lf, mvK_nd, mvK_al, frM_e, frK_lf, frK_nd, frD_s, endF_e, endK_s, outsE_nil, outsE_t, outsE_f, kl_un, kl_iv, kl_lk, kl_al, kx_un, kx_iv, kx_lk, kx_al, nextIs_nil, nextIs_cons, aliK_lf, endB_nx, endB_rt, setR_i, callR_e, callK1_s, callK2_s, backK_ok, backR_t, takeG_nil, takeG_f, takeG_t, tk1_s, tk2_s, tk3_s, tk4_s, argsL_nil, argsL_f, argsL_t, argK_lf, argK_nd, lent_nil, lent_f, lent_t, lentO_tm, lentO_vr, lentT_lf, lentT_nd, putG_nil, putG_cons, sqR_vr, sqK_l, sqK_t, noSh_d, noShL_nil, noShL_cons, noSh_nd, flat_i, okW_nil, okW_cons, wp_nil, wp_cons, kids_vrO, kidsT_l, kidsT_n, kidsT_m, bindL_e, bindLK_s, lstR_s, dat_tmn, lim_0, lim_1, lim_2, lim_3, lim_4, lim_5, lim_6, lim_7, lim_8, lim_9, lim_10, lim_11, lim_12, lim_13, lim_14, tupR_s, tupQ_s, leafDs_nil, leafDs_cons, leafD_d, consT_c, nilT_n, tupT_d, sqK_nt, sqN_s, sqM_iv, sqM_lk, unlkO_s, unlkK_lk, insM_e, insR_s, toVR_tm, cstM_e, op2M_e, addM_e, mulM_e, idxM_e, tstM_e, notT_e, andT_e, orT_e, andM_e, orM_e, notM_e, ifM_e, un1M_e, tr1M_e, ls1M_e, revM_e, nilA_e, consA_e, lstM_e, tplM_e, callM_e, subT_e, nameT_e, lrg1M_e, lrg2M_e, forS_e, sqI_e, rg1I_e, rg2I_e, lcM_e, augS_e, appM_e, popAtM_e, extM_e, stays_tm, stays_nil, stays_t, dat_tm, tree_tm, tree_vr, dat_vr, isB_b, asB_b, elemR_i, elem0, elem1, elem2, elem3, subO_lf, subO_nd, subO_tm, dat2_s, plusR_i, plusR_s, timesR_i, outM_i, outM_b, outM_s, fAdd_i, fSub_i, fLt_i, fLe_i, fGt_i, fGe_i, fEq_i, fNe_i, toVs_nil, mapT_s, fInt_i, fInt1_b, fInt1_i, lenT_s, lenT_l, elem_sc, elem_ls, elem_tu, okD_s, isLs_nd, apR_s, unlkO_n, mapI_ok, lenT_nd, seqS_e, List.getElem?_cons_zero, List.getElem?_cons_succ, List.set_cons_zero, List.set_cons_succ, List.append_nil, List.nil_append, List.cons_append, List.map_cons, List.map_nil, setA, killA, reduceIte, if_true, Option.map_some, Option.map_none, Bool.not_true, Bool.not_false, Bool.false_eq_true, if_false, ite_true, ite_false, id_eq, decide_true, decide_false, IV.toDL_d, lsD, Option.bind_some, killX, set0, set1, set2, envB, List.replicate, List.length_cons, List.length_nil, bodyF_e, List.isPrefixOf, List.drop, Bool.or_false, Bool.false_or, Bool.or_true, Bool.true_or, Bool.or_self, and_self, and_true, true_and, and_false, false_and, and_self, List.isPrefixOf_cons₂, List.drop_succ_cons, BEq.rfl, beq_self_eq_true, Bool.and_self, Bool.and_true, Bool.true_and, Nat.reduceAdd, Nat.reduceSub, Nat.reduceBEq, Nat.reduceEqDiff, beq_iff_eq, Int.reduceLT, Int.reducePow, Int.reduceNeg, List.isPrefixOf_nil_left, List.drop_zero, preS_e, posS_e, posR_nx, posR_bk, posR_rt, posR_ex, drE_nil, drE_t, drE_f, dr1_un, dr1_iv, dr1_lk, dr1_al, fzE_e, fzK_lf, fzK_nd, fzD_s, fzK_al, fzK_un, rdM_e, isLD_l, fzM_e, fzO_tm, fzO_vr, fzT_lf, zpI_e, lfK_d, zpR_s, yesM_e, preS_e, posS_e, posR_nx, posR_bk, posR_rt, posR_ex, drE_nil, drE_t, drE_f, dr1_un, dr1_iv, dr1_lk, dr1_al, fzE_e, fzK_lf, fzK_nd, fzD_s, fzK_al, fzK_un, rdM_e, isLD_l, fzM_e, fzO_tm, fzO_vr, fzT_lf, zpI_e, lfK_d, zpR_s, posI_e, posIR_ok, yesM_e, fEq2_e, fNe2_e, orE_some, isT_ll, c1, c2, hf, flat]
        · rw [hgl]
          rw [show ivL [] = [] from rfl] at hf
          simp only [f__law_good, m__law_good, bind_ok, bind_ex, toS_ok, toS_ex, sbind_nx, sbind_rt, sbind_bk, sbind_ex, iteR_t, iteR_f, nxS_e, bkS_e, exS_e, retN_e, exprS_e, ifS_e, retS_e, asgS_e, aliS_e, aliR_tm, aliR_vr, aliK_nd, aliQ_s, varM_e, varK_s, ctn_e, ctnK_s, getK_s, rsv_e, rsvK_iv, rsvK_lk, rsvK_al, rootOf_e, trK_iv, trK_lk, datK_s, toD_lf, toD_ndt, toD_ndf, toDL_nil, toDL_cons, consO_s, getP_nil, getP_cons, kids_nd, setP_nil, setP_cons, setPK_s, setK_nd, okA_e, okK_iv, okK_un, okK_al, okK_lk, writeR_e, wrK_s, wrR_iv, wrP_nd, wrF_s, toVR_vr, toVK_s, toV_tm, toV_vr, tovK_s, toVs_cons, mvM_e, mvK_lf, mvK_nd, mvK_al, frM_e, frK_lf, frK_nd, frD_s, endF_e, endK_s, outsE_nil, outsE_t, outsE_f, kl_un, kl_iv, kl_lk, kl_al, kx_un, kx_iv, kx_lk, kx_al, nextIs_nil, nextIs_cons, aliK_lf, endB_nx, endB_rt, setR_i, callR_e, callK1_s, callK2_s, backK_ok, backR_t, takeG_nil, takeG_f, takeG_t, tk1_s, tk2_s, tk3_s, tk4_s, argsL_nil, argsL_f, argsL_t, argK_lf, argK_nd, lent_nil, lent_f, lent_t, lentO_tm, lentO_vr, lentT_lf, lentT_nd, putG_nil, putG_cons, sqR_vr, sqK_l, sqK_t, noSh_d, noShL_nil, noShL_cons, noSh_nd, flat_i, okW_nil, okW_cons, wp_nil, wp_cons, kids_vrO, kidsT_l, kidsT_n, kidsT_m, bindL_e, bindLK_s, lstR_s, dat_tmn, lim_0, lim_1, lim_2, lim_3, lim_4, lim_5, lim_6, lim_7, lim_8, lim_9, lim_10, lim_11, lim_12, lim_13, lim_14, tupR_s, tupQ_s, leafDs_nil, leafDs_cons, leafD_d, consT_c, nilT_n, tupT_d, sqK_nt, sqN_s, sqM_iv, sqM_lk, unlkO_s, unlkK_lk, insM_e, insR_s, toVR_tm, cstM_e, op2M_e, addM_e, mulM_e, idxM_e, tstM_e, notT_e, andT_e, orT_e, andM_e, orM_e, notM_e, ifM_e, un1M_e, tr1M_e, ls1M_e, revM_e, nilA_e, consA_e, lstM_e, tplM_e, callM_e, subT_e, nameT_e, lrg1M_e, lrg2M_e, forS_e, sqI_e, rg1I_e, rg2I_e, lcM_e, augS_e, appM_e, popAtM_e, extM_e, stays_tm, stays_nil, stays_t, dat_tm, tree_tm, tree_vr, dat_vr, isB_b, asB_b, elemR_i, elem0, elem1, elem2, elem3, subO_lf, subO_nd, subO_tm, dat2_s, plusR_i, plusR_s, timesR_i, outM_i, outM_b, outM_s, fAdd_i, fSub_i, fLt_i, fLe_i, fGt_i, fGe_i, fEq_i, fNe_i, toVs_nil, mapT_s, fInt_i, fInt1_b, fInt1_i, lenT_s, lenT_l, elem_sc, elem_ls, elem_tu, okD_s, isLs_nd, apR_s, unlkO_n, mapI_ok, lenT_nd, seqS_e, List.getElem?_cons_zero, List.getElem?_cons_succ, List.set_cons_zero, List.set_cons_succ, List.append_nil, List.nil_append, List.cons_append, List.map_cons, List.map_nil, setA, killA, reduceIte, if_true, Option.map_some, Option.map_none, Bool.not_true, Bool.not_false, Bool.false_eq_true, if_false, ite_true, ite_false, id_eq, decide_true, decide_false, IV.toDL_d, lsD, Option.bind_some, killX, set0, set1, set2, envB, List.replicate, List.length_cons, List.length_nil, bodyF_e, List.isPrefixOf, List.drop, Bool.or_false, Bool.false_or, Bool.or_true, Bool.true_or, Bool.or_self, and_self, and_true, true_and, and_false, false_and, and_self, List.isPrefixOf_cons₂, List.drop_succ_cons, BEq.rfl, beq_self_eq_true, Bool.and_self, Bool.and_true, Bool.true_and, Nat.reduceAdd, Nat.reduceSub, Nat.reduceBEq, Nat.reduceEqDiff, beq_iff_eq, Int.reduceLT, Int.reducePow, Int.reduceNeg, List.isPrefixOf_nil_left, List.drop_zero, preS_e, posS_e, posR_nx, posR_bk, posR_rt, posR_ex, drE_nil, drE_t, drE_f, dr1_un, dr1_iv, dr1_lk, dr1_al, fzE_e, fzK_lf, fzK_nd, fzD_s, fzK_al, fzK_un, rdM_e, isLD_l, fzM_e, fzO_tm, fzO_vr, fzT_lf, zpI_e, lfK_d, zpR_s, yesM_e, preS_e, posS_e, posR_nx, posR_bk, posR_rt, posR_ex, drE_nil, drE_t, drE_f, dr1_un, dr1_iv, dr1_lk, dr1_al, fzE_e, fzK_lf, fzK_nd, fzD_s, fzK_al, fzK_un, rdM_e, isLD_l, fzM_e, fzO_tm, fzO_vr, fzT_lf, zpI_e, lfK_d, zpR_s, posI_e, posIR_ok, yesM_e, fEq2_e, fNe2_e, orE_some, isT_ll, c1, c2, hf, flat]
      · have c1 : decide (((ds.length : Nat) : Int) < 1) = false := decide_eq_false (by omega)
        have c2 : decide (((ds.length : Nat) : Int) > 12) = true := decide_eq_true (by omega)
        have hg : ordD (.list ds) = false := by rw [ordD, decide_eq_false (by omega), Bool.false_and]
        rw [hg]
        simp only [f__law_good, m__law_good, bind_ok, bind_ex, toS_ok, toS_ex, sbind_nx, sbind_rt, sbind_bk, sbind_ex, iteR_t, iteR_f, nxS_e, bkS_e, exS_e, retN_e, exprS_e, ifS_e, retS_e, asgS_e, aliS_e, aliR_tm, aliR_vr, aliK_nd, aliQ_s, varM_e, varK_s, ctn_e, ctnK_s, getK_s, rsv_e, rsvK_iv, rsvK_lk, rsvK_al, rootOf_e, trK_iv, trK_lk, datK_s, toD_lf, toD_ndt, toD_ndf, toDL_nil, toDL_cons, consO_s, getP_nil, getP_cons, kids_nd, setP_nil, setP_cons, setPK_s, setK_nd, okA_e, okK_iv, okK_un, okK_al, okK_lk, writeR_e, wrK_s, wrR_iv, wrP_nd, wrF_s, toVR_vr, toVK_s, toV_tm, toV_vr, tovK_s, toVs_cons, mvM_e, mvK_lf, mvK_nd, mvK_al, frM_e, frK_lf, frK_nd, frD_s, endF_e, endK_s, outsE_nil, outsE_t, outsE_f, kl_un, kl_iv, kl_lk, kl_al, kx_un, kx_iv, kx_lk, kx_al, nextIs_nil, nextIs_cons, aliK_lf, endB_nx, endB_rt, setR_i, callR_e, callK1_s, callK2_s, backK_ok, backR_t, takeG_nil, takeG_f, takeG_t, tk1_s, tk2_s, tk3_s, tk4_s, argsL_nil, argsL_f, argsL_t, argK_lf, argK_nd, lent_nil, lent_f, lent_t, lentO_tm, lentO_vr, lentT_lf, lentT_nd, putG_nil, putG_cons, sqR_vr, sqK_l, sqK_t, noSh_d, noShL_nil, noShL_cons, noSh_nd, flat_i, okW_nil, okW_cons, wp_nil, wp_cons, kids_vrO, kidsT_l, kidsT_n, kidsT_m, bindL_e, bindLK_s, lstR_s, dat_tmn, lim_0, lim_1, lim_2, lim_3, lim_4, lim_5, lim_6, lim_7, lim_8, lim_9, lim_10, lim_11, lim_12, lim_13, lim_14, tupR_s, tupQ_s, leafDs_nil, leafDs_cons, leafD_d, consT_c, nilT_n, tupT_d, sqK_nt, sqN_s, sqM_iv, sqM_lk, unlkO_s, unlkK_lk, insM_e, insR_s, toVR_tm, cstM_e, op2M_e, addM_e, mulM_e, idxM_e, tstM_e, notT_e, andT_e, orT_e, andM_e, orM_e, notM_e, ifM_e, un1M_e, tr1M_e, ls1M_e, revM_e, nilA_e, consA_e, lstM_e, tplM_e, callM_e, subT_e, nameT_e, lrg1M_e, lrg2M_e, forS_e, sqI_e, rg1I_e, rg2I_e, lcM_e, augS_e, appM_e, popAtM_e, extM_e, stays_tm, stays_nil, stays_t, dat_tm, tree_tm, tree_vr, dat_vr, isB_b, asB_b, elemR_i, elem0, elem1, elem2, elem3, subO_lf, subO_nd, subO_tm, dat2_s, plusR_i, plusR_s, timesR_i, outM_i, outM_b, outM_s, fAdd_i, fSub_i, fLt_i, fLe_i, fGt_i, fGe_i, fEq_i, fNe_i, toVs_nil, mapT_s, fInt_i, fInt1_b, fInt1_i, lenT_s, lenT_l, elem_sc, elem_ls, elem_tu, okD_s, isLs_nd, apR_s, unlkO_n, mapI_ok, lenT_nd, seqS_e, List.getElem?_cons_zero, List.getElem?_cons_succ, List.set_cons_zero, List.set_cons_succ, List.append_nil, List.nil_append, List.cons_append, List.map_cons, List.map_nil, setA, killA, reduceIte, if_true, Option.map_some, Option.map_none, Bool.not_true, Bool.not_false, Bool.false_eq_true, if_false, ite_true, ite_false, id_eq, decide_true, decide_false, IV.toDL_d, lsD, Option.bind_some, killX, set0, set1, set2, envB, List.replicate, List.length_cons, List.length_nil, bodyF_e, List.isPrefixOf, List.drop, Bool.or_false, Bool.false_or, Bool.or_true, Bool.true_or, Bool.or_self, and_self, and_true, true_and, and_false, false_and, and_self, List.isPrefixOf_cons₂, List.drop_succ_cons, BEq.rfl, beq_self_eq_true, Bool.and_self, Bool.and_true, Bool.true_and, Nat.reduceAdd, Nat.reduceSub, Nat.reduceBEq, Nat.reduceEqDiff, beq_iff_eq, Int.reduceLT, Int.reducePow, Int.reduceNeg, List.isPrefixOf_nil_left, List.drop_zero, preS_e, posS_e, posR_nx, posR_bk, posR_rt, posR_ex, drE_nil, drE_t, drE_f, dr1_un, dr1_iv, dr1_lk, dr1_al, fzE_e, fzK_lf, fzK_nd, fzD_s, fzK_al, fzK_un, rdM_e, isLD_l, fzM_e, fzO_tm, fzO_vr, fzT_lf, zpI_e, lfK_d, zpR_s, yesM_e, preS_e, posS_e, posR_nx, posR_bk, posR_rt, posR_ex, drE_nil, drE_t, drE_f, dr1_un, dr1_iv, dr1_lk, dr1_al, fzE_e, fzK_lf, fzK_nd, fzD_s, fzK_al, fzK_un, rdM_e, isLD_l, fzM_e, fzO_tm, fzO_vr, fzT_lf, zpI_e, lfK_d, zpR_s, posI_e, posIR_ok, yesM_e, fEq2_e, fNe2_e, orE_some, isT_ll, c1, c2, flat]
    · have c1 : decide (((ds.length : Nat) : Int) < 1) = true := decide_eq_true (by omega)
      have hg : ordD (.list ds) = false := by rw [ordD, decide_eq_false (by omega), Bool.false_and]
      rw [hg]
      simp only [f__law_good, m__law_good, bind_ok, bind_ex, toS_ok, toS_ex, sbind_nx, sbind_rt, sbind_bk, sbind_ex, iteR_t, iteR_f, nxS_e, bkS_e, exS_e, retN_e, exprS_e, ifS_e, retS_e, asgS_e, aliS_e, aliR_tm, aliR_vr, aliK_nd, aliQ_s, varM_e, varK_s, ctn_e, ctnK_s, getK_s, rsv_e, rsvK_iv, rsvK_lk, rsvK_al, rootOf_e, trK_iv, trK_lk, datK_s, toD_lf, toD_ndt, toD_ndf, toDL_nil, toDL_cons, consO_s, getP_nil, getP_cons, kids_nd, setP_nil, setP_cons, setPK_s, setK_nd, okA_e, okK_iv, okK_un, okK_al, okK_lk, writeR_e, wrK_s, wrR_iv, wrP_nd, wrF_s, toVR_vr, toVK_s, toV_tm, toV_vr, tovK_s, toVs_cons, mvM_e, mvK_lf, mvK_nd, mvK_al, frM_e, frK_lf, frK_nd, frD_s, endF_e, endK_s, outsE_nil, outsE_t, outsE_f, kl_un, kl_iv, kl_lk, kl_al, kx_un, kx_iv, kx_lk, kx_al, nextIs_nil, nextIs_cons, aliK_lf, endB_nx, endB_rt, setR_i, callR_e, callK1_s, callK2_s, backK_ok, backR_t, takeG_nil, takeG_f, takeG_t, tk1_s, tk2_s, tk3_s, tk4_s, argsL_nil, argsL_f, argsL_t, argK_lf, argK_nd, lent_nil, lent_f, lent_t, lentO_tm, lentO_vr, lentT_lf, lentT_nd, putG_nil, putG_cons, sqR_vr, sqK_l, sqK_t, noSh_d, noShL_nil, noShL_cons, noSh_nd, flat_i, okW_nil, okW_cons, wp_nil, wp_cons, kids_vrO, kidsT_l, kidsT_n, kidsT_m, bindL_e, bindLK_s, lstR_s, dat_tmn, lim_0, lim_1, lim_2, lim_3, lim_4, lim_5, lim_6, lim_7, lim_8, lim_9, lim_10, lim_11, lim_12, lim_13, lim_14, tupR_s, tupQ_s, leafDs_nil, leafDs_cons, leafD_d, consT_c, nilT_n, tupT_d, sqK_nt, sqN_s, sqM_iv, sqM_lk, unlkO_s, unlkK_lk, insM_e, insR_s, toVR_tm, cstM_e, op2M_e, addM_e, mulM_e, idxM_e, tstM_e, notT_e, andT_e, orT_e, andM_e, orM_e, notM_e, ifM_e, un1M_e, tr1M_e, ls1M_e, revM_e, nilA_e, consA_e, lstM_e, tplM_e, callM_e, subT_e, nameT_e, lrg1M_e, lrg2M_e, forS_e, sqI_e, rg1I_e, rg2I_e, lcM_e, augS_e, appM_e, popAtM_e, extM_e, stays_tm, stays_nil, stays_t, dat_tm, tree_tm, tree_vr, dat_vr, isB_b, asB_b, elemR_i, elem0, elem1, elem2, elem3, subO_lf, subO_nd, subO_tm, dat2_s, plusR_i, plusR_s, timesR_i, outM_i, outM_b, outM_s, fAdd_i, fSub_i, fLt_i, fLe_i, fGt_i, fGe_i, fEq_i, fNe_i, toVs_nil, mapT_s, fInt_i, fInt1_b, fInt1_i, lenT_s, lenT_l, elem_sc, elem_ls, elem_tu, okD_s, isLs_nd, apR_s, unlkO_n, mapI_ok, lenT_nd, seqS_e, List.getElem?_cons_zero, List.getElem?_cons_succ, List.set_cons_zero, List.set_cons_succ, List.append_nil, List.nil_append, List.cons_append, List.map_cons, List.map_nil, setA, killA, reduceIte, if_true, Option.map_some, Option.map_none, Bool.not_true, Bool.not_false, Bool.false_eq_true, if_false, ite_true, ite_false, id_eq, decide_true, decide_false, IV.toDL_d, lsD, Option.bind_some, killX, set0, set1, set2, envB, List.replicate, List.length_cons, List.length_nil, bodyF_e, List.isPrefixOf, List.drop, Bool.or_false, Bool.false_or, Bool.or_true, Bool.true_or, Bool.or_self, and_self, and_true, true_and, and_false, false_and, and_self, List.isPrefixOf_cons₂, List.drop_succ_cons, BEq.rfl, beq_self_eq_true, Bool.and_self, Bool.and_true, Bool.true_and, Nat.reduceAdd, Nat.reduceSub, Nat.reduceBEq, Nat.reduceEqDiff, beq_iff_eq, Int.reduceLT, Int.reducePow, Int.reduceNeg, List.isPrefixOf_nil_left, List.drop_zero, preS_e, posS_e, posR_nx, posR_bk, posR_rt, posR_ex, drE_nil, drE_t, drE_f, dr1_un, dr1_iv, dr1_lk, dr1_al, fzE_e, fzK_lf, fzK_nd, fzD_s, fzK_al, fzK_un, rdM_e, isLD_l, fzM_e, fzO_tm, fzO_vr, fzT_lf, zpI_e, lfK_d, zpR_s, yesM_e, preS_e, posS_e, posR_nx, posR_bk, posR_rt, posR_ex, drE_nil, drE_t, drE_f, dr1_un, dr1_iv, dr1_lk, dr1_al, fzE_e, fzK_lf, fzK_nd, fzD_s, fzK_al, fzK_un, rdM_e, isLD_l, fzM_e, fzO_tm, fzO_vr, fzT_lf, zpI_e, lfK_d, zpR_s, posI_e, posIR_ok, yesM_e, fEq2_e, fNe2_e, orE_some, isT_ll, c1, flat]
  | _ => rfl
theorem right_any (d : PyData) (h : okR d = true) : f__law_right [.d d] = .ok (.d (.bool true)) [] := by
  have h1 := is_order_any d
  have h2 := good_any d
  have h3 : fRepr d = some (.str d.shown) := if_pos h
  have h4 : fEq (.bool (ordD d)) (.bool (ordD d)) = some (.bool true) := by cases ordD d <;> rfl
  have h5 : isT "bool" (.lf (.d (.bool (ordD d)))) = some (.bool true) := rfl
  have h6 := strE_same d.shown
  simp only [f__law_right, m__law_right, bind_ok, bind_ex, toS_ok, toS_ex, sbind_nx, sbind_rt, sbind_bk, sbind_ex, iteR_t, iteR_f, nxS_e, bkS_e, exS_e, retN_e, exprS_e, ifS_e, retS_e, asgS_e, aliS_e, aliR_tm, aliR_vr, aliK_nd, aliQ_s, varM_e, varK_s, ctn_e, ctnK_s, getK_s, rsv_e, rsvK_iv, rsvK_lk, rsvK_al, rootOf_e, trK_iv, trK_lk, datK_s, toD_lf, toD_ndt, toD_ndf, toDL_nil, toDL_cons, consO_s, getP_nil, getP_cons, kids_nd, setP_nil, setP_cons, setPK_s, setK_nd, okA_e, okK_iv, okK_un, okK_al, okK_lk, writeR_e, wrK_s, wrR_iv, wrP_nd, wrF_s, toVR_vr, toVK_s, toV_tm, toV_vr, tovK_s, toVs_cons, mvM_e, mvK_lf, mvK_nd, mvK_al, frM_e, frK_lf, frK_nd, frD_s, endF_e, endK_s, outsE_nil, outsE_t, outsE_f, kl_un, kl_iv, kl_lk, kl_al, kx_un, kx_iv, kx_lk, kx_al, nextIs_nil, nextIs_cons, aliK_lf, endB_nx, endB_rt, setR_i, callR_e, callK1_s, callK2_s, backK_ok, backR_t, takeG_nil, takeG_f, takeG_t, tk1_s, tk2_s, tk3_s, tk4_s, argsL_nil, argsL_f, argsL_t, argK_lf, argK_nd, lent_nil, lent_f, lent_t, lentO_tm, lentO_vr, lentT_lf, lentT_nd, putG_nil, putG_cons, sqR_vr, sqK_l, sqK_t, noSh_d, noShL_nil, noShL_cons, noSh_nd, flat_i, okW_nil, okW_cons, wp_nil, wp_cons, kids_vrO, kidsT_l, kidsT_n, kidsT_m, bindL_e, bindLK_s, lstR_s, dat_tmn, lim_0, lim_1, lim_2, lim_3, lim_4, lim_5, lim_6, lim_7, lim_8, lim_9, lim_10, lim_11, lim_12, lim_13, lim_14, tupR_s, tupQ_s, leafDs_nil, leafDs_cons, leafD_d, consT_c, nilT_n, tupT_d, sqK_nt, sqN_s, sqM_iv, sqM_lk, unlkO_s, unlkK_lk, insM_e, insR_s, toVR_tm, cstM_e, op2M_e, addM_e, mulM_e, idxM_e, tstM_e, notT_e, andT_e, orT_e, andM_e, orM_e, notM_e, ifM_e, un1M_e, tr1M_e, ls1M_e, revM_e, nilA_e, consA_e, lstM_e, tplM_e, callM_e, subT_e, nameT_e, lrg1M_e, lrg2M_e, forS_e, sqI_e, rg1I_e, rg2I_e, lcM_e, augS_e, appM_e, popAtM_e, extM_e, stays_tm, stays_nil, stays_t, dat_tm, tree_tm, tree_vr, dat_vr, isB_b, asB_b, elemR_i, elem0, elem1, elem2, elem3, subO_lf, subO_nd, subO_tm, dat2_s, plusR_i, plusR_s, timesR_i, outM_i, outM_b, outM_s, fAdd_i, fSub_i, fLt_i, fLe_i, fGt_i, fGe_i, fEq_i, fNe_i, toVs_nil, mapT_s, fInt_i, fInt1_b, fInt1_i, lenT_s, lenT_l, elem_sc, elem_ls, elem_tu, okD_s, isLs_nd, apR_s, unlkO_n, mapI_ok, lenT_nd, seqS_e, List.getElem?_cons_zero, List.getElem?_cons_succ, List.set_cons_zero, List.set_cons_succ, List.append_nil, List.nil_append, List.cons_append, List.map_cons, List.map_nil, setA, killA, reduceIte, if_true, Option.map_some, Option.map_none, Bool.not_true, Bool.not_false, Bool.false_eq_true, if_false, ite_true, ite_false, id_eq, decide_true, decide_false, IV.toDL_d, lsD, Option.bind_some, killX, set0, set1, set2, envB, List.replicate, List.length_cons, List.length_nil, bodyF_e, List.isPrefixOf, List.drop, Bool.or_false, Bool.false_or, Bool.or_true, Bool.true_or, Bool.or_self, and_self, and_true, true_and, and_false, false_and, and_self, List.isPrefixOf_cons₂, List.drop_succ_cons, BEq.rfl, beq_self_eq_true, Bool.and_self, Bool.and_true, Bool.true_and, Nat.reduceAdd, Nat.reduceSub, Nat.reduceBEq, Nat.reduceEqDiff, beq_iff_eq, Int.reduceLT, Int.reducePow, Int.reduceNeg, List.isPrefixOf_nil_left, List.drop_zero, preS_e, posS_e, posR_nx, posR_bk, posR_rt, posR_ex, drE_nil, drE_t, drE_f, dr1_un, dr1_iv, dr1_lk, dr1_al, fzE_e, fzK_lf, fzK_nd, fzD_s, fzK_al, fzK_un, rdM_e, isLD_l, fzM_e, fzO_tm, fzO_vr, fzT_lf, zpI_e, lfK_d, zpR_s, yesM_e, preS_e, posS_e, posR_nx, posR_bk, posR_rt, posR_ex, drE_nil, drE_t, drE_f, dr1_un, dr1_iv, dr1_lk, dr1_al, fzE_e, fzK_lf, fzK_nd, fzD_s, fzK_al, fzK_un, rdM_e, isLD_l, fzM_e, fzO_tm, fzO_vr, fzT_lf, zpI_e, lfK_d, zpR_s, posI_e, posIR_ok, yesM_e, fEq2_e, fNe2_e, orE_some, h1, h2, h3, h4, h5, h6, flat]
theorem elem_ds {L : List PyData} {k : Nat} {d : PyData} {o : O} {e : Env'} (h : L[k]? = some d) : elemI o (some (.lf (.d (.list L)))) (k : Int) e = .ok (.tm (IV.d d)) e := by
  obtain ⟨h1, h2⟩ := List.getElem?_eq_some_iff.mp h
  have hi : ixN L.length (k : Int) = some k := ixN_lit h1
  simp only [elemI, atI, hi, Option.bind_some, h]
  rfl
def odds (n v x : Nat) : List PyData := [.int (n : Nat), .int ((n + 1 + v : Nat) : Int), .int (-1), .int (0 - (n : Nat)), .bool true, .bool false, .none, .str "0", .list [.int 0], .tuple [.int 0], .dict [], .int 10000000000000000000000000, .int (x : Nat), .int 0, .int 1]
theorem toD_ls {ds : List PyData} : IV.toD (lsD ds) = some (.list ds) := by
  simp [lsD, IV.toD, toDL_ds]
theorem dat_ls {ds : List PyData} {e : Env'} : O.dat (.tm (lsD ds)) e = some (.list ds) := toD_ls
theorem kids_ls {ds : List PyData} {t : IV} : kidsLK (some (lsD ds)) (.tm t) = some ds := by
  show kidsT (.tm t) (some (.nd true (ds.map IV.d))) = some ds
  simp only [kidsT, toDL_ds]
theorem kidsT_tm {xs : List IV} {t : IV} : kidsT (.tm t) (some (.nd true xs)) = IV.toDL xs := Eq.trans rfl rfl
theorem mvK_ls {ds : List PyData} {i : Nat} {e : Env'} : mvK i (some (.iv (lsD ds))) e = .ok (.tm (lsD ds)) (e.set i .un) := Eq.trans rfl rfl
theorem fzK_ls {ds : List PyData} {i : Nat} {e : Env'} : fzK i (some (.iv (lsD ds))) e = e.set i (.iv (.lf (.d (.list ds)))) := by
  simp only [fzK, toD_ls]
theorem fMul_ln {ds : List PyData} {k : Int} : fMul (.list ds) (.int k) = none := Eq.trans rfl rfl
theorem timesR_n {x : Option (List PyData)} {y : Option PyData} {e : Env'} : timesR none x y e = repR x y e := Eq.trans rfl rfl
theorem rep5 {c : PyData} {e : Env'} : repR (some [c]) (some (.int 5)) e = .ok (.tm (lsD [c, c, c, c, c])) e := Eq.trans rfl rfl
theorem rep2 {c : PyData} {e : Env'} : repR (some [c]) (some (.int 2)) e = .ok (.tm (lsD [c, c])) e := Eq.trans rfl rfl
theorem toD_dk0 : IV.toD (.dk []) = some (.dict []) := by simp [IV.toD]
theorem toDs_cons {t : IV} {ts : List IV} : IV.toDL (t :: ts) = (t.toD.bind fun d => (IV.toDL ts).map (d :: ·)) := by
  simp only [IV.toDL]
  cases t.toD <;> cases IV.toDL ts <;> rfl
def tupKR (x : Option (List PyData)) (e : Env') : R O := match x with
  | some ds => .ok (.tm (.d (.tuple ds))) e
  | none => .bad
theorem tupKR_s {ds : List PyData} {e : Env'} : tupKR (some ds) e = .ok (.tm (.d (.tuple ds))) e := Eq.trans rfl rfl
theorem tupM_e {ma : M O} {e : Env'} : tupM ma e = R.bind (ma e) fun o e' => tupKR (kidsT o (O.tree o e')) e' := Eq.trans rfl rfl
theorem kidsT_d {ds : List PyData} {o : O} : kidsT o (some (.lf (.d (.list ds)))) = some ds := Eq.trans rfl rfl
theorem newdM_e {e : Env'} : newdM e = .ok (.tm (.dk [])) e := Eq.trans rfl rfl
theorem dctEnM_e {ma : M O} {e : Env'} : dctEnM ma e = R.bind (ma e) fun o e' => enDR (O.dat o e') e' := Eq.trans rfl rfl
theorem flat_nat (a : List Nat) : ((nat a).map PyData.int).all flat = true := List.all_eq_true.mpr fun d hd => by
  obtain ⟨i, _, rfl⟩ := List.mem_map.mp hd
  rfl
theorem enDR_nat {a : List Nat} {e : Env'} : enDR (some (intL (nat a))) e = .ok (.tm (.d (.dict (enKD 0 ((nat a).map .int))))) e := by
  simp only [enDR, intL, flat_nat, if_true]
theorem elem_dl {L : List PyData} {k : Nat} {o : O} {e : Env'} (h : k < L.length) : elemI o (some (.lf (.d (.list L)))) (k : Int) e = .ok (.tm (IV.d (L.getD k .none))) e := elem_ds (by rw [List.getElem?_eq_getElem h]; simp [List.getD, h])
theorem bindL_s {f : List PyData → Option (List PyData)} {ds : List PyData} {e : Env'} : Z.bindL f (some ds) e = Z.bindL f (some ds) e := rfl
def nE (t : IV) (a : List Nat) (S : List PyData) : Env' := [.iv t, .iv (.d (intL (nat a))), .un, .un, .un, .un, .un, .un, .iv (.d (.list S)), .un]
theorem plus_ones {n : Nat} {a : List Nat} (ha : Ord n a) (hn : n ≤ 12) (t : IV) (S : List PyData) : lcG [9] (nameT 9) yesM b__law_no_order_0 (ivL (nat a)) [] (nE t a S) = .ok (ivL (nat (a.map fun k => k + 1))) (nE t a S) := by
  have la := ha.len
  rw [ivL_nat a]
  refine lcN_nat (fun k => k + 1) _ (by omega) fun k hk => ?_
  simp only [b__law_no_order_0, nE, bind_ok, bind_ex, toS_ok, toS_ex, sbind_nx, sbind_rt, sbind_bk, sbind_ex, iteR_t, iteR_f, nxS_e, bkS_e, exS_e, retN_e, exprS_e, ifS_e, retS_e, asgS_e, aliS_e, aliR_tm, aliR_vr, aliK_nd, aliQ_s, varM_e, varK_s, ctn_e, ctnK_s, getK_s, rsv_e, rsvK_iv, rsvK_lk, rsvK_al, rootOf_e, trK_iv, trK_lk, datK_s, toD_lf, toD_ndt, toD_ndf, toDL_nil, toDL_cons, consO_s, getP_nil, getP_cons, kids_nd, setP_nil, setP_cons, setPK_s, setK_nd, okA_e, okK_iv, okK_un, okK_al, okK_lk, writeR_e, wrK_s, wrR_iv, wrP_nd, wrF_s, toVR_vr, toVK_s, toV_tm, toV_vr, tovK_s, toVs_cons, mvM_e, mvK_lf, mvK_nd, mvK_al, frM_e, frK_lf, frK_nd, frD_s, endF_e, endK_s, outsE_nil, outsE_t, outsE_f, kl_un, kl_iv, kl_lk, kl_al, kx_un, kx_iv, kx_lk, kx_al, nextIs_nil, nextIs_cons, aliK_lf, endB_nx, endB_rt, setR_i, callR_e, callK1_s, callK2_s, backK_ok, backR_t, takeG_nil, takeG_f, takeG_t, tk1_s, tk2_s, tk3_s, tk4_s, argsL_nil, argsL_f, argsL_t, argK_lf, argK_nd, lent_nil, lent_f, lent_t, lentO_tm, lentO_vr, lentT_lf, lentT_nd, putG_nil, putG_cons, sqR_vr, sqK_l, sqK_t, noSh_d, noShL_nil, noShL_cons, noSh_nd, flat_i, okW_nil, okW_cons, wp_nil, wp_cons, kids_vrO, kidsT_l, kidsT_n, kidsT_m, bindL_e, bindLK_s, lstR_s, dat_tmn, lim_0, lim_1, lim_2, lim_3, lim_4, lim_5, lim_6, lim_7, lim_8, lim_9, lim_10, lim_11, lim_12, lim_13, lim_14, tupR_s, tupQ_s, leafDs_nil, leafDs_cons, leafD_d, consT_c, nilT_n, tupT_d, sqK_nt, sqN_s, sqM_iv, sqM_lk, unlkO_s, unlkK_lk, insM_e, insR_s, toVR_tm, cstM_e, op2M_e, addM_e, mulM_e, idxM_e, tstM_e, notT_e, andT_e, orT_e, andM_e, orM_e, notM_e, ifM_e, un1M_e, tr1M_e, ls1M_e, revM_e, nilA_e, consA_e, lstM_e, tplM_e, callM_e, subT_e, nameT_e, lrg1M_e, lrg2M_e, forS_e, sqI_e, rg1I_e, rg2I_e, lcM_e, augS_e, appM_e, popAtM_e, extM_e, stays_tm, stays_nil, stays_t, dat_tm, tree_tm, tree_vr, dat_vr, isB_b, asB_b, elemR_i, elem0, elem1, elem2, elem3, subO_lf, subO_nd, subO_tm, dat2_s, plusR_i, plusR_s, timesR_i, outM_i, outM_b, outM_s, fAdd_i, fSub_i, fLt_i, fLe_i, fGt_i, fGe_i, fEq_i, fNe_i, toVs_nil, mapT_s, fInt_i, fInt1_b, fInt1_i, lenT_s, lenT_l, elem_sc, elem_ls, elem_tu, okD_s, isLs_nd, apR_s, unlkO_n, mapI_ok, lenT_nd, seqS_e, List.getElem?_cons_zero, List.getElem?_cons_succ, List.set_cons_zero, List.set_cons_succ, List.append_nil, List.nil_append, List.cons_append, List.map_cons, List.map_nil, setA, killA, reduceIte, if_true, Option.map_some, Option.map_none, Bool.not_true, Bool.not_false, Bool.false_eq_true, if_false, ite_true, ite_false, id_eq, decide_true, decide_false, IV.toDL_d, lsD, Option.bind_some, killX, set0, set1, set2, envB, List.replicate, List.length_cons, List.length_nil, bodyF_e, List.isPrefixOf, List.drop, Bool.or_false, Bool.false_or, Bool.or_true, Bool.true_or, Bool.or_self, and_self, and_true, true_and, and_false, false_and, and_self, List.isPrefixOf_cons₂, List.drop_succ_cons, BEq.rfl, beq_self_eq_true, Bool.and_self, Bool.and_true, Bool.true_and, Nat.reduceAdd, Nat.reduceSub, Nat.reduceBEq, Nat.reduceEqDiff, beq_iff_eq, Int.reduceLT, Int.reducePow, Int.reduceNeg, List.isPrefixOf_nil_left, List.drop_zero, preS_e, posS_e, posR_nx, posR_bk, posR_rt, posR_ex, drE_nil, drE_t, drE_f, dr1_un, dr1_iv, dr1_lk, dr1_al, fzE_e, fzK_lf, fzK_nd, fzD_s, fzK_al, fzK_un, rdM_e, isLD_l, fzM_e, fzO_tm, fzO_vr, fzT_lf, zpI_e, lfK_d, zpR_s, yesM_e, preS_e, posS_e, posR_nx, posR_bk, posR_rt, posR_ex, drE_nil, drE_t, drE_f, dr1_un, dr1_iv, dr1_lk, dr1_al, fzE_e, fzK_lf, fzK_nd, fzD_s, fzK_al, fzK_un, rdM_e, isLD_l, fzM_e, fzO_tm, fzO_vr, fzT_lf, zpI_e, lfK_d, zpR_s, posI_e, posIR_ok, yesM_e, fEq2_e, fNe2_e, orE_some, cast1]
theorem negs {n : Nat} {a : List Nat} (ha : Ord n a) (hn : n ≤ 12) (t : IV) (S : List PyData) : lcG [9] (nameT 9) yesM b__law_no_order_1 (ivL (nat a)) [] (nE t a S) = .ok (ivL (a.map fun (k : Nat) => 0 - (k : Int))) (nE t a S) := by
  have la := ha.len
  rw [ivL_nat a]
  have := lcN_all (i := 9) (me := b__law_no_order_1) (e0 := nE t a S) In (fun k => I (0 - (k : Int))) a (by omega) fun k hk => by
    simp only [b__law_no_order_1, nE, bind_ok, bind_ex, toS_ok, toS_ex, sbind_nx, sbind_rt, sbind_bk, sbind_ex, iteR_t, iteR_f, nxS_e, bkS_e, exS_e, retN_e, exprS_e, ifS_e, retS_e, asgS_e, aliS_e, aliR_tm, aliR_vr, aliK_nd, aliQ_s, varM_e, varK_s, ctn_e, ctnK_s, getK_s, rsv_e, rsvK_iv, rsvK_lk, rsvK_al, rootOf_e, trK_iv, trK_lk, datK_s, toD_lf, toD_ndt, toD_ndf, toDL_nil, toDL_cons, consO_s, getP_nil, getP_cons, kids_nd, setP_nil, setP_cons, setPK_s, setK_nd, okA_e, okK_iv, okK_un, okK_al, okK_lk, writeR_e, wrK_s, wrR_iv, wrP_nd, wrF_s, toVR_vr, toVK_s, toV_tm, toV_vr, tovK_s, toVs_cons, mvM_e, mvK_lf, mvK_nd, mvK_al, frM_e, frK_lf, frK_nd, frD_s, endF_e, endK_s, outsE_nil, outsE_t, outsE_f, kl_un, kl_iv, kl_lk, kl_al, kx_un, kx_iv, kx_lk, kx_al, nextIs_nil, nextIs_cons, aliK_lf, endB_nx, endB_rt, setR_i, callR_e, callK1_s, callK2_s, backK_ok, backR_t, takeG_nil, takeG_f, takeG_t, tk1_s, tk2_s, tk3_s, tk4_s, argsL_nil, argsL_f, argsL_t, argK_lf, argK_nd, lent_nil, lent_f, lent_t, lentO_tm, lentO_vr, lentT_lf, lentT_nd, putG_nil, putG_cons, sqR_vr, sqK_l, sqK_t, noSh_d, noShL_nil, noShL_cons, noSh_nd, flat_i, okW_nil, okW_cons, wp_nil, wp_cons, kids_vrO, kidsT_l, kidsT_n, kidsT_m, bindL_e, bindLK_s, lstR_s, dat_tmn, lim_0, lim_1, lim_2, lim_3, lim_4, lim_5, lim_6, lim_7, lim_8, lim_9, lim_10, lim_11, lim_12, lim_13, lim_14, tupR_s, tupQ_s, leafDs_nil, leafDs_cons, leafD_d, consT_c, nilT_n, tupT_d, sqK_nt, sqN_s, sqM_iv, sqM_lk, unlkO_s, unlkK_lk, insM_e, insR_s, toVR_tm, cstM_e, op2M_e, addM_e, mulM_e, idxM_e, tstM_e, notT_e, andT_e, orT_e, andM_e, orM_e, notM_e, ifM_e, un1M_e, tr1M_e, ls1M_e, revM_e, nilA_e, consA_e, lstM_e, tplM_e, callM_e, subT_e, nameT_e, lrg1M_e, lrg2M_e, forS_e, sqI_e, rg1I_e, rg2I_e, lcM_e, augS_e, appM_e, popAtM_e, extM_e, stays_tm, stays_nil, stays_t, dat_tm, tree_tm, tree_vr, dat_vr, isB_b, asB_b, elemR_i, elem0, elem1, elem2, elem3, subO_lf, subO_nd, subO_tm, dat2_s, plusR_i, plusR_s, timesR_i, outM_i, outM_b, outM_s, fAdd_i, fSub_i, fLt_i, fLe_i, fGt_i, fGe_i, fEq_i, fNe_i, toVs_nil, mapT_s, fInt_i, fInt1_b, fInt1_i, lenT_s, lenT_l, elem_sc, elem_ls, elem_tu, okD_s, isLs_nd, apR_s, unlkO_n, mapI_ok, lenT_nd, seqS_e, List.getElem?_cons_zero, List.getElem?_cons_succ, List.set_cons_zero, List.set_cons_succ, List.append_nil, List.nil_append, List.cons_append, List.map_cons, List.map_nil, setA, killA, reduceIte, if_true, Option.map_some, Option.map_none, Bool.not_true, Bool.not_false, Bool.false_eq_true, if_false, ite_true, ite_false, id_eq, decide_true, decide_false, IV.toDL_d, lsD, Option.bind_some, killX, set0, set1, set2, envB, List.replicate, List.length_cons, List.length_nil, bodyF_e, List.isPrefixOf, List.drop, Bool.or_false, Bool.false_or, Bool.or_true, Bool.true_or, Bool.or_self, and_self, and_true, true_and, and_false, false_and, and_self, List.isPrefixOf_cons₂, List.drop_succ_cons, BEq.rfl, beq_self_eq_true, Bool.and_self, Bool.and_true, Bool.true_and, Nat.reduceAdd, Nat.reduceSub, Nat.reduceBEq, Nat.reduceEqDiff, beq_iff_eq, Int.reduceLT, Int.reducePow, Int.reduceNeg, List.isPrefixOf_nil_left, List.drop_zero, preS_e, posS_e, posR_nx, posR_bk, posR_rt, posR_ex, drE_nil, drE_t, drE_f, dr1_un, dr1_iv, dr1_lk, dr1_al, fzE_e, fzK_lf, fzK_nd, fzD_s, fzK_al, fzK_un, rdM_e, isLD_l, fzM_e, fzO_tm, fzO_vr, fzT_lf, zpI_e, lfK_d, zpR_s, yesM_e, preS_e, posS_e, posR_nx, posR_bk, posR_rt, posR_ex, drE_nil, drE_t, drE_f, dr1_un, dr1_iv, dr1_lk, dr1_al, fzE_e, fzK_lf, fzK_nd, fzD_s, fzK_al, fzK_un, rdM_e, isLD_l, fzM_e, fzO_tm, fzO_vr, fzT_lf, zpI_e, lfK_d, zpR_s, posI_e, posIR_ok, yesM_e, fEq2_e, fNe2_e, orE_some]
  rw [this]
  simp only [ivL, List.map_map]
  rfl
def noL (n v1 : Nat) (a : List Nat) (o : PyData) : List PyData :=
  [.list ((nat (a.take v1)).map .int ++ [o] ++ (nat (a.drop (v1 + 1))).map .int), .list ((nat (a.take v1)).map .int ++ [o] ++ (nat (a.drop (v1 + 1))).map .int), .list ((nat (a.take v1)).map .int ++ [o] ++ (nat (a.drop (v1 + 1))).map .int),
    .list ((nat (a.take v1)).map .int ++ [o] ++ (nat (a.drop (v1 + 1))).map .int), .list ((nat (a.take v1)).map .int ++ [o] ++ (nat (a.drop (v1 + 1))).map .int), .list ((nat (a.take v1)).map .int ++ [o] ++ (nat (a.drop v1)).map .int), .list ((nat (a.take v1)).map .int ++ [o] ++ (nat (a.drop v1)).map .int),
    .list ((nat (a.take v1 ++ a.drop (v1 + 1))).map .int), .list ((nat (a ++ [n])).map .int), .list ((nat (a ++ a)).map .int), .tuple ((nat a).map .int), .list [intL (nat a)], .none, .str "", .int 0, .dict [], .list [], .list ((nat (a.map fun k => k + 1)).map .int),
    .list ((a.map fun (k : Nat) => 0 - (k : Int)).map .int), .dict (enKD 0 ((nat a).map .int)), .bool true, .list ((nat a.reverse).map .int)]
def okS (d : PyData) : Prop := rsz d ≤ 4000 ∧ d.depth ≤ 2
theorem rszL_le : ∀ {ds : List PyData}, (∀ d ∈ ds, okS d) → rszL ds ≤ 4001 * ds.length ∧ PyData.depthAll ds ≤ 2
  | [], _ => ⟨Nat.le_refl _, by simp [PyData.depthAll]⟩
  | d :: ds, h => by
    obtain ⟨h1, h2⟩ := rszL_le fun d hd => h d (List.mem_cons_of_mem _ hd)
    obtain ⟨h3, h4⟩ := h d List.mem_cons_self
    simp only [rszL, PyData.depthAll, List.length_cons]
    omega
theorem okS_int {i : Int} (h : i.natAbs < 10 ^ 30) : okS (.int i) := by
  refine ⟨?_, by simp [PyData.depth]⟩
  simp only [rsz]
  rw [if_pos h]
  omega
theorem okS_nat {k : Nat} (h : k < 1000) : okS (.int (k : Nat)) := okS_int (by
  have : (10 : Nat) ^ 30 = 1000000000000000000000000000000 := by decide
  omega)
theorem okR_list {ds : List PyData} (h : ∀ d ∈ ds, okS d) (hl : ds.length ≤ 90) : okR (.list ds) = true := by
  obtain ⟨h1, h2⟩ := rszL_le h
  simp only [okR, Bool.and_eq_true, decide_eq_true_eq, rsz, PyData.depth]
  exact ⟨decide_eq_true (by omega), decide_eq_true (by omega)⟩
theorem okS_ints {ns : List Int} (h : ∀ i ∈ ns, i.natAbs < 1000) : ∀ d ∈ ns.map PyData.int, okS d := fun d hd => by
  obtain ⟨i, hi, rfl⟩ := List.mem_map.mp hd
  have := h i hi
  exact okS_int (by
    have : (10 : Nat) ^ 30 = 1000000000000000000000000000000 := by decide
    omega)
theorem okS_nats {a : List Nat} (h : ∀ k ∈ a, k < 1000) : ∀ d ∈ (nat a).map PyData.int, okS d := okS_ints fun i hi => by
  obtain ⟨k, hk, rfl⟩ := List.mem_map.mp hi
  have := h k hk
  omega
theorem rszI_le : ∀ {ns : List Int}, (∀ i ∈ ns, i.natAbs < 1000) → rszL (ns.map .int) ≤ 111 * ns.length ∧ PyData.depthAll (ns.map .int) = 0
  | [], _ => ⟨Nat.le_refl _, by simp [PyData.depthAll]⟩
  | i :: ns, h => by
    obtain ⟨h1, h2⟩ := rszI_le (ns := ns) fun d hd => h d (List.mem_cons_of_mem _ hd)
    have h3 := h i List.mem_cons_self
    have h4 : i.natAbs < 10 ^ 30 := by
      have : (10 : Nat) ^ 30 = 1000000000000000000000000000000 := by decide
      omega
    simp only [List.map_cons, rszL, rsz, PyData.depthAll, PyData.depth, List.length_cons, if_pos h4]
    omega
theorem okR_dict : ∀ {ns : List Int} (m : Nat), (∀ i ∈ ns, i.natAbs < 1000) → m + ns.length < 1000 → rszD (enKD m (ns.map .int)) ≤ 222 * ns.length ∧ PyData.depthKv (enKD m (ns.map .int)) = 0
  | [], _, _, _ => ⟨Nat.le_refl _, by simp [enKD, PyData.depthKv]⟩
  | i :: ns, m, h, hm => by
    simp only [List.length_cons] at hm
    obtain ⟨h1, h2⟩ := okR_dict (ns := ns) (m + 1) (fun d hd => h d (List.mem_cons_of_mem _ hd)) (by omega)
    have h3 := h i List.mem_cons_self
    have e : (10 : Nat) ^ 30 = 1000000000000000000000000000000 := by decide
    have h4 : i.natAbs < 10 ^ 30 := by omega
    have h5 : ((m : Nat) : Int).natAbs < 10 ^ 30 := by omega
    simp only [List.map_cons, enKD, rszD, rsz, PyData.depthKv, PyData.depth, List.length_cons, if_pos h4, if_pos h5]
    omega
theorem odds_ok {n v x : Nat} (h1 : n ≤ 12) (h2 : v < 20) (h3 : x < 100) : ∀ o ∈ odds n v x, okS o := by
  have e : (10 : Nat) ^ 30 = 1000000000000000000000000000000 := by decide
  intro o ho
  simp only [odds, List.mem_cons, List.not_mem_nil, or_false] at ho
  rcases ho with rfl | rfl | rfl | rfl | rfl | rfl | rfl | rfl | rfl | rfl | rfl | rfl | rfl | rfl | rfl
  · exact okS_nat (by omega)
  · exact okS_nat (by omega)
  · exact okS_int (by decide)
  · exact okS_int (by omega)
  · exact ⟨by decide, by decide⟩
  · exact ⟨by decide, by decide⟩
  · exact ⟨by decide, by decide⟩
  · exact ⟨by decide +kernel, by decide +kernel⟩
  · exact ⟨by decide +kernel, by decide +kernel⟩
  · exact ⟨by decide +kernel, by decide +kernel⟩
  · exact ⟨by decide +kernel, by decide +kernel⟩
  · exact okS_int (by decide)
  · exact okS_nat (by omega)
  · exact okS_int (by decide)
  · exact okS_int (by decide)
theorem noL_ok {n v1 : Nat} {a : List Nat} {o : PyData} (ha : Ord n a) (hn : n ≤ 12) (ho : okS o) : ∀ d ∈ noL n v1 a o, okR d = true := by
  have la := ha.len
  have sm : ∀ k ∈ a, k < 12 := fun k hk => by
    have := ha.mem.mp hk
    omega
  have app : ∀ {b : List Nat}, (∀ k ∈ b, k ∈ a ∨ k < 1000) → ∀ d ∈ (nat b).map PyData.int, okS d := fun {b} h => okS_nats fun k hk => (h k hk).elim (fun z => by have := sm k z; omega) id
  have odd3 : ∀ (x y : List Nat), (∀ k ∈ x, k ∈ a) → (∀ k ∈ y, k ∈ a) → ∀ d ∈ (nat x).map PyData.int ++ [o] ++ (nat y).map PyData.int, okS d := fun x y hx hy d hd => by
    rcases List.mem_append.mp hd with z | z
    · rcases List.mem_append.mp z with z | z
      · exact app (fun k hk => .inl (hx k hk)) d z
      · rw [List.mem_singleton.mp z]
        exact ho
    · exact app (fun k hk => .inl (hy k hk)) d z
  have c1 : okR (.list ((nat (a.take v1)).map .int ++ [o] ++ (nat (a.drop (v1 + 1))).map .int)) = true := okR_list (odd3 _ _ (fun k hk => List.mem_of_mem_take hk) fun k hk => List.mem_of_mem_drop hk) (by simp [nat_len]; omega)
  have c2 : okR (.list ((nat (a.take v1)).map .int ++ [o] ++ (nat (a.drop v1)).map .int)) = true := okR_list (odd3 _ _ (fun k hk => List.mem_of_mem_take hk) fun k hk => List.mem_of_mem_drop hk) (by simp [nat_len]; omega)
  intro d hd
  simp only [noL, List.mem_cons, List.not_mem_nil, or_false] at hd
  have l1 : ∀ b : List Nat, (∀ k ∈ b, k ∈ a ∨ k < 1000) → b.length ≤ 90 → okR (.list ((nat b).map .int)) = true := fun b h hl => okR_list (app h) (by simpa [nat_len] using hl)
  have bnd : ∀ i ∈ nat a, i.natAbs < 1000 := fun i hi => by
    obtain ⟨k, hk, rfl⟩ := List.mem_map.mp hi
    have := sm k hk
    omega
  rcases hd with rfl | rfl | rfl | rfl | rfl | rfl | rfl | rfl | rfl | rfl | rfl | rfl | rfl | rfl | rfl | rfl | rfl | rfl | rfl | rfl | rfl | rfl
  · exact c1
  · exact c1
  · exact c1
  · exact c1
  · exact c1
  · exact c2
  · exact c2
  · exact l1 _ (fun k hk => .inl ((List.mem_append.mp hk).elim List.mem_of_mem_take List.mem_of_mem_drop)) (by simp; omega)
  · exact l1 _ (fun k hk => (List.mem_append.mp hk).imp id fun z => by rw [List.mem_singleton.mp z]; omega) (by simp; omega)
  · exact l1 _ (fun k hk => .inl ((List.mem_append.mp hk).elim id id)) (by simp; omega)
  · obtain ⟨h1, h2⟩ := rszI_le bnd
    rw [nat_len] at h1
    simp only [okR, Bool.and_eq_true, decide_eq_true_eq, rsz, PyData.depth]
    exact ⟨decide_eq_true (by omega), decide_eq_true (by omega)⟩
  · obtain ⟨h1, h2⟩ := rszI_le bnd
    rw [nat_len] at h1
    refine okR_list (fun d hd => ?_) (by simp)
    rw [List.mem_singleton.mp hd]
    refine ⟨?_, ?_⟩
    · simp only [rsz]
      omega
    · simp only [PyData.depth]
      omega
  · decide +kernel
  · decide +kernel
  · decide +kernel
  · decide +kernel
  · decide +kernel
  · exact l1 _ (fun k hk => by
      obtain ⟨j, hj, rfl⟩ := List.mem_map.mp hk
      have := sm j hj
      exact .inr (by omega)) (by simp; omega)
  · refine okR_list (okS_ints fun i hi => ?_) (by simp; omega)
    obtain ⟨j, hj, rfl⟩ := List.mem_map.mp hi
    have := sm j hj
    omega
  · obtain ⟨h1, h2⟩ := okR_dict 0 bnd (by rw [nat_len]; omega)
    rw [nat_len] at h1
    simp only [okR, Bool.and_eq_true, decide_eq_true_eq, rsz, PyData.depth]
    exact ⟨decide_eq_true (by omega), decide_eq_true (by omega)⟩
  · decide +kernel
  · exact l1 _ (fun k hk => .inl (List.mem_reverse.mp hk)) (by simp; omega)
theorem no_order {t : IV} (ht : Deck t) {n : Nat} (h1 : 1 ≤ n) (hn : n ≤ 12) {a : List Nat} (ha : Ord n a) : ∃ t' d, Deck t' ∧ f__law_no_order [t, .d (intL (nat a))] = .ok (.d d) [t'] ∧ okR d = true := by
  obtain ⟨t1, v1, d1, b1, e1⟩ := draw_nat ht n (by omega) (by omega)
  obtain ⟨t2, v2, d2, b2, e2⟩ := draw_nat d1 n (by omega) (by omega)
  obtain ⟨t3, v3, d3, b3, e3⟩ := draw_nat d2 20 (by omega) (by omega)
  obtain ⟨t4, v4, d4, b4, e4⟩ := draw_nat d3 15 (by omega) (by omega)
  obtain ⟨t5, v5, d5, b5, e5⟩ := draw_nat d4 22 (by omega) (by omega)
  have la := ha.len
  have x1 := fun o e => elemD (l := a) (k := v2) (by omega) (o := o) (e := e)
  have c20 : ((20 : Nat) : Int) = 20 := rfl
  have c15 : ((15 : Nat) : Int) = 15 := rfl
  have c22 : ((22 : Nat) : Int) = 22 := rfl
  rw [c20] at e3
  rw [c15] at e4
  rw [c22] at e5
  have hneg : fNeg (.int 1) = some (.int (-1)) := rfl
  have hpow : fPow (.int 10) (.int 25) = some (.int 10000000000000000000000000) := rfl
  obtain ⟨o, ho⟩ : ∃ o, (odds n v3 (a.getD v2 0))[v4]? = some o := ⟨_, List.getElem?_eq_getElem (by simpa [odds] using b4)⟩
  have x4 := fun o' e => elem_ds (o := o') (e := e) ho
  simp only [odds] at x4
  have p1 := plus_ones ha hn t4
  have p2 := negs ha hn t4
  simp only [nE] at p1 p2
  have hoS : okS o := odds_ok hn b3 (by
    have := ha.lt b2
    omega) o (List.mem_of_getElem? ho)
  have hv5 : v5 < (noL n v1 a o).length := by simpa [noL] using b5
  refine ⟨t5, (noL n v1 a o).getD v5 .none, d5, ?_, noL_ok ha hn hoS _ (by
    have : (noL n v1 a o).getD v5 .none = (noL n v1 a o)[v5] := by simp [List.getD, hv5]
    rw [this]
    exact List.getElem_mem hv5)⟩
  simp only [noL]
  simp (disch := (first | assumption | omega | (simp only [nat_len, ivL_len, List.length_map, List.length_take, List.length_drop, List.length_append, List.length_cons, List.length_nil, List.length_set, List.length_range, List.length_reverse, Nat.zero_add] <;> omega))) only [bind_ok, bind_ex, toS_ok, toS_ex, sbind_nx, sbind_rt, sbind_bk, sbind_ex, iteR_t, iteR_f, nxS_e, bkS_e, exS_e, retN_e, exprS_e, ifS_e, retS_e, asgS_e, aliS_e, aliR_tm, aliR_vr, aliK_nd, aliQ_s, varM_e, varK_s, ctn_e, ctnK_s, getK_s, rsv_e, rsvK_iv, rsvK_lk, rsvK_al, rootOf_e, trK_iv, trK_lk, datK_s, toD_lf, toD_ndt, toD_ndf, toDL_nil, toDL_cons, consO_s, getP_nil, getP_cons, kids_nd, setP_nil, setP_cons, setPK_s, setK_nd, okA_e, okK_iv, okK_un, okK_al, okK_lk, writeR_e, wrK_s, wrR_iv, wrP_nd, wrF_s, toVR_vr, toVK_s, toV_tm, toV_vr, tovK_s, toVs_cons, mvM_e, mvK_lf, mvK_nd, mvK_al, frM_e, frK_lf, frK_nd, frD_s, endF_e, endK_s, outsE_nil, outsE_t, outsE_f, kl_un, kl_iv, kl_lk, kl_al, kx_un, kx_iv, kx_lk, kx_al, nextIs_nil, nextIs_cons, aliK_lf, endB_nx, endB_rt, setR_i, callR_e, callK1_s, callK2_s, backK_ok, backR_t, takeG_nil, takeG_f, takeG_t, tk1_s, tk2_s, tk3_s, tk4_s, argsL_nil, argsL_f, argsL_t, argK_lf, argK_nd, lent_nil, lent_f, lent_t, lentO_tm, lentO_vr, lentT_lf, lentT_nd, putG_nil, putG_cons, sqR_vr, sqK_l, sqK_t, noSh_d, noShL_nil, noShL_cons, noSh_nd, flat_i, okW_nil, okW_cons, wp_nil, wp_cons, kids_vrO, kidsT_l, kidsT_n, kidsT_m, bindL_e, bindLK_s, lstR_s, dat_tmn, lim_0, lim_1, lim_2, lim_3, lim_4, lim_5, lim_6, lim_7, lim_8, lim_9, lim_10, lim_11, lim_12, lim_13, lim_14, tupR_s, tupQ_s, leafDs_nil, leafDs_cons, leafD_d, consT_c, nilT_n, tupT_d, sqK_nt, sqN_s, sqM_iv, sqM_lk, unlkO_s, unlkK_lk, insM_e, insR_s, toVR_tm, cstM_e, op2M_e, addM_e, mulM_e, idxM_e, tstM_e, notT_e, andT_e, orT_e, andM_e, orM_e, notM_e, ifM_e, un1M_e, tr1M_e, ls1M_e, revM_e, nilA_e, consA_e, lstM_e, tplM_e, callM_e, subT_e, nameT_e, lrg1M_e, lrg2M_e, forS_e, sqI_e, rg1I_e, rg2I_e, lcM_e, augS_e, appM_e, popAtM_e, extM_e, stays_tm, stays_nil, stays_t, dat_tm, tree_tm, tree_vr, dat_vr, isB_b, asB_b, elemR_i, elem0, elem1, elem2, elem3, subO_lf, subO_nd, subO_tm, dat2_s, plusR_i, plusR_s, timesR_i, outM_i, outM_b, outM_s, fAdd_i, fSub_i, fLt_i, fLe_i, fGt_i, fGe_i, fEq_i, fNe_i, toVs_nil, mapT_s, fInt_i, fInt1_b, fInt1_i, lenT_s, lenT_l, elem_sc, elem_tu, okD_s, isLs_nd, apR_s, unlkO_n, mapI_ok, lenT_nd, seqS_e, List.getElem?_cons_zero, List.getElem?_cons_succ, List.set_cons_zero, List.set_cons_succ, List.append_nil, List.nil_append, List.cons_append, List.map_cons, List.map_nil, setA, killA, reduceIte, if_true, Option.map_some, Option.map_none, Bool.not_true, Bool.not_false, Bool.false_eq_true, if_false, ite_true, ite_false, id_eq, decide_true, decide_false, IV.toDL_d, Option.bind_some, killX, set0, set1, set2, envB, List.replicate, List.length_cons, List.length_nil, bodyF_e, List.isPrefixOf, List.drop, Bool.or_false, Bool.false_or, Bool.or_true, Bool.true_or, Bool.or_self, and_self, and_true, true_and, and_false, false_and, and_self, List.isPrefixOf_cons₂, List.drop_succ_cons, BEq.rfl, beq_self_eq_true, Bool.and_self, Bool.and_true, Bool.true_and, Nat.reduceAdd, Nat.reduceSub, Nat.reduceBEq, Nat.reduceEqDiff, beq_iff_eq, Int.reduceLT, Int.reducePow, Int.reduceNeg, List.isPrefixOf_nil_left, List.drop_zero, preS_e, posS_e, posR_nx, posR_bk, posR_rt, posR_ex, drE_nil, drE_t, drE_f, dr1_un, dr1_iv, dr1_lk, dr1_al, fzE_e, fzK_lf, fzK_nd, fzD_s, fzK_al, fzK_un, rdM_e, isLD_l, fzM_e, fzO_tm, fzO_vr, fzT_lf, zpI_e, lfK_d, zpR_s, yesM_e, preS_e, posS_e, posR_nx, posR_bk, posR_rt, posR_ex, drE_nil, drE_t, drE_f, dr1_un, dr1_iv, dr1_lk, dr1_al, fzE_e, fzK_lf, fzK_nd, fzD_s, fzK_al, fzK_un, rdM_e, isLD_l, fzM_e, fzO_tm, fzO_vr, fzT_lf, zpI_e, lfK_d, zpR_s, posI_e, posIR_ok, yesM_e, fEq2_e, fNe2_e, orE_some, partM_n, partM_s, intO_i, partB_n, partB_s, cutM_e, cutR_nd, cutR_l, cutN_t, cutN_d, kidsL_e, kidsLK_nd, kidsLK_d, fAdd_ll, plusR_n, catN, catN1, catN2, lsD_nat, cast1, cast2, castA, lt_nat, le_nat, eq_nat, fEq_nat, fNe_nat, toDL_iv, leafDs_iv, ivL_map, ivL_len, nat_len, List.length_map, Int.sub_zero, Int.zero_add, isT_ll, isT_ln, isT_ii, isT_bi, free_ivL, fEq_nil, fNe_nil, decide_true, decide_false, sqR_tmn, sqR_tml, sqTK_s, ls1M_e, dispA_nil, dispA_cons, dispK_s, dispM_e, fEq_bb, fNe_bb, ite_nat, isT_ss, augR_s, augK_s, fzT_nd, fzTK_s, castZ, revN, newdM_e, dsetT_e, dsetR_e, dsetK_dk, dsetP_s, keyD_i, keyD_s, toD_dk, mvK_dk, tovr_dk, toDL_dLs, toDL_nLs, leafDs_dLs, noSh_nLs, map_pls, fEq_pls, fNe_pls, frK_dk, sqR_tmt, elemN, elemD, setN, appN, index_nat, catR_ok, lim_ok, castS1, castSub, rgI_n, rgR_n, elemN0, elemD0, rgI_n2, elem_pls, elem_dLs, fDG_pl, f__law_no_order, m__law_no_order, la, e1, e2, e3, e4, e5, x1, x4, p1, p2, elem_dl, hneg, hpow, nat_len, toD_ls, dat_ls, kids_ls, kidsT_tm, mvK_ls, fzK_ls, fMul_ln, timesR_n, rep5, rep2, toD_dk0, tupKR_s, tupM_e, kidsT_d, newdM_e, dctEnM_e, enDR_nat, catR_ok, plusR_n, fAdd_ll, -castSub, -Int.zero_add]
theorem pass {t : IV} (ht : Deck t) {n : Nat} (h1 : 1 ≤ n) (hn : n ≤ 12) {a : List Nat} (ha : Ord n a) (u : IV) : ∃ t', Deck t' ∧ b_law_0 [.un, .iv t, .un, .iv (.d (intL (nat a))), .iv u, .un] = .nx [.un, .iv t', .un, .iv (.d (intL (nat a))), .un, .un] := by
  obtain ⟨t1, d, d1, e1, ok⟩ := no_order ht h1 hn ha
  have e2 := right_any d ok
  exact ⟨t1, d1, by simp only [b_law_0, bind_ok, bind_ex, toS_ok, toS_ex, sbind_nx, sbind_rt, sbind_bk, sbind_ex, iteR_t, iteR_f, nxS_e, bkS_e, exS_e, retN_e, exprS_e, ifS_e, retS_e, asgS_e, aliS_e, aliR_tm, aliR_vr, aliK_nd, aliQ_s, varM_e, varK_s, ctn_e, ctnK_s, getK_s, rsv_e, rsvK_iv, rsvK_lk, rsvK_al, rootOf_e, trK_iv, trK_lk, datK_s, toD_lf, toD_ndt, toD_ndf, toDL_nil, toDL_cons, consO_s, getP_nil, getP_cons, kids_nd, setP_nil, setP_cons, setPK_s, setK_nd, okA_e, okK_iv, okK_un, okK_al, okK_lk, writeR_e, wrK_s, wrR_iv, wrP_nd, wrF_s, toVR_vr, toVK_s, toV_tm, toV_vr, tovK_s, toVs_cons, mvM_e, mvK_lf, mvK_nd, mvK_al, frM_e, frK_lf, frK_nd, frD_s, endF_e, endK_s, outsE_nil, outsE_t, outsE_f, kl_un, kl_iv, kl_lk, kl_al, kx_un, kx_iv, kx_lk, kx_al, nextIs_nil, nextIs_cons, aliK_lf, endB_nx, endB_rt, setR_i, callR_e, callK1_s, callK2_s, backK_ok, backR_t, takeG_nil, takeG_f, takeG_t, tk1_s, tk2_s, tk3_s, tk4_s, argsL_nil, argsL_f, argsL_t, argK_lf, argK_nd, lent_nil, lent_f, lent_t, lentO_tm, lentO_vr, lentT_lf, lentT_nd, putG_nil, putG_cons, sqR_vr, sqK_l, sqK_t, noSh_d, noShL_nil, noShL_cons, noSh_nd, flat_i, okW_nil, okW_cons, wp_nil, wp_cons, kids_vrO, kidsT_l, kidsT_n, kidsT_m, bindL_e, bindLK_s, lstR_s, dat_tmn, lim_0, lim_1, lim_2, lim_3, lim_4, lim_5, lim_6, lim_7, lim_8, lim_9, lim_10, lim_11, lim_12, lim_13, lim_14, tupR_s, tupQ_s, leafDs_nil, leafDs_cons, leafD_d, consT_c, nilT_n, tupT_d, sqK_nt, sqN_s, sqM_iv, sqM_lk, unlkO_s, unlkK_lk, insM_e, insR_s, toVR_tm, cstM_e, op2M_e, addM_e, mulM_e, idxM_e, tstM_e, notT_e, andT_e, orT_e, andM_e, orM_e, notM_e, ifM_e, un1M_e, tr1M_e, ls1M_e, revM_e, nilA_e, consA_e, lstM_e, tplM_e, callM_e, subT_e, nameT_e, lrg1M_e, lrg2M_e, forS_e, sqI_e, rg1I_e, rg2I_e, lcM_e, augS_e, appM_e, popAtM_e, extM_e, stays_tm, stays_nil, stays_t, dat_tm, tree_tm, tree_vr, dat_vr, isB_b, asB_b, elemR_i, elem0, elem1, elem2, elem3, subO_lf, subO_nd, subO_tm, dat2_s, plusR_i, plusR_s, timesR_i, outM_i, outM_b, outM_s, fAdd_i, fSub_i, fLt_i, fLe_i, fGt_i, fGe_i, fEq_i, fNe_i, toVs_nil, mapT_s, fInt_i, fInt1_b, fInt1_i, lenT_s, lenT_l, elem_sc, elem_ls, elem_tu, okD_s, isLs_nd, apR_s, unlkO_n, mapI_ok, lenT_nd, seqS_e, List.getElem?_cons_zero, List.getElem?_cons_succ, List.set_cons_zero, List.set_cons_succ, List.append_nil, List.nil_append, List.cons_append, List.map_cons, List.map_nil, setA, killA, reduceIte, if_true, Option.map_some, Option.map_none, Bool.not_true, Bool.not_false, Bool.false_eq_true, if_false, ite_true, ite_false, id_eq, decide_true, decide_false, IV.toDL_d, lsD, Option.bind_some, killX, set0, set1, set2, envB, List.replicate, List.length_cons, List.length_nil, bodyF_e, List.isPrefixOf, List.drop, Bool.or_false, Bool.false_or, Bool.or_true, Bool.true_or, Bool.or_self, and_self, and_true, true_and, and_false, false_and, and_self, List.isPrefixOf_cons₂, List.drop_succ_cons, BEq.rfl, beq_self_eq_true, Bool.and_self, Bool.and_true, Bool.true_and, Nat.reduceAdd, Nat.reduceSub, Nat.reduceBEq, Nat.reduceEqDiff, beq_iff_eq, Int.reduceLT, Int.reducePow, Int.reduceNeg, List.isPrefixOf_nil_left, List.drop_zero, preS_e, posS_e, posR_nx, posR_bk, posR_rt, posR_ex, drE_nil, drE_t, drE_f, dr1_un, dr1_iv, dr1_lk, dr1_al, fzE_e, fzK_lf, fzK_nd, fzD_s, fzK_al, fzK_un, rdM_e, isLD_l, fzM_e, fzO_tm, fzO_vr, fzT_lf, zpI_e, lfK_d, zpR_s, yesM_e, preS_e, posS_e, posR_nx, posR_bk, posR_rt, posR_ex, drE_nil, drE_t, drE_f, dr1_un, dr1_iv, dr1_lk, dr1_al, fzE_e, fzK_lf, fzK_nd, fzD_s, fzK_al, fzK_un, rdM_e, isLD_l, fzM_e, fzO_tm, fzO_vr, fzT_lf, zpI_e, lfK_d, zpR_s, posI_e, posIR_ok, yesM_e, fEq2_e, fNe2_e, orE_some, e1, e2, flat]⟩
theorem round {t : IV} (ht : Deck t) (u : IV) : ∃ t', Deck t' ∧ b_law_1 [.un, .iv t, .iv u, .un, .un, .un] = .nx [.un, .iv t', .un, .un, .un, .un] := by
  obtain ⟨t1, v, d1, a1, b1, e1⟩ := things_is ht
  obtain ⟨n, rfl⟩ : ∃ n : Nat, v = n := ⟨v.toNat, by omega⟩
  obtain ⟨t2, xs, d2, hp, e2⟩ := order_draw n (by omega) (by omega) t1 d1
  obtain ⟨a, ha, rfl⟩ := ord_of hp
  have hn : n ≤ 12 := by omega
  have h1 : 1 ≤ n := by omega
  have la := ha.len
  have e3 : f_is_order [.d (intL (nat a))] = .ok (.d (.bool true)) [] := by
    rw [intL, is_order_any]
    have : ordD (.list ((nat a).map .int)) = true := by
      simp only [ordD, List.length_map, nat_len, la]
      rw [decide_eq_true ⟨h1, hn⟩, Bool.true_and]
      have := gl_eq (nat a)
      rw [nat_len, la] at this
      rw [this, sort_perm hp, decide_eq_true rfl]
    rw [this]
  have hr2 : ∀ e, rgI (some (.int 0)) (some (.int 8)) e = .ok (rgD 0 8, none) e := fun e => rgI_ok rfl
  obtain ⟨e', hf, t3, d3, rfl⟩ := forN (i := 4) (fin := unlkO none) (body := b_law_0) (fun _ e => ∃ t, Deck t ∧ e = [.un, .iv t, .un, .iv (.d (intL (nat a))), .un, .un]) ((rgD 0 8).map IV.d) (e := [.un, .iv t2, .un, .iv (.d (intL (nat a))), .un, .un]) ⟨t2, d2, rfl⟩ (by
    rintro j u e hj ⟨t, dk, rfl⟩
    obtain ⟨t', dk', hb⟩ := pass dk h1 hn ha u
    exact ⟨rfl, _, hb, t', dk', rfl⟩)
  refine ⟨t3, d3, ?_⟩
  have hx : fIsNot (.bool true) (.bool true) = some (.bool false) := rfl
  simp only [b_law_1, bind_ok, bind_ex, toS_ok, toS_ex, sbind_nx, sbind_rt, sbind_bk, sbind_ex, iteR_t, iteR_f, nxS_e, bkS_e, exS_e, retN_e, exprS_e, ifS_e, retS_e, asgS_e, aliS_e, aliR_tm, aliR_vr, aliK_nd, aliQ_s, varM_e, varK_s, ctn_e, ctnK_s, getK_s, rsv_e, rsvK_iv, rsvK_lk, rsvK_al, rootOf_e, trK_iv, trK_lk, datK_s, toD_lf, toD_ndt, toD_ndf, toDL_nil, toDL_cons, consO_s, getP_nil, getP_cons, kids_nd, setP_nil, setP_cons, setPK_s, setK_nd, okA_e, okK_iv, okK_un, okK_al, okK_lk, writeR_e, wrK_s, wrR_iv, wrP_nd, wrF_s, toVR_vr, toVK_s, toV_tm, toV_vr, tovK_s, toVs_cons, mvM_e, mvK_lf, mvK_nd, mvK_al, frM_e, frK_lf, frK_nd, frD_s, endF_e, endK_s, outsE_nil, outsE_t, outsE_f, kl_un, kl_iv, kl_lk, kl_al, kx_un, kx_iv, kx_lk, kx_al, nextIs_nil, nextIs_cons, aliK_lf, endB_nx, endB_rt, setR_i, callR_e, callK1_s, callK2_s, backK_ok, backR_t, takeG_nil, takeG_f, takeG_t, tk1_s, tk2_s, tk3_s, tk4_s, argsL_nil, argsL_f, argsL_t, argK_lf, argK_nd, lent_nil, lent_f, lent_t, lentO_tm, lentO_vr, lentT_lf, lentT_nd, putG_nil, putG_cons, sqR_vr, sqK_l, sqK_t, noSh_d, noShL_nil, noShL_cons, noSh_nd, flat_i, okW_nil, okW_cons, wp_nil, wp_cons, kids_vrO, kidsT_l, kidsT_n, kidsT_m, bindL_e, bindLK_s, lstR_s, dat_tmn, lim_0, lim_1, lim_2, lim_3, lim_4, lim_5, lim_6, lim_7, lim_8, lim_9, lim_10, lim_11, lim_12, lim_13, lim_14, tupR_s, tupQ_s, leafDs_nil, leafDs_cons, leafD_d, consT_c, nilT_n, tupT_d, sqK_nt, sqN_s, sqM_iv, sqM_lk, unlkO_s, unlkK_lk, insM_e, insR_s, toVR_tm, cstM_e, op2M_e, addM_e, mulM_e, idxM_e, tstM_e, notT_e, andT_e, orT_e, andM_e, orM_e, notM_e, ifM_e, un1M_e, tr1M_e, ls1M_e, revM_e, nilA_e, consA_e, lstM_e, tplM_e, callM_e, subT_e, nameT_e, lrg1M_e, lrg2M_e, forS_e, sqI_e, rg1I_e, rg2I_e, lcM_e, augS_e, appM_e, popAtM_e, extM_e, stays_tm, stays_nil, stays_t, dat_tm, tree_tm, tree_vr, dat_vr, isB_b, asB_b, elemR_i, elem0, elem1, elem2, elem3, subO_lf, subO_nd, subO_tm, dat2_s, plusR_i, plusR_s, timesR_i, outM_i, outM_b, outM_s, fAdd_i, fSub_i, fLt_i, fLe_i, fGt_i, fGe_i, fEq_i, fNe_i, toVs_nil, mapT_s, fInt_i, fInt1_b, fInt1_i, lenT_s, lenT_l, elem_sc, elem_ls, elem_tu, okD_s, isLs_nd, apR_s, unlkO_n, mapI_ok, lenT_nd, seqS_e, List.getElem?_cons_zero, List.getElem?_cons_succ, List.set_cons_zero, List.set_cons_succ, List.append_nil, List.nil_append, List.cons_append, List.map_cons, List.map_nil, setA, killA, reduceIte, if_true, Option.map_some, Option.map_none, Bool.not_true, Bool.not_false, Bool.false_eq_true, if_false, ite_true, ite_false, id_eq, decide_true, decide_false, IV.toDL_d, lsD, Option.bind_some, killX, set0, set1, set2, envB, List.replicate, List.length_cons, List.length_nil, bodyF_e, List.isPrefixOf, List.drop, Bool.or_false, Bool.false_or, Bool.or_true, Bool.true_or, Bool.or_self, and_self, and_true, true_and, and_false, false_and, and_self, List.isPrefixOf_cons₂, List.drop_succ_cons, BEq.rfl, beq_self_eq_true, Bool.and_self, Bool.and_true, Bool.true_and, Nat.reduceAdd, Nat.reduceSub, Nat.reduceBEq, Nat.reduceEqDiff, beq_iff_eq, Int.reduceLT, Int.reducePow, Int.reduceNeg, List.isPrefixOf_nil_left, List.drop_zero, preS_e, posS_e, posR_nx, posR_bk, posR_rt, posR_ex, drE_nil, drE_t, drE_f, dr1_un, dr1_iv, dr1_lk, dr1_al, fzE_e, fzK_lf, fzK_nd, fzD_s, fzK_al, fzK_un, rdM_e, isLD_l, fzM_e, fzO_tm, fzO_vr, fzT_lf, zpI_e, lfK_d, zpR_s, yesM_e, preS_e, posS_e, posR_nx, posR_bk, posR_rt, posR_ex, drE_nil, drE_t, drE_f, dr1_un, dr1_iv, dr1_lk, dr1_al, fzE_e, fzK_lf, fzK_nd, fzD_s, fzK_al, fzK_un, rdM_e, isLD_l, fzM_e, fzO_tm, fzO_vr, fzT_lf, zpI_e, lfK_d, zpR_s, posI_e, posIR_ok, yesM_e, fEq2_e, fNe2_e, orE_some, e1, e2, toDL_iv, ivL_map, e3, hr2, hf, hx, free_ivL, flat]
def lastL : List PyData := [.none, .int 0, .bool true, .str "", .str "0 1", .list [], .tuple [], .dict [], .list [.int 0], .list [.int 1], .list [.bool true], .list [.bool false], .list [.int 0, .int 0], .tuple [.int 0, .int 1], .list ((nat (List.range 13)).map .int)]
theorem lastL_ok : ∀ d ∈ lastL, okR d = true := by decide +kernel
theorem last_loop : forG (unlkO none) (nameT 5) b_law_2 (lastL.map IV.d) [.un, .un, .un, .un, .un, .un] = .nx [.un, .un, .un, .un, .un, .un] := by
  obtain ⟨e', hf, rfl⟩ := forN (i := 5) (fin := unlkO none) (body := b_law_2) (fun _ e => e = [.un, .un, .un, .un, .un, .un]) (lastL.map IV.d) (e := [.un, .un, .un, .un, .un, .un]) rfl (by
    rintro j u e hj rfl
    obtain ⟨d, hd, rfl⟩ := List.mem_map.mp (List.mem_of_getElem? hj)
    have e2 := right_any d (lastL_ok d hd)
    refine ⟨rfl, _, ?_, rfl⟩
    show b_law_2 [.un, .un, .un, .un, .un, .iv (IV.d d)] = _
    simp only [b_law_2, bind_ok, bind_ex, toS_ok, toS_ex, sbind_nx, sbind_rt, sbind_bk, sbind_ex, iteR_t, iteR_f, nxS_e, bkS_e, exS_e, retN_e, exprS_e, ifS_e, retS_e, asgS_e, aliS_e, aliR_tm, aliR_vr, aliK_nd, aliQ_s, varM_e, varK_s, ctn_e, ctnK_s, getK_s, rsv_e, rsvK_iv, rsvK_lk, rsvK_al, rootOf_e, trK_iv, trK_lk, datK_s, toD_lf, toD_ndt, toD_ndf, toDL_nil, toDL_cons, consO_s, getP_nil, getP_cons, kids_nd, setP_nil, setP_cons, setPK_s, setK_nd, okA_e, okK_iv, okK_un, okK_al, okK_lk, writeR_e, wrK_s, wrR_iv, wrP_nd, wrF_s, toVR_vr, toVK_s, toV_tm, toV_vr, tovK_s, toVs_cons, mvM_e, mvK_lf, mvK_nd, mvK_al, frM_e, frK_lf, frK_nd, frD_s, endF_e, endK_s, outsE_nil, outsE_t, outsE_f, kl_un, kl_iv, kl_lk, kl_al, kx_un, kx_iv, kx_lk, kx_al, nextIs_nil, nextIs_cons, aliK_lf, endB_nx, endB_rt, setR_i, callR_e, callK1_s, callK2_s, backK_ok, backR_t, takeG_nil, takeG_f, takeG_t, tk1_s, tk2_s, tk3_s, tk4_s, argsL_nil, argsL_f, argsL_t, argK_lf, argK_nd, lent_nil, lent_f, lent_t, lentO_tm, lentO_vr, lentT_lf, lentT_nd, putG_nil, putG_cons, sqR_vr, sqK_l, sqK_t, noSh_d, noShL_nil, noShL_cons, noSh_nd, flat_i, okW_nil, okW_cons, wp_nil, wp_cons, kids_vrO, kidsT_l, kidsT_n, kidsT_m, bindL_e, bindLK_s, lstR_s, dat_tmn, lim_0, lim_1, lim_2, lim_3, lim_4, lim_5, lim_6, lim_7, lim_8, lim_9, lim_10, lim_11, lim_12, lim_13, lim_14, tupR_s, tupQ_s, leafDs_nil, leafDs_cons, leafD_d, consT_c, nilT_n, tupT_d, sqK_nt, sqN_s, sqM_iv, sqM_lk, unlkO_s, unlkK_lk, insM_e, insR_s, toVR_tm, cstM_e, op2M_e, addM_e, mulM_e, idxM_e, tstM_e, notT_e, andT_e, orT_e, andM_e, orM_e, notM_e, ifM_e, un1M_e, tr1M_e, ls1M_e, revM_e, nilA_e, consA_e, lstM_e, tplM_e, callM_e, subT_e, nameT_e, lrg1M_e, lrg2M_e, forS_e, sqI_e, rg1I_e, rg2I_e, lcM_e, augS_e, appM_e, popAtM_e, extM_e, stays_tm, stays_nil, stays_t, dat_tm, tree_tm, tree_vr, dat_vr, isB_b, asB_b, elemR_i, elem0, elem1, elem2, elem3, subO_lf, subO_nd, subO_tm, dat2_s, plusR_i, plusR_s, timesR_i, outM_i, outM_b, outM_s, fAdd_i, fSub_i, fLt_i, fLe_i, fGt_i, fGe_i, fEq_i, fNe_i, toVs_nil, mapT_s, fInt_i, fInt1_b, fInt1_i, lenT_s, lenT_l, elem_sc, elem_ls, elem_tu, okD_s, isLs_nd, apR_s, unlkO_n, mapI_ok, lenT_nd, seqS_e, List.getElem?_cons_zero, List.getElem?_cons_succ, List.set_cons_zero, List.set_cons_succ, List.append_nil, List.nil_append, List.cons_append, List.map_cons, List.map_nil, setA, killA, reduceIte, if_true, Option.map_some, Option.map_none, Bool.not_true, Bool.not_false, Bool.false_eq_true, if_false, ite_true, ite_false, id_eq, decide_true, decide_false, IV.toDL_d, lsD, Option.bind_some, killX, set0, set1, set2, envB, List.replicate, List.length_cons, List.length_nil, bodyF_e, List.isPrefixOf, List.drop, Bool.or_false, Bool.false_or, Bool.or_true, Bool.true_or, Bool.or_self, and_self, and_true, true_and, and_false, false_and, and_self, List.isPrefixOf_cons₂, List.drop_succ_cons, BEq.rfl, beq_self_eq_true, Bool.and_self, Bool.and_true, Bool.true_and, Nat.reduceAdd, Nat.reduceSub, Nat.reduceBEq, Nat.reduceEqDiff, beq_iff_eq, Int.reduceLT, Int.reducePow, Int.reduceNeg, List.isPrefixOf_nil_left, List.drop_zero, preS_e, posS_e, posR_nx, posR_bk, posR_rt, posR_ex, drE_nil, drE_t, drE_f, dr1_un, dr1_iv, dr1_lk, dr1_al, fzE_e, fzK_lf, fzK_nd, fzD_s, fzK_al, fzK_un, rdM_e, isLD_l, fzM_e, fzO_tm, fzO_vr, fzT_lf, zpI_e, lfK_d, zpR_s, yesM_e, preS_e, posS_e, posR_nx, posR_bk, posR_rt, posR_ex, drE_nil, drE_t, drE_f, dr1_un, dr1_iv, dr1_lk, dr1_al, fzE_e, fzK_lf, fzK_nd, fzD_s, fzK_al, fzK_un, rdM_e, isLD_l, fzM_e, fzO_tm, fzO_vr, fzT_lf, zpI_e, lfK_d, zpR_s, posI_e, posIR_ok, yesM_e, fEq2_e, fNe2_e, orE_some, e2, flat])
  exact hf
theorem law_true : Law f_law := fun ns hl => by
  obtain ⟨ps, hps, hdk⟩ := deck_ok ns hl
  obtain ⟨e', hf, t', dk, rfl⟩ := forN (i := 2) (fin := unlkO none) (body := b_law_1) (fun _ e => ∃ t, Deck t ∧ e = [.un, .iv t, .un, .un, .un, .un]) ((rgD 0 10).map IV.d) (e := [.un, .iv (deckT ps 0), .un, .un, .un, .un]) ⟨_, ⟨ps, 0, hps, rfl⟩, rfl⟩ (by
    rintro j u e hj ⟨t, dk, rfl⟩
    obtain ⟨t', dk', hb⟩ := round dk u
    exact ⟨rfl, _, hb, t', dk', rfl⟩)
  have hr : ∀ e, rgI (some (.int 0)) (some (.int 10)) e = .ok (rgD 0 10, none) e := fun e => rgI_ok rfl
  have hL := last_loop
  have i1 : f_is_order [.d (intL (nat (List.range 12)))] = .ok (.d (.bool true)) [] := by
    rw [intL, is_order_any]
    have : ordD (.list ((nat (List.range 12)).map .int)) = true := by decide +kernel
    rw [this]
  have i2 : f_is_order [.d (intL (nat (List.range 12).reverse))] = .ok (.d (.bool true)) [] := by
    rw [intL, is_order_any]
    have : ordD (.list ((nat (List.range 12).reverse).map .int)) = true := by decide +kernel
    rw [this]
  have c12 : ((12 : Nat) : Int) = 12 := rfl
  have c13 : ((13 : Nat) : Int) = 13 := rfl
  have r12 := fun e => rgR_n (n := 12) (e := e) (by decide)
  have r13 := fun e => rgR_n (n := 13) (e := e) (by decide)
  rw [c12] at r12
  rw [c13] at r13
  have hi : fIs (.bool true) (.bool true) = some (.bool true) := rfl
  simp only [lastL, List.map_cons, List.map_nil] at hL
  simp (disch := (first | assumption | omega | (simp only [nat_len, ivL_len, List.length_map, List.length_take, List.length_drop, List.length_append, List.length_cons, List.length_nil, List.length_set, List.length_range, List.length_reverse, Nat.zero_add] <;> omega))) only [bind_ok, bind_ex, toS_ok, toS_ex, sbind_nx, sbind_rt, sbind_bk, sbind_ex, iteR_t, iteR_f, nxS_e, bkS_e, exS_e, retN_e, exprS_e, ifS_e, retS_e, asgS_e, aliS_e, aliR_tm, aliR_vr, aliK_nd, aliQ_s, varM_e, varK_s, ctn_e, ctnK_s, getK_s, rsv_e, rsvK_iv, rsvK_lk, rsvK_al, rootOf_e, trK_iv, trK_lk, datK_s, toD_lf, toD_ndt, toD_ndf, toDL_nil, toDL_cons, consO_s, getP_nil, getP_cons, kids_nd, setP_nil, setP_cons, setPK_s, setK_nd, okA_e, okK_iv, okK_un, okK_al, okK_lk, writeR_e, wrK_s, wrR_iv, wrP_nd, wrF_s, toVR_vr, toVK_s, toV_tm, toV_vr, tovK_s, toVs_cons, mvM_e, mvK_lf, mvK_nd, mvK_al, frM_e, frK_lf, frK_nd, frD_s, endF_e, endK_s, outsE_nil, outsE_t, outsE_f, kl_un, kl_iv, kl_lk, kl_al, kx_un, kx_iv, kx_lk, kx_al, nextIs_nil, nextIs_cons, aliK_lf, endB_nx, endB_rt, setR_i, callR_e, callK1_s, callK2_s, backK_ok, backR_t, takeG_nil, takeG_f, takeG_t, tk1_s, tk2_s, tk3_s, tk4_s, argsL_nil, argsL_f, argsL_t, argK_lf, argK_nd, lent_nil, lent_f, lent_t, lentO_tm, lentO_vr, lentT_lf, lentT_nd, putG_nil, putG_cons, sqR_vr, sqK_l, sqK_t, noSh_d, noShL_nil, noShL_cons, noSh_nd, flat_i, okW_nil, okW_cons, wp_nil, wp_cons, kids_vrO, kidsT_l, kidsT_n, kidsT_m, bindL_e, bindLK_s, lstR_s, dat_tmn, lim_0, lim_1, lim_2, lim_3, lim_4, lim_5, lim_6, lim_7, lim_8, lim_9, lim_10, lim_11, lim_12, lim_13, lim_14, tupR_s, tupQ_s, leafDs_nil, leafDs_cons, leafD_d, consT_c, nilT_n, tupT_d, sqK_nt, sqN_s, sqM_iv, sqM_lk, unlkO_s, unlkK_lk, insM_e, insR_s, toVR_tm, cstM_e, op2M_e, addM_e, mulM_e, idxM_e, tstM_e, notT_e, andT_e, orT_e, andM_e, orM_e, notM_e, ifM_e, un1M_e, tr1M_e, ls1M_e, revM_e, nilA_e, consA_e, lstM_e, tplM_e, callM_e, subT_e, nameT_e, lrg1M_e, lrg2M_e, forS_e, sqI_e, rg1I_e, rg2I_e, lcM_e, augS_e, appM_e, popAtM_e, extM_e, stays_tm, stays_nil, stays_t, dat_tm, tree_tm, tree_vr, dat_vr, isB_b, asB_b, elemR_i, elem0, elem1, elem2, elem3, subO_lf, subO_nd, subO_tm, dat2_s, plusR_i, plusR_s, timesR_i, outM_i, outM_b, outM_s, fAdd_i, fSub_i, fLt_i, fLe_i, fGt_i, fGe_i, fEq_i, fNe_i, toVs_nil, mapT_s, fInt_i, fInt1_b, fInt1_i, lenT_s, lenT_l, elem_sc, elem_tu, okD_s, isLs_nd, apR_s, unlkO_n, mapI_ok, lenT_nd, seqS_e, List.getElem?_cons_zero, List.getElem?_cons_succ, List.set_cons_zero, List.set_cons_succ, List.append_nil, List.nil_append, List.cons_append, List.map_cons, List.map_nil, setA, killA, reduceIte, if_true, Option.map_some, Option.map_none, Bool.not_true, Bool.not_false, Bool.false_eq_true, if_false, ite_true, ite_false, id_eq, decide_true, decide_false, IV.toDL_d, Option.bind_some, killX, set0, set1, set2, envB, List.replicate, List.length_cons, List.length_nil, bodyF_e, List.isPrefixOf, List.drop, Bool.or_false, Bool.false_or, Bool.or_true, Bool.true_or, Bool.or_self, and_self, and_true, true_and, and_false, false_and, and_self, List.isPrefixOf_cons₂, List.drop_succ_cons, BEq.rfl, beq_self_eq_true, Bool.and_self, Bool.and_true, Bool.true_and, Nat.reduceAdd, Nat.reduceSub, Nat.reduceBEq, Nat.reduceEqDiff, beq_iff_eq, Int.reduceLT, Int.reducePow, Int.reduceNeg, List.isPrefixOf_nil_left, List.drop_zero, preS_e, posS_e, posR_nx, posR_bk, posR_rt, posR_ex, drE_nil, drE_t, drE_f, dr1_un, dr1_iv, dr1_lk, dr1_al, fzE_e, fzK_lf, fzK_nd, fzD_s, fzK_al, fzK_un, rdM_e, isLD_l, fzM_e, fzO_tm, fzO_vr, fzT_lf, zpI_e, lfK_d, zpR_s, yesM_e, preS_e, posS_e, posR_nx, posR_bk, posR_rt, posR_ex, drE_nil, drE_t, drE_f, dr1_un, dr1_iv, dr1_lk, dr1_al, fzE_e, fzK_lf, fzK_nd, fzD_s, fzK_al, fzK_un, rdM_e, isLD_l, fzM_e, fzO_tm, fzO_vr, fzT_lf, zpI_e, lfK_d, zpR_s, posI_e, posIR_ok, yesM_e, fEq2_e, fNe2_e, orE_some, partM_n, partM_s, intO_i, partB_n, partB_s, cutM_e, cutR_nd, cutR_l, cutN_t, cutN_d, kidsL_e, kidsLK_nd, kidsLK_d, fAdd_ll, plusR_n, catN, catN1, catN2, lsD_nat, cast1, cast2, castA, lt_nat, le_nat, eq_nat, fEq_nat, fNe_nat, toDL_iv, leafDs_iv, ivL_map, ivL_len, nat_len, List.length_map, Int.sub_zero, Int.zero_add, isT_ll, isT_ln, isT_ii, isT_bi, free_ivL, fEq_nil, fNe_nil, decide_true, decide_false, sqR_tmn, sqR_tml, sqTK_s, ls1M_e, dispA_nil, dispA_cons, dispK_s, dispM_e, fEq_bb, fNe_bb, ite_nat, isT_ss, augR_s, augK_s, fzT_nd, fzTK_s, castZ, revN, newdM_e, dsetT_e, dsetR_e, dsetK_dk, dsetP_s, keyD_i, keyD_s, toD_dk, mvK_dk, tovr_dk, toDL_dLs, toDL_nLs, leafDs_dLs, noSh_nLs, map_pls, fEq_pls, fNe_pls, frK_dk, sqR_tmt, elemN, elemD, setN, appN, index_nat, catR_ok, lim_ok, castS1, castSub, rgI_n, rgR_n, elemN0, elemD0, rgI_n2, elem_pls, elem_dLs, fDG_pl, f_law, m_law, hdk, hr, hf, hL, i1, i2, r12, r13, hi, toD_dk0, kidsT_tm, newdM_e, flat]
/-! ### the law -/
theorem all_mk (hL : Law f_law) {l : PySem.W.OpenLaw} {w : World} {K : PySem.W.Frag} {h : Heap} {mg : Str → Option Value} {fa g0 g1 g2 g3 g4 g5 g6 g7 g8 g9  : Addr} (X : K.In h) (G : h.Ns mainGlobals mg) (hfa : mg "law" = some (.ref fa))
    {od0 an0 od1 an1 od2 an2 od3 an3 od4 an4 od5 an5 od6 an6 od7 an7 od8 an8 od9 an9 : Option Addr} {sl0 sl1 sl2 sl3 sl4 sl5 sl6 sl7 sl8 sl9 : Array (Option Value)} {oc0 kV0 dc0 pm0 cd0 ct0 oc1 kV1 dc1 pm1 cd1 ct1 oc2 kV2 dc2 pm2 cd2 ct2 oc3 kV3 dc3 pm3 cd3 ct3 oc4 kV4 dc4 pm4 cd4 ct4 oc5 kV5 dc5 pm5 cd5 ct5 oc6 kV6 dc6 pm6 cd6 ct6 oc7 kV7 dc7 pm7 cd7 ct7 oc8 kV8 dc8 pm8 cd8 ct8 oc9 kV9 dc9 pm9 cd9 ct9 : Value} {t_MOST_THINGS : Tok}
    (a__law_deck : PySem.W.nsIn K mainGlobals "_law_deck" = some (some (.ref g0)))
    (l__law_deck : K.lookup g0 = some ⟨oc0, od0, .func (PySem.W.fnOf "_law_deck" "_law_deck" (defArgs s__law_deck) (defBody s__law_deck) (defScope s__law_deck) .none kV0 dc0 pm0 an0 cd0 ct0), sl0⟩)
    (c__law_deck : PySem.W.codeIn K cd0 "_law_deck" = true)
    (k__law_deck : PySem.W.keepIn K (.ref g0) = true)
    (a__law_draw : PySem.W.nsIn K mainGlobals "_law_draw" = some (some (.ref g1)))
    (l__law_draw : K.lookup g1 = some ⟨oc1, od1, .func (PySem.W.fnOf "_law_draw" "_law_draw" (defArgs s__law_draw) (defBody s__law_draw) (defScope s__law_draw) .none kV1 dc1 pm1 an1 cd1 ct1), sl1⟩)
    (c__law_draw : PySem.W.codeIn K cd1 "_law_draw" = true)
    (k__law_draw : PySem.W.keepIn K (.ref g1) = true)
    (a__law_order : PySem.W.nsIn K mainGlobals "_law_order" = some (some (.ref g2)))
    (l__law_order : K.lookup g2 = some ⟨oc2, od2, .func (PySem.W.fnOf "_law_order" "_law_order" (defArgs s__law_order) (defBody s__law_order) (defScope s__law_order) .none kV2 dc2 pm2 an2 cd2 ct2), sl2⟩)
    (c__law_order : PySem.W.codeIn K cd2 "_law_order" = true)
    (k__law_order : PySem.W.keepIn K (.ref g2) = true)
    (a__law_things : PySem.W.nsIn K mainGlobals "_law_things" = some (some (.ref g3)))
    (l__law_things : K.lookup g3 = some ⟨oc3, od3, .func (PySem.W.fnOf "_law_things" "_law_things" (defArgs s__law_things) (defBody s__law_things) (defScope s__law_things) .none kV3 dc3 pm3 an3 cd3 ct3), sl3⟩)
    (c__law_things : PySem.W.codeIn K cd3 "_law_things" = true)
    (k__law_things : PySem.W.keepIn K (.ref g3) = true)
    (a_is_whole : PySem.W.nsIn K mainGlobals "is_whole" = some (some (.ref g4)))
    (l_is_whole : K.lookup g4 = some ⟨oc4, od4, .func (PySem.W.fnOf "is_whole" "is_whole" (defArgs s_is_whole) (defBody s_is_whole) (defScope s_is_whole) .none kV4 dc4 pm4 an4 cd4 ct4), sl4⟩)
    (c_is_whole : PySem.W.codeIn K cd4 "is_whole" = true)
    (k_is_whole : PySem.W.keepIn K (.ref g4) = true)
    (a_is_order : PySem.W.nsIn K mainGlobals "is_order" = some (some (.ref g5)))
    (l_is_order : K.lookup g5 = some ⟨oc5, od5, .func (PySem.W.fnOf "is_order" "is_order" (defArgs s_is_order) (defBody s_is_order) (defScope s_is_order) .none kV5 dc5 pm5 an5 cd5 ct5), sl5⟩)
    (c_is_order : PySem.W.codeIn K cd5 "is_order" = true)
    (k_is_order : PySem.W.keepIn K (.ref g5) = true)
    (a__law_good : PySem.W.nsIn K mainGlobals "_law_good" = some (some (.ref g6)))
    (l__law_good : K.lookup g6 = some ⟨oc6, od6, .func (PySem.W.fnOf "_law_good" "_law_good" (defArgs s__law_good) (defBody s__law_good) (defScope s__law_good) .none kV6 dc6 pm6 an6 cd6 ct6), sl6⟩)
    (c__law_good : PySem.W.codeIn K cd6 "_law_good" = true)
    (k__law_good : PySem.W.keepIn K (.ref g6) = true)
    (a__law_right : PySem.W.nsIn K mainGlobals "_law_right" = some (some (.ref g7)))
    (l__law_right : K.lookup g7 = some ⟨oc7, od7, .func (PySem.W.fnOf "_law_right" "_law_right" (defArgs s__law_right) (defBody s__law_right) (defScope s__law_right) .none kV7 dc7 pm7 an7 cd7 ct7), sl7⟩)
    (c__law_right : PySem.W.codeIn K cd7 "_law_right" = true)
    (k__law_right : PySem.W.keepIn K (.ref g7) = true)
    (a__law_no_order : PySem.W.nsIn K mainGlobals "_law_no_order" = some (some (.ref g8)))
    (l__law_no_order : K.lookup g8 = some ⟨oc8, od8, .func (PySem.W.fnOf "_law_no_order" "_law_no_order" (defArgs s__law_no_order) (defBody s__law_no_order) (defScope s__law_no_order) .none kV8 dc8 pm8 an8 cd8 ct8), sl8⟩)
    (c__law_no_order : PySem.W.codeIn K cd8 "_law_no_order" = true)
    (k__law_no_order : PySem.W.keepIn K (.ref g8) = true)
    (a_law : PySem.W.nsIn K mainGlobals "law" = some (some (.ref g9)))
    (l_law : K.lookup g9 = some ⟨oc9, od9, .func (PySem.W.fnOf "law" "law" (defArgs s_law) (defBody s_law) (defScope s_law) .none kV9 dc9 pm9 an9 cd9 ct9), sl9⟩)
    (c_law : PySem.W.codeIn K cd9 "law" = true)
    (k_law : PySem.W.keepIn K (.ref g9) = true)
    (b_bool : PySem.W.nsIn K mainGlobals "bool" = some none)
    (b_dict : PySem.W.nsIn K mainGlobals "dict" = some none)
    (b_enumerate : PySem.W.nsIn K mainGlobals "enumerate" = some none)
    (b_int : PySem.W.nsIn K mainGlobals "int" = some none)
    (b_isinstance : PySem.W.nsIn K mainGlobals "isinstance" = some none)
    (b_len : PySem.W.nsIn K mainGlobals "len" = some none)
    (b_list : PySem.W.nsIn K mainGlobals "list" = some none)
    (b_max : PySem.W.nsIn K mainGlobals "max" = some none)
    (b_min : PySem.W.nsIn K mainGlobals "min" = some none)
    (b_range : PySem.W.nsIn K mainGlobals "range" = some none)
    (b_repr : PySem.W.nsIn K mainGlobals "repr" = some none)
    (b_sorted : PySem.W.nsIn K mainGlobals "sorted" = some none)
    (b_tuple : PySem.W.nsIn K mainGlobals "tuple" = some none)
    (cc_MOST_THINGS : PySem.W.nsIn K mainGlobals "MOST_THINGS" = some (some (.int 12 t_MOST_THINGS)))
    : ∃ fd : FuncData, (∀ (s : Shared) (v : Value), BindsTo s fd ⟨[v], []⟩ [("script", v)]) ∧ ∀ base : Heap, K.In base → base.Ns mainGlobals mg → Z.FnOk l.prog w K mg base (L2.CX l.prog w) 4 fa fd ["script"] (spLaw K) := by
  have e := hfa.symm.trans (PySem.W.mg_of X G a_law)
  cases e
  let xc : Nat → Value := fun _ => .none
  have T : Txt K mg xc := ⟨PySem.W.mg_none_of X G b_bool, PySem.W.mg_none_of X G b_dict, PySem.W.mg_none_of X G b_enumerate, PySem.W.mg_none_of X G b_int, PySem.W.mg_none_of X G b_isinstance, PySem.W.mg_none_of X G b_len, PySem.W.mg_none_of X G b_list, PySem.W.mg_none_of X G b_max, PySem.W.mg_none_of X G b_min, PySem.W.mg_none_of X G b_range, PySem.W.mg_none_of X G b_repr, PySem.W.mg_none_of X G b_sorted, PySem.W.mg_none_of X G b_tuple, cstg_int (PySem.W.mg_of X G cc_MOST_THINGS)⟩
  refine ⟨PySem.W.fnOf "law" "law" (defArgs s_law) (defBody s_law) (defScope s_law) .none kV9 dc9 pm9 an9 cd9 ct9, fun s v => .of_eq rfl, fun base _ _ => ?_⟩
  have F__law_deck := fun_mk (st := s__law_deck) l__law_deck c__law_deck k__law_deck
  have B__law_deck := F__law_deck.binds (ps := ["script"]) fun _ _ _ _ _ _ us hl => match us, hl with | [_], _ => rfl
  have R__law_deck : FnR l.prog w K mg base xc 1 "_law_deck" [false] f__law_deck := fn_r F__law_deck (PySem.W.mg_of X G a__law_deck) sc__law_deck rfl B__law_deck (ok__law_deck T )
  have F__law_draw := fun_mk (st := s__law_draw) l__law_draw c__law_draw k__law_draw
  have B__law_draw := F__law_draw.binds (ps := ["deck", "many"]) fun _ _ _ _ _ _ us hl => match us, hl with | [_, _], _ => rfl
  have R__law_draw : FnR l.prog w K mg base xc 1 "_law_draw" [true, false] f__law_draw := fn_r F__law_draw (PySem.W.mg_of X G a__law_draw) sc__law_draw rfl B__law_draw (ok__law_draw T )
  have F__law_order := fun_mk (st := s__law_order) l__law_order c__law_order k__law_order
  have B__law_order := F__law_order.binds (ps := ["deck", "n"]) fun _ _ _ _ _ _ us hl => match us, hl with | [_, _], _ => rfl
  have R__law_order : FnR l.prog w K mg base xc 2 "_law_order" [true, false] f__law_order := fn_r F__law_order (PySem.W.mg_of X G a__law_order) sc__law_order rfl B__law_order (ok__law_order T R__law_draw)
  have F__law_things := fun_mk (st := s__law_things) l__law_things c__law_things k__law_things
  have B__law_things := F__law_things.binds (ps := ["deck"]) fun _ _ _ _ _ _ us hl => match us, hl with | [_], _ => rfl
  have R__law_things : FnR l.prog w K mg base xc 2 "_law_things" [true] f__law_things := fn_r F__law_things (PySem.W.mg_of X G a__law_things) sc__law_things rfl B__law_things (ok__law_things T R__law_draw)
  have F_is_whole := fun_mk (st := s_is_whole) l_is_whole c_is_whole k_is_whole
  have B_is_whole := F_is_whole.binds (ps := ["thing"]) fun _ _ _ _ _ _ us hl => match us, hl with | [_], _ => rfl
  have R_is_whole : FnR l.prog w K mg base xc 1 "is_whole" [false] f_is_whole := fn_r F_is_whole (PySem.W.mg_of X G a_is_whole) sc_is_whole rfl B_is_whole (ok_is_whole T )
  have F_is_order := fun_mk (st := s_is_order) l_is_order c_is_order k_is_order
  have B_is_order := F_is_order.binds (ps := ["thing"]) fun _ _ _ _ _ _ us hl => match us, hl with | [_], _ => rfl
  have R_is_order : FnR l.prog w K mg base xc 2 "is_order" [false] f_is_order := fn_r F_is_order (PySem.W.mg_of X G a_is_order) sc_is_order rfl B_is_order (ok_is_order T R_is_whole)
  have F__law_good := fun_mk (st := s__law_good) l__law_good c__law_good k__law_good
  have B__law_good := F__law_good.binds (ps := ["thing"]) fun _ _ _ _ _ _ us hl => match us, hl with | [_], _ => rfl
  have R__law_good : FnR l.prog w K mg base xc 1 "_law_good" [false] f__law_good := fn_r F__law_good (PySem.W.mg_of X G a__law_good) sc__law_good rfl B__law_good (ok__law_good T )
  have F__law_right := fun_mk (st := s__law_right) l__law_right c__law_right k__law_right
  have B__law_right := F__law_right.binds (ps := ["thing"]) fun _ _ _ _ _ _ us hl => match us, hl with | [_], _ => rfl
  have R__law_right : FnR l.prog w K mg base xc 3 "_law_right" [false] f__law_right := fn_r F__law_right (PySem.W.mg_of X G a__law_right) sc__law_right rfl B__law_right (ok__law_right T R_is_order R__law_good)
  have F__law_no_order := fun_mk (st := s__law_no_order) l__law_no_order c__law_no_order k__law_no_order
  have B__law_no_order := F__law_no_order.binds (ps := ["deck", "order"]) fun _ _ _ _ _ _ us hl => match us, hl with | [_, _], _ => rfl
  have R__law_no_order : FnR l.prog w K mg base xc 2 "_law_no_order" [true, false] f__law_no_order := fn_r F__law_no_order (PySem.W.mg_of X G a__law_no_order) sc__law_no_order rfl B__law_no_order (ok__law_no_order T R__law_draw)
  have F_law := fun_mk (st := s_law) l_law c_law k_law
  exact law_ok F_law sc_law rfl (ok_law T R__law_deck R__law_order R__law_things R_is_order R__law_right R__law_no_order) hL
end L
open PySem PySem.W PyProof.Rows
set_option maxRecDepth 100000 in
set_option maxHeartbeats 0 in
theorem PySem.Challenge.cw_ordersapart_k01_what_is_an_order_holds : PySem.Challenge.rw_ordersapart_k01_what_is_an_order.Holds := by
  w_on; o_law; k_head; (case hw => w_witness2)
  k_fill
  refine Z.walk (k := 4) (l := PySem.Challenge.rw_ordersapart_k01_what_is_an_order) rfl rfl ⟨⟨rfl, by decide, by decide⟩, rfl⟩ (fun w h Y => PySem.W.kIn_of Y) ?F
  case F =>
    intro w mg fa h KX G hmg
    refine' L.all_mk L.law_true KX G hmg ?a__law_deck ?l__law_deck ?c__law_deck ?k__law_deck ?a__law_draw ?l__law_draw ?c__law_draw ?k__law_draw ?a__law_order ?l__law_order ?c__law_order ?k__law_order ?a__law_things ?l__law_things ?c__law_things ?k__law_things ?a_is_whole ?l_is_whole ?c_is_whole ?k_is_whole ?a_is_order ?l_is_order ?c_is_order ?k_is_order ?a__law_good ?l__law_good ?c__law_good ?k__law_good ?a__law_right ?l__law_right ?c__law_right ?k__law_right ?a__law_no_order ?l__law_no_order ?c__law_no_order ?k__law_no_order ?a_law ?l_law ?c_law ?k_law ?b_bool ?b_dict ?b_enumerate ?b_int ?b_isinstance ?b_len ?b_list ?b_max ?b_min ?b_range ?b_repr ?b_sorted ?b_tuple ?cc_MOST_THINGS
    (case a__law_deck => k_is)
    (case l__law_deck => k_is)
    (case c__law_deck => k_is)
    (case k__law_deck => k_is)
    (case a__law_draw => k_is)
    (case l__law_draw => k_is)
    (case c__law_draw => k_is)
    (case k__law_draw => k_is)
    (case a__law_order => k_is)
    (case l__law_order => k_is)
    (case c__law_order => k_is)
    (case k__law_order => k_is)
    (case a__law_things => k_is)
    (case l__law_things => k_is)
    (case c__law_things => k_is)
    (case k__law_things => k_is)
    (case a_is_whole => k_is)
    (case l_is_whole => k_is)
    (case c_is_whole => k_is)
    (case k_is_whole => k_is)
    (case a_is_order => k_is)
    (case l_is_order => k_is)
    (case c_is_order => k_is)
    (case k_is_order => k_is)
    (case a__law_good => k_is)
    (case l__law_good => k_is)
    (case c__law_good => k_is)
    (case k__law_good => k_is)
    (case a__law_right => k_is)
    (case l__law_right => k_is)
    (case c__law_right => k_is)
    (case k__law_right => k_is)
    (case a__law_no_order => k_is)
    (case l__law_no_order => k_is)
    (case c__law_no_order => k_is)
    (case k__law_no_order => k_is)
    (case a_law => k_is)
    (case l_law => k_is)
    (case c_law => k_is)
    (case k_law => k_is)
    (case b_bool => k_is)
    (case b_dict => k_is)
    (case b_enumerate => k_is)
    (case b_int => k_is)
    (case b_isinstance => k_is)
    (case b_len => k_is)
    (case b_list => k_is)
    (case b_max => k_is)
    (case b_min => k_is)
    (case b_range => k_is)
    (case b_repr => k_is)
    (case b_sorted => k_is)
    (case b_tuple => k_is)
    (case cc_MOST_THINGS => k_is)
#print axioms PySem.Challenge.cw_ordersapart_k01_what_is_an_order_holds
