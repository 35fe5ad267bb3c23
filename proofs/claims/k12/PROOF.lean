import PyProof.Rows.All
import Wide.All
import OpenK.AllK
import Wide.FinOn
import HandS.ForMost
import HandS.Lambda
import HandS.Wide
import HandS.WideBits
import HandS.IsInst
import HandS.Style
import HandS.NoneIn
import HandS.Zip
import HandS.Rev
import HandS.TupAny
import HandS.SortInts
import HandS.Small
import HandS.Ends
import HandS.Words
import HandS.Flt
import KE.DataMinMax
import KE.DataCmp
import KE.DataAny
import KE.SortKeyHeap
import HandS.Deep
import HandS.Steps
import HandS.DictTup
import HandS.ListItems
import HandS.More
import HandS.WordsDict
import KE.GoesEnum
import KE.GoesZip
import HandS.Text
import PyProof.IsRules
import HandS.SortKw
import HandS.Keys
import HandS.TupSets
import HandS.SetFor
import PyProof.ReprRoads
import PyProof.StrLawsRepr
import PyProof.FitsInt
import PyProof.CallStr
import HandS.RaiseMore
import PyProof.ReprText
import PyProof.Rows.ReprOcc
import PyProof.TwoTypes
import PyProof.TwoTypesSub
import PyProof.Rows.RuleB_bool
import PyProof.Walk
import PyProof.WalkLemmas
import PyProof.FactsAll.bool
import PyProof.FactsAll.int
import PyProof.FactsAll.subtypes_1
import HandS.Nested
import HandS.EndBits
import KE.DataFind
import HandS.Conv
import PySem.Challenge.RW_strengthbond_k12_ranges_of_pure
set_option Elab.async false
set_option linter.all false
set_option maxRecDepth 100000
set_option maxHeartbeats 4000000
namespace DL
open PySem L2
abbrev D := PyData
/-! ### data read through the heap, off the avoided addresses -/
def LsR (A : Addr → Prop) (H : Hp) (a : Addr) (xs : List V) : Prop := H a = some (.lst xs) ∧ ¬ A a
def TuR (K : PySem.W.Frag) (A : Addr → Prop) (H : Hp) (a : Addr) (xs : List V) : Prop := (H a = some (.tup xs) ∧ ¬ A a) ∨ ∀ H' : Hp, SqT K H' a xs
theorem LsR.sq {K : PySem.W.Frag} {A : Addr → Prop} {H : Hp} {a : Addr} {xs : List V} (h : LsR A H a xs) : SqL K H a xs := .inl (.inl h.1)
theorem TuR.sq {K : PySem.W.Frag} {A : Addr → Prop} {H : Hp} {a : Addr} {xs : List V} (h : TuR K A H a xs) : SqT K H a xs := h.elim (fun q => .inl (.inl q.1)) fun q => q H
/-- a key as data -/
def kD : Key → D
  | .inl i => .int i
  | .inr x => .str x
mutual
inductive Rp (K : PySem.W.Frag) (A : Addr → Prop) (H : Hp) : V → D → Prop
  | non : Rp K A H .non .none
  | bl (b : Bool) : Rp K A H (.bl b) (.bool b)
  | int (i : Int) : Rp K A H (.int i) (.int i)
  | str (x : Str) : Rp K A H (.str x) (.str x)
  | lst {a : Addr} {xs : List V} {ds : List D} : LsR A H a xs → RpL K A H xs ds → Rp K A H (.ref a) (.list ds)
  | tup {a : Addr} {xs : List V} {ds : List D} : TuR K A H a xs → RpL K A H xs ds → Rp K A H (.ref a) (.tuple ds)
  | dct {a : Addr} {o : Obj} {ws : List (Key × V)} {kvs : List (Key × D)} : H a = some (.frz o (.dK ws)) → ¬ A a → RpK K A H ws kvs → Rp K A H (.ref a) (.dict (kvs.map fun z => (kD z.1, z.2)))
inductive RpL (K : PySem.W.Frag) (A : Addr → Prop) (H : Hp) : List V → List D → Prop
  | nil : RpL K A H [] []
  | cons {v : V} {vs : List V} {d : D} {ds : List D} : Rp K A H v d → RpL K A H vs ds → RpL K A H (v :: vs) (d :: ds)
inductive RpK (K : PySem.W.Frag) (A : Addr → Prop) (H : Hp) : List (Key × V) → List (Key × D) → Prop
  | nil : RpK K A H [] []
  | cons {k : Key} {v : V} {vs : List (Key × V)} {d : D} {ds : List (Key × D)} : Rp K A H v d → RpK K A H vs ds → RpK K A H ((k, v) :: vs) ((k, d) :: ds)
end
section
variable {K : PySem.W.Frag} {A A' : Addr → Prop} {H H' : Hp}
/-- what stands off A is kept, and stands off A' -/
def Kp (A : Addr → Prop) (H : Hp) (A' : Addr → Prop) (H' : Hp) : Prop := ∀ a u, ¬ A a → H a = some u → H' a = some u ∧ ¬ A' a
theorem Kp.refl : Kp A H A H := fun _ _ n r => ⟨r, n⟩
theorem Kp.trans {A'' : Addr → Prop} {H'' : Hp} (p : Kp A H A' H') (q : Kp A' H' A'' H'') : Kp A H A'' H'' := fun a u n r => q a u (p a u n r).2 (p a u n r).1
mutual
theorem Rp.mono (h : Kp A H A' H') : ∀ {v : V} {d : D}, Rp K A H v d → Rp K A' H' v d
  | _, _, .non => .non
  | _, _, .bl b => .bl b
  | _, _, .int i => .int i
  | _, _, .str x => .str x
  | _, _, .lst l r => .lst (h _ _ l.2 l.1) (RpL.mono h r)
  | _, _, .tup l r => .tup (l.elim (fun q => .inl (h _ _ q.2 q.1)) .inr) (RpL.mono h r)
  | _, _, .dct l n r => .dct (h _ _ n l).1 (h _ _ n l).2 (RpK.mono h r)
theorem RpL.mono (h : Kp A H A' H') : ∀ {v : List V} {d : List D}, RpL K A H v d → RpL K A' H' v d
  | _, _, .nil => .nil
  | _, _, .cons a b => .cons (Rp.mono h a) (RpL.mono h b)
theorem RpK.mono (h : Kp A H A' H') : ∀ {v : List (Key × V)} {d : List (Key × D)}, RpK K A H v d → RpK K A' H' v d
  | _, _, .nil => .nil
  | _, _, .cons a b => .cons (Rp.mono h a) (RpK.mono h b)
end
mutual
theorem Rp.dp : ∀ {v : V} {d : D}, Rp K A H v d → d.canLay0 = true → Dp K H v d
  | _, _, .non, _ => .non
  | _, _, .bl b, _ => .bl b
  | _, _, .int i, _ => .int i
  | _, _, .str x, _ => .str x
  | _, _, .lst l r, h => .lst l.sq (RpL.dp r (by simpa only [PyData.canLay0] using h))
  | _, _, .tup l r, h => .tup l.sq (RpL.dp r (by simpa only [PyData.canLay0] using h))
  | _, _, .dct _ _ _, h => by simp [PyData.canLay0] at h
theorem RpL.dp : ∀ {v : List V} {d : List D}, RpL K A H v d → PyData.canLayAll0 d = true → DpAll K H v d
  | _, _, .nil, _ => .nil
  | _, _, .cons a b, h => by
    rw [PyData.canLayAll0, Bool.and_eq_true] at h
    exact .cons (Rp.dp a h.1) (RpL.dp b h.2)
end
theorem lay_ints : ∀ ns : List Int, PyData.canLayAll0 (ns.map PyData.int) = true
  | [] => rfl
  | n :: ns => by rw [List.map_cons, PyData.canLayAll0, lay_ints ns]; rfl
theorem RpL.length : ∀ {v : List V} {d : List D}, RpL K A H v d → v.length = d.length
  | _, _, .nil => rfl
  | _, _, .cons _ b => congrArg (· + 1) (RpL.length b)
theorem RpL.get : ∀ {v : List V} {d : List D} {i : Nat} {x : D}, RpL K A H v d → d[i]? = some x → ∃ y, v[i]? = some y ∧ Rp K A H y x
  | _, _, _, _, .nil, e => by simp at e
  | _, _, 0, _, .cons a _, e => ⟨_, rfl, by simp at e; subst e; exact a⟩
  | _, _, i + 1, _, .cons _ b, e => by
    obtain ⟨y, h1, h2⟩ := RpL.get (i := i) b (by simpa using e)
    exact ⟨y, by simpa using h1, h2⟩
theorem RpL.get' : ∀ {v : List V} {d : List D} {i : Nat} {y : V}, RpL K A H v d → v[i]? = some y → ∃ x, d[i]? = some x ∧ Rp K A H y x
  | _, _, _, _, .nil, e => by simp at e
  | _, _, 0, _, .cons a _, e => ⟨_, rfl, by simp at e; subst e; exact a⟩
  | _, _, i + 1, _, .cons _ b, e => by
    obtain ⟨y, h1, h2⟩ := RpL.get' (i := i) b (by simpa using e)
    exact ⟨y, by simpa using h1, h2⟩
theorem RpL.append : ∀ {v w : List V} {d e : List D}, RpL K A H v d → RpL K A H w e → RpL K A H (v ++ w) (d ++ e)
  | _, _, _, _, .nil, r => r
  | _, _, _, _, .cons a b, r => .cons a (RpL.append b r)
theorem RpL.take : ∀ {v : List V} {d : List D} (n : Nat), RpL K A H v d → RpL K A H (v.take n) (d.take n)
  | _, _, 0, _ => .nil
  | _, _, _ + 1, .nil => .nil
  | _, _, n + 1, .cons a b => .cons a (RpL.take n b)
theorem RpL.drop : ∀ {v : List V} {d : List D} (n : Nat), RpL K A H v d → RpL K A H (v.drop n) (d.drop n)
  | _, _, 0, r => r
  | _, _, _ + 1, .nil => .nil
  | _, _, n + 1, .cons _ b => RpL.drop n b
theorem RpL.set {x : V} {u : D} (r : Rp K A H x u) : ∀ {v : List V} {d : List D} (i : Nat), RpL K A H v d → RpL K A H (v.set i x) (d.set i u)
  | _, _, _, .nil => .nil
  | _, _, 0, .cons _ b => .cons r b
  | _, _, i + 1, .cons a b => .cons a (RpL.set r i b)
theorem RpL.reverse : ∀ {v : List V} {d : List D}, RpL K A H v d → RpL K A H v.reverse d.reverse
  | _, _, .nil => .nil
  | _, _, .cons a b => by
    rw [List.reverse_cons, List.reverse_cons]
    exact (RpL.reverse b).append (.cons a .nil)
theorem RpL.ints : ∀ {ns : List Int}, RpL K A H (ns.map V.int) (ns.map PyData.int)
  | [] => .nil
  | n :: ns => .cons (.int n) RpL.ints
theorem RpL.ofInts : ∀ {ns : List Int} {vs : List V}, RpL K A H vs (ns.map PyData.int) → vs = ns.map V.int
  | [], _, .nil => rfl
  | n :: ns, _, .cons (.int _) b => by rw [RpL.ofInts b]; rfl
theorem RpL.ofBools : ∀ {ns : List Bool} {vs : List V}, RpL K A H vs (ns.map PyData.bool) → vs = ns.map V.bl
  | [], _, .nil => rfl
  | n :: ns, _, .cons (.bl _) b => by rw [RpL.ofBools b]; rfl
theorem RpL.ofStrs : ∀ {ns : List Str} {vs : List V}, RpL K A H vs (ns.map PyData.str) → vs = ns.map V.str
  | [], _, .nil => rfl
  | n :: ns, _, .cons (.str _) b => by rw [RpL.ofStrs b]; rfl
theorem RpL.strs : ∀ {ns : List Str}, RpL K A H (ns.map V.str) (ns.map PyData.str)
  | [] => .nil
  | n :: ns => .cons (.str n) RpL.strs
end
/-! ### what a name or a field holds: unknown, data, a thing that changes -/
inductive En where
  | no
  | da (d : D)
  | mu (k : Nat)
/-- an own class's object (by the class's name), a list, a tuple, a dict of texts: of things that may change -/
inductive Sh where
  | obj (c : Str)
  | lst
  | tup
  | dct
inductive MO where
  | gone
  | lst (ds : List D)
  | dct (kvs : List (Key × D))
  | rnd (n : Nat)
  | box (n : Nat)
  | tab (q : Str)
  | ins (C : Sh) (fs : List (Str × En))
structure S where
  es : List En
  ms : List MO
  np : Nat
def gt : List En → Nat → En
  | [], _ => .no
  | x :: _, 0 => x
  | _ :: r, i + 1 => gt r i
def st : List En → Nat → En → List En
  | [], _, _ => []
  | _ :: r, 0, y => y :: r
  | x :: r, i + 1, y => x :: st r i y
def gm : List MO → Nat → MO
  | [], _ => .gone
  | x :: _, 0 => x
  | _ :: r, i + 1 => gm r i
def sm : List MO → Nat → MO → List MO
  | [], _, _ => []
  | _ :: r, 0, y => y :: r
  | x :: r, i + 1, y => x :: sm r i y
def go : List (List Addr) → Nat → List Addr
  | [], _ => []
  | x :: _, 0 => x
  | _ :: r, i + 1 => go r i
def S.sE (s : S) (i : Nat) (x : En) : S := ⟨st s.es i x, s.ms, s.np⟩
def S.sM (s : S) (j : Nat) (m : MO) : S := ⟨s.es, sm s.ms j m, s.np⟩
def S.aM (s : S) (m : MO) : S := ⟨s.es, s.ms ++ [m], s.np⟩
theorem st_length : ∀ (l : List En) (i : Nat) (y : En), (st l i y).length = l.length
  | [], _, _ => rfl
  | _ :: _, 0, _ => rfl
  | _ :: r, i + 1, y => congrArg (· + 1) (st_length r i y)
theorem gt_st : ∀ (l : List En) (i j : Nat) (y : En), gt (st l i y) j = if i = j ∧ i < l.length then y else gt l j
  | [], i, j, y => by simp [st, gt]
  | x :: r, 0, 0, y => by simp [st, gt]
  | x :: r, 0, j + 1, y => by simp [st, gt]
  | x :: r, i + 1, 0, y => by simp [st, gt]
  | x :: r, i + 1, j + 1, y => by
    show gt (st r i y) j = _
    rw [gt_st r i j y]
    simp [gt]
theorem gt_ge : ∀ (l : List En) (i : Nat), l.length ≤ i → gt l i = .no
  | [], _, _ => rfl
  | _ :: r, 0, h => by simp at h
  | _ :: r, i + 1, h => gt_ge r i (by simpa using h)
theorem sm_length : ∀ (l : List MO) (i : Nat) (y : MO), (sm l i y).length = l.length
  | [], _, _ => rfl
  | _ :: _, 0, _ => rfl
  | _ :: r, i + 1, y => congrArg (· + 1) (sm_length r i y)
theorem gm_sm : ∀ (l : List MO) (i j : Nat) (y : MO), gm (sm l i y) j = if i = j ∧ i < l.length then y else gm l j
  | [], i, j, y => by simp [sm, gm]
  | x :: r, 0, 0, y => by simp [sm, gm]
  | x :: r, 0, j + 1, y => by simp [sm, gm]
  | x :: r, i + 1, 0, y => by simp [sm, gm]
  | x :: r, i + 1, j + 1, y => by
    show gm (sm r i y) j = _
    rw [gm_sm r i j y]
    simp [gm]
theorem gm_ge : ∀ (l : List MO) (i : Nat), l.length ≤ i → gm l i = .gone
  | [], _, _ => rfl
  | _ :: r, 0, h => by simp at h
  | _ :: r, i + 1, h => gm_ge r i (by simpa using h)
theorem gm_app : ∀ (l r : List MO) (i : Nat), gm (l ++ r) i = if i < l.length then gm l i else gm r (i - l.length)
  | [], r, i => by simp
  | x :: l, r, 0 => by simp [gm]
  | x :: l, r, i + 1 => by
    show gm (l ++ r) i = _
    rw [gm_app l r i]
    simp [gm]
theorem go_app : ∀ (l r : List (List Addr)) (i : Nat), go (l ++ r) i = if i < l.length then go l i else go r (i - l.length)
  | [], r, i => by simp
  | x :: l, r, 0 => by simp [go]
  | x :: l, r, i + 1 => by
    show go (l ++ r) i = _
    rw [go_app l r i]
    simp [go]
theorem go_ge : ∀ (l : List (List Addr)) (i : Nat), l.length ≤ i → go l i = []
  | [], _, _ => rfl
  | _ :: r, 0, h => by simp at h
  | _ :: r, i + 1, h => go_ge r i (by simpa using h)
theorem go_mem : ∀ (l : List (List Addr)) (i : Nat), i < l.length → go l i ∈ l
  | [], _, h => by simp at h
  | x :: r, 0, _ => List.mem_cons_self
  | x :: r, i + 1, h => List.mem_cons_of_mem _ (go_mem r i (by simpa using h))
theorem go_of_mem : ∀ (l : List (List Addr)) (x : List Addr), x ∈ l → ∃ i, i < l.length ∧ go l i = x
  | [], _, h => by simp at h
  | y :: r, x, h => by
    rcases List.mem_cons.mp h with rfl | h
    · exact ⟨0, by simp, rfl⟩
    · obtain ⟨i, h1, h2⟩ := go_of_mem r x h
      exact ⟨i + 1, by simpa using h1, h2⟩
theorem go_take : ∀ (l : List (List Addr)) (n i : Nat), go (l.take n) i = if i < n then go l i else []
  | [], n, i => by simp [go]
  | x :: r, 0, i => by simp [go]
  | x :: r, n + 1, 0 => by simp [go]
  | x :: r, n + 1, i + 1 => by
    show go (r.take n) i = _
    rw [go_take r n i]
    simp [go]
theorem gm_take : ∀ (l : List MO) (n i : Nat), gm (l.take n) i = if i < n then gm l i else .gone
  | [], n, i => by simp [gm]
  | x :: r, 0, i => by simp [gm]
  | x :: r, n + 1, 0 => by simp [gm]
  | x :: r, n + 1, i + 1 => by
    show gm (r.take n) i = _
    rw [gm_take r n i]
    simp [gm]
section
variable (K : PySem.W.Frag) (A : Addr → Prop) (own : List (List Addr)) (H : Hp)
def ER (v : V) : En → Prop
  | .no => True
  | .da d => Rp K A H v d
  | .mu k => ∃ a r, go own k = a :: r ∧ v = .ref a
def ERL : List V → List En → Prop
  | [], [] => True
  | v :: vs, x :: xs => ER K A own H v x ∧ ERL vs xs
  | _, _ => False
def RKV : List (Key × V) → List (Key × D) → Prop
  | [], [] => True
  | p :: ws, q :: kvs => p.1 = q.1 ∧ Rp K A H p.2 q.2 ∧ RKV ws kvs
  | _, _ => False
def RKE : List (Str × V) → List (Str × En) → Prop
  | [], [] => True
  | p :: ws, q :: kvs => p.1 = q.1 ∧ ER K A own H p.2 q.2 ∧ RKE ws kvs
  | _, _ => False
def turnMax : Int := 2 ^ 60
/-- the code object's table: what it tells are code objects of the name q -/
def TabA (P : Addr) (q : Str) : Prop := ∃ ps : Array Value, H P = some (.tbl ps) ∧ PySem.TriplesOk ps.toList ∧ ∀ (pos : Pos) (cv : Value), PySem.codeAmong pos ps.toList = some cv → ∃ c, cv = .ref c ∧ H c = some (LamX.CodeO c q) ∧ ¬ A c
/-- the def q's own code object and its table -/
def TabC (q : Str) (c P : Addr) : Prop := ∃ (f : Addr) (oc : Value) (od : Option Addr) (fd : FuncData) (osl : Array (Option Value)), PySem.W.nsIn K mainGlobals q = some (some (.ref f)) ∧ K.lookup f = some ⟨oc, od, .func fd, osl⟩ ∧ fd.code = .ref c ∧ PySem.W.codeHdIn K c P = true
def HOb (a : Addr) (r : List Addr) (ws : List (Str × V)) : Sh → Prop
  | .obj c => ∃ C dx, PySem.W.nsIn K mainGlobals c = some (some (.ref C)) ∧ r = [dx] ∧ H a = some (.ins C dx ws) ∧ H dx = some (.own a)
  | .lst => r = [] ∧ H a = some (.lst (ws.map (·.2)))
  | .tup => r = [] ∧ H a = some (.tup (ws.map (·.2)))
  | .dct => r = [] ∧ H a = some (.dK (ws.map fun p => (.inr p.1, p.2)))
def MR : List Addr → MO → Prop
  | _, .gone => True
  | l, .lst ds => ∃ a vs, l = [a] ∧ H a = some (.lst vs) ∧ RpL K A H vs ds
  | l, .dct kvs => ∃ a ws, l = [a] ∧ H a = some (.dK ws) ∧ RKV K A H ws kvs
  | l, .rnd n => ∃ (a c : Addr) (cs : List Int) (t : Int), l = [a, c] ∧ H a = some (.dK [(.inr "cells", .ref c), (.inr "turn", .int t)]) ∧ H c = some (.lst (cs.map V.int)) ∧ 1 ≤ cs.length ∧ cs.length ≤ 63 ∧ 0 ≤ t ∧ t + (n : Int) ≤ turnMax
  | l, .box n => ∃ (a : Addr) (x y z : Int), l = [a] ∧ H a = some (.lst [.int x, .int y, .int z]) ∧ 0 ≤ x ∧ 0 ≤ y ∧ y < 2 ^ 62 ∧ 0 ≤ z ∧ z + (n : Int) ≤ turnMax
  | l, .tab q => ∃ P c, l = [P] ∧ TabC K q c P ∧ TabA A H P (q ++ ".<locals>." ++ "<lambda>")
  | l, .ins C fs => ∃ (a : Addr) (r : List Addr) (ws : List (Str × V)), l = a :: r ∧ HOb K H a r ws C ∧ RKE K A own H ws fs
end
section
variable {K : PySem.W.Frag} {A A' : Addr → Prop} {own own' : List (List Addr)} {H H' : Hp}
/-- further on: what is known of values is kept -/
structure Up (A : Addr → Prop) (own : List (List Addr)) (H : Hp) (A' : Addr → Prop) (own' : List (List Addr)) (H' : Hp) : Prop where
  kp : Kp A H A' H'
  ow : ∀ k a r, go own k = a :: r → go own' k = a :: r
theorem Up.refl : Up A own H A own H := ⟨Kp.refl, fun _ _ _ h => h⟩
theorem Up.trans {A'' : Addr → Prop} {own'' : List (List Addr)} {H'' : Hp} (p : Up A own H A' own' H') (q : Up A' own' H' A'' own'' H'') : Up A own H A'' own'' H'' :=
  ⟨p.kp.trans q.kp, fun k a r h => q.ow k a r (p.ow k a r h)⟩
theorem ER.up (u : Up A own H A' own' H') {v : V} : ∀ {x : En}, ER K A own H v x → ER K A' own' H' v x
  | .no, _ => trivial
  | .da _, h => Rp.mono u.kp h
  | .mu k, ⟨a, r, e, h⟩ => ⟨a, r, u.ow k a r e, h⟩
theorem ERL.up (u : Up A own H A' own' H') : ∀ {vs : List V} {xs : List En}, ERL K A own H vs xs → ERL K A' own' H' vs xs
  | [], [], _ => trivial
  | _ :: _, _ :: _, ⟨h, t⟩ => ⟨h.up u, ERL.up u t⟩
theorem RKV.up (u : Kp A H A' H') : ∀ {ws : List (Key × V)} {kvs : List (Key × D)}, RKV K A H ws kvs → RKV K A' H' ws kvs
  | [], [], _ => trivial
  | _ :: _, _ :: _, ⟨e, h, t⟩ => ⟨e, Rp.mono u h, RKV.up u t⟩
theorem RKE.up (u : Up A own H A' own' H') : ∀ {ws : List (Str × V)} {kvs : List (Str × En)}, RKE K A own H ws kvs → RKE K A' own' H' ws kvs
  | [], [], _ => trivial
  | _ :: _, _ :: _, ⟨e, h, t⟩ => ⟨e, h.up u, RKE.up u t⟩
theorem HOb.up {a : Addr} {r : List Addr} {ws : List (Str × V)} {C : Sh} (h : HOb K H a r ws C) (hl : ∀ b o, b ∈ a :: r → H b = some o → H' b = some o) : HOb K H' a r ws C := by
  cases C with
  | obj C =>
    obtain ⟨C', dx, h0, rfl, h1, h2⟩ := h
    exact ⟨C', dx, h0, rfl, hl _ _ (by simp) h1, hl _ _ (by simp) h2⟩
  | dct => exact ⟨h.1, hl _ _ (by simp) h.2⟩
  | lst => exact ⟨h.1, hl _ _ (by simp) h.2⟩
  | tup => exact ⟨h.1, hl _ _ (by simp) h.2⟩
/-- an object whose own addresses are kept -/
theorem MR.up (u : Up A own H A' own' H') {l : List Addr} {m : MO} (h : MR K A own H l m) (hl : ∀ a o, a ∈ l → H a = some o → H' a = some o) : MR K A' own' H' l m := by
  cases m with
  | gone => trivial
  | lst ds =>
    obtain ⟨a, vs, rfl, h1, h2⟩ := h
    exact ⟨a, vs, rfl, hl _ _ (by simp) h1, RpL.mono u.kp h2⟩
  | dct kvs =>
    obtain ⟨a, ws, rfl, h1, h2⟩ := h
    exact ⟨a, ws, rfl, hl _ _ (by simp) h1, h2.up u.kp⟩
  | rnd n =>
    obtain ⟨a, c, cs, t, rfl, h1, h2, h3⟩ := h
    exact ⟨a, c, cs, t, rfl, hl _ _ (by simp) h1, hl _ _ (by simp) h2, h3⟩
  | box n =>
    obtain ⟨a, x, y, z, rfl, h1, h3⟩ := h
    exact ⟨a, x, y, z, rfl, hl _ _ (by simp) h1, h3⟩
  | tab q =>
    obtain ⟨P, c, rfl, hc, ps, h1, h2, h3⟩ := h
    refine ⟨P, c, rfl, hc, ps, hl _ _ (by simp) h1, h2, fun pos cv e => ?_⟩
    obtain ⟨c', e1, e2, e3⟩ := h3 pos cv e
    exact ⟨c', e1, u.kp _ _ e3 e2⟩
  | ins C fs =>
    obtain ⟨a, r, ws, rfl, h1, h3⟩ := h
    exact ⟨a, r, ws, rfl, h1.up hl, h3.up u⟩
/-- the objects that change, each at its own addresses -/
structure Own (K : PySem.W.Frag) (A : Addr → Prop) (own : List (List Addr)) (H : Hp) (ms : List MO) : Prop where
  ol : own.length = ms.length
  mr : ∀ k, MR K A own H (go own k) (gm ms k)
  dj : ∀ k j a, a ∈ go own k → a ∈ go own j → k = j
  ld : ∀ k, (go own k).Nodup
  oa : ∀ k a, a ∈ go own k → A a
  al : ∀ a, A a → H a ≠ none
structure Bd where
  H0 : Hp
  own0 : List (List Addr)
  A0 : Addr → Prop
structure Rel (K : PySem.W.Frag) (b : Bd) (A : Addr → Prop) (own : List (List Addr)) (H : Hp) (σ : L2.St) (s : S) : Prop extends Own K A own H s.ms where
  len : σ.length = s.es.length
  sl : ∀ i, gt s.es i = .no ∨ ∃ v, σ[i]? = some (some v) ∧ ER K A own H v (gt s.es i)
  ge : ∀ a, b.A0 a → A a
  fr : ∀ a o, (∀ k, a ∉ go b.own0 k) → b.H0 a = some o → H a = some o
  fo : ∀ k a, a ∈ go own k → (∃ j, a ∈ go b.own0 j) ∨ b.H0 a = none
  pre : own.take s.np = b.own0
  npl : s.np ≤ own.length
  lim : ∀ a, A a → b.A0 a ∨ b.H0 a = none
  a0 : ∀ a, b.A0 a → b.H0 a ≠ none
variable {b : Bd} {σ : L2.St} {s : S}
theorem Rel.np (r : Rel K b A own H σ s) : b.own0.length = s.np := by
  rw [← r.pre, List.length_take]
  have := r.npl
  omega
/-- the heap has grown at an untracked place -/
theorem Rel.ext (r : Rel K b A own H σ s) (hx : ∀ a o, H a = some o → H' a = some o) : Rel K b A own H' σ s ∧ Up A own H A own H' := by
  have u : Up A own H A own H' := ⟨fun a o n h => ⟨hx _ _ h, n⟩, fun _ _ _ h => h⟩
  exact ⟨{ r with
    mr := fun k => (r.mr k).up u fun a o _ h => hx a o h
    al := fun a h z => by
      cases q : H a with
      | none => exact r.al a h q
      | some o => rw [hx a o q] at z; cases z
    sl := fun i => (r.sl i).imp id fun ⟨v, e, h⟩ => ⟨v, e, h.up u⟩
    fr := fun a o n h => hx _ _ (r.fr a o n h) }, u⟩
theorem Rel.new (r : Rel K b A own H σ s) {p : Addr} {o : HO} (hp : H p = none) : Rel K b A own (upd H p o) σ s ∧ Up A own H A own (upd H p o) :=
  r.ext fun a u h => by rw [upd_ne (ne_of_none h hp)]; exact h
theorem Rel.freshA (r : Rel K b A own H σ s) {p : Addr} (hp : H p = none) : ¬ A p := fun h => r.al p h hp
theorem Rel.own0A (r : Rel K b A own H σ s) {j : Nat} {a : Addr} (h : a ∈ go b.own0 j) : A a := by
  rw [← r.pre, go_take] at h
  split at h
  · exact r.oa _ _ h
  · cases h
theorem Rel.fresh0 (r : Rel K b A own H σ s) {p : Addr} (hp : H p = none) : b.H0 p = none := by
  cases q : b.H0 p with
  | none => rfl
  | some o =>
    refine absurd (r.fr p o (fun k hk => r.al p (r.own0A hk) hp) q) ?_
    rw [hp]; intro z; cases z
/-- a new object that may change -/
theorem Rel.newMu (r : Rel K b A own H σ s) {p : Addr} {o : HO} (hp : H p = none) (m : MO) (hm : ∀ (A' : Addr → Prop) (own' : List (List Addr)), Up A own H A' own' (upd H p o) → MR K A' own' (upd H p o) [p] m) :
    Rel K b (fun a => A a ∨ a = p) (own ++ [[p]]) (upd H p o) σ { s with ms := s.ms ++ [m] } ∧ Up A own H (fun a => A a ∨ a = p) (own ++ [[p]]) (upd H p o) ∧ go (own ++ [[p]]) s.ms.length = [p] := by
  have hx : ∀ a u, H a = some u → upd H p o a = some u := fun a u h => by rw [upd_ne (ne_of_none h hp)]; exact h
  have gl : ∀ k, go (own ++ [[p]]) k = if k < own.length then go own k else if k = own.length then [p] else [] := fun k => by
    rw [go_app]
    by_cases h : k < own.length
    · rw [if_pos h, if_pos h]
    · rw [if_neg h, if_neg h]
      by_cases h2 : k = own.length
      · subst h2; rw [Nat.sub_self, if_pos rfl]; rfl
      · rw [if_neg h2]; exact go_ge _ _ (by simp; omega)
  have gml : ∀ k, gm (s.ms ++ [m]) k = if k < own.length then gm s.ms k else if k = own.length then m else .gone := fun k => by
    rw [gm_app, ← r.ol]
    by_cases h : k < own.length
    · rw [if_pos h, if_pos h]
    · rw [if_neg h, if_neg h]
      by_cases h2 : k = own.length
      · subst h2; rw [Nat.sub_self, if_pos rfl]; rfl
      · rw [if_neg h2]; exact gm_ge _ _ (by simp; omega)
  have u : Up A own H (fun a => A a ∨ a = p) (own ++ [[p]]) (upd H p o) := ⟨fun a o n h => ⟨hx _ _ h, fun z => by
      rcases z with z | z
      · exact n z
      · subst z
        rw [hp] at h; cases h⟩, fun k a q h => by
      rw [gl]
      by_cases h1 : k < own.length
      · rw [if_pos h1]; exact h
      · rw [go_ge _ _ (by omega)] at h; cases h⟩
  have np : ∀ k, p ∉ go own k := fun k h => r.al p (r.oa k p h) hp
  refine ⟨⟨⟨by simp [r.ol], fun k => ?_, fun k j a h1 h2 => ?_, fun k => ?_, fun k a h => ?_, fun a h => ?_⟩, r.len, fun i => (r.sl i).imp id fun ⟨v, e, h⟩ => ⟨v, e, h.up u⟩, fun a h => .inl (r.ge a h), fun a o n h => hx _ _ (r.fr a o n h), fun k a h => ?_, ?_, ?_, fun a h => ?_, r.a0⟩, u, ?_⟩
  · rw [gl, gml]
    by_cases h1 : k < own.length
    · rw [if_pos h1, if_pos h1]; exact (r.mr k).up u fun a o _ h => hx a o h
    · rw [if_neg h1, if_neg h1]
      by_cases h2 : k = own.length
      · rw [if_pos h2, if_pos h2]; exact hm _ _ u
      · rw [if_neg h2, if_neg h2]; trivial
  · rw [gl] at h1 h2
    by_cases k1 : k < own.length
    · rw [if_pos k1] at h1
      by_cases j1 : j < own.length
      · rw [if_pos j1] at h2; exact r.dj k j a h1 h2
      · rw [if_neg j1] at h2
        by_cases j2 : j = own.length
        · rw [if_pos j2] at h2; cases List.mem_singleton.mp h2; exact (np _ h1).elim
        · rw [if_neg j2] at h2; cases h2
    · rw [if_neg k1] at h1
      by_cases k2 : k = own.length
      · rw [if_pos k2] at h1
        cases List.mem_singleton.mp h1
        by_cases j1 : j < own.length
        · rw [if_pos j1] at h2; exact (np _ h2).elim
        · rw [if_neg j1] at h2
          by_cases j2 : j = own.length
          · omega
          · rw [if_neg j2] at h2; cases h2
      · rw [if_neg k2] at h1; cases h1
  · rw [gl]
    split
    · exact r.ld k
    · split <;> simp
  · rw [gl] at h
    split at h
    · exact .inl (r.oa k a h)
    · split at h
      · exact .inr (List.mem_singleton.mp h)
      · cases h
  · rcases h with h | h
    · intro z
      cases q : H a with
      | none => exact r.al a h q
      | some o => rw [hx a o q] at z; cases z
    · subst h; rw [upd_same]; intro z; cases z
  · rw [gl] at h
    split at h
    · exact r.fo k a h
    · split at h
      · cases List.mem_singleton.mp h
        exact .inr (r.fresh0 hp)
      · cases h
  · rw [List.take_append_of_le_length r.npl]; exact r.pre
  · rw [List.length_append]; have := r.npl; show s.np ≤ _; omega
  · rcases h with h | h
    · exact r.lim a h
    · subst h; exact .inr (r.fresh0 hp)
  · rw [gl, ← r.ol, if_neg (Nat.lt_irrefl _), if_pos rfl]
/-- an object that may change has changed -/
theorem Rel.chg (r : Rel K b A own H σ s) (k : Nat) (m : MO) (hk : ∀ a o, a ∉ go own k → H a = some o → H' a = some o) (ha : ∀ a, a ∈ go own k → H' a ≠ none)
    (hm : Up A own H A own H' → MR K A own H' (go own k) m) (hl : k < s.ms.length) :
    Rel K b A own H' σ { s with ms := sm s.ms k m } ∧ Up A own H A own H' := by
  have u : Up A own H A own H' := ⟨fun a o n h => ⟨hk _ _ (fun z => n (r.oa k a z)) h, n⟩, fun _ _ _ h => h⟩
  refine ⟨⟨⟨by rw [sm_length]; exact r.ol, fun j => ?_, r.dj, r.ld, r.oa, fun a h => ?_⟩, r.len, fun i => (r.sl i).imp id fun ⟨v, e, h⟩ => ⟨v, e, h.up u⟩, r.ge, fun a o n h => ?_, r.fo, r.pre, r.npl, r.lim, r.a0⟩, u⟩
  · rw [gm_sm]
    by_cases h : k = j
    · subst h; rw [if_pos ⟨rfl, hl⟩]; exact hm u
    · rw [if_neg fun z => h z.1]
      exact (r.mr j).up u fun a o h1 h2 => hk a o (fun z => h (r.dj k j a z h1)) h2
  · by_cases q : a ∈ go own k
    · exact ha a q
    · intro z
      cases e : H a with
      | none => exact r.al a h e
      | some o => rw [hk a o q e] at z; cases z
  · by_cases q : a ∈ go own k
    · rcases r.fo k a q with ⟨j, z⟩ | z
      · exact (n j z).elim
      · rw [z] at h; cases h
    · exact hk a o q (r.fr a o n h)
/-- a slot is stored -/
theorem Rel.slot (r : Rel K b A own H σ s) {i : Nat} {v : V} {x : En} (h : ER K A own H v x) : Rel K b A own H (σ.set i (some v)) { s with es := st s.es i x } := by
  refine { r with len := by rw [List.length_set, st_length]; exact r.len, sl := fun j => ?_ }
  show gt (st s.es i x) j = .no ∨ _
  rw [gt_st]
  by_cases e : i = j ∧ i < s.es.length
  · obtain ⟨e1, e2⟩ := e
    subst e1
    refine .inr ⟨v, ?_, ?_⟩
    · rw [List.getElem?_set_self (by rw [r.len]; exact e2)]
    · rw [if_pos ⟨rfl, e2⟩]; exact h
  · rw [if_neg e]
    rcases r.sl j with q | ⟨v', e', q⟩
    · exact .inl q
    · by_cases hij : i = j
      · subst hij
        have : ¬ i < s.es.length := fun z => e ⟨rfl, z⟩
        rw [gt_ge _ _ (by omega)]
        exact .inl rfl
      · exact .inr ⟨v', by rw [List.getElem?_set_ne hij]; exact e', q⟩
end
end DL
namespace DL
open PySem L2
abbrev WE := S → (S → En → Prop) → Prop
abbrev WT := S → (S → Bool → Prop) → Prop
abbrev WA := S → (S → List En → Prop) → Prop
abbrev WG := En → S → (S → Prop) → Prop
structure Dn where
  nx : S → Prop
  rt : S → En → Prop
  bk : S → Prop
  ct : S → Prop
abbrev WS := S → Dn → Prop
section
variable (K : PySem.W.Frag) (b : Bd) (A : Addr → Prop) (own : List (List Addr)) (H : Hp) (σ : L2.St)
def PostE (Ks : S → En → Prop) (Q : VK) : Prop := ∀ (A' : Addr → Prop) (own' : List (List Addr)) (H' : Hp) (v : V) (s' : S) (x : En), Rel K b A' own' H' σ s' → Up A own H A' own' H' → ER K A' own' H' v x → Ks s' x → Q v H'
def PostT (Ks : S → Bool → Prop) (Q : Bool → Hp → Prop) : Prop := ∀ (A' : Addr → Prop) (own' : List (List Addr)) (H' : Hp) (s' : S) (c : Bool), Rel K b A' own' H' σ s' → Up A own H A' own' H' → Ks s' c → Q c H'
def PostA (Ks : S → List En → Prop) (Q : List V → Hp → Prop) : Prop := ∀ (A' : Addr → Prop) (own' : List (List Addr)) (H' : Hp) (vs : List V) (s' : S) (xs : List En), Rel K b A' own' H' σ s' → Up A own H A' own' H' → ERL K A' own' H' vs xs → Ks s' xs → Q vs H'
/-- σ' is σ but for the slots js -/
def Sto (js : List Nat) (σ σ' : L2.St) : Prop := σ'.length = σ.length ∧ ∀ i, i ∉ js → σ'[i]? = σ[i]?
def PostG (js : List Nat) (Ks : S → Prop) (Q : L2.St → Hp → Prop) : Prop := ∀ (A' : Addr → Prop) (own' : List (List Addr)) (H' : Hp) (σ' : L2.St) (s' : S), Rel K b A' own' H' σ' s' → Up A own H A' own' H' → Sto js σ σ' → Ks s' → Q σ' H'
/-- the ends of a block -/
structure Mt (D : Dn) (E : Ends) : Prop where
  nx : ∀ (A' : Addr → Prop) (own' : List (List Addr)) (H' : Hp) (σ' : L2.St) (s' : S), Rel K b A' own' H' σ' s' → Kp A H A' H' → D.nx s' → E.nx σ' H'
  rt : ∀ (A' : Addr → Prop) (own' : List (List Addr)) (H' : Hp) (σ' : L2.St) (s' : S) (v : V) (x : En), Rel K b A' own' H' σ' s' → Kp A H A' H' → ER K A' own' H' v x → D.rt s' x → E.rt v H'
  bk : ∀ (A' : Addr → Prop) (own' : List (List Addr)) (H' : Hp) (σ' : L2.St) (s' : S), Rel K b A' own' H' σ' s' → Kp A H A' H' → D.bk s' → E.bk σ' H'
  ct : ∀ (A' : Addr → Prop) (own' : List (List Addr)) (H' : Hp) (σ' : L2.St) (s' : S), Rel K b A' own' H' σ' s' → Kp A H A' H' → D.ct s' → E.ct σ' H'
end
structure DE (X : Cx) (e : Expr) (w : WE) : Prop where
  ex : ∃ te, PE X e te ∧ ∀ (b : Bd) (A : Addr → Prop) (own : List (List Addr)) (H : Hp) (σ : L2.St) (s : S) (Ks : S → En → Prop) (Q : VK), Rel X.K b A own H σ s → w s Ks → PostE X.K b A own H σ Ks Q → te σ H Q
structure DT (X : Cx) (e : Expr) (w : WT) : Prop where
  ex : ∃ tt, PT X e tt ∧ ∀ (b : Bd) (A : Addr → Prop) (own : List (List Addr)) (H : Hp) (σ : L2.St) (s : S) (Ks : S → Bool → Prop) (Q : Bool → Hp → Prop), Rel X.K b A own H σ s → w s Ks → PostT X.K b A own H σ Ks Q → tt σ H Q
structure DW (X : Cx) (e : Expr) (w : WT) : Prop where
  ex : ∃ tt, PW X e tt ∧ ∀ (b : Bd) (A : Addr → Prop) (own : List (List Addr)) (H : Hp) (σ : L2.St) (s : S) (Ks : S → Bool → Prop) (Q : Bool → Hp → Prop), Rel X.K b A own H σ s → w s Ks → PostT X.K b A own H σ Ks Q → tt σ H Q
structure DA (X : Cx) (es : List Expr) (w : WA) : Prop where
  ex : ∃ ta, PA X es ta ∧ ∀ (b : Bd) (A : Addr → Prop) (own : List (List Addr)) (H : Hp) (σ : L2.St) (s : S) (Ks : S → List En → Prop) (Q : List V → Hp → Prop), Rel X.K b A own H σ s → w s Ks → PostA X.K b A own H σ Ks Q → ta σ H Q
structure DG (X : Cx) (tg : Expr) (js : List Nat) (w : WG) : Prop where
  ex : ∃ g, PG X tg g ∧ ∀ (b : Bd) (A : Addr → Prop) (own : List (List Addr)) (H : Hp) (σ : L2.St) (s : S) (v : V) (x : En) (Ks : S → Prop) (Q : L2.St → Hp → Prop), Rel X.K b A own H σ s → ER X.K A own H v x → w x s Ks → PostG X.K b A own H σ js Ks Q → g v σ H Q
structure DS (X : Cx) (st : Stmt) (w : WS) : Prop where
  ex : ∃ t, PS X st t ∧ ∀ (b : Bd) (A : Addr → Prop) (own : List (List Addr)) (H : Hp) (σ : L2.St) (s : S) (D : Dn) (E : Ends), Rel X.K b A own H σ s → w s D → Mt X.K b A H D E → t E σ H
structure DSs (X : Cx) (st : List Stmt) (w : WS) : Prop where
  ex : ∃ t, PSs X st t ∧ ∀ (b : Bd) (A : Addr → Prop) (own : List (List Addr)) (H : Hp) (σ : L2.St) (s : S) (D : Dn) (E : Ends), Rel X.K b A own H σ s → w s D → Mt X.K b A H D E → t E σ H
section
variable {K : PySem.W.Frag} {b : Bd} {A A' : Addr → Prop} {own own' : List (List Addr)} {H H' : Hp} {σ : L2.St}
theorem PostE.up {Ks : S → En → Prop} {Q : VK} (p : PostE K b A own H σ Ks Q) (u : Up A own H A' own' H') : PostE K b A' own' H' σ Ks Q := fun _ _ _ _ _ _ r u' => p _ _ _ _ _ _ r (u.trans u')
theorem PostE.da {Ks : S → En → Prop} {Q : VK} {v : V} {d : D} {s' : S} (k : PostE K b A own H σ Ks Q) (r : Rel K b A' own' H' σ s') (u : Up A own H A' own' H') (h : Rp K A' H' v d) (q : Ks s' (.da d)) : Q v H' := k _ _ _ _ _ (.da d) r u h q
theorem PostT.up {Ks : S → Bool → Prop} {Q : Bool → Hp → Prop} (p : PostT K b A own H σ Ks Q) (u : Up A own H A' own' H') : PostT K b A' own' H' σ Ks Q := fun _ _ _ _ _ r u' => p _ _ _ _ _ r (u.trans u')
theorem PostA.up {Ks : S → List En → Prop} {Q : List V → Hp → Prop} (p : PostA K b A own H σ Ks Q) (u : Up A own H A' own' H') : PostA K b A' own' H' σ Ks Q := fun _ _ _ _ _ _ r u' => p _ _ _ _ _ _ r (u.trans u')
theorem Mt.up {D : Dn} {E : Ends} (p : Mt K b A H D E) (u : Kp A H A' H') : Mt K b A' H' D E :=
  ⟨fun _ _ _ _ _ r q => p.nx _ _ _ _ _ r (u.trans q), fun _ _ _ _ _ _ _ r q => p.rt _ _ _ _ _ _ _ r (u.trans q), fun _ _ _ _ _ r q => p.bk _ _ _ _ _ r (u.trans q), fun _ _ _ _ _ r q => p.ct _ _ _ _ _ r (u.trans q)⟩
end
section
variable {X : Cx} {a b c e : Expr} {wa wb wc we : WE} {pos : Pos}
/-! ### names, constants -/
def onE (x : En) (k : En → Prop) : Prop := match x with | .no => False | .da d => k (.da d) | .mu j => k (.mu j)
theorem onE_inv {x : En} {k : En → Prop} (h : onE x k) : x ≠ .no ∧ k x := by
  cases x with
  | no => exact h.elim
  | da d => exact ⟨fun z => (nomatch z), h⟩
  | mu j => exact ⟨fun z => (nomatch z), h⟩
def dVar (i : Nat) : WE := fun s Ks => onE (gt s.es i) (Ks s)
theorem dv (i : Nat) {x : Str} {pos : Pos} (hN : X.N[i]? = some x := by rfl) (hv : Vis X.env.scope x := by first | exact Or.inl rfl | exact Or.inr (Or.inl rfl) | exact Or.inr (Or.inr rfl)) (hd : (x == ("__debug__" : Str)) = false := by decide)
    (hcd : (x == ("__classdict__" : Str)) = false := by decide) : DE X (.Name x pos) (dVar i) := ⟨tVar i, pe_var hN hv hd hcd, fun b A own H σ s Ks Q r h k => by
  obtain ⟨n, h⟩ := onE_inv h
  rcases r.sl i with z | ⟨v, e, q⟩
  · exact (n z).elim
  · exact ⟨v, e, k _ _ _ _ _ _ r Up.refl q h⟩⟩
def dC (d : D) : WE := fun s Ks => Ks s (.da d)
theorem de_c {v : V} {d : D} (h : PE X e (tC v)) (hr : ∀ A H, Rp X.K A H v d) : DE X e (dC d) := ⟨_, h, fun b A own H σ s Ks Q r q k => k.da r Up.refl (hr _ _) q⟩
theorem de_int {i : Int} {j pos} : DE X (.Constant (.int i) j pos) (dC (.int i)) := de_c pe_int fun _ _ => .int i
theorem de_bl {c : Bool} {j pos} : DE X (.Constant (.bool c) j pos) (dC (.bool c)) := de_c pe_bl fun _ _ => .bl c
theorem de_non {j pos} : DE X (.Constant .none j pos) (dC .none) := de_c pe_non fun _ _ => .non
theorem de_str {x j pos} : DE X (.Constant (.str x) j pos) (dC (.str x)) := de_c pe_str fun _ _ => .str x
/-- a constant of the module -/
theorem de_gint {x : Str} {i : Int} {pos} (hg : Gl X x) (hm : ∃ t, X.mg x = some (.int i t)) (hd : (x == ("__debug__" : Str)) = false := by decide) : DE X (.Name x pos) (dC (.int i)) :=
  de_c (pe_glob hg hm.choose_spec (show RelV (.int i) _ from ⟨_, rfl⟩) hd) fun _ _ => .int i
theorem de_gstr {x : Str} {i : Str} {pos} (hg : Gl X x) (hm : ∃ t, X.mg x = some (.str i t)) (hd : (x == ("__debug__" : Str)) = false := by decide) : DE X (.Name x pos) (dC (.str i)) :=
  de_c (pe_glob hg hm.choose_spec (show RelV (.str i) _ from ⟨_, rfl⟩) hd) fun _ _ => .str i
/-! ### two values -/
def OpD (K : PySem.W.Frag) (r : R2) (rd : S → En → En → (S → En → Prop) → Prop) : Prop := ∀ (b : Bd) (A : Addr → Prop) (own : List (List Addr)) (H : Hp) (σ : L2.St) (s : S) (vx vy : V) (x y : En) (Ks : S → En → Prop) (Q : VK),
  Rel K b A own H σ s → ER K A own H vx x → ER K A own H vy y → rd s x y Ks → PostE K b A own H σ Ks Q → r vx vy H Q
def d2 (rd : S → En → En → (S → En → Prop) → Prop) (wa wb : WE) : WE := fun s Ks => wa s fun s1 x => wb s1 fun s2 y => rd s2 x y Ks
theorem d2_run {r : R2} {rd : S → En → En → (S → En → Prop) → Prop} {ta tb : TE} (hd : OpD X.K r rd)
    (qa : ∀ (b : Bd) (A : Addr → Prop) (own : List (List Addr)) (H : Hp) (σ : L2.St) (s : S) (Ks : S → En → Prop) (Q : VK), Rel X.K b A own H σ s → wa s Ks → PostE X.K b A own H σ Ks Q → ta σ H Q)
    (qb : ∀ (b : Bd) (A : Addr → Prop) (own : List (List Addr)) (H : Hp) (σ : L2.St) (s : S) (Ks : S → En → Prop) (Q : VK), Rel X.K b A own H σ s → wb s Ks → PostE X.K b A own H σ Ks Q → tb σ H Q)
    (b : Bd) (A : Addr → Prop) (own : List (List Addr)) (H : Hp) (σ : L2.St) (s : S) (Ks : S → En → Prop) (Q : VK) (R : Rel X.K b A own H σ s) (h : d2 rd wa wb s Ks) (k : PostE X.K b A own H σ Ks Q) : tOp r ta tb σ H Q := by
  show ta σ H fun x H1 => tb σ H1 fun y H2 => r x y H2 Q
  refine qa _ _ _ _ _ _ _ _ R h fun A1 o1 H1 v1 s1 x1 R1 U1 E1 h1 => ?_
  refine qb _ _ _ _ _ _ _ _ R1 h1 fun A2 o2 H2 v2 s2 x2 R2 U2 E2 h2 => ?_
  exact hd _ _ _ _ _ _ _ _ _ _ _ _ R2 (E1.up U2) E2 h2 (k.up (U1.trans U2))
theorem de_op {op : Operator} {r : R2} {rd} (ho : OpR X (binaryOp op) r) (hd : OpD X.K r rd) (ha : DE X a wa) (hb : DE X b wb) : DE X (.BinOp a op b pos) (d2 rd wa wb) := by
  obtain ⟨ta, pa, qa⟩ := ha.ex
  obtain ⟨tb, pb, qb⟩ := hb.ex
  exact ⟨_, pe_op ho pa pb, d2_run hd qa qb⟩
theorem de_cmp {op : CmpOp} {r : R2} {rd} (ho : OpR X (compareOp op) r) (hd : OpD X.K r rd) (ha : DE X a wa) (hb : DE X b wb) (hm : behindInMarks op b = false) : DE X (.Compare a [op] [b] pos) (d2 rd wa wb) := by
  obtain ⟨ta, pa, qa⟩ := ha.ex
  obtain ⟨tb, pb, qb⟩ := hb.ex
  exact ⟨_, pe_cmpR ho pa pb hm, d2_run hd qa qb⟩
def isB (x : En) (k : Bool → Prop) : Prop := match x with | .da (.bool c) => k c | _ => False
theorem isB_inv {x : En} {k : Bool → Prop} (h : isB x k) : ∃ c, x = .da (.bool c) ∧ k c := by
  unfold isB at h
  split at h
  · exact ⟨_, rfl, h⟩
  · exact h.elim
def tT (w : WE) : WT := fun s Ks => w s fun s1 x => isB x (Ks s1)
theorem tT_run {te : TE} {w : WE} (qa : ∀ (b : Bd) (A : Addr → Prop) (own : List (List Addr)) (H : Hp) (σ : L2.St) (s : S) (Ks : S → En → Prop) (Q : VK), Rel X.K b A own H σ s → w s Ks → PostE X.K b A own H σ Ks Q → te σ H Q)
    (b : Bd) (A : Addr → Prop) (own : List (List Addr)) (H : Hp) (σ : L2.St) (s : S) (Ks : S → Bool → Prop) (Q : Bool → Hp → Prop) (R : Rel X.K b A own H σ s) (h : tT w s Ks) (k : PostT X.K b A own H σ Ks Q) : te σ H fun x H' => ∃ c, x = .bl c ∧ Q c H' := by
  refine qa _ _ _ _ _ _ _ _ R h fun A1 o1 H1 v1 s1 x1 R1 U1 E1 h1 => ?_
  obtain ⟨c, rfl, h2⟩ := isB_inv h1
  cases E1
  exact ⟨c, rfl, k _ _ _ _ _ R1 U1 h2⟩
theorem dt_cmp {op : CmpOp} {r : R2} {rd} (ho : OpR X (compareOp op) r) (hd : OpD X.K r rd) (ha : DE X a wa) (hb : DE X b wb) (hm : behindInMarks op b = false) : DT X (.Compare a [op] [b] pos) (tT (d2 rd wa wb)) := by
  obtain ⟨ta, pa, qa⟩ := ha.ex
  obtain ⟨tb, pb, qb⟩ := hb.ex
  exact ⟨_, pt_cmpR ho pa pb hm, tT_run (d2_run hd qa qb)⟩
theorem dt_val (h : DE X e we) (he : ∀ whole, isTrue e X.env whole = (do let v ← whole; standAt e.pos; holding [v] (truthy v)) := by intro _; rfl) : DT X e (tT we) := by
  obtain ⟨te, pe, qe⟩ := h.ex
  exact ⟨_, pt_val pe he, tT_run qe⟩
/-! ### tests -/
def tAnd (u w : WT) : WT := fun s Ks => u s fun s1 c => (c = true → w s1 Ks) ∧ (c = false → Ks s1 false)
def tOr (u w : WT) : WT := fun s Ks => u s fun s1 c => (c = true → Ks s1 true) ∧ (c = false → w s1 Ks)
def tNot (u : WT) : WT := fun s Ks => u s fun s1 c => Ks s1 (!c)
variable {wt wu : WT} {rest : List Expr}
theorem dw_and1 (h : DT X a wt) : DW X (.BoolOp .And [a] pos) wt := by
  obtain ⟨ta, pa, qa⟩ := h.ex
  exact ⟨_, pw_and1 pa, qa⟩
theorem dw_or1 (h : DT X a wt) : DW X (.BoolOp .Or [a] pos) wt := by
  obtain ⟨ta, pa, qa⟩ := h.ex
  exact ⟨_, pw_or1 pa, qa⟩
theorem dw_and (h : DT X a wt) (h2 : DW X (.BoolOp .And (b :: rest) pos) wu) : DW X (.BoolOp .And (a :: b :: rest) pos) (tAnd wt wu) := by
  obtain ⟨ta, pa, qa⟩ := h.ex
  obtain ⟨tb, pb, qb⟩ := h2.ex
  refine ⟨_, pw_and pa pb, fun b A own H σ s Ks Q R h k => ?_⟩
  show ta σ H fun c H1 => if c = true then tb σ H1 Q else Q false H1
  refine qa _ _ _ _ _ _ _ _ R h fun A1 o1 H1 s1 c R1 U1 h1 => ?_
  cases c with
  | true => rw [if_pos rfl]; exact qb _ _ _ _ _ _ _ _ R1 (h1.1 rfl) (k.up U1)
  | false => rw [if_neg (by decide)]; exact k _ _ _ _ _ R1 U1 (h1.2 rfl)
theorem dw_or (h : DT X a wt) (h2 : DW X (.BoolOp .Or (b :: rest) pos) wu) : DW X (.BoolOp .Or (a :: b :: rest) pos) (tOr wt wu) := by
  obtain ⟨ta, pa, qa⟩ := h.ex
  obtain ⟨tb, pb, qb⟩ := h2.ex
  refine ⟨_, pw_or pa pb, fun b A own H σ s Ks Q R h k => ?_⟩
  show ta σ H fun c H1 => if c = true then Q true H1 else tb σ H1 Q
  refine qa _ _ _ _ _ _ _ _ R h fun A1 o1 H1 s1 c R1 U1 h1 => ?_
  cases c with
  | true => rw [if_pos rfl]; exact k _ _ _ _ _ R1 U1 (h1.1 rfl)
  | false => rw [if_neg (by decide)]; exact qb _ _ _ _ _ _ _ _ R1 (h1.2 rfl) (k.up U1)
theorem dt_bool (h : DW X a wt) : DT X a wt := by
  obtain ⟨ta, pa, qa⟩ := h.ex
  exact ⟨_, pa.pt, qa⟩
theorem dt_not (h : DT X a wt) : DT X (.UnaryOp .Not a pos) (tNot wt) := by
  obtain ⟨ta, pa, qa⟩ := h.ex
  exact ⟨_, pt_not pa, fun b A own H σ s Ks Q R h k => qa _ _ _ _ _ _ _ _ R h fun A1 o1 H1 s1 c R1 U1 h1 => k _ _ _ _ _ R1 U1 h1⟩
/-! values of and, or, not: truths -/
def dAnd (wa wb : WE) : WE := fun s Ks => wa s fun s1 x => isB x fun c => (c = true → wb s1 Ks) ∧ (c = false → Ks s1 (.da (.bool false)))
def dOr (wa wb : WE) : WE := fun s Ks => wa s fun s1 x => isB x fun c => (c = true → Ks s1 (.da (.bool true))) ∧ (c = false → wb s1 Ks)
def dNot (wa : WE) : WE := fun s Ks => wa s fun s1 x => isB x fun c => Ks s1 (.da (.bool (!c)))
theorem de_one {op} (h : DE X a wa) : DE X (.BoolOp op [a] pos) wa := by
  obtain ⟨ta, pa, qa⟩ := h.ex
  exact ⟨_, pe_one pa, qa⟩
theorem de_and (h : DE X a wa) (h2 : DE X (.BoolOp .And (b :: rest) pos) wb) : DE X (.BoolOp .And (a :: b :: rest) pos) (dAnd wa wb) := by
  obtain ⟨ta, pa, qa⟩ := h.ex
  obtain ⟨tb, pb, qb⟩ := h2.ex
  refine ⟨_, pe_and pa pb, fun b A own H σ s Ks Q R h k => ?_⟩
  show ta σ H fun x H1 => ∃ c, x = .bl c ∧ if c = true then tb σ H1 Q else Q (.bl false) H1
  refine qa _ _ _ _ _ _ _ _ R h fun A1 o1 H1 v1 s1 x1 R1 U1 E1 h1 => ?_
  obtain ⟨c, rfl, h2⟩ := isB_inv h1
  cases E1
  refine ⟨c, rfl, ?_⟩
  cases c with
  | true => rw [if_pos rfl]; exact qb _ _ _ _ _ _ _ _ R1 (h2.1 rfl) (k.up U1)
  | false => rw [if_neg (by decide)]; exact k.da R1 U1 (.bl _) (h2.2 rfl)
theorem de_or (h : DE X a wa) (h2 : DE X (.BoolOp .Or (b :: rest) pos) wb) : DE X (.BoolOp .Or (a :: b :: rest) pos) (dOr wa wb) := by
  obtain ⟨ta, pa, qa⟩ := h.ex
  obtain ⟨tb, pb, qb⟩ := h2.ex
  refine ⟨_, pe_or pa pb, fun b A own H σ s Ks Q R h k => ?_⟩
  show ta σ H fun x H1 => ∃ c, x = .bl c ∧ if c = true then Q (.bl true) H1 else tb σ H1 Q
  refine qa _ _ _ _ _ _ _ _ R h fun A1 o1 H1 v1 s1 x1 R1 U1 E1 h1 => ?_
  obtain ⟨c, rfl, h2⟩ := isB_inv h1
  cases E1
  refine ⟨c, rfl, ?_⟩
  cases c with
  | true => rw [if_pos rfl]; exact k.da R1 U1 (.bl _) (h2.1 rfl)
  | false => rw [if_neg (by decide)]; exact qb _ _ _ _ _ _ _ _ R1 (h2.2 rfl) (k.up U1)
theorem de_not (h : DE X a wa) : DE X (.UnaryOp .Not a pos) (dNot wa) := by
  obtain ⟨ta, pa, qa⟩ := h.ex
  refine ⟨_, pe_not pa, fun b A own H σ s Ks Q R h k => ?_⟩
  refine qa _ _ _ _ _ _ _ _ R h fun A1 o1 H1 v1 s1 x1 R1 U1 E1 h1 => ?_
  obtain ⟨c, rfl, h2⟩ := isB_inv h1
  cases E1
  exact ⟨c, rfl, k.da R1 U1 (.bl _) h2⟩
def dIf (wt : WT) (wa wb : WE) : WE := fun s Ks => wt s fun s1 c => (c = true → wa s1 Ks) ∧ (c = false → wb s1 Ks)
theorem de_if (hc : DT X c wt) (ha : DE X a wa) (hb : DE X b wb) : DE X (.IfExp c a b pos) (dIf wt wa wb) := by
  obtain ⟨tc, pc, qc⟩ := hc.ex
  obtain ⟨ta, pa, qa⟩ := ha.ex
  obtain ⟨tb, pb, qb⟩ := hb.ex
  refine ⟨_, pe_ifExp pc pa pb, fun b A own H σ s Ks Q R h k => ?_⟩
  show tc σ H fun c H1 => if c = true then ta σ H1 Q else tb σ H1 Q
  refine qc _ _ _ _ _ _ _ _ R h fun A1 o1 H1 s1 c R1 U1 h1 => ?_
  cases c with
  | true => rw [if_pos rfl]; exact qa _ _ _ _ _ _ _ _ R1 (h1.1 rfl) (k.up U1)
  | false => rw [if_neg (by decide)]; exact qb _ _ _ _ _ _ _ _ R1 (h1.2 rfl) (k.up U1)
/-! ### ints -/
def iI (x y : En) (k : Int → Int → Prop) : Prop := match x, y with | .da (.int i), .da (.int j) => k i j | _, _ => False
theorem iI_inv {x y : En} {k : Int → Int → Prop} (h : iI x y k) : ∃ i j, x = .da (.int i) ∧ y = .da (.int j) ∧ k i j := by
  unfold iI at h
  split at h
  · exact ⟨_, _, rfl, rfl, h⟩
  · exact h.elim
def i1 (x : En) (k : Int → Prop) : Prop := match x with | .da (.int i) => k i | _ => False
theorem i1_inv {x : En} {k : Int → Prop} (h : i1 x k) : ∃ i, x = .da (.int i) ∧ k i := by
  unfold i1 at h
  split at h
  · exact ⟨_, rfl, h⟩
  · exact h.elim
theorem opd_int {K : PySem.W.Frag} {C : Int → Int → Prop} {g : Int → Int → Int} : OpD K (rI C fun i j => .int (g i j)) (fun s x y Ks => iI x y fun i j => C i j ∧ Ks s (.da (.int (g i j)))) := by
  intro b A own H σ s vx vy x y Ks Q R ex ey h k
  obtain ⟨i, j, rfl, rfl, hc, h⟩ := iI_inv h
  cases ex
  cases ey
  exact ⟨i, j, rfl, rfl, hc, k.da R Up.refl (.int _) h⟩
theorem opd_int0 {K : PySem.W.Frag} {g : Int → Int → Int} : OpD K (rI0 fun i j => .int (g i j)) (fun s x y Ks => iI x y fun i j => Ks s (.da (.int (g i j)))) := by
  intro b A own H σ s vx vy x y Ks Q R ex ey h k
  obtain ⟨i, j, rfl, rfl, h⟩ := iI_inv h
  cases ex
  cases ey
  exact ⟨i, j, rfl, rfl, k.da R Up.refl (.int _) h⟩
theorem opd_intB {K : PySem.W.Frag} {g : Int → Int → Bool} : OpD K (rI0 fun i j => .bl (g i j)) (fun s x y Ks => iI x y fun i j => Ks s (.da (.bool (g i j)))) := by
  intro b A own H σ s vx vy x y Ks Q R ex ey h k
  obtain ⟨i, j, rfl, rfl, h⟩ := iI_inv h
  cases ex
  cases ey
  exact ⟨i, j, rfl, rfl, k.da R Up.refl (.bl _) h⟩
def dAdd : WE → WE → WE := d2 fun s x y Ks => iI x y fun i j => Ks s (.da (.int (i + j)))
def dSub : WE → WE → WE := d2 fun s x y Ks => iI x y fun i j => Ks s (.da (.int (i - j)))
def dMul : WE → WE → WE := d2 fun s x y Ks => iI x y fun i j => CMulX i j ∧ Ks s (.da (.int (i * j)))
def dDiv : WE → WE → WE := d2 fun s x y Ks => iI x y fun i j => CDivW i j ∧ Ks s (.da (.int (i / j)))
def dMod : WE → WE → WE := d2 fun s x y Ks => iI x y fun i j => 0 < j ∧ Ks s (.da (.int (i % j)))
def dPow : WE → WE → WE := d2 fun s x y Ks => iI x y fun i j => CPow i j ∧ Ks s (.da (.int (i ^ j.toNat)))
def dLt : WE → WE → WE := d2 fun s x y Ks => iI x y fun i j => Ks s (.da (.bool (decide (i < j))))
def dLe : WE → WE → WE := d2 fun s x y Ks => iI x y fun i j => Ks s (.da (.bool (decide (i ≤ j))))
def dGt : WE → WE → WE := d2 fun s x y Ks => iI x y fun i j => Ks s (.da (.bool (decide (j < i))))
def dGe : WE → WE → WE := d2 fun s x y Ks => iI x y fun i j => Ks s (.da (.bool (decide (j ≤ i))))
theorem de_add (ha : DE X a wa) (hb : DE X b wb) : DE X (.BinOp a .Add b pos) (dAdd wa wb) := de_op op_add opd_int0 ha hb
theorem de_sub (ha : DE X a wa) (hb : DE X b wb) : DE X (.BinOp a .Sub b pos) (dSub wa wb) := de_op op_sub opd_int0 ha hb
theorem de_mul (ha : DE X a wa) (hb : DE X b wb) : DE X (.BinOp a .Mult b pos) (dMul wa wb) := de_op op_mulX opd_int ha hb
theorem de_div (ha : DE X a wa) (hb : DE X b wb) : DE X (.BinOp a .FloorDiv b pos) (dDiv wa wb) := de_op op_fdivW opd_int ha hb
theorem de_mod (ha : DE X a wa) (hb : DE X b wb) : DE X (.BinOp a .Mod b pos) (dMod wa wb) := de_op op_mod opd_int ha hb
theorem de_pow (ha : DE X a wa) (hb : DE X b wb) : DE X (.BinOp a .Pow b pos) (dPow wa wb) := de_op op_pow opd_int ha hb
theorem de_lt (ha : DE X a wa) (hb : DE X b wb) : DE X (.Compare a [.Lt] [b] pos) (dLt wa wb) := de_cmp op_lt opd_intB ha hb (nomark _)
theorem de_le (ha : DE X a wa) (hb : DE X b wb) : DE X (.Compare a [.LtE] [b] pos) (dLe wa wb) := de_cmp op_le opd_intB ha hb (nomark _)
theorem de_gt (ha : DE X a wa) (hb : DE X b wb) : DE X (.Compare a [.Gt] [b] pos) (dGt wa wb) := de_cmp op_gt opd_intB ha hb (nomark _)
theorem de_ge (ha : DE X a wa) (hb : DE X b wb) : DE X (.Compare a [.GtE] [b] pos) (dGe wa wb) := de_cmp op_ge opd_intB ha hb (nomark _)
theorem dt_lt (ha : DE X a wa) (hb : DE X b wb) : DT X (.Compare a [.Lt] [b] pos) (tT (dLt wa wb)) := dt_cmp op_lt opd_intB ha hb (nomark _)
theorem dt_le (ha : DE X a wa) (hb : DE X b wb) : DT X (.Compare a [.LtE] [b] pos) (tT (dLe wa wb)) := dt_cmp op_le opd_intB ha hb (nomark _)
theorem dt_gt (ha : DE X a wa) (hb : DE X b wb) : DT X (.Compare a [.Gt] [b] pos) (tT (dGt wa wb)) := dt_cmp op_gt opd_intB ha hb (nomark _)
theorem dt_ge (ha : DE X a wa) (hb : DE X b wb) : DT X (.Compare a [.GtE] [b] pos) (tT (dGe wa wb)) := dt_cmp op_ge opd_intB ha hb (nomark _)
def dNeg (wa : WE) : WE := fun s Ks => wa s fun s1 x => i1 x fun i => Ks s1 (.da (.int (-i)))
theorem de_neg (ha : DE X a wa) : DE X (.UnaryOp .USub a pos) (dNeg wa) := by
  obtain ⟨ta, pa, qa⟩ := ha.ex
  refine ⟨_, pe_un un_neg pa, fun b A own H σ s Ks Q R h k => ?_⟩
  refine qa _ _ _ _ _ _ _ _ R h fun A1 o1 H1 v1 s1 x1 R1 U1 E1 h1 => ?_
  obtain ⟨i, rfl, h2⟩ := i1_inv h1
  cases E1
  exact ⟨i, rfl, k.da R1 U1 (.int _) h2⟩
/-! ### what is read of a thing that may change, too -/
def vw (s : S) : En → Option D
  | .da d => some d
  | .mu k => match gm s.ms k with | .lst ds => some (.list ds) | _ => none
  | .no => none
theorem vw_dp {K : PySem.W.Frag} {b : Bd} {A : Addr → Prop} {own : List (List Addr)} {H : Hp} {σ : L2.St} {s : S} (R : Rel K b A own H σ s) {v : V} {x : En} {d : D} (h : ER K A own H v x) (e : vw s x = some d) (hl : d.canLay0 = true) : Dp K H v d := by
  cases x with
  | no => cases e
  | da d' => cases e; exact Rp.dp h hl
  | mu k =>
    obtain ⟨a, r, g, rfl⟩ := h
    have m := R.mr k
    unfold vw at e
    simp only at e
    cases q : gm s.ms k with
    | lst ds =>
      rw [q] at e m
      cases e
      obtain ⟨a', vs, e1, e2, e3⟩ := m
      rw [e1] at g
      cases g
      exact .lst (.inl (.inl e2)) (RpL.dp e3 (by simpa only [PyData.canLay0] using hl))
    | _ => rw [q] at e; cases e
theorem vw_lst {K : PySem.W.Frag} {b : Bd} {A : Addr → Prop} {own : List (List Addr)} {H : Hp} {σ : L2.St} {s : S} (R : Rel K b A own H σ s) {v : V} {x : En} {ds : List D} (h : ER K A own H v x) (e : vw s x = some (.list ds)) :
    ∃ a vs, v = .ref a ∧ SqL K H a vs ∧ RpL K A H vs ds := by
  cases x with
  | no => cases e
  | da d' => cases e; cases h with | lst l r => exact ⟨_, _, rfl, l.sq, r⟩
  | mu k =>
    obtain ⟨a, r, g, rfl⟩ := h
    have m := R.mr k
    unfold vw at e
    simp only at e
    cases q : gm s.ms k with
    | lst ds =>
      rw [q] at e m
      cases e
      obtain ⟨a', vs, e1, e2, e3⟩ := m
      rw [e1] at g
      cases g
      exact ⟨_, _, rfl, .inl (.inl e2), e3⟩
    | _ => rw [q] at e; cases e
theorem vw_tup {K : PySem.W.Frag} {b : Bd} {A : Addr → Prop} {own : List (List Addr)} {H : Hp} {σ : L2.St} {s : S} (R : Rel K b A own H σ s) {v : V} {x : En} {ds : List D} (h : ER K A own H v x) (e : vw s x = some (.tuple ds)) :
    ∃ a vs, v = .ref a ∧ SqT K H a vs ∧ RpL K A H vs ds := by
  cases x with
  | no => cases e
  | da d' => cases e; cases h with | tup l r => exact ⟨_, _, rfl, l.sq, r⟩
  | mu k =>
    unfold vw at e
    simp only at e
    cases q : gm s.ms k with
    | _ => rw [q] at e; cases e
theorem vw_str {K : PySem.W.Frag} {b : Bd} {A : Addr → Prop} {own : List (List Addr)} {H : Hp} {σ : L2.St} {s : S} (R : Rel K b A own H σ s) {v : V} {x : En} {z : Str} (h : ER K A own H v x) (e : vw s x = some (.str z)) : v = .str z := by
  cases x with
  | no => cases e
  | da d' =>
    cases e
    cases (show Rp K A H v (.str z) from h)
    rfl
  | mu k =>
    unfold vw at e
    simp only at e
    cases q : gm s.ms k with
    | _ => rw [q] at e; cases e
/-! ### == -/
def eqS : D → D → Option Bool
  | .int i, .int j => some (decide (i = j))
  | .str i, .str j => some (decide (i = j))
  | .bool i, .bool j => some (decide (i = j))
  | .none, .none => some true
  | .none, .int _ => some false
  | .none, .str _ => some false
  | .none, .bool _ => some false
  | .int _, .none => some false
  | .str _, .none => some false
  | .bool _, .none => some false
  | .int _, .str _ => some false
  | .str _, .int _ => some false
  | .bool _, .str _ => some false
  | .str _, .bool _ => some false
  | _, _ => none
def onO {α : Type} (o : Option α) (k : α → Prop) : Prop := match o with | some x => k x | none => False
theorem onO_inv {α : Type} {o : Option α} {k : α → Prop} (h : onO o k) : ∃ x, o = some x ∧ k x := by
  cases o with
  | none => exact h.elim
  | some x => exact ⟨x, rfl, h⟩
def da2 (x y : En) (k : D → D → Prop) : Prop := match x, y with | .da d, .da e => k d e | _, _ => False
theorem da2_inv {x y : En} {k : D → D → Prop} (h : da2 x y k) : ∃ d e, x = .da d ∧ y = .da e ∧ k d e := by
  unfold da2 at h
  split at h
  · exact ⟨_, _, rfl, rfl, h⟩
  · exact h.elim
def xr (neg c : Bool) : Bool := match neg with | true => !c | false => c
def rdEqS (neg : Bool) : S → En → En → (S → En → Prop) → Prop := fun s x y Ks => da2 x y fun d e => onO (eqS d e) fun c => Ks s (.da (.bool (xr neg c)))
theorem eqS_rel {K : PySem.W.Frag} {A : Addr → Prop} {H : Hp} {d e : D} {c : Bool} {v u : V} (hv : Rp K A H v d) (hu : Rp K A H u e) (h : eqS d e = some c) : scal v u = true ∧ decide (v = u) = c := by
  cases hv <;> cases hu <;> simp only [eqS, Option.some.injEq, reduceCtorEq] at h <;> subst h <;> refine ⟨rfl, ?_⟩ <;> simp
theorem opd_eqS {K : PySem.W.Frag} : OpD K rEq (rdEqS false) := by
  intro b A own H σ s vx vy x y Ks Q R ex ey h k
  obtain ⟨d, e, rfl, rfl, h⟩ := da2_inv h
  obtain ⟨c, hc, h⟩ := onO_inv h
  obtain ⟨h1, h2⟩ := eqS_rel ex ey hc
  refine ⟨h1, ?_⟩
  rw [h2]
  exact k.da R Up.refl (.bl _) h
theorem opd_neS {K : PySem.W.Frag} : OpD K rNe (rdEqS true) := by
  intro b A own H σ s vx vy x y Ks Q R ex ey h k
  obtain ⟨d, e, rfl, rfl, h⟩ := da2_inv h
  obtain ⟨c, hc, h⟩ := onO_inv h
  obtain ⟨h1, h2⟩ := eqS_rel ex ey hc
  refine ⟨h1, ?_⟩
  rw [h2]
  exact k.da R Up.refl (.bl _) h
def dEqS : WE → WE → WE := d2 (rdEqS false)
def dNeS : WE → WE → WE := d2 (rdEqS true)
theorem de_eqS (ha : DE X a wa) (hb : DE X b wb) : DE X (.Compare a [.Eq] [b] pos) (dEqS wa wb) := de_cmp op_eq opd_eqS ha hb (nomark _)
theorem de_neS (ha : DE X a wa) (hb : DE X b wb) : DE X (.Compare a [.NotEq] [b] pos) (dNeS wa wb) := de_cmp op_ne opd_neS ha hb (nomark _)
theorem dt_eqS (ha : DE X a wa) (hb : DE X b wb) : DT X (.Compare a [.Eq] [b] pos) (tT (dEqS wa wb)) := dt_cmp op_eq opd_eqS ha hb (nomark _)
theorem dt_neS (ha : DE X a wa) (hb : DE X b wb) : DT X (.Compare a [.NotEq] [b] pos) (tT (dNeS wa wb)) := dt_cmp op_ne opd_neS ha hb (nomark _)
/-- of data at any depth -/
def vw2 (s : S) (x y : En) (k : D → D → Prop) : Prop := onO (vw s x) fun d => onO (vw s y) fun e => k d e
def rdEqD (neg : Bool) : S → En → En → (S → En → Prop) → Prop := fun s x y Ks => vw2 s x y fun d e => SeqAt.shaped d = true ∧ SeqAt.shaped e = true ∧ Ks s (.da (.bool (xr neg (PyData.eqv d e))))
theorem opd_eqD {K : PySem.W.Frag} : OpD K (rEqD K) (rdEqD false) := by
  intro b A own H σ s vx vy x y Ks Q R ex ey h k
  obtain ⟨d, hd, h⟩ := onO_inv h
  obtain ⟨e, he, h1, h2, h⟩ := onO_inv h
  exact ⟨d, e, vw_dp R ex hd (SeqAt.canLay_of_shaped h1), vw_dp R ey he (SeqAt.canLay_of_shaped h2), h1, h2, k.da R Up.refl (.bl _) h⟩
theorem opd_neD {K : PySem.W.Frag} : OpD K (rNeD K) (rdEqD true) := by
  intro b A own H σ s vx vy x y Ks Q R ex ey h k
  obtain ⟨d, hd, h⟩ := onO_inv h
  obtain ⟨e, he, h1, h2, h⟩ := onO_inv h
  exact ⟨d, e, vw_dp R ex hd (SeqAt.canLay_of_shaped h1), vw_dp R ey he (SeqAt.canLay_of_shaped h2), h1, h2, k.da R Up.refl (.bl _) h⟩
def dEqD : WE → WE → WE := d2 (rdEqD false)
def dNeD : WE → WE → WE := d2 (rdEqD true)
theorem de_eqD (hu : X.A.units + 64 < cLine) (ha : DE X a wa) (hb : DE X b wb) : DE X (.Compare a [.Eq] [b] pos) (dEqD wa wb) := de_cmp (op_eqD hu) opd_eqD ha hb (nomark _)
theorem de_neD (hu : X.A.units + 64 < cLine) (ha : DE X a wa) (hb : DE X b wb) : DE X (.Compare a [.NotEq] [b] pos) (dNeD wa wb) := de_cmp (op_neD hu) opd_neD ha hb (nomark _)
theorem dt_eqD (hu : X.A.units + 64 < cLine) (ha : DE X a wa) (hb : DE X b wb) : DT X (.Compare a [.Eq] [b] pos) (tT (dEqD wa wb)) := dt_cmp (op_eqD hu) opd_eqD ha hb (nomark _)
theorem dt_neD (hu : X.A.units + 64 < cLine) (ha : DE X a wa) (hb : DE X b wb) : DT X (.Compare a [.NotEq] [b] pos) (tT (dNeD wa wb)) := dt_cmp (op_neD hu) opd_neD ha hb (nomark _)
/-- is None, is not None -/
def isNone : D → Bool | .none => true | _ => false
def rdIsN (neg : Bool) : S → En → En → (S → En → Prop) → Prop := fun s x y Ks => match x, y with | .da d, .da .none => Ks s (.da (.bool (xr neg (isNone d)))) | _, _ => False
theorem isN_rel {K : PySem.W.Frag} {A : Addr → Prop} {H : Hp} {d : D} {v : V} (hv : Rp K A H v d) : decide (v = .non) = isNone d := by
  cases hv <;> simp [isNone]
theorem opd_isN {K : PySem.W.Frag} : OpD K (fun x y H Q => y = .non ∧ Q (.bl (decide (x = .non))) H) (rdIsN false) := by
  intro b A own H σ s vx vy x y Ks Q R ex ey h k
  unfold rdIsN at h
  split at h
  · cases ey
    refine ⟨rfl, ?_⟩
    rw [isN_rel ex]
    exact k.da R Up.refl (.bl _) h
  · exact h.elim
theorem opd_notN {K : PySem.W.Frag} : OpD K (fun x y H Q => y = .non ∧ Q (.bl (!decide (x = .non))) H) (rdIsN true) := by
  intro b A own H σ s vx vy x y Ks Q R ex ey h k
  unfold rdIsN at h
  split at h
  · cases ey
    refine ⟨rfl, ?_⟩
    rw [isN_rel ex]
    exact k.da R Up.refl (.bl _) h
  · exact h.elim
def dIsN : WE → WE → WE := d2 (rdIsN false)
def dNotN : WE → WE → WE := d2 (rdIsN true)
theorem de_isN (ha : DE X a wa) (hb : DE X b wb) : DE X (.Compare a [.Is] [b] pos) (dIsN wa wb) := de_cmp op_isN opd_isN ha hb (nomark _)
theorem de_notN (ha : DE X a wa) (hb : DE X b wb) : DE X (.Compare a [.IsNot] [b] pos) (dNotN wa wb) := de_cmp op_notN opd_notN ha hb (nomark _)
theorem dt_isN (ha : DE X a wa) (hb : DE X b wb) : DT X (.Compare a [.Is] [b] pos) (tT (dIsN wa wb)) := dt_cmp op_isN opd_isN ha hb (nomark _)
theorem dt_notN (ha : DE X a wa) (hb : DE X b wb) : DT X (.Compare a [.IsNot] [b] pos) (tT (dNotN wa wb)) := dt_cmp op_notN opd_notN ha hb (nomark _)
end
end DL
namespace DL
open PySem L2
section
variable {X : Cx} {a b c e : Expr} {wa wb wc we : WE} {pos : Pos}
/-! ### items -/
theorem RpL.atI {K : PySem.W.Frag} {A : Addr → Prop} {H : Hp} {vs : List V} {ds : List D} {i : Int} {d : D} (r : RpL K A H vs ds) (h : L2.atI ds i = some d) : ∃ v, L2.atI vs i = some v ∧ Rp K A H v d := by
  unfold L2.atI at h ⊢
  rw [r.length]
  cases q : ixN ds.length i with
  | none => rw [q] at h; cases h
  | some j => rw [q] at h; exact r.get h
def ixD (d : D) (i : Int) (k : D → Prop) : Prop := match d with
  | .list ds => ∃ e, L2.atI ds i = some e ∧ k e
  | .tuple ds => ∃ e, L2.atI ds i = some e ∧ k e
  | .str z => ∃ c, L2.atI z.cps.toList i = some c ∧ z.length ≤ sizeLine ∧ k (.str ⟨#[c]⟩)
  | _ => False
def rdIx : S → En → En → (S → En → Prop) → Prop := fun s x y Ks => onO (vw s x) fun d => i1 y fun i => ixD d i fun e => Ks s (.da e)
theorem opd_ix {K : PySem.W.Frag} : OpD K (rIx K) rdIx := by
  intro b A own H σ s vx vy x y Ks Q R ex ey h k
  obtain ⟨d, hd, h⟩ := onO_inv h
  obtain ⟨i, rfl, h⟩ := i1_inv h
  cases ey
  unfold ixD at h
  split at h
  · obtain ⟨d', h1, h2⟩ := h
    obtain ⟨a, vs, rfl, q, r⟩ := vw_lst R ex hd
    obtain ⟨v, h3, h4⟩ := r.atI h1
    exact .inl ⟨a, vs, i, v, rfl, rfl, q, h3, k.da R Up.refl h4 h2⟩
  · obtain ⟨d', h1, h2⟩ := h
    obtain ⟨a, vs, rfl, q, r⟩ := vw_tup R ex hd
    obtain ⟨v, h3, h4⟩ := r.atI h1
    exact .inr (.inl ⟨a, vs, i, v, rfl, rfl, q, h3, k.da R Up.refl h4 h2⟩)
  · obtain ⟨c, h1, h0, h2⟩ := h
    cases vw_str R ex hd
    exact .inr (.inr ⟨_, i, c, rfl, rfl, h0, h1, k.da R Up.refl (.str _) h2⟩)
  · exact h.elim
def dIx : WE → WE → WE := d2 rdIx
theorem de_ix (ha : DE X a wa) (hb : DE X b wb) (hs : PlainIx b := by exact fun _ _ => rfl) : DE X (.Subscript a b pos) (dIx wa wb) := by
  obtain ⟨ta, pa, qa⟩ := ha.ex
  obtain ⟨tb, pb, qb⟩ := hb.ex
  exact ⟨_, pe_ix ix_seq pa pb hs, d2_run opd_ix qa qb⟩
/-! ### slices -/
abbrev WO := S → (S → Option Int → Prop) → Prop
def PostO (K : PySem.W.Frag) (b : Bd) (A : Addr → Prop) (own : List (List Addr)) (H : Hp) (σ : L2.St) (Ks : S → Option Int → Prop) (Q : Option Int → Hp → Prop) : Prop := ∀ (A' : Addr → Prop) (own' : List (List Addr)) (H' : Hp) (s' : S) (c : Option Int), Rel K b A' own' H' σ s' → Up A own H A' own' H' → Ks s' c → Q c H'
structure DO (X : Cx) (e : Option Expr) (w : WO) : Prop where
  ex : ∃ t, PO X e t ∧ ∀ (b : Bd) (A : Addr → Prop) (own : List (List Addr)) (H : Hp) (σ : L2.St) (s : S) (Ks : S → Option Int → Prop) (Q : Option Int → Hp → Prop), Rel X.K b A own H σ s → w s Ks → PostO X.K b A own H σ Ks Q → t σ H Q
def oNone : WO := fun s Ks => Ks s none
def oSome (w : WE) : WO := fun s Ks => w s fun s1 x => i1 x fun i => Ks s1 (some i)
theorem do_none : DO X none oNone := ⟨_, po_none, fun b A own H σ s Ks Q R h k => k _ _ _ _ _ R Up.refl h⟩
theorem do_some (h : DE X e we) : DO X (some e) (oSome we) := by
  obtain ⟨te, pe, qe⟩ := h.ex
  refine ⟨_, po_some pe, fun b A own H σ s Ks Q R h k => ?_⟩
  refine qe _ _ _ _ _ _ _ _ R h fun A1 o1 H1 v1 s1 x1 R1 U1 E1 h1 => ?_
  obtain ⟨i, rfl, h2⟩ := i1_inv h1
  cases E1
  exact ⟨i, rfl, k _ _ _ _ _ R1 U1 h2⟩
def cutD {α : Type} (xs : List α) (lo hi : Option Int) : List α := (xs.drop (HT.sIx xs.length 0 lo)).take (HT.sIx xs.length xs.length hi - HT.sIx xs.length 0 lo)
theorem RpL.cut {K : PySem.W.Frag} {A : Addr → Prop} {H : Hp} {vs : List V} {ds : List D} (r : RpL K A H vs ds) (lo hi : Option Int) : RpL K A H (cutV vs lo hi) (cutD ds lo hi) := by
  unfold cutV cutD
  rw [r.length]
  exact (r.drop _).take _
def dSl (rd : S → En → Option Int → Option Int → (S → En → Prop) → Prop) (we : WE) (wl wh : WO) : WE := fun s Ks => we s fun s1 x => wl s1 fun s2 l => wh s2 fun s3 u => rd s3 x l u Ks
theorem de_slice {r : V → Option Int → Option Int → Hp → VK → Prop} {rd} {lo hi : Option Expr} {wl wh : WO} {p2 : Pos} (hr : SlR X r)
    (hd : ∀ (b : Bd) (A : Addr → Prop) (own : List (List Addr)) (H : Hp) (σ : L2.St) (s : S) (v : V) (x : En) (l u : Option Int) (Ks : S → En → Prop) (Q : VK), Rel X.K b A own H σ s → ER X.K A own H v x → rd s x l u Ks → PostE X.K b A own H σ Ks Q → r v l u H Q)
    (he : DE X e we) (hl : DO X lo wl) (hh : DO X hi wh) : DE X (.Subscript e (.Slice lo hi none p2) pos) (dSl rd we wl wh) := by
  obtain ⟨te, pe, qe⟩ := he.ex
  obtain ⟨tl, pl, ql⟩ := hl.ex
  obtain ⟨th, ph, qh⟩ := hh.ex
  refine ⟨_, pe_slice hr pe pl ph, fun b A own H σ s Ks Q R h k => ?_⟩
  show te σ H fun x H1 => tl σ H1 fun l H2 => th σ H2 fun u H3 => r x l u H3 Q
  refine qe _ _ _ _ _ _ _ _ R h fun A1 o1 H1 v1 s1 x1 R1 U1 E1 h1 => ?_
  refine ql _ _ _ _ _ _ _ _ R1 h1 fun A2 o2 H2 s2 l R2 U2 h2 => ?_
  refine qh _ _ _ _ _ _ _ _ R2 h2 fun A3 o3 H3 s3 u R3 U3 h3 => ?_
  exact hd _ _ _ _ _ _ _ _ _ _ _ _ R3 (E1.up (U2.trans U3)) h3 (k.up ((U1.trans U2).trans U3))
/-- a new data list at a new place -/
theorem new_lst {K : PySem.W.Frag} {b : Bd} {A : Addr → Prop} {own : List (List Addr)} {H : Hp} {σ : L2.St} {s : S} {Ks : S → En → Prop} {Q : VK} {p : Addr} {vs : List V} {ds : List D} (R : Rel K b A own H σ s) (k : PostE K b A own H σ Ks Q) (r : RpL K A H vs ds) (hp : H p = none) (h : Ks s (.da (.list ds))) : Q (.ref p) (upd H p (.lst vs)) := by
  obtain ⟨R1, U1⟩ := R.new (o := .lst vs) hp
  exact k.da R1 U1 (.lst ⟨upd_same, R.freshA hp⟩ (RpL.mono U1.kp r)) h
theorem new_tup {K : PySem.W.Frag} {b : Bd} {A : Addr → Prop} {own : List (List Addr)} {H : Hp} {σ : L2.St} {s : S} {Ks : S → En → Prop} {Q : VK} {p : Addr} {vs : List V} {ds : List D} (R : Rel K b A own H σ s) (k : PostE K b A own H σ Ks Q) (r : RpL K A H vs ds) (hp : H p = none) (h : Ks s (.da (.tuple ds))) : Q (.ref p) (upd H p (.tup vs)) := by
  obtain ⟨R1, U1⟩ := R.new (o := .tup vs) hp
  exact k.da R1 U1 (.tup (.inl ⟨upd_same, R.freshA hp⟩) (RpL.mono U1.kp r)) h
/-- a new list that may change -/
theorem new_mu {K : PySem.W.Frag} {b : Bd} {A : Addr → Prop} {own : List (List Addr)} {H : Hp} {σ : L2.St} {s : S} {Ks : S → En → Prop} {Q : VK} {p : Addr} {vs : List V} {ds : List D} (R : Rel K b A own H σ s) (k : PostE K b A own H σ Ks Q) (r : RpL K A H vs ds) (hp : H p = none) (h : Ks (s.aM (.lst ds)) (.mu s.ms.length)) : Q (.ref p) (upd H p (.lst vs)) := by
  obtain ⟨R1, U1, g⟩ := R.newMu (o := .lst vs) hp (.lst ds) fun A' own' u => ⟨p, vs, rfl, upd_same, RpL.mono u.kp r⟩
  exact k _ _ _ _ _ (.mu s.ms.length) R1 U1 ⟨p, [], g, rfl⟩ h
def rdSlL : S → En → Option Int → Option Int → (S → En → Prop) → Prop := fun s x l u Ks => onO (vw s x) fun d => match d with | .list ds => Ks s (.da (.list (cutD ds l u))) | _ => False
def rdSlM : S → En → Option Int → Option Int → (S → En → Prop) → Prop := fun s x l u Ks => onO (vw s x) fun d => match d with | .list ds => Ks (s.aM (.lst (cutD ds l u))) (.mu s.ms.length) | _ => False
def rdSlT : S → En → Option Int → Option Int → (S → En → Prop) → Prop := fun s x l u Ks => match x with | .da (.tuple ds) => Ks s (.da (.tuple (cutD ds l u))) | _ => False
def rdSlS : S → En → Option Int → Option Int → (S → En → Prop) → Prop := fun s x l u Ks => match x with | .da (.str z) => z.length ≤ sizeLine ∧ Ks s (.da (.str (cutS z l u))) | _ => False
theorem de_slL {lo hi : Option Expr} {wl wh : WO} {p2 : Pos} (he : DE X e we) (hl : DO X lo wl) (hh : DO X hi wh) : DE X (.Subscript e (.Slice lo hi none p2) pos) (dSl rdSlL we wl wh) :=
  de_slice sl_list (fun b A own H σ s v x l u Ks Q R E h k => by
    obtain ⟨d, hd, h⟩ := onO_inv h
    split at h
    · obtain ⟨a, vs, rfl, q, r⟩ := vw_lst R E hd
      exact ⟨a, vs, rfl, q, fun p hp => new_lst R k (r.cut l u) hp h⟩
    · exact h.elim) he hl hh
theorem de_slM {lo hi : Option Expr} {wl wh : WO} {p2 : Pos} (he : DE X e we) (hl : DO X lo wl) (hh : DO X hi wh) : DE X (.Subscript e (.Slice lo hi none p2) pos) (dSl rdSlM we wl wh) :=
  de_slice sl_list (fun b A own H σ s v x l u Ks Q R E h k => by
    obtain ⟨d, hd, h⟩ := onO_inv h
    split at h
    · obtain ⟨a, vs, rfl, q, r⟩ := vw_lst R E hd
      exact ⟨a, vs, rfl, q, fun p hp => new_mu R k (r.cut l u) hp h⟩
    · exact h.elim) he hl hh
theorem cutD_all {α : Type} (xs : List α) {lo hi : Option Int} (h1 : HT.sIx xs.length 0 lo = 0) (h2 : HT.sIx xs.length xs.length hi = xs.length) : cutD xs lo hi = xs := by
  unfold cutD
  rw [h1, h2, List.drop_zero, Nat.sub_zero, List.take_length]
theorem de_slT {lo hi : Option Expr} {wl wh : WO} {p2 : Pos} (he : DE X e we) (hl : DO X lo wl) (hh : DO X hi wh) : DE X (.Subscript e (.Slice lo hi none p2) pos) (dSl rdSlT we wl wh) :=
  de_slice sl_tupA (fun b A own H σ s v x l u Ks Q R E h k => by
    unfold rdSlT at h
    split at h
    · rename_i ds
      obtain ⟨a, vs, rfl, q, r⟩ := vw_tup R E rfl
      refine ⟨a, vs, rfl, q, fun z => ?_, fun _ p hp => new_tup R k (r.cut l u) hp h⟩
      rw [r.length] at z
      rw [cutD_all _ z.1 z.2] at h
      exact k.da R Up.refl E h
    · exact h.elim) he hl hh
theorem de_slS {lo hi : Option Expr} {wl wh : WO} {p2 : Pos} (he : DE X e we) (hl : DO X lo wl) (hh : DO X hi wh) : DE X (.Subscript e (.Slice lo hi none p2) pos) (dSl rdSlS we wl wh) :=
  de_slice sl_str (fun b A own H σ s v x l u Ks Q R E h k => by
    unfold rdSlS at h
    split at h
    · cases E
      exact ⟨_, rfl, h.1, k.da R Up.refl (.str _) h.2⟩
    · exact h.elim) he hl hh
/-! ### arguments, displays -/
def aNil : WA := fun s Ks => Ks s []
def aCons (we : WE) (wr : WA) : WA := fun s Ks => we s fun s1 x => wr s1 fun s2 xs => Ks s2 (x :: xs)
theorem da_nil : DA X [] aNil := ⟨_, pa_nil, fun b A own H σ s Ks Q R h k => k _ _ _ _ _ [] R Up.refl trivial h⟩
theorem da_cons {es : List Expr} {wr : WA} (h : DE X e we) (t : DA X es wr) (hs : starEach (e :: es) X.env = (false, eval e X.env) :: starEach es X.env := by rfl) : DA X (e :: es) (aCons we wr) := by
  obtain ⟨te, pe, qe⟩ := h.ex
  obtain ⟨tr, pr, qr⟩ := t.ex
  refine ⟨_, pa_cons pe pr hs, fun b A own H σ s Ks Q R h k => ?_⟩
  show te σ H fun x H1 => tr σ H1 fun xs H2 => Q (x :: xs) H2
  refine qe _ _ _ _ _ _ _ _ R h fun A1 o1 H1 v1 s1 x1 R1 U1 E1 h1 => ?_
  refine qr _ _ _ _ _ _ _ _ R1 h1 fun A2 o2 H2 vs s2 xs R2 U2 E2 h2 => ?_
  exact k _ _ _ _ _ (x1 :: xs) R2 (U1.trans U2) ⟨E1.up U2, E2⟩ h2
/-- all of them data -/
def allD : List En → Option (List D)
  | [] => some []
  | .da d :: xs => match allD xs with | some ds => some (d :: ds) | none => none
  | _ :: _ => none
theorem allD_rp {K : PySem.W.Frag} {A : Addr → Prop} {own : List (List Addr)} {H : Hp} : ∀ {vs : List V} {xs : List En} {ds : List D}, ERL K A own H vs xs → allD xs = some ds → RpL K A H vs ds
  | [], [], _, _, e => by cases e; exact .nil
  | v :: vs, .da d :: xs, ds, ⟨h, t⟩, e => by
    unfold allD at e
    cases q : allD xs with
    | none => rw [q] at e; cases e
    | some es => rw [q] at e; cases e; exact .cons h (allD_rp t q)
  | v :: vs, .no :: xs, ds, _, e => by cases e
  | v :: vs, .mu k :: xs, ds, _, e => by cases e
theorem ERL.len {K : PySem.W.Frag} {A : Addr → Prop} {own : List (List Addr)} {H : Hp} : ∀ {vs : List V} {xs : List En}, ERL K A own H vs xs → vs.length = xs.length
  | [], [], _ => rfl
  | _ :: _, _ :: _, ⟨_, t⟩ => congrArg (· + 1) (ERL.len t)
variable {es : List Expr} {wr : WA}
def dTup (wr : WA) : WE := fun s Ks => wr s fun s1 xs => onO (allD xs) fun ds => Ks s1 (.da (.tuple ds))
def dLst (wr : WA) : WE := fun s Ks => wr s fun s1 xs => onO (allD xs) fun ds => Ks s1 (.da (.list ds))
def dLstM (wr : WA) : WE := fun s Ks => wr s fun s1 xs => onO (allD xs) fun ds => Ks (s1.aM (.lst ds)) (.mu s1.ms.length)
theorem allD_len : ∀ {xs : List En} {ds : List D}, allD xs = some ds → ds.length = xs.length
  | [], _, e => by cases e; rfl
  | .da d :: xs, ds, e => by
    unfold allD at e
    cases q : allD xs with
    | none => rw [q] at e; cases e
    | some es => rw [q] at e; cases e; exact congrArg (· + 1) (allD_len q)
  | .no :: xs, ds, e => by cases e
  | .mu k :: xs, ds, e => by cases e
/-- as many values as there are arguments: for the size -/
structure DAn (X : Cx) (es : List Expr) (n : Nat) (w : WA) : Prop where
  ex : ∃ ta, PA X es ta ∧ ∀ (b : Bd) (A : Addr → Prop) (own : List (List Addr)) (H : Hp) (σ : L2.St) (s : S) (Ks : S → List En → Prop) (Q : List V → Hp → Prop), Rel X.K b A own H σ s → w s Ks → PostA X.K b A own H σ (fun s xs => xs.length = n ∧ Ks s xs) Q → ta σ H Q
theorem dan_nil : DAn X [] 0 aNil := ⟨_, pa_nil, fun b A own H σ s Ks Q R h k => k _ _ _ _ _ [] R Up.refl trivial ⟨rfl, h⟩⟩
theorem dan_cons {n : Nat} (h : DE X e we) (t : DAn X es n wr) (hs : starEach (e :: es) X.env = (false, eval e X.env) :: starEach es X.env := by rfl) : DAn X (e :: es) (n + 1) (aCons we wr) := by
  obtain ⟨te, pe, qe⟩ := h.ex
  obtain ⟨tr, pr, qr⟩ := t.ex
  refine ⟨_, pa_cons pe pr hs, fun b A own H σ s Ks Q R h k => ?_⟩
  show te σ H fun x H1 => tr σ H1 fun xs H2 => Q (x :: xs) H2
  refine qe _ _ _ _ _ _ _ _ R h fun A1 o1 H1 v1 s1 x1 R1 U1 E1 h1 => ?_
  refine qr _ _ _ _ _ _ _ _ R1 h1 fun A2 o2 H2 vs s2 xs R2 U2 E2 h2 => ?_
  exact k _ _ _ _ _ (x1 :: xs) R2 (U1.trans U2) ⟨E1.up U2, E2⟩ ⟨congrArg (· + 1) h2.1, h2.2⟩
theorem de_tup {n : Nat} {x1} (h : DAn X es n wr) (hn : n ≤ 1000 := by decide) : DE X (.Tuple es x1 pos) (dTup wr) := by
  obtain ⟨ta, pa, qa⟩ := h.ex
  refine ⟨_, pe_tup pa, fun b A own H σ s Ks Q R h k => ?_⟩
  refine qa _ _ _ _ _ _ _ _ R h fun A1 o1 H1 vs s1 xs R1 U1 E1 h1 => ?_
  obtain ⟨hl, h1⟩ := h1
  obtain ⟨ds, hd, h2⟩ := onO_inv h1
  refine ⟨?_, fun p hp => new_tup R1 (k.up U1) (allD_rp E1 hd) hp h2⟩
  rw [E1.len, hl]
  exact Nat.le_trans hn (by decide)
theorem de_lst {n : Nat} (h : DAn X es n wr) (hn : n ≤ 1000 := by decide) : DE X (.List es pos) (dLst wr) := by
  obtain ⟨ta, pa, qa⟩ := h.ex
  refine ⟨_, pe_lst pa, fun b A own H σ s Ks Q R h k => ?_⟩
  refine qa _ _ _ _ _ _ _ _ R h fun A1 o1 H1 vs s1 xs R1 U1 E1 h1 => ?_
  obtain ⟨hl, h1⟩ := h1
  obtain ⟨ds, hd, h2⟩ := onO_inv h1
  refine ⟨?_, fun p hp => new_lst R1 (k.up U1) (allD_rp E1 hd) hp h2⟩
  rw [E1.len, hl]
  exact Nat.le_trans hn (by decide)
theorem de_lstM {n : Nat} (h : DAn X es n wr) (hn : n ≤ 1000 := by decide) : DE X (.List es pos) (dLstM wr) := by
  obtain ⟨ta, pa, qa⟩ := h.ex
  refine ⟨_, pe_lst pa, fun b A own H σ s Ks Q R h k => ?_⟩
  refine qa _ _ _ _ _ _ _ _ R h fun A1 o1 H1 vs s1 xs R1 U1 E1 h1 => ?_
  obtain ⟨hl, h1⟩ := h1
  obtain ⟨ds, hd, h2⟩ := onO_inv h1
  refine ⟨?_, fun p hp => new_mu R1 (k.up U1) (allD_rp E1 hd) hp h2⟩
  rw [E1.len, hl]
  exact Nat.le_trans hn (by decide)
/-! ### calls of built-ins -/
def CallD (K : PySem.W.Frag) (r : List V → Hp → VK → Prop) (rd : S → List En → (S → En → Prop) → Prop) : Prop := ∀ (b : Bd) (A : Addr → Prop) (own : List (List Addr)) (H : Hp) (σ : L2.St) (s : S) (vs : List V) (xs : List En) (Ks : S → En → Prop) (Q : VK),
  Rel K b A own H σ s → ERL K A own H vs xs → rd s xs Ks → PostE K b A own H σ Ks Q → r vs H Q
def dCall (rd : S → List En → (S → En → Prop) → Prop) (wr : WA) : WE := fun s Ks => wr s fun s1 xs => rd s1 xs Ks
theorem dCall_run {r : List V → Hp → VK → Prop} {rd} {ta : TA} (hd : CallD X.K r rd)
    (qa : ∀ (b : Bd) (A : Addr → Prop) (own : List (List Addr)) (H : Hp) (σ : L2.St) (s : S) (Ks : S → List En → Prop) (Q : List V → Hp → Prop), Rel X.K b A own H σ s → wr s Ks → PostA X.K b A own H σ Ks Q → ta σ H Q)
    (b : Bd) (A : Addr → Prop) (own : List (List Addr)) (H : Hp) (σ : L2.St) (s : S) (Ks : S → En → Prop) (Q : VK) (R : Rel X.K b A own H σ s) (h : dCall rd wr s Ks) (k : PostE X.K b A own H σ Ks Q) : ta σ H fun vs H1 => r vs H1 Q :=
  qa _ _ _ _ _ _ _ _ R h fun A1 o1 H1 vs s1 xs R1 U1 E1 h1 => hd _ _ _ _ _ _ _ _ _ _ R1 E1 h1 (k.up U1)
theorem de_callB {x : Str} {id : String} {p : Pos} {r : List V → Hp → VK → Prop} {rd} (hc : CallR X (.builtin id) r) (hd : CallD X.K r rd) (hg : Gl X x) (hm : X.mg x = none) (hv : bootBuiltins x = some (.builtin id)) (ha : DA X (e :: es) wr) (hn : x ≠ "__name__" := by decide) (hdb : (x == ("__debug__" : Str)) = false := by decide)
    (he : starEach (e :: es) X.env = (false, eval e X.env) :: starEach es X.env := by rfl) (hpl : (backTo pos (starEach es X.env)).any (·.1) = false := by rfl) : DE X (.Call (.Name x p) (e :: es) [] pos) (dCall rd wr) := by
  obtain ⟨ta, pa, qa⟩ := ha.ex
  exact ⟨_, pe_callB hc hg hm hv pa hn hdb he hpl, dCall_run hd qa⟩
theorem de_callTy {x : Str} {T : String} {p : Pos} {r : List V → Hp → VK → Prop} {rd} (hc : CallR X (.type T) r) (hd : CallD X.K r rd) (hg : Gl X x) (hm : X.mg x = none) (hv : bootBuiltins x = some (.type T)) (ha : DA X (e :: es) wr) (hn : x ≠ "__name__" := by decide) (hdb : (x == ("__debug__" : Str)) = false := by decide)
    (he : starEach (e :: es) X.env = (false, eval e X.env) :: starEach es X.env := by rfl) (hpl : (backTo pos (starEach es X.env)).any (·.1) = false := by rfl) : DE X (.Call (.Name x p) (e :: es) [] pos) (dCall rd wr) := by
  obtain ⟨ta, pa, qa⟩ := ha.ex
  exact ⟨_, pe_callTy hc hg hm hv pa hn hdb he hpl, dCall_run hd qa⟩
def a1 (xs : List En) (k : En → Prop) : Prop := match xs with | [x] => k x | _ => False
def a2 (xs : List En) (k : En → En → Prop) : Prop := match xs with | [x, y] => k x y | _ => False
theorem a1_inv {K : PySem.W.Frag} {A : Addr → Prop} {own : List (List Addr)} {H : Hp} {vs : List V} {xs : List En} {k : En → Prop} (e : ERL K A own H vs xs) (h : a1 xs k) : ∃ v x, vs = [v] ∧ ER K A own H v x ∧ k x := by
  unfold a1 at h
  split at h
  · match vs, e with
    | [v], ⟨e1, _⟩ => exact ⟨v, _, rfl, e1, h⟩
  · exact h.elim
theorem a2_inv {K : PySem.W.Frag} {A : Addr → Prop} {own : List (List Addr)} {H : Hp} {vs : List V} {xs : List En} {k : En → En → Prop} (e : ERL K A own H vs xs) (h : a2 xs k) : ∃ v u x y, vs = [v, u] ∧ ER K A own H v x ∧ ER K A own H u y ∧ k x y := by
  unfold a2 at h
  split at h
  · match vs, e with
    | [v, u], ⟨e1, e2, _⟩ => exact ⟨v, u, _, _, rfl, e1, e2, h⟩
  · exact h.elim
/-- len -/
def lenD : D → (Nat → Prop) → Prop
  | .list ds, k => k ds.length
  | .tuple ds, k => k ds.length
  | .str z, k => z.length ≤ sizeLine ∧ k z.length
  | _, _ => False
def cLen : S → List En → (S → En → Prop) → Prop := fun s xs Ks => a1 xs fun x => onO (vw s x) fun d => lenD d fun n => Ks s (.da (.int (n : Int)))
theorem cd_len {K : PySem.W.Frag} : CallD K (fun xs H Q => ∃ x n, xs = [x] ∧ LenV K x H n ∧ Q (.int n) H) cLen := by
  intro b A own H σ s vs xs Ks Q R E h k
  obtain ⟨v, x, rfl, E, h⟩ := a1_inv E h
  obtain ⟨d, hd, h⟩ := onO_inv h
  unfold lenD at h
  split at h
  · obtain ⟨a, vs, rfl, q, r⟩ := vw_lst R E hd
    exact ⟨_, _, rfl, .inl ⟨vs, q, r.length.symm⟩, k.da R Up.refl (.int _) h⟩
  · obtain ⟨a, vs, rfl, q, r⟩ := vw_tup R E hd
    exact ⟨_, _, rfl, .inr ⟨vs, q, r.length.symm⟩, k.da R Up.refl (.int _) h⟩
  · cases vw_str R E hd
    exact ⟨_, _, rfl, ⟨h.1, rfl⟩, k.da R Up.refl (.int _) h.2⟩
  · exact h.elim
theorem de_len {x : Str} {p : Pos} (hg : Gl X "len") (hm : X.mg "len" = none) (ha : DE X a wa)
    (he : starEach (a :: []) X.env = (false, eval a X.env) :: starEach [] X.env := by rfl) : DE X (.Call (.Name "len" p) [a] [] pos) (dCall cLen (aCons wa aNil)) := de_callB call_len cd_len hg hm PySem.boot_len (da_cons ha da_nil he) (he := he)
/-- min, max of two; abs -/
def cMin : S → List En → (S → En → Prop) → Prop := fun s xs Ks => a2 xs fun x y => iI x y fun i j => Ks s (.da (.int (min i j)))
def cMax : S → List En → (S → En → Prop) → Prop := fun s xs Ks => a2 xs fun x y => iI x y fun i j => Ks s (.da (.int (max i j)))
def cAbs : S → List En → (S → En → Prop) → Prop := fun s xs Ks => a1 xs fun x => i1 x fun i => Ks s (.da (.int (i.natAbs : Int)))
theorem cd_min {K : PySem.W.Frag} : CallD K (fun xs H Q => ∃ i j, xs = [.int i, .int j] ∧ Q (.int (if j < i then j else i)) H) cMin := by
  intro b A own H σ s vs xs Ks Q R E h k
  obtain ⟨v, u, x, y, rfl, E1, E2, h⟩ := a2_inv E h
  obtain ⟨i, j, rfl, rfl, h⟩ := iI_inv h
  cases E1; cases E2
  refine ⟨i, j, rfl, ?_⟩
  rw [show (if j < i then j else i) = min i j by omega]
  exact k.da R Up.refl (.int _) h
theorem cd_max {K : PySem.W.Frag} : CallD K (fun xs H Q => ∃ i j, xs = [.int i, .int j] ∧ Q (.int (if j > i then j else i)) H) cMax := by
  intro b A own H σ s vs xs Ks Q R E h k
  obtain ⟨v, u, x, y, rfl, E1, E2, h⟩ := a2_inv E h
  obtain ⟨i, j, rfl, rfl, h⟩ := iI_inv h
  cases E1; cases E2
  refine ⟨i, j, rfl, ?_⟩
  rw [show (if j > i then j else i) = max i j by omega]
  exact k.da R Up.refl (.int _) h
theorem cd_abs {K : PySem.W.Frag} : CallD K (fun xs H Q => ∃ i, xs = [.int i] ∧ Q (.int (if i < 0 then -i else i)) H) cAbs := by
  intro b A own H σ s vs xs Ks Q R E h k
  obtain ⟨v, x, rfl, E1, h⟩ := a1_inv E h
  obtain ⟨i, rfl, h⟩ := i1_inv h
  cases E1
  refine ⟨i, rfl, ?_⟩
  rw [show (if i < 0 then -i else i) = (i.natAbs : Int) by omega]
  exact k.da R Up.refl (.int _) h
theorem de_min {p : Pos} (hc : X.calm = true) (hg : Gl X "min") (hm : X.mg "min" = none) (ha : DE X a wa) (hb : DE X b wb)
    (he : starEach (a :: [b]) X.env = (false, eval a X.env) :: starEach [b] X.env := by rfl) (he2 : starEach (b :: []) X.env = (false, eval b X.env) :: starEach [] X.env := by rfl) (hpl : (backTo pos (starEach [b] X.env)).any (·.1) = false := by rfl) : DE X (.Call (.Name "min" p) [a, b] [] pos) (dCall cMin (aCons wa (aCons wb aNil))) := de_callB (call_min2 hc) cd_min hg hm (by decide +kernel) (da_cons ha (da_cons hb da_nil he2) he) (he := he) (hpl := hpl)
theorem de_max {p : Pos} (hc : X.calm = true) (hg : Gl X "max") (hm : X.mg "max" = none) (ha : DE X a wa) (hb : DE X b wb)
    (he : starEach (a :: [b]) X.env = (false, eval a X.env) :: starEach [b] X.env := by rfl) (he2 : starEach (b :: []) X.env = (false, eval b X.env) :: starEach [] X.env := by rfl) (hpl : (backTo pos (starEach [b] X.env)).any (·.1) = false := by rfl) : DE X (.Call (.Name "max" p) [a, b] [] pos) (dCall cMax (aCons wa (aCons wb aNil))) := de_callB (call_max2 hc) cd_max hg hm (by decide +kernel) (da_cons ha (da_cons hb da_nil he2) he) (he := he) (hpl := hpl)
theorem de_abs {p : Pos} (hg : Gl X "abs") (hm : X.mg "abs" = none) (ha : DE X a wa)
    (he : starEach (a :: []) X.env = (false, eval a X.env) :: starEach [] X.env := by rfl) : DE X (.Call (.Name "abs" p) [a] [] pos) (dCall cAbs (aCons wa aNil)) := de_callB call_abs cd_abs hg hm (by decide +kernel) (da_cons ha da_nil he) (he := he)
/-- divmod -/
def cDivmod : S → List En → (S → En → Prop) → Prop := fun s xs Ks => a2 xs fun x y => iI x y fun i j => CDivW i j ∧ Ks s (.da (.tuple [.int (i / j), .int (i % j)]))
theorem cd_divmod {K : PySem.W.Frag} : CallD K (fun xs H Q => ∃ i j, xs = [.int i, .int j] ∧ CDivP i j ∧ ∀ p, H p = none → Q (.ref p) (upd H p (.tup [.int (i / j), .int (i % j)]))) cDivmod := by
  intro b A own H σ s vs xs Ks Q R E h k
  obtain ⟨v, u, x, y, rfl, E1, E2, h⟩ := a2_inv E h
  obtain ⟨i, j, rfl, rfl, hc, h⟩ := iI_inv h
  cases E1; cases E2
  exact ⟨i, j, rfl, ⟨hc.1, PyProof.noPylong_of_log2 hc.2⟩, fun p hp => new_tup R k (.cons (.int _) (.cons (.int _) .nil)) hp h⟩
theorem de_divmod {p : Pos} (hg : Gl X "divmod") (hm : X.mg "divmod" = none) (ha : DE X a wa) (hb : DE X b wb)
    (he : starEach (a :: [b]) X.env = (false, eval a X.env) :: starEach [b] X.env := by rfl) (he2 : starEach (b :: []) X.env = (false, eval b X.env) :: starEach [] X.env := by rfl) (hpl : (backTo pos (starEach [b] X.env)).any (·.1) = false := by rfl) : DE X (.Call (.Name "divmod" p) [a, b] [] pos) (dCall cDivmod (aCons wa (aCons wb aNil))) := de_callB call_divmodW cd_divmod hg hm (by decide +kernel) (da_cons ha (da_cons hb da_nil he2) he) (he := he) (hpl := hpl)
/-- sum, all, any of a list; sorted of ints -/
def cSum : S → List En → (S → En → Prop) → Prop := fun s xs Ks => a1 xs fun x => ∃ ns : List Int, vw s x = some (.list (ns.map .int)) ∧ Ks s (.da (.int ns.sum))
def cAll : S → List En → (S → En → Prop) → Prop := fun s xs Ks => a1 xs fun x => ∃ ns : List Bool, vw s x = some (.list (ns.map .bool)) ∧ Ks s (.da (.bool (ns.all id)))
def cAny : S → List En → (S → En → Prop) → Prop := fun s xs Ks => a1 xs fun x => ∃ ns : List Bool, vw s x = some (.list (ns.map .bool)) ∧ Ks s (.da (.bool (ns.any id)))
def cMinL : S → List En → (S → En → Prop) → Prop := fun s xs Ks => a1 xs fun x => ∃ ns : List Int, vw s x = some (.list (ns.map .int)) ∧ 0 < ns.length ∧ ∀ m, m ∈ ns → (∀ y, y ∈ ns → m ≤ y) → Ks s (.da (.int m))
def cMaxL : S → List En → (S → En → Prop) → Prop := fun s xs Ks => a1 xs fun x => ∃ ns : List Int, vw s x = some (.list (ns.map .int)) ∧ 0 < ns.length ∧ ∀ m, m ∈ ns → (∀ y, y ∈ ns → y ≤ m) → Ks s (.da (.int m))
def cSortI : S → List En → (S → En → Prop) → Prop := fun s xs Ks => a1 xs fun x => ∃ ns : List Int, vw s x = some (.list (ns.map .int)) ∧ ∀ ns' : List Int, ns'.Perm ns → ns'.Pairwise (· ≤ ·) → Ks s (.da (.list (ns'.map .int)))
theorem cd_sum {K : PySem.W.Frag} : CallD K (rSum K) cSum := by
  intro b A own H σ s vs xs Ks Q R E h k
  obtain ⟨v, x, rfl, E, ns, hd, h⟩ := a1_inv E h
  obtain ⟨a, vs, rfl, q, r⟩ := vw_lst R E hd
  rw [RpL.ofInts r] at q
  exact ⟨a, ns, rfl, q, k.da R Up.refl (.int _) h⟩
theorem cd_all {K : PySem.W.Frag} : CallD K (rAll K) cAll := by
  intro b A own H σ s vs xs Ks Q R E h k
  obtain ⟨v, x, rfl, E, ns, hd, h⟩ := a1_inv E h
  obtain ⟨a, vs, rfl, q, r⟩ := vw_lst R E hd
  rw [RpL.ofBools r] at q
  exact ⟨a, ns, rfl, q, k.da R Up.refl (.bl _) h⟩
theorem cd_any {K : PySem.W.Frag} : CallD K (rAny K) cAny := by
  intro b A own H σ s vs xs Ks Q R E h k
  obtain ⟨v, x, rfl, E, ns, hd, h⟩ := a1_inv E h
  obtain ⟨a, vs, rfl, q, r⟩ := vw_lst R E hd
  rw [RpL.ofBools r] at q
  exact ⟨a, ns, rfl, q, k.da R Up.refl (.bl _) h⟩
theorem cd_minL {K : PySem.W.Frag} : CallD K (rMin K) cMinL := by
  intro b A own H σ s vs xs Ks Q R E h k
  obtain ⟨v, x, rfl, E, ns, hd, h0, h⟩ := a1_inv E h
  obtain ⟨a, vs, rfl, q, r⟩ := vw_lst R E hd
  rw [RpL.ofInts r] at q
  exact ⟨a, ns, rfl, q, h0, fun m m1 m2 => k.da R Up.refl (.int _) (h m m1 m2)⟩
theorem cd_maxL {K : PySem.W.Frag} : CallD K (rMax K) cMaxL := by
  intro b A own H σ s vs xs Ks Q R E h k
  obtain ⟨v, x, rfl, E, ns, hd, h0, h⟩ := a1_inv E h
  obtain ⟨a, vs, rfl, q, r⟩ := vw_lst R E hd
  rw [RpL.ofInts r] at q
  exact ⟨a, ns, rfl, q, h0, fun m m1 m2 => k.da R Up.refl (.int _) (h m m1 m2)⟩
theorem cd_sortI {K : PySem.W.Frag} : CallD K (rSortedI K) cSortI := by
  intro b A own H σ s vs xs Ks Q R E h k
  obtain ⟨v, x, rfl, E, ns, hd, h⟩ := a1_inv E h
  obtain ⟨a, vs, rfl, q, r⟩ := vw_lst R E hd
  rw [RpL.ofInts r] at q
  exact ⟨a, ns, rfl, q, fun ns' p h1 h2 hp => new_lst R k RpL.ints hp (h ns' h1 h2)⟩
theorem de_sum {p : Pos} (hc : X.calm = true) (hg : Gl X "sum") (hm : X.mg "sum" = none) (ha : DE X a wa) (he : starEach (a :: []) X.env = (false, eval a X.env) :: starEach [] X.env := by rfl) : DE X (.Call (.Name "sum" p) [a] [] pos) (dCall cSum (aCons wa aNil)) := de_callB (cr_sum hc) cd_sum hg hm (by decide +kernel) (da_cons ha da_nil he) (he := he)
theorem de_all {p : Pos} (hc : X.calm = true) (hg : Gl X "all") (hm : X.mg "all" = none) (ha : DE X a wa) (he : starEach (a :: []) X.env = (false, eval a X.env) :: starEach [] X.env := by rfl) : DE X (.Call (.Name "all" p) [a] [] pos) (dCall cAll (aCons wa aNil)) := de_callB (cr_all hc) cd_all hg hm (by decide +kernel) (da_cons ha da_nil he) (he := he)
theorem de_any {p : Pos} (hc : X.calm = true) (hg : Gl X "any") (hm : X.mg "any" = none) (ha : DE X a wa) (he : starEach (a :: []) X.env = (false, eval a X.env) :: starEach [] X.env := by rfl) : DE X (.Call (.Name "any" p) [a] [] pos) (dCall cAny (aCons wa aNil)) := de_callB (cr_any hc) cd_any hg hm (by decide +kernel) (da_cons ha da_nil he) (he := he)
theorem de_minL {p : Pos} (hc : X.calm = true) (hg : Gl X "min") (hm : X.mg "min" = none) (ha : DE X a wa) (he : starEach (a :: []) X.env = (false, eval a X.env) :: starEach [] X.env := by rfl) : DE X (.Call (.Name "min" p) [a] [] pos) (dCall cMinL (aCons wa aNil)) := de_callB (cr_min hc) cd_minL hg hm (by decide +kernel) (da_cons ha da_nil he) (he := he)
theorem de_maxL {p : Pos} (hc : X.calm = true) (hg : Gl X "max") (hm : X.mg "max" = none) (ha : DE X a wa) (he : starEach (a :: []) X.env = (false, eval a X.env) :: starEach [] X.env := by rfl) : DE X (.Call (.Name "max" p) [a] [] pos) (dCall cMaxL (aCons wa aNil)) := de_callB (cr_max hc) cd_maxL hg hm (by decide +kernel) (da_cons ha da_nil he) (he := he)
theorem de_sortI {p : Pos} (hg : Gl X "sorted") (hm : X.mg "sorted" = none) (ha : DE X a wa) (he : starEach (a :: []) X.env = (false, eval a X.env) :: starEach [] X.env := by rfl) : DE X (.Call (.Name "sorted" p) [a] [] pos) (dCall cSortI (aCons wa aNil)) := de_callB cr_sortedI cd_sortI hg hm (by decide +kernel) (da_cons ha da_nil he) (he := he)
/-- list(..), tuple(..) of a list or a tuple -/
def seqD : D → Option (List D) | .list ds => some ds | .tuple ds => some ds | _ => none
def cList : S → List En → (S → En → Prop) → Prop := fun s xs Ks => a1 xs fun x => onO (vw s x) fun d => onO (seqD d) fun ds => Ks s (.da (.list ds))
def cListM : S → List En → (S → En → Prop) → Prop := fun s xs Ks => a1 xs fun x => onO (vw s x) fun d => onO (seqD d) fun ds => Ks (s.aM (.lst ds)) (.mu s.ms.length)
def cTuple : S → List En → (S → En → Prop) → Prop := fun s xs Ks => a1 xs fun x => onO (vw s x) fun d => onO (seqD d) fun ds => Ks s (.da (.tuple ds))
theorem cd_list {K : PySem.W.Frag} : CallD K (fun xs H Q => ∃ p ys, xs = [.ref p] ∧ (SqL K H p ys ∨ SqT K H p ys) ∧ ∀ l, H l = none → Q (.ref l) (upd H l (.lst ys))) cList := by
  intro b A own H σ s vs xs Ks Q R E h k
  obtain ⟨v, x, rfl, E, h⟩ := a1_inv E h
  obtain ⟨d, hd, h⟩ := onO_inv h
  obtain ⟨ds, hs, h⟩ := onO_inv h
  unfold seqD at hs
  split at hs <;> cases hs
  · obtain ⟨a, vs, rfl, q, r⟩ := vw_lst R E hd
    exact ⟨a, vs, rfl, .inl q, fun l hl => new_lst R k r hl h⟩
  · obtain ⟨a, vs, rfl, q, r⟩ := vw_tup R E hd
    exact ⟨a, vs, rfl, .inr q, fun l hl => new_lst R k r hl h⟩
theorem cd_listM {K : PySem.W.Frag} : CallD K (fun xs H Q => ∃ p ys, xs = [.ref p] ∧ (SqL K H p ys ∨ SqT K H p ys) ∧ ∀ l, H l = none → Q (.ref l) (upd H l (.lst ys))) cListM := by
  intro b A own H σ s vs xs Ks Q R E h k
  obtain ⟨v, x, rfl, E, h⟩ := a1_inv E h
  obtain ⟨d, hd, h⟩ := onO_inv h
  obtain ⟨ds, hs, h⟩ := onO_inv h
  unfold seqD at hs
  split at hs <;> cases hs
  · obtain ⟨a, vs, rfl, q, r⟩ := vw_lst R E hd
    exact ⟨a, vs, rfl, .inl q, fun l hl => new_mu R k r hl h⟩
  · obtain ⟨a, vs, rfl, q, r⟩ := vw_tup R E hd
    exact ⟨a, vs, rfl, .inr q, fun l hl => new_mu R k r hl h⟩
theorem cd_tuple {K : PySem.W.Frag} : CallD K (fun xs H Q => ∃ p ys, xs = [.ref p] ∧ ((SqL K H p ys ∧ ∀ l, H l = none → Q (.ref l) (upd H l (.tup ys))) ∨ (SqT K H p ys ∧ Q (.ref p) H))) cTuple := by
  intro b A own H σ s vs xs Ks Q R E h k
  obtain ⟨v, x, rfl, E, h⟩ := a1_inv E h
  obtain ⟨d, hd, h⟩ := onO_inv h
  obtain ⟨ds, hs, h⟩ := onO_inv h
  unfold seqD at hs
  split at hs <;> cases hs
  · obtain ⟨a, vs, rfl, q, r⟩ := vw_lst R E hd
    exact ⟨a, vs, rfl, .inl ⟨q, fun l hl => new_tup R k r hl h⟩⟩
  · obtain ⟨a, vs, rfl, q, r⟩ := vw_tup R E hd
    refine ⟨a, vs, rfl, .inr ⟨q, ?_⟩⟩
    cases x with
    | da d => cases hd; exact k.da R Up.refl E h
    | mu j =>
      unfold vw at hd
      simp only at hd
      cases q : gm s.ms j <;> (rw [q] at hd; cases hd)
    | no => cases hd
theorem de_list {p : Pos} (hg : Gl X "list") (hm : X.mg "list" = none) (ha : DE X a wa) (he : starEach (a :: []) X.env = (false, eval a X.env) :: starEach [] X.env := by rfl) : DE X (.Call (.Name "list" p) [a] [] pos) (dCall cList (aCons wa aNil)) := de_callTy call_list_of cd_list hg hm (by decide +kernel) (da_cons ha da_nil he) (he := he)
theorem de_listM {p : Pos} (hg : Gl X "list") (hm : X.mg "list" = none) (ha : DE X a wa) (he : starEach (a :: []) X.env = (false, eval a X.env) :: starEach [] X.env := by rfl) : DE X (.Call (.Name "list" p) [a] [] pos) (dCall cListM (aCons wa aNil)) := de_callTy call_list_of cd_listM hg hm (by decide +kernel) (da_cons ha da_nil he) (he := he)
theorem de_tuple {p : Pos} (hg : Gl X "tuple") (hm : X.mg "tuple" = none) (ha : DE X a wa) (he : starEach (a :: []) X.env = (false, eval a X.env) :: starEach [] X.env := by rfl) : DE X (.Call (.Name "tuple" p) [a] [] pos) (dCall cTuple (aCons wa aNil)) := de_callTy call_tuple_of cd_tuple hg hm (by decide +kernel) (da_cons ha da_nil he) (he := he)
/-- str(int), int(str), int(int) -/
def cStrI : S → List En → (S → En → Prop) → Prop := fun s xs Ks => a1 xs fun x => i1 x fun i => i.natAbs.log2 < 1920 ∧ Ks s (.da (.str (toString i : String)))
end
end DL
namespace DL
open PySem L2
section
variable {X : Cx} {a b c e : Expr} {wa wb wc we : WE} {pos : Pos} {es : List Expr}
/-! ### targets -/
def gN (i : Nat) : WG := fun x s Ks => Ks (s.sE i x)
theorem Sto.refl {js : List Nat} {σ : L2.St} : Sto js σ σ := ⟨rfl, fun _ _ => rfl⟩
theorem Sto.trans {js ks : List Nat} {σ τ υ : L2.St} (h : Sto js σ τ) (k : Sto ks τ υ) : Sto (js ++ ks) σ υ :=
  ⟨k.1.trans h.1, fun i n => (k.2 i fun z => n (List.mem_append_right _ z)).trans (h.2 i fun z => n (List.mem_append_left _ z))⟩
theorem dg_name {i : Nat} {x : Str} (hN : X.N.Nodup) (hi : X.N[i]? = some x) (hx : Loc X.env.scope x) (hf : X.fn x = true ∨ X.env.scope.names.lookup x = some .local := by first | exact .inl rfl | exact .inr rfl | assumption) : DG X (.Name x pos) [i] (gN i) :=
  ⟨_, pg_name hN hi hx hf, fun b A own H σ s v x Ks Q R E h k => k _ _ _ _ _ (R.slot E) Up.refl ⟨List.length_set .., fun j n => List.getElem?_set_ne (fun z => n (by simp [z]))⟩ h⟩
abbrev WGs := List D → S → (S → Prop) → Prop
structure DGs (X : Cx) (ts : List Expr) (js : List Nat) (w : WGs) : Prop where
  ex : ∃ g, PGs X ts g ∧ ∀ (b : Bd) (A : Addr → Prop) (own : List (List Addr)) (H : Hp) (σ : L2.St) (s : S) (vs : List V) (ds : List D) (Ks : S → Prop) (Q : L2.St → Hp → Prop), Rel X.K b A own H σ s → RpL X.K A H vs ds → w ds s Ks → PostG X.K b A own H σ js Ks Q → g vs σ H Q
def gsNil : WGs := fun ds s Ks => match ds with | [] => Ks s | _ => False
def gsCons (g : WG) (r : WGs) : WGs := fun ds s Ks => match ds with | d :: ds => g (.da d) s fun s1 => r ds s1 Ks | [] => False
theorem dgs_nil : DGs X [] [] gsNil := ⟨_, pgs_nil, fun b A own H σ s vs ds Ks Q R E h k => by
  unfold gsNil at h
  split at h
  · cases E; exact ⟨rfl, k _ _ _ _ _ R Up.refl Sto.refl h⟩
  · exact h.elim⟩
theorem dgs_cons {js ks : List Nat} {g : WG} {r : WGs} (h1 : DG X e js g) (h2 : DGs X es ks r) (hs : (assignEach (e :: es) X.env).map (·.2) = assign e X.env :: (assignEach es X.env).map (·.2) := by rfl) : DGs X (e :: es) (js ++ ks) (gsCons g r) := by
  obtain ⟨g1, p1, q1⟩ := h1.ex
  obtain ⟨g2, p2, q2⟩ := h2.ex
  refine ⟨_, pgs_cons p1 p2 hs, fun b A own H σ s vs ds Ks Q R E h k => ?_⟩
  unfold gsCons at h
  split at h
  · cases E with
    | cons e1 e2 =>
      refine ⟨_, _, rfl, ?_⟩
      refine q1 _ _ _ _ _ _ _ _ _ _ R (show ER X.K A own H _ (.da _) from e1) h fun A1 o1 H1 σ1 s1 R1 U1 S1 h1 => ?_
      exact q2 _ _ _ _ _ _ _ _ _ _ R1 (RpL.mono U1.kp e2) h1 fun A2 o2 H2 σ2 s2 R2 U2 S2 h2 => k _ _ _ _ _ R2 (U1.trans U2) (S1.trans S2) h2
  · exact h.elim
def gT (n : Nat) (r : WGs) : WG := fun x s Ks => match x with | .da (.tuple ds) => ds.length = n ∧ r ds s Ks | _ => False
def gL (n : Nat) (r : WGs) : WG := fun x s Ks => onO (vw s x) fun d => match d with | .list ds => ds.length = n ∧ r ds s Ks | _ => False
theorem dg_tup {js : List Nat} {r : WGs} {n : Nat} {kk : Nat} (hc : X.calm = true) (h : DGs X es js r) (hn : (assignEach es X.env).length = n := by rfl) (hst : (assignEach es X.env).findIdx? (·.1) = none := by rfl) : DG X (.Tuple es kk pos) js (gT n r) := by
  obtain ⟨g, p, q⟩ := h.ex
  refine ⟨_, pg_tup hc p hn hst, fun b A own H σ s v x Ks Q R E h k => ?_⟩
  unfold gT at h
  split at h
  · obtain ⟨a, vs, rfl, t, r⟩ := vw_tup R E rfl
    exact ⟨a, vs, rfl, t, r.length.trans h.1, q _ _ _ _ _ _ _ _ _ _ R r h.2 k⟩
  · exact h.elim
theorem dg_lst {js : List Nat} {r : WGs} {n : Nat} {kk : Nat} (hc : X.calm = true) (h : DGs X es js r) (hn : (assignEach es X.env).length = n := by rfl) (hst : (assignEach es X.env).findIdx? (·.1) = none := by rfl) : DG X (.Tuple es kk pos) js (gL n r) := by
  obtain ⟨g, p, q⟩ := h.ex
  refine ⟨_, pg_unl hc p hn hst, fun b A own H σ s v x Ks Q R E h k => ?_⟩
  unfold gL at h
  obtain ⟨d, hd, h⟩ := onO_inv h
  split at h
  · obtain ⟨a, vs, rfl, t, r⟩ := vw_lst R E hd
    exact ⟨a, vs, rfl, t, r.length.trans h.1, q _ _ _ _ _ _ _ _ _ _ R r h.2 k⟩
  · exact h.elim
/-- x[i] = d, x a list that changes -/
def mu1 (s : S) (x : En) (k : Nat → List D → Prop) : Prop := match x with | .mu j => (match gm s.ms j with | .lst ds => k j ds | _ => False) | _ => False
theorem mu1_inv {s : S} {x : En} {k : Nat → List D → Prop} (h : mu1 s x k) : ∃ j ds, x = .mu j ∧ gm s.ms j = .lst ds ∧ k j ds := by
  unfold mu1 at h
  split at h
  · split at h
    · exact ⟨_, _, rfl, by assumption, h⟩
    · exact h.elim
  · exact h.elim
theorem gm_lt {ms : List MO} {j : Nat} (h : gm ms j ≠ .gone) : j < ms.length := Nat.lt_of_not_le fun z => h (gm_ge _ _ z)
/-- a list that changes: read, and written -/
theorem mu_at {K : PySem.W.Frag} {b : Bd} {A : Addr → Prop} {own : List (List Addr)} {H : Hp} {σ : L2.St} {s : S} (R : Rel K b A own H σ s) {v : V} {j : Nat} {ds : List D} (E : ER K A own H v (.mu j)) (g : gm s.ms j = .lst ds) :
    ∃ p vs, v = .ref p ∧ H p = some (.lst vs) ∧ RpL K A H vs ds ∧ go own j = [p] ∧ ∀ vs' ds', RpL K A H vs' ds' → Rel K b A own (upd H p (.lst vs')) σ (s.sM j (.lst ds')) ∧ Up A own H A own (upd H p (.lst vs')) := by
  have m := R.mr j
  rw [g] at m
  obtain ⟨p, vs, e1, e2, e3⟩ := m
  obtain ⟨p', r, e4, rfl⟩ := E
  rw [e1] at e4
  cases e4
  refine ⟨p, vs, rfl, e2, e3, e1, fun vs' ds' r' => ?_⟩
  refine R.chg j (.lst ds') (fun a o n h => ?_) (fun a h => ?_) (fun u => ?_) (gm_lt (by rw [g]; intro z; cases z))
  · rw [upd_ne]; exact h
    intro z; subst z; exact n (by rw [e1]; simp)
  · rw [e1] at h
    cases List.mem_singleton.mp h
    rw [upd_same]; intro z; cases z
  · rw [e1]; exact ⟨p, vs', rfl, upd_same, RpL.mono u.kp r'⟩
def daI (x : En) (k : D → Prop) : Prop := match x with | .da d => k d | _ => False
theorem daI_inv {x : En} {k : D → Prop} (h : daI x k) : ∃ d, x = .da d ∧ k d := by
  unfold daI at h
  split at h
  · exact ⟨_, rfl, h⟩
  · exact h.elim
def gSetL (wo wi : WE) : WG := fun x s Ks => wo s fun s1 o => wi s1 fun s2 i => mu1 s2 o fun j ds => i1 i fun z => daI x fun d => ∃ n, ixN ds.length z = some n ∧ Ks (s2.sM j (.lst (ds.set n d)))
theorem dg_setL (ho : DE X a wa) (hi : DE X b wb) (hh : ∀ v, assign (.Subscript a b pos) X.env v = (do
      let ov ← holding [v] (eval a X.env)
      let iv ← holding [v, ov] (eval b X.env)
      standAt pos
      holding [v, ov, iv] (setItem ov iv v)
      release [v, ov, iv] []) := by intro _; rfl) : DG X (.Subscript a b pos) [] (gSetL wa wb) := by
  obtain ⟨ta, pa, qa⟩ := ho.ex
  obtain ⟨tb, pb, qb⟩ := hi.ex
  refine ⟨_, pg_sub pa pb set_list hh, fun b A own H σ s v x Ks Q R E h k => ?_⟩
  show ta σ H fun o H1 => tb σ H1 fun i H2 => rSetL o i v H2 fun H3 => Q σ H3
  refine qa _ _ _ _ _ _ _ _ R h fun A1 o1 H1 v1 s1 x1 R1 U1 E1 h1 => ?_
  refine qb _ _ _ _ _ _ _ _ R1 h1 fun A2 o2 H2 v2 s2 x2 R2 U2 E2 h2 => ?_
  obtain ⟨j, ds, rfl, g, h2⟩ := mu1_inv h2
  obtain ⟨z, rfl, h2⟩ := i1_inv h2
  obtain ⟨d, rfl, n, hn, h2⟩ := daI_inv h2
  cases E2
  obtain ⟨p, vs, rfl, e2, e3, _, up⟩ := mu_at R2 (E1.up U2) g
  have r : Rp X.K A2 H2 v d := E.up (U1.trans U2)
  obtain ⟨R3, U3⟩ := up (vs.set n v) (ds.set n d) (e3.set r n)
  exact ⟨p, vs, z, n, rfl, rfl, e2, by rw [e3.length]; exact hn, k _ _ _ _ _ R3 ((U1.trans U2).trans U3) Sto.refl h2⟩
/-! ### dicts that change -/
def keyD : D → Option Key | .int i => some (.inl i) | .str x => some (.inr x) | _ => none
def findD (kvs : List (Key × D)) (k : Key) : Option D := (kvs.find? fun kv => decide (kv.1 = k)).map (·.2)
def putD (kvs : List (Key × D)) (k : Key) (d : D) : List (Key × D) :=
  if (kvs.any fun kv => decide (kv.1 = k)) = true then kvs.map (fun kv => if kv.1 = k then (kv.1, d) else kv) else kvs ++ [(k, d)]
theorem keyD_rp {K : PySem.W.Frag} {A : Addr → Prop} {H : Hp} {v : V} {d : D} {k : Key} (r : Rp K A H v d) (h : keyD d = some k) : v = kV k := by
  cases r <;> simp only [keyD, Option.some.injEq, reduceCtorEq] at h <;> subst h <;> rfl
section
variable {K : PySem.W.Frag} {A : Addr → Prop} {H : Hp}
theorem RKV.len : ∀ {ws : List (Key × V)} {kvs : List (Key × D)}, RKV K A H ws kvs → ws.length = kvs.length
  | [], [], _ => rfl
  | _ :: _, _ :: _, ⟨_, _, t⟩ => congrArg (· + 1) (RKV.len t)
theorem RKV.keys : ∀ {ws : List (Key × V)} {kvs : List (Key × D)}, RKV K A H ws kvs → ws.map (·.1) = kvs.map (·.1)
  | [], [], _ => rfl
  | _ :: _, _ :: _, ⟨e, _, t⟩ => by rw [List.map_cons, List.map_cons, e, RKV.keys t]
theorem RKV.vals : ∀ {ws : List (Key × V)} {kvs : List (Key × D)}, RKV K A H ws kvs → RpL K A H (ws.map (·.2)) (kvs.map (·.2))
  | [], [], _ => .nil
  | _ :: _, _ :: _, ⟨_, r, t⟩ => .cons r (RKV.vals t)
theorem RKV.any {k : Key} : ∀ {ws : List (Key × V)} {kvs : List (Key × D)}, RKV K A H ws kvs → (ws.any fun kv => decide (kv.1 = k)) = (kvs.any fun kv => decide (kv.1 = k))
  | [], [], _ => rfl
  | _ :: _, _ :: _, ⟨e, _, t⟩ => by rw [List.any_cons, List.any_cons, e, RKV.any t]
theorem RKV.map {k : Key} {v : V} {d : D} (r : Rp K A H v d) : ∀ {ws : List (Key × V)} {kvs : List (Key × D)}, RKV K A H ws kvs → RKV K A H (ws.map fun kv => if kv.1 = k then (kv.1, v) else kv) (kvs.map fun kv => if kv.1 = k then (kv.1, d) else kv)
  | [], [], _ => trivial
  | p :: _, q :: _, ⟨e, r', t⟩ => by
    rw [List.map_cons, List.map_cons]
    by_cases h : q.1 = k
    · rw [if_pos h, if_pos (e.trans h)]; exact ⟨e, r, RKV.map r t⟩
    · rw [if_neg h, if_neg (fun z => h (e.symm.trans z))]; exact ⟨e, r', RKV.map r t⟩
theorem RKV.snoc {k : Key} {v : V} {d : D} (r : Rp K A H v d) : ∀ {ws : List (Key × V)} {kvs : List (Key × D)}, RKV K A H ws kvs → RKV K A H (ws ++ [(k, v)]) (kvs ++ [(k, d)])
  | [], [], _ => ⟨rfl, r, trivial⟩
  | _ :: _, _ :: _, ⟨e, r', t⟩ => ⟨e, r', RKV.snoc r t⟩
theorem RKV.put {k : Key} {v : V} {d : D} (r : Rp K A H v d) {ws : List (Key × V)} {kvs : List (Key × D)} (h : RKV K A H ws kvs) : RKV K A H (putK ws k v) (putD kvs k d) := by
  unfold putK putD
  rw [h.any]
  split
  · exact h.map r
  · exact h.snoc r
theorem RKV.find {k : Key} : ∀ {ws : List (Key × V)} {kvs : List (Key × D)}, RKV K A H ws kvs → (findD kvs k = none ∧ valV ws k = none) ∨ ∃ d v, findD kvs k = some d ∧ valV ws k = some v ∧ Rp K A H v d
  | [], [], _ => .inl ⟨rfl, rfl⟩
  | p :: ws, q :: kvs, ⟨e, r, t⟩ => by
    unfold findD
    rw [List.find?_cons]
    by_cases h : q.1 = k
    · rw [decide_eq_true h, valV_pos (e.trans h)]; exact .inr ⟨_, _, rfl, rfl, r⟩
    · rw [decide_eq_false h, valV_neg (fun z => h (e.symm.trans z))]; exact RKV.find t
end
def mu2 (s : S) (x : En) (k : Nat → List (Key × D) → Prop) : Prop := match x with | .mu j => (match gm s.ms j with | .dct ds => k j ds | _ => False) | _ => False
theorem mu2_inv {s : S} {x : En} {k : Nat → List (Key × D) → Prop} (h : mu2 s x k) : ∃ j ds, x = .mu j ∧ gm s.ms j = .dct ds ∧ k j ds := by
  unfold mu2 at h
  split at h
  · split at h
    · exact ⟨_, _, rfl, by assumption, h⟩
    · exact h.elim
  · exact h.elim
theorem mud_at {K : PySem.W.Frag} {b : Bd} {A : Addr → Prop} {own : List (List Addr)} {H : Hp} {σ : L2.St} {s : S} (R : Rel K b A own H σ s) {v : V} {j : Nat} {ds : List (Key × D)} (E : ER K A own H v (.mu j)) (g : gm s.ms j = .dct ds) :
    ∃ p vs, v = .ref p ∧ H p = some (.dK vs) ∧ RKV K A H vs ds ∧ go own j = [p] ∧ ∀ vs' ds', RKV K A H vs' ds' → Rel K b A own (upd H p (.dK vs')) σ (s.sM j (.dct ds')) ∧ Up A own H A own (upd H p (.dK vs')) := by
  have m := R.mr j
  rw [g] at m
  obtain ⟨p, vs, e1, e2, e3⟩ := m
  obtain ⟨p', r, e4, rfl⟩ := E
  rw [e1] at e4
  cases e4
  refine ⟨p, vs, rfl, e2, e3, e1, fun vs' ds' r' => ?_⟩
  refine R.chg j (.dct ds') (fun a o n h => ?_) (fun a h => ?_) (fun u => ?_) (gm_lt (by rw [g]; intro z; cases z))
  · rw [upd_ne]; exact h
    intro z; subst z; exact n (by rw [e1]; simp)
  · rw [e1] at h
    cases List.mem_singleton.mp h
    rw [upd_same]; intro z; cases z
  · rw [e1]; exact ⟨p, vs', rfl, upd_same, RKV.up u.kp r'⟩
def gSetD (wo wi : WE) : WG := fun x s Ks => wo s fun s1 o => wi s1 fun s2 i => mu2 s2 o fun j kvs => daI i fun kd => onO (keyD kd) fun key => daI x fun d => kvs.length < sizeLine ∧ Ks (s2.sM j (.dct (putD kvs key d)))
theorem dg_setD (hu : X.A.units + 1 < cLine) (ho : DE X a wa) (hi : DE X b wb) (hh : ∀ v, assign (.Subscript a b pos) X.env v = (do
      let ov ← holding [v] (eval a X.env)
      let iv ← holding [v, ov] (eval b X.env)
      standAt pos
      holding [v, ov, iv] (setItem ov iv v)
      release [v, ov, iv] []) := by intro _; rfl) : DG X (.Subscript a b pos) [] (gSetD wa wb) := by
  obtain ⟨ta, pa, qa⟩ := ho.ex
  obtain ⟨tb, pb, qb⟩ := hi.ex
  refine ⟨_, pg_sub pa pb (set_dict hu) hh, fun b A own H σ s v x Ks Q R E h k => ?_⟩
  show ta σ H fun o H1 => tb σ H1 fun i H2 => rSetD o i v H2 fun H3 => Q σ H3
  refine qa _ _ _ _ _ _ _ _ R h fun A1 o1 H1 v1 s1 x1 R1 U1 E1 h1 => ?_
  refine qb _ _ _ _ _ _ _ _ R1 h1 fun A2 o2 H2 v2 s2 x2 R2 U2 E2 h2 => ?_
  obtain ⟨j, ds, rfl, g, h2⟩ := mu2_inv h2
  obtain ⟨kd, rfl, h2⟩ := daI_inv h2
  obtain ⟨key, hk, h2⟩ := onO_inv h2
  obtain ⟨d, rfl, hl, h2⟩ := daI_inv h2
  obtain ⟨p, vs, rfl, e2, e3, _, up⟩ := mud_at R2 (E1.up U2) g
  have r : Rp X.K A2 H2 v d := E.up (U1.trans U2)
  obtain ⟨R3, U3⟩ := up _ _ (e3.put (k := key) r)
  rw [keyD_rp E2 hk]
  exact ⟨p, _, rfl, DPut.k e2 (by rw [e3.len]; exact hl), k _ _ _ _ _ R3 ((U1.trans U2).trans U3) Sto.refl h2⟩
/-- {} -/
def dNewD : WE := fun s Ks => Ks (s.aM (.dct [])) (.mu s.ms.length)
theorem de_newD : DE X (.Dict [] [] pos) dNewD := ⟨_, pe_dnewK, fun b A own H σ s Ks Q R h k => by
  intro p hp
  obtain ⟨R1, U1, g⟩ := R.newMu (o := .dK []) hp (.dct []) fun A' own' u => ⟨p, [], rfl, upd_same, trivial⟩
  exact k _ _ _ _ _ (.mu s.ms.length) R1 U1 ⟨p, [], g, rfl⟩ h⟩
/-- d.get(k, x), d[k], k in d -/
def dGet2 (wd wk wx : WE) : WE := fun s Ks => wd s fun s1 o => mu2 s1 o fun j _ => wk s1 fun s2 i => wx s2 fun s3 x => mu2 s3 (.mu j) fun _ kvs => daI i fun kd => onO (keyD kd) fun key => daI x fun d => ∃ e, (findD kvs key).getD d = e ∧ Ks s3 (.da e)
theorem de_get2 {apos cpos : Pos} (hu : X.A.units + 1 < cLine) (ho : DE X a wa) (hi : DE X b wb) (hx : DE X c wc) (m : M2 X a "get" apos b c cpos := by exact ⟨rfl, rfl, rfl, rfl⟩) : DE X (.Call (.Attribute a "get" apos) [b, c] [] cpos) (dGet2 wa wb wc) := by
  obtain ⟨ta, pa, qa⟩ := ho.ex
  obtain ⟨tb, pb, qb⟩ := hi.ex
  obtain ⟨tc, pc, qc⟩ := hx.ex
  refine ⟨_, pe_dget2 hu pa pb pc m, fun b A own H σ s Ks Q R h k => ?_⟩
  show ta σ H fun x H1 => ∃ a, x = .ref a ∧ IsD H1 a ∧ tb σ H1 fun y H2 => tc σ H2 fun z H3 => ∃ o, DGet H3 a y o ∧ Q (o.getD z) H3
  refine qa _ _ _ _ _ _ _ _ R h fun A1 o1 H1 v1 s1 x1 R1 U1 E1 h1 => ?_
  obtain ⟨j, kvs, rfl, g, h1⟩ := mu2_inv h1
  obtain ⟨p, vs, rfl, e2, e3, e4, _⟩ := mud_at R1 E1 g
  refine ⟨p, rfl, .inl ⟨_, .inl e2⟩, ?_⟩
  refine qb _ _ _ _ _ _ _ _ R1 h1 fun A2 o2 H2 v2 s2 x2 R2 U2 E2 h2 => ?_
  refine qc _ _ _ _ _ _ _ _ R2 h2 fun A3 o3 H3 v3 s3 x3 R3 U3 E3 h3 => ?_
  obtain ⟨j', kvs', ej, g', h3⟩ := mu2_inv h3
  cases ej
  obtain ⟨kd, rfl, h3⟩ := daI_inv h3
  obtain ⟨key, hk, h3⟩ := onO_inv h3
  obtain ⟨d, rfl, h3⟩ := daI_inv h3
  obtain ⟨_, rfl, h3⟩ := h3
  obtain ⟨p', vs', ep, f2, f3, _, _⟩ := mud_at R3 (E1.up (U2.trans U3)) g'
  cases ep
  have E2' : Rp X.K A3 H3 v2 kd := E2.up U3
  rw [keyD_rp E2' hk]
  refine ⟨_, DGet.k f2, ?_⟩
  rcases f3.find (k := key) with ⟨q1, q2⟩ | ⟨d', v', q1, q2, q3⟩
  · rw [q2]; rw [q1] at h3; exact (k.up ((U1.trans U2).trans U3)).da R3 Up.refl E3 h3
  · rw [q2]; rw [q1] at h3; exact (k.up ((U1.trans U2).trans U3)).da R3 Up.refl q3 h3
def dDget (wd wk : WE) : WE := fun s Ks => wd s fun s1 o => wk s1 fun s2 i => mu2 s2 o fun j kvs => daI i fun kd => onO (keyD kd) fun key => ∃ d, findD kvs key = some d ∧ Ks s2 (.da d)
theorem de_dget (hu : X.A.units + 1 < cLine) (ho : DE X a wa) (hi : DE X b wb) (hs : NoSl b := by exact fun _ _ => rfl) : DE X (.Subscript a b pos) (dDget wa wb) := by
  obtain ⟨ta, pa, qa⟩ := ho.ex
  obtain ⟨tb, pb, qb⟩ := hi.ex
  refine ⟨_, pe_dget hu pa pb hs, fun b A own H σ s Ks Q R h k => ?_⟩
  show ta σ H fun x H1 => tb σ H1 fun y H2 => ∃ a v, x = .ref a ∧ DGet H2 a y (some v) ∧ Q v H2
  refine qa _ _ _ _ _ _ _ _ R h fun A1 o1 H1 v1 s1 x1 R1 U1 E1 h1 => ?_
  refine qb _ _ _ _ _ _ _ _ R1 h1 fun A2 o2 H2 v2 s2 x2 R2 U2 E2 h2 => ?_
  obtain ⟨j, kvs, rfl, g, h2⟩ := mu2_inv h2
  obtain ⟨kd, rfl, h2⟩ := daI_inv h2
  obtain ⟨key, hk, d, hd, h2⟩ := onO_inv h2
  obtain ⟨p, vs, rfl, e2, e3, _, _⟩ := mud_at R2 (E1.up U2) g
  rw [keyD_rp E2 hk]
  rcases e3.find (k := key) with ⟨q1, q2⟩ | ⟨d', v', q1, q2, q3⟩
  · rw [q1] at hd; cases hd
  · rw [q1] at hd; cases hd
    exact ⟨p, v', rfl, by rw [← q2]; exact DGet.k e2, (k.up (U1.trans U2)).da R2 Up.refl q3 h2⟩
def dDin (neg : Bool) (wk wd : WE) : WE := fun s Ks => wk s fun s1 i => wd s1 fun s2 o => mu2 s2 o fun j kvs => daI i fun kd => onO (keyD kd) fun key => Ks s2 (.da (.bool (xr neg (findD kvs key).isSome)))
theorem din_run {ta tb : TE} (qa : ∀ (b : Bd) (A : Addr → Prop) (own : List (List Addr)) (H : Hp) (σ : L2.St) (s : S) (Ks : S → En → Prop) (Q : VK), Rel X.K b A own H σ s → wa s Ks → PostE X.K b A own H σ Ks Q → ta σ H Q)
    (qb : ∀ (b : Bd) (A : Addr → Prop) (own : List (List Addr)) (H : Hp) (σ : L2.St) (s : S) (Ks : S → En → Prop) (Q : VK), Rel X.K b A own H σ s → wb s Ks → PostE X.K b A own H σ Ks Q → tb σ H Q)
    (b : Bd) (A : Addr → Prop) (own : List (List Addr)) (H : Hp) (σ : L2.St) (s : S) (Ks : S → En → Prop) (Q : VK) (R : Rel X.K b A own H σ s) (h : dDin false wb wa s Ks) (k : PostE X.K b A own H σ Ks Q) : tDIn tb ta σ H Q := by
  show tb σ H fun y H1 => ta σ H1 fun x H2 => ∃ a o, x = .ref a ∧ DGet H2 a y o ∧ Q (.bl o.isSome) H2
  refine qb _ _ _ _ _ _ _ _ R h fun A1 o1 H1 v1 s1 x1 R1 U1 E1 h1 => ?_
  refine qa _ _ _ _ _ _ _ _ R1 h1 fun A2 o2 H2 v2 s2 x2 R2 U2 E2 h2 => ?_
  obtain ⟨j, kvs, rfl, g, h2⟩ := mu2_inv h2
  obtain ⟨kd, rfl, h2⟩ := daI_inv h2
  obtain ⟨key, hk, h2⟩ := onO_inv h2
  obtain ⟨p, vs, rfl, e2, e3, _, _⟩ := mud_at R2 E2 g
  rw [keyD_rp (E1.up U2) hk]
  refine ⟨p, _, rfl, DGet.k e2, ?_⟩
  rcases e3.find (k := key) with ⟨q1, q2⟩ | ⟨d', v', q1, q2, q3⟩
  · rw [q2]; rw [q1] at h2; exact (k.up (U1.trans U2)).da R2 Up.refl (.bl _) h2
  · rw [q2]; rw [q1] at h2; exact (k.up (U1.trans U2)).da R2 Up.refl (.bl _) h2
theorem de_din (hu : X.A.units + 1 < cLine) (hi : DE X b wb) (ho : DE X a wa) (hm : behindInMarks .In a = false := by rfl) : DE X (.Compare b [.In] [a] pos) (dDin false wb wa) := by
  obtain ⟨ta, pa, qa⟩ := ho.ex
  obtain ⟨tb, pb, qb⟩ := hi.ex
  exact ⟨_, pe_cmp (pc_din hu pb pa) hm, fun b A own H σ s Ks Q R h k => din_run qa qb b A own H σ s Ks Q R h k⟩
theorem dnotin_run {ta tb : TE} (qa : ∀ (b : Bd) (A : Addr → Prop) (own : List (List Addr)) (H : Hp) (σ : L2.St) (s : S) (Ks : S → En → Prop) (Q : VK), Rel X.K b A own H σ s → wa s Ks → PostE X.K b A own H σ Ks Q → ta σ H Q)
    (qb : ∀ (b : Bd) (A : Addr → Prop) (own : List (List Addr)) (H : Hp) (σ : L2.St) (s : S) (Ks : S → En → Prop) (Q : VK), Rel X.K b A own H σ s → wb s Ks → PostE X.K b A own H σ Ks Q → tb σ H Q)
    (b : Bd) (A : Addr → Prop) (own : List (List Addr)) (H : Hp) (σ : L2.St) (s : S) (Ks : S → En → Prop) (Q : VK) (R : Rel X.K b A own H σ s) (h : dDin true wb wa s Ks) (k : PostE X.K b A own H σ Ks Q) : tDNotIn tb ta σ H Q := by
  show tb σ H fun y H1 => ta σ H1 fun x H2 => ∃ a o, x = .ref a ∧ DGet H2 a y o ∧ Q (.bl (!o.isSome)) H2
  refine qb _ _ _ _ _ _ _ _ R h fun A1 o1 H1 v1 s1 x1 R1 U1 E1 h1 => ?_
  refine qa _ _ _ _ _ _ _ _ R1 h1 fun A2 o2 H2 v2 s2 x2 R2 U2 E2 h2 => ?_
  obtain ⟨j, kvs, rfl, g, h2⟩ := mu2_inv h2
  obtain ⟨kd, rfl, h2⟩ := daI_inv h2
  obtain ⟨key, hk, h2⟩ := onO_inv h2
  obtain ⟨p, vs, rfl, e2, e3, _, _⟩ := mud_at R2 E2 g
  rw [keyD_rp (E1.up U2) hk]
  refine ⟨p, _, rfl, DGet.k e2, ?_⟩
  rcases e3.find (k := key) with ⟨q1, q2⟩ | ⟨d', v', q1, q2, q3⟩
  · rw [q2]; rw [q1] at h2; exact (k.up (U1.trans U2)).da R2 Up.refl (.bl _) h2
  · rw [q2]; rw [q1] at h2; exact (k.up (U1.trans U2)).da R2 Up.refl (.bl _) h2
theorem de_dnotin (hu : X.A.units + 1 < cLine) (hi : DE X b wb) (ho : DE X a wa) (hm : behindInMarks .NotIn a = false := by rfl) : DE X (.Compare b [.NotIn] [a] pos) (dDin true wb wa) := by
  obtain ⟨ta, pa, qa⟩ := ho.ex
  obtain ⟨tb, pb, qb⟩ := hi.ex
  exact ⟨_, pe_cmp (pc_dnotin hu pb pa) hm, fun b A own H σ s Ks Q R h k => dnotin_run qa qb b A own H σ s Ks Q R h k⟩
theorem dt_din (hu : X.A.units + 1 < cLine) (hi : DE X b wb) (ho : DE X a wa) (hm : behindInMarks .In a = false := by rfl) : DT X (.Compare b [.In] [a] pos) (tT (dDin false wb wa)) := by
  obtain ⟨ta, pa, qa⟩ := ho.ex
  obtain ⟨tb, pb, qb⟩ := hi.ex
  exact ⟨_, pt_cmp (pc_din hu pb pa) hm, tT_run fun b A own H σ s Ks Q R h k => din_run qa qb b A own H σ s Ks Q R h k⟩
theorem dt_dnotin (hu : X.A.units + 1 < cLine) (hi : DE X b wb) (ho : DE X a wa) (hm : behindInMarks .NotIn a = false := by rfl) : DT X (.Compare b [.NotIn] [a] pos) (tT (dDin true wb wa)) := by
  obtain ⟨ta, pa, qa⟩ := ho.ex
  obtain ⟨tb, pb, qb⟩ := hi.ex
  exact ⟨_, pt_cmp (pc_dnotin hu pb pa) hm, tT_run fun b A own H σ s Ks Q R h k => dnotin_run qa qb b A own H σ s Ks Q R h k⟩
/-! ### methods of a list that changes -/
def dMet (rd : S → Nat → List D → List En → (S → En → Prop) → Prop) (wo : WE) (wr : WA) : WE := fun s Ks => wo s fun s1 o => mu1 s1 o fun j _ => wr s1 fun s2 xs => mu1 s2 (.mu j) fun _ ds => rd s2 j ds xs Ks
/-- what a method does at a list that changes -/
def MetD (K : PySem.W.Frag) (r : V → List V → Hp → VK → Prop) (rd : S → Nat → List D → List En → (S → En → Prop) → Prop) : Prop := ∀ (b : Bd) (A : Addr → Prop) (own : List (List Addr)) (H : Hp) (σ : L2.St) (s : S) (p : Addr) (j : Nat) (us : List V) (ds : List D) (vs : List V) (xs : List En) (Ks : S → En → Prop) (Q : VK),
  Rel K b A own H σ s → H p = some (.lst us) → RpL K A H us ds → gm s.ms j = .lst ds → (∀ vs' ds', RpL K A H vs' ds' → Rel K b A own (upd H p (.lst vs')) σ (s.sM j (.lst ds')) ∧ Up A own H A own (upd H p (.lst vs'))) → ERL K A own H vs xs → rd s j ds xs Ks → PostE K b A own H σ Ks Q → r (.ref p) vs H Q
theorem de_met {wr : WA} {name : Str} {id : String} {apos cpos : Pos} {r rd} (slot : Slot "list" name id) (hty : typeOf (.builtin id) = pure (.type "method_descriptor")) (hm : MtR X id r) (hd : MetD X.K r rd) (ho : DE X a wa) (ha : DA X (e :: es) wr)
    (hbase : attributeBase a name X.env (eval a X.env) = eval a X.env := by rfl)
    (hfew : ((backTo cpos (starEach (e :: es) X.env)).all (fun x => !x.1) && (backToKw cpos (keywordEach [] X.env)).all (fun x => x.1.isSome)
      && decide ((e :: es).length + ([] : List Keyword).length + (if ([] : List Keyword).isEmpty then 0 else 1) < 30)) = true := by rfl)
    (hline : (apos.endLine == cpos.line) = true := by rfl) (hs : starEach (e :: es) X.env = (false, eval e X.env) :: starEach es X.env := by rfl) (hplain : (backTo cpos (starEach es X.env)).any (·.1) = false := by rfl) :
    DE X (.Call (.Attribute a name apos) (e :: es) [] cpos) (dMet rd wa wr) := by
  obtain ⟨ta, pa, qa⟩ := ho.ex
  obtain ⟨tr, pr, qr⟩ := ha.ex
  refine ⟨_, pe_bm PySem.F.plainAttrs_list slot hty hm pa pr hbase hfew hline hs hplain, fun b A own H σ s Ks Q R h k => ?_⟩
  show ta σ H fun x H1 => tyV X.K "list" x H1 ∧ tr σ H1 fun xs H2 => r x xs H2 Q
  refine qa _ _ _ _ _ _ _ _ R h fun A1 o1 H1 v1 s1 x1 R1 U1 E1 h1 => ?_
  obtain ⟨j, ds, rfl, g, h1⟩ := mu1_inv h1
  obtain ⟨p, us, rfl, e2, e3, e4, _⟩ := mu_at R1 E1 g
  refine ⟨.inl ⟨rfl, us, .inl (.inl e2)⟩, ?_⟩
  refine qr _ _ _ _ _ _ _ _ R1 h1 fun A2 o2 H2 vs s2 xs R2 U2 E2 h2 => ?_
  obtain ⟨j', ds', ej, g', h2⟩ := mu1_inv h2
  cases ej
  obtain ⟨p', us', ep, f2, f3, f4, up⟩ := mu_at R2 (E1.up U2) g'
  cases ep
  exact hd _ _ _ _ _ _ _ _ _ _ _ _ _ _ R2 f2 f3 g' up E2 h2 (k.up (U1.trans U2))
theorem de_met0 {name : Str} {id : String} {apos cpos : Pos} {r rd} (slot : Slot "list" name id) (hty : typeOf (.builtin id) = pure (.type "method_descriptor")) (hm : MtR X id r) (hd : MetD X.K r rd) (ho : DE X a wa)
    (hbase : attributeBase a name X.env (eval a X.env) = eval a X.env := by rfl) (hline : (apos.endLine == cpos.line) = true := by rfl) :
    DE X (.Call (.Attribute a name apos) [] [] cpos) (dMet rd wa aNil) := by
  obtain ⟨ta, pa, qa⟩ := ho.ex
  refine ⟨_, pe_bm0 PySem.F.plainAttrs_list slot hty hm pa hbase hline, fun b A own H σ s Ks Q R h k => ?_⟩
  show ta σ H fun x H1 => tyV X.K "list" x H1 ∧ r x [] H1 Q
  refine qa _ _ _ _ _ _ _ _ R h fun A1 o1 H1 v1 s1 x1 R1 U1 E1 h1 => ?_
  obtain ⟨j, ds, rfl, g, h1⟩ := mu1_inv h1
  have h1 : mu1 s1 (.mu j) (fun _ ds => rd s1 j ds [] Ks) := h1
  obtain ⟨j', ds', ej, g', h1⟩ := mu1_inv h1
  cases ej
  rw [g] at g'
  cases g'
  obtain ⟨p, us, rfl, e2, e3, e4, up⟩ := mu_at R1 E1 g
  exact ⟨.inl ⟨rfl, us, .inl (.inl e2)⟩, hd _ _ _ _ _ _ _ _ _ _ _ _ _ _ R1 e2 e3 g up (show ERL X.K A1 o1 H1 [] [] from trivial) h1 (k.up U1)⟩
def mAppend : S → Nat → List D → List En → (S → En → Prop) → Prop := fun s j ds xs Ks => a1 xs fun x => daI x fun d => ds.length < sizeLine ∧ Ks (s.sM j (.lst (ds ++ [d]))) (.da .none)
theorem md_append {K : PySem.W.Frag} : MetD K rAppend mAppend := by
  intro b A own H σ s p j us ds vs xs Ks Q R hp r g up E h k
  obtain ⟨v, x, rfl, E, h⟩ := a1_inv E h
  obtain ⟨d, rfl, hl, h⟩ := daI_inv h
  obtain ⟨R1, U1⟩ := up _ _ (r.append (.cons (show Rp K A H v d from E) .nil))
  exact ⟨p, us, v, rfl, rfl, hp, by rw [r.length]; exact hl, k.da R1 U1 .non h⟩
theorem de_append {apos cpos : Pos} (ho : DE X a wa) (hi : DE X b wb)
    (hbase : attributeBase a "append" X.env (eval a X.env) = eval a X.env := by rfl)
    (hfew : ((backTo cpos (starEach (b :: []) X.env)).all (fun x => !x.1) && (backToKw cpos (keywordEach [] X.env)).all (fun x => x.1.isSome)
      && decide ((b :: []).length + ([] : List Keyword).length + (if ([] : List Keyword).isEmpty then 0 else 1) < 30)) = true := by rfl)
    (hline : (apos.endLine == cpos.line) = true := by rfl) (hs : starEach (b :: []) X.env = (false, eval b X.env) :: starEach [] X.env := by rfl) :
    DE X (.Call (.Attribute a "append" apos) [b] [] cpos) (dMet mAppend wa (aCons wb aNil)) := de_met PySem.F.slot_list_append PySem.F.type_list_append mt_append md_append ho (da_cons hi da_nil hs) hbase hfew hline hs
end
end DL
namespace DL
open PySem L2
/-! ### more methods -/
section
variable {K : PySem.W.Frag}
def mPop : S → Nat → List D → List En → (S → En → Prop) → Prop := fun s j ds xs Ks => match xs with | [] => ∃ d, ds[ds.length - 1]? = some d ∧ Ks (s.sM j (.lst ds.dropLast)) (.da d) | _ => False
theorem RpL.dropLast {A : Addr → Prop} {H : Hp} {vs : List V} {ds : List D} (r : RpL K A H vs ds) : RpL K A H vs.dropLast ds.dropLast := by
  rw [List.dropLast_eq_take, List.dropLast_eq_take, r.length]
  exact r.take _
theorem md_pop : MetD K rPop mPop := by
  intro b A own H σ s p j us ds vs xs Ks Q R hp r g up E h k
  unfold mPop at h
  split at h
  · obtain ⟨d, e, h⟩ := h
    cases vs with
    | cons _ _ => exact E.elim
    | nil =>
      obtain ⟨v, e', r'⟩ := r.get e
      obtain ⟨R1, U1⟩ := up _ _ r.dropLast
      exact ⟨p, us, v, rfl, rfl, hp, by rw [r.length]; exact e', k.da R1 U1 (Rp.mono U1.kp r') h⟩
  · exact h.elim
def mReverse : S → Nat → List D → List En → (S → En → Prop) → Prop := fun s j ds xs Ks => match xs with | [] => Ks (s.sM j (.lst ds.reverse)) (.da .none) | _ => False
theorem md_reverse : MetD K rReverse mReverse := by
  intro b A own H σ s p j us ds vs xs Ks Q R hp r g up E h k
  unfold mReverse at h
  split at h
  · cases vs with
    | cons _ _ => exact E.elim
    | nil =>
      obtain ⟨R1, U1⟩ := up _ _ r.reverse
      exact ⟨p, us, rfl, rfl, hp, k.da R1 U1 .non h⟩
  · exact h.elim
def mExtend : S → Nat → List D → List En → (S → En → Prop) → Prop := fun s j ds xs Ks => a1 xs fun x => onO (vw s x) fun d => match d with | .list es => ds.length + es.length ≤ sizeLine ∧ Ks (s.sM j (.lst (ds ++ es))) (.da .none) | _ => False
theorem vw_lstH {b : Bd} {A : Addr → Prop} {own : List (List Addr)} {H : Hp} {σ : L2.St} {s : S} (R : Rel K b A own H σ s) {v : V} {x : En} {ds : List D} (h : ER K A own H v x) (e : vw s x = some (.list ds)) :
    ∃ a vs, v = .ref a ∧ H a = some (.lst vs) ∧ RpL K A H vs ds := by
  cases x with
  | no => cases e
  | da d' => cases e; cases h with | lst l r => exact ⟨_, _, rfl, l.1, r⟩
  | mu k =>
    obtain ⟨a, r, g, rfl⟩ := h
    have m := R.mr k
    unfold vw at e
    simp only at e
    cases q : gm s.ms k with
    | lst ds =>
      rw [q] at e m
      cases e
      obtain ⟨a', vs, e1, e2, e3⟩ := m
      rw [e1] at g
      cases g
      exact ⟨_, _, rfl, e2, e3⟩
    | _ => rw [q] at e; cases e
theorem md_extend : MetD K rExtend mExtend := by
  intro b A own H σ s p j us ds vs xs Ks Q R hp r g up E h k
  obtain ⟨v, x, rfl, E, h⟩ := a1_inv E h
  obtain ⟨d, hd, h⟩ := onO_inv h
  split at h
  · obtain ⟨a, vs, rfl, q, r'⟩ := vw_lstH R E hd
    obtain ⟨R1, U1⟩ := up _ _ (r.append r')
    exact ⟨p, a, us, vs, rfl, rfl, hp, q, by rw [r.length, r'.length]; exact h.1, k.da R1 U1 .non h.2⟩
  · exact h.elim
def mInsert : S → Nat → List D → List En → (S → En → Prop) → Prop := fun s j ds xs Ks => a2 xs fun i x => i1 i fun i => daI x fun d => ds.length < sizeLine ∧ 0 ≤ i ∧ i < 2 ^ 63 ∧ Ks (s.sM j (.lst (ds.take i.toNat ++ [d] ++ ds.drop i.toNat))) (.da .none)
theorem md_insert : MetD K (fun x vs H Q => ∃ (l : Addr) (xs : List V) (i : Int) (y : V), x = .ref l ∧ vs = [.int i, y] ∧ H l = some (.lst xs) ∧ xs.length < sizeLine ∧ 0 ≤ i ∧ i < 2 ^ 63 ∧ Q .non (upd H l (.lst (xs.take i.toNat ++ [y] ++ xs.drop i.toNat)))) mInsert := by
  intro b A own H σ s p j us ds vs xs Ks Q R hp r g up E h k
  obtain ⟨v, u, x, y, rfl, E1, E2, h⟩ := a2_inv E h
  obtain ⟨i, rfl, h⟩ := i1_inv h
  obtain ⟨d, rfl, hl, h1, h2, h⟩ := daI_inv h
  cases E1
  obtain ⟨R1, U1⟩ := up _ _ (((r.take i.toNat).append (.cons (show Rp K A H u d from E2) .nil)).append (r.drop i.toNat))
  exact ⟨p, us, i, u, rfl, rfl, hp, by rw [r.length]; exact hl, h1, h2, k.da R1 U1 .non h⟩
def eraseN {α : Type} (l : List α) (n : Nat) : List α := l.take n ++ l.drop (n + 1)
theorem eraseIdx_eq {α : Type} : ∀ (l : List α) (n : Nat), l.eraseIdx n = eraseN l n
  | [], n => by simp [eraseN]
  | x :: l, 0 => by simp [eraseN]
  | x :: l, n + 1 => by
    show x :: l.eraseIdx n = _
    rw [eraseIdx_eq l n]; rfl
def mPopAt : S → Nat → List D → List En → (S → En → Prop) → Prop := fun s j ds xs Ks => a1 xs fun i => i1 i fun i => -(2 ^ 63) ≤ i ∧ i < 2 ^ 63 ∧ ∃ n d, seqIndex? i ds.length = some n ∧ ds[n]? = some d ∧ Ks (s.sM j (.lst (eraseN ds n))) (.da d)
theorem md_popAt : MetD K rPopAt mPopAt := by
  intro b A own H σ s p j us ds vs xs Ks Q R hp r g up E h k
  obtain ⟨v, x, rfl, E, h⟩ := a1_inv E h
  obtain ⟨i, rfl, h1, h2, n, d, h3, h4, h⟩ := i1_inv h
  cases E
  obtain ⟨w, e', r'⟩ := r.get h4
  have re : RpL K A H (us.eraseIdx n) (eraseN ds n) := by
    rw [eraseIdx_eq]; exact (r.take n).append (r.drop (n + 1))
  obtain ⟨R1, U1⟩ := up _ _ re
  exact ⟨p, us, i, n, w, rfl, rfl, hp, h1, h2, by rw [r.length]; exact h3, e', k.da R1 U1 (Rp.mono U1.kp r') h⟩
def mClear : S → Nat → List D → List En → (S → En → Prop) → Prop := fun s j ds xs Ks => match xs with | [] => Ks (s.sM j (.lst [])) (.da .none) | _ => False
theorem md_clear : MetD K rClear mClear := by
  intro b A own H σ s p j us ds vs xs Ks Q R hp r g up E h k
  unfold mClear at h
  split at h
  · cases vs with
    | cons _ _ => exact E.elim
    | nil =>
      obtain ⟨R1, U1⟩ := up [] [] .nil
      exact ⟨p, us, rfl, rfl, hp, k.da R1 U1 .non h⟩
  · exact h.elim
end
/-! ### calls of own defs -/
abbrev SpD := List En → List MO → (List MO → En → Prop) → Prop
/-- the promise of a def, by data -/
def spOf (K : PySem.W.Frag) (n : Nat) (sp : SpD) : Sp := fun vs H Q _ => ∃ (A : Addr → Prop) (own : List (List Addr)) (xs : List En) (ms : List MO) (Ks : List MO → En → Prop), vs.length = n ∧ ERL K A own H vs xs ∧ Own K A own H ms ∧ sp xs ms Ks ∧
  ∀ (A' : Addr → Prop) (own' : List (List Addr)) (H' : Hp) (v : V) (ms' : List MO) (x : En), Own K A' own' H' ms' → own'.take own.length = own → (∀ a, A a → A' a) → (∀ a, A' a → A a ∨ H a = none) → (∀ a o, (∀ k, a ∉ go own k) → H a = some o → H' a = some o) →
    (∀ k a, a ∈ go own' k → (∃ j, a ∈ go own j) ∨ H a = none) → ER K A' own' H' v x → Ks ms' x → Q v H'
def plainM : MO → Bool
  | .lst _ => true
  | .dct _ => true
  | .rnd _ => true
  | .box _ => true
  | .tab _ => true
  | _ => false
theorem MR.plain {K : PySem.W.Frag} {A : Addr → Prop} {own own' : List (List Addr)} {H : Hp} {l : List Addr} {m : MO} (h : MR K A own H l m) (p : plainM m = true) : MR K A own' H l m := by
  cases m with
  | gone => cases p
  | ins _ _ => cases p
  | tab _ => exact h
  | lst ds => exact h
  | dct ds => exact h
  | rnd ds => exact h
  | box ds => exact h
def posOf : List Nat → Nat → Option Nat
  | [], _ => none
  | k :: ks, j => if k = j then some 0 else (posOf ks j).map (· + 1)
theorem posOf_some : ∀ {ks : List Nat} {j i : Nat}, posOf ks j = some i → ks[i]? = some j
  | [], _, _, h => by cases h
  | k :: ks, j, i, h => by
    unfold posOf at h
    split at h
    · cases h; subst_vars; rfl
    · cases q : posOf ks j with
      | none => rw [q] at h; cases h
      | some i' => rw [q] at h; cases h; show (k :: ks)[i' + 1]? = some j; rw [List.getElem?_cons_succ]; exact posOf_some (ks := ks) q
def renE (ks : List Nat) : En → Option En
  | .no => some .no
  | .da d => some (.da d)
  | .mu j => match posOf ks j with | some i => some (.mu i) | none => none
def renL (ks : List Nat) : List En → Option (List En)
  | [] => some []
  | x :: xs => match renE ks x with | some y => (match renL ks xs with | some ys => some (y :: ys) | none => none) | none => none
def pick : List Nat → List MO → List MO
  | [], _ => []
  | k :: ks, ms => gm ms k :: pick ks ms
def pickO : List Nat → List (List Addr) → List (List Addr)
  | [], _ => []
  | k :: ks, own => go own k :: pickO ks own
def putM : List Nat → List MO → List MO → List MO
  | k :: ks, m :: r, ms => putM ks r (sm ms k m)
  | _, _, ms => ms
def allP : List MO → Bool
  | [] => true
  | m :: ms => plainM m && allP ms
def nthN : List Nat → Nat → Nat
  | [], _ => 0
  | k :: _, 0 => k
  | _ :: ks, i + 1 => nthN ks i
def bkE (ks : List Nat) (n : Nat) : En → En
  | .mu j => bif Nat.blt j ks.length then .mu (nthN ks j) else .mu (n + (j - ks.length))
  | x => x
theorem pickO_length : ∀ (ks : List Nat) (own : List (List Addr)), (pickO ks own).length = ks.length
  | [], _ => rfl
  | _ :: ks, own => congrArg (· + 1) (pickO_length ks own)
theorem pick_length : ∀ (ks : List Nat) (ms : List MO), (pick ks ms).length = ks.length
  | [], _ => rfl
  | _ :: ks, own => congrArg (· + 1) (pick_length ks own)
theorem go_pickO : ∀ (ks : List Nat) (own : List (List Addr)) (i j : Nat), ks[i]? = some j → go (pickO ks own) i = go own j
  | k :: ks, own, 0, j, h => by cases h; rfl
  | k :: ks, own, i + 1, j, h => go_pickO ks own i j (by simpa using h)
theorem gm_pick : ∀ (ks : List Nat) (ms : List MO) (i j : Nat), ks[i]? = some j → gm (pick ks ms) i = gm ms j
  | k :: ks, own, 0, j, h => by cases h; rfl
  | k :: ks, own, i + 1, j, h => gm_pick ks own i j (by simpa using h)
theorem nthN_get : ∀ (ks : List Nat) (i : Nat), i < ks.length → ks[i]? = some (nthN ks i)
  | k :: ks, 0, _ => rfl
  | k :: ks, i + 1, h => by
    rw [List.getElem?_cons_succ]; exact nthN_get ks i (by simpa using h)
theorem allP_gm : ∀ (ms : List MO) (i : Nat), allP ms = true → i < ms.length → plainM (gm ms i) = true
  | m :: ms, 0, h, _ => (Bool.and_eq_true_iff.mp h).1
  | m :: ms, i + 1, h, l => allP_gm ms i (Bool.and_eq_true_iff.mp h).2 (by simpa using l)
theorem putM_length : ∀ (ks : List Nat) (r ms : List MO), (putM ks r ms).length = ms.length
  | [], _, _ => rfl
  | _ :: _, [], _ => rfl
  | k :: ks, m :: r, ms => by
    show (putM ks r (sm ms k m)).length = _
    rw [putM_length, sm_length]
theorem gm_putM_not : ∀ (ks : List Nat) (r ms : List MO) (j : Nat), j ∉ ks → gm (putM ks r ms) j = gm ms j
  | [], _, _, _, _ => rfl
  | _ :: _, [], _, _, _ => rfl
  | k :: ks, m :: r, ms, j, h => by
    show gm (putM ks r (sm ms k m)) j = _
    rw [gm_putM_not ks r _ j (fun z => h (List.mem_cons_of_mem _ z)), gm_sm, if_neg fun z => h (by rw [z.1]; exact List.mem_cons_self)]
theorem gm_putM : ∀ (ks : List Nat) (r ms : List MO) (i j : Nat), ks.Nodup → ks[i]? = some j → i < r.length → j < ms.length → gm (putM ks r ms) j = gm r i
  | k :: ks, m :: r, ms, 0, j, nd, h, _, hl => by
    cases h
    show gm (putM ks r (sm ms k m)) k = m
    rw [gm_putM_not ks r _ k (List.nodup_cons.mp nd).1, gm_sm, if_pos ⟨rfl, hl⟩]
  | k :: ks, m :: r, ms, i + 1, j, nd, h, hr, hl => by
    show gm (putM ks r (sm ms k m)) j = gm r i
    exact gm_putM ks r _ i j (List.nodup_cons.mp nd).2 (by simpa using h) (by simpa using hr) (by rw [sm_length]; exact hl)
theorem renL_er {K : PySem.W.Frag} {A : Addr → Prop} {own : List (List Addr)} {H : Hp} {ks : List Nat} : ∀ {vs : List V} {xs ys : List En}, ERL K A own H vs xs → renL ks xs = some ys → ERL K A (pickO ks own) H vs ys
  | [], [], _, _, e => by cases e; trivial
  | v :: vs, x :: xs, ys, ⟨h, t⟩, e => by
    unfold renL at e
    cases q : renE ks x with
    | none => rw [q] at e; cases e
    | some y =>
      rw [q] at e
      simp only at e
      cases q2 : renL ks xs with
      | none => rw [q2] at e; cases e
      | some zs =>
        rw [q2] at e
        cases e
        refine ⟨?_, renL_er t q2⟩
        cases x with
        | no => cases q; trivial
        | da d => cases q; exact h
        | mu j =>
          unfold renE at q
          simp only at q
          cases q3 : posOf ks j with
          | none => rw [q3] at q; cases q
          | some i =>
            rw [q3] at q
            cases q
            obtain ⟨a, r, h1, h2⟩ := h
            exact ⟨a, r, by rw [go_pickO ks own i j (posOf_some q3)]; exact h1, h2⟩
def S.cM (s : S) (ks : List Nat) (ms' : List MO) : S := ⟨s.es, putM ks ms' s.ms ++ ms'.drop ks.length, s.np⟩
def CallW (sp : SpD) (ks : List Nat) : S → List En → (S → En → Prop) → Prop := fun s xs Ks => onO (renL ks xs) fun ys => allP (pick ks s.ms) = true ∧ sp ys (pick ks s.ms) fun ms' r => allP ms' = true ∧ Ks (s.cM ks ms') (bkE ks s.ms.length r)
theorem gm_drop : ∀ (l : List MO) (n i : Nat), gm (l.drop n) i = gm l (n + i)
  | l, 0, i => by simp
  | [], n + 1, i => by simp [gm]
  | x :: l, n + 1, i => by
    rw [show n + 1 + i = (n + i) + 1 by omega]
    exact gm_drop l n i
theorem go_drop : ∀ (l : List (List Addr)) (n i : Nat), go (l.drop n) i = go l (n + i)
  | l, 0, i => by simp
  | [], n + 1, i => by simp [go]
  | x :: l, n + 1, i => by
    rw [show n + 1 + i = (n + i) + 1 by omega]
    exact go_drop l n i
theorem callW_run {K : PySem.W.Frag} {sp : SpD} {ks : List Nat} {n : Nat} (nd : ks.Nodup) {b : Bd} {A : Addr → Prop} {own : List (List Addr)} {H : Hp} {σ : L2.St} {s : S} {vs : List V} {xs : List En} {Ks : S → En → Prop} {Q : VK} {E : XK}
    (hn : vs.length = n) (R : Rel K b A own H σ s) (e : ERL K A own H vs xs) (h : CallW sp ks s xs Ks) (k : PostE K b A own H σ Ks Q) : spOf K n sp vs H Q E := by
  obtain ⟨ys, hr, hp, h⟩ := onO_inv h
  have kl : ∀ i j, ks[i]? = some j → j < s.ms.length := fun i j q => gm_lt fun z => by
    have q2 := allP_gm _ i hp (by rw [pick_length]; exact (List.getElem?_eq_some_iff.mp q).1)
    rw [gm_pick ks s.ms i j q, z] at q2
    cases q2
  have ndx : ∀ i i' j, ks[i]? = some j → ks[i']? = some j → i = i' := fun i i' j q q' => nd_ix nd q q'
  refine ⟨A, pickO ks own, ys, pick ks s.ms, _, hn, renL_er e hr, ⟨by rw [pickO_length, pick_length], fun i => ?_, fun i i' a h1 h2 => ?_, fun i => ?_, fun i a h1 => ?_, R.al⟩, h, fun A' own' H' v ms' x O ot ge li fr fo ex hk => ?_⟩
  · by_cases hi : i < ks.length
    · have q := nthN_get ks i hi
      rw [go_pickO ks own i _ q, gm_pick ks s.ms i _ q]
      have := allP_gm _ i hp (by rw [pick_length]; exact hi)
      rw [gm_pick ks s.ms i _ q] at this
      exact (R.mr _).plain this
    · rw [gm_ge _ _ (by rw [pick_length]; omega)]; trivial
  · by_cases hi : i < ks.length
    · by_cases hi' : i' < ks.length
      · rw [go_pickO ks own i _ (nthN_get ks i hi)] at h1
        rw [go_pickO ks own i' _ (nthN_get ks i' hi')] at h2
        have := R.dj _ _ a h1 h2
        exact ndx i i' _ (nthN_get ks i hi) (by rw [nthN_get ks i' hi', this])
      · rw [go_ge _ _ (by rw [pickO_length]; omega)] at h2; cases h2
    · rw [go_ge _ _ (by rw [pickO_length]; omega)] at h1; cases h1
  · by_cases hi : i < ks.length
    · rw [go_pickO ks own i _ (nthN_get ks i hi)]; exact R.ld _
    · rw [go_ge _ _ (by rw [pickO_length]; omega)]; exact List.nodup_nil
  · by_cases hi : i < ks.length
    · rw [go_pickO ks own i _ (nthN_get ks i hi)] at h1; exact R.oa _ _ h1
    · rw [go_ge _ _ (by rw [pickO_length]; omega)] at h1; cases h1
  · obtain ⟨hap, hk⟩ := hk
    rw [pickO_length] at ot
    have ol' : ks.length ≤ own'.length := by
      have := congrArg List.length ot
      rw [List.length_take, pickO_length] at this
      omega
    have gs : ∀ i, i < ks.length → go own' i = go own (nthN ks i) := fun i hi => by
      have q := go_take own' ks.length i
      rw [if_pos hi, ot, go_pickO ks own i _ (nthN_get ks i hi)] at q
      exact q.symm
    -- the own places that the callee holds
    have inA : ∀ a, (∃ j, a ∈ go (pickO ks own) j) → A a := fun a ⟨j, hj⟩ => by
      by_cases hi : j < ks.length
      · rw [go_pickO ks own j _ (nthN_get ks j hi)] at hj; exact R.oa _ _ hj
      · rw [go_ge _ _ (by rw [pickO_length]; omega)] at hj; cases hj
    have notOwn : ∀ a, ¬ A a → ∀ j, a ∉ go (pickO ks own) j := fun a n j hj => n (inA a ⟨j, hj⟩)
    have gl : ∀ k, go (own ++ own'.drop ks.length) k = if k < own.length then go own k else go own' (ks.length + (k - own.length)) := fun k => by rw [go_app, go_drop]
    have newA : ∀ j a, ks.length ≤ j → a ∈ go own' j → H a = none := fun j a hj ha => by
      rcases fo j a ha with ⟨i, hi⟩ | z
      · by_cases hi' : i < ks.length
        · rw [go_pickO ks own i _ (nthN_get ks i hi'), ← gs i hi'] at hi
          have := O.dj _ _ a hi ha
          omega
        · rw [go_ge _ _ (by rw [pickO_length]; omega)] at hi; cases hi
      · exact z
    have u : Up A own H A' (own ++ own'.drop ks.length) H' := ⟨fun a o n q => ⟨fr a o (notOwn a n) q, fun z => by
        rcases li a z with z | z
        · exact n z
        · rw [z] at q; cases q⟩, fun k a r q => by
        rw [gl]
        by_cases hk : k < own.length
        · rw [if_pos hk]; exact q
        · rw [go_ge _ _ (by omega)] at q; cases q⟩
    have pl : (putM ks ms' s.ms).length = own.length := by rw [putM_length, R.ol]
    have ml : ∀ k, gm (putM ks ms' s.ms ++ ms'.drop ks.length) k = if k < own.length then gm (putM ks ms' s.ms) k else gm ms' (ks.length + (k - own.length)) := fun k => by rw [gm_app, pl, gm_drop]
    have oms : own'.length = ms'.length := O.ol
    refine k A' (own ++ own'.drop ks.length) H' v { s with ms := putM ks ms' s.ms ++ ms'.drop ks.length } (bkE ks s.ms.length x) ⟨⟨?_, fun j => ?_, fun i j a h1 h2 => ?_, fun i => ?_, fun i a h1 => ?_, O.al⟩, R.len, fun i => (R.sl i).imp id fun ⟨v, q, r⟩ => ⟨v, q, r.up u⟩, fun a q => ge a (R.ge a q), fun a o n q => ?_, fun i a h1 => ?_, ?_, ?_, fun a q => ?_, R.a0⟩ u ?_ hk
    · rw [List.length_append, List.length_append, List.length_drop, List.length_drop, pl, oms]
    · rw [gl, ml]
      by_cases hj : j < own.length
      · rw [if_pos hj, if_pos hj]
        by_cases hm : j ∈ ks
        · obtain ⟨i, hi⟩ := List.getElem?_of_mem hm
          have hil := (List.getElem?_eq_some_iff.mp hi).1
          have e1 : nthN ks i = j := by
            have := nthN_get ks i hil
            rw [hi] at this; exact (Option.some.inj this).symm
          rw [gm_putM ks ms' s.ms i j nd hi (by omega) (kl i j hi), ← e1, ← gs i hil]
          exact (O.mr i).plain (allP_gm _ _ hap (by omega))
        · rw [gm_putM_not ks ms' s.ms j hm]
          refine (R.mr j).up u fun a o ha q => fr a o (fun i hi => ?_) q
          by_cases hi' : i < ks.length
          · rw [go_pickO ks own i _ (nthN_get ks i hi')] at hi
            have := R.dj _ _ a ha hi
            exact hm (by rw [this]; exact List.mem_of_getElem? (nthN_get ks i hi'))
          · rw [go_ge _ _ (by rw [pickO_length]; omega)] at hi; cases hi
      · rw [if_neg hj, if_neg hj]
        by_cases hl : ks.length + (j - own.length) < ms'.length
        · exact (O.mr _).plain (allP_gm _ _ hap hl)
        · rw [gm_ge _ _ (by omega)]; trivial
    · rw [gl] at h1 h2
      by_cases hi : i < own.length
      · rw [if_pos hi] at h1
        by_cases hj : j < own.length
        · rw [if_pos hj] at h2; exact R.dj _ _ a h1 h2
        · rw [if_neg hj] at h2
          exact absurd (newA _ a (by omega) h2) (R.al a (R.oa _ _ h1))
      · rw [if_neg hi] at h1
        by_cases hj : j < own.length
        · rw [if_pos hj] at h2
          exact absurd (newA _ a (by omega) h1) (R.al a (R.oa _ _ h2))
        · rw [if_neg hj] at h2
          have := O.dj _ _ a h1 h2
          omega
    · rw [gl]
      split
      · exact R.ld _
      · exact O.ld _
    · rw [gl] at h1
      split at h1
      · exact ge a (R.oa _ _ h1)
      · exact O.oa _ _ h1
    · refine fr a o (fun i hi => ?_) (R.fr a o n q)
      by_cases hi' : i < ks.length
      · rw [go_pickO ks own i _ (nthN_get ks i hi')] at hi
        rcases R.fo _ a hi with ⟨j, z⟩ | z
        · exact n j z
        · rw [z] at q; cases q
      · rw [go_ge _ _ (by rw [pickO_length]; omega)] at hi; cases hi
    · rw [gl] at h1
      split at h1
      · exact R.fo _ a h1
      · exact .inr (R.fresh0 (newA _ a (by omega) h1))
    · rw [List.take_append_of_le_length R.npl]; exact R.pre
    · rw [List.length_append]; have := R.npl; show s.np ≤ _; omega
    · rcases li a q with z | z
      · exact R.lim a z
      · exact .inr (R.fresh0 z)
    · cases x with
      | no => trivial
      | da d => exact ex
      | mu j =>
        obtain ⟨a, r, e1, e2⟩ := ex
        show ER K A' (own ++ own'.drop ks.length) H' v (bif Nat.blt j ks.length then .mu (nthN ks j) else .mu (s.ms.length + (j - ks.length)))
        by_cases hj : j < ks.length
        · rw [show Nat.blt j ks.length = true from by simpa using hj]
          refine ⟨a, r, ?_, e2⟩
          have hl := kl j _ (nthN_get ks j hj)
          rw [gl, if_pos (by rw [R.ol]; exact hl), ← gs j hj]; exact e1
        · rw [show Nat.blt j ks.length = false from Bool.eq_false_iff.mpr fun z => hj (by simpa using z)]
          refine ⟨a, r, ?_, e2⟩
          rw [gl, ← R.ol, if_neg (by omega), show ks.length + (own.length + (j - ks.length) - own.length) = j by omega]; exact e1
section
open PySem.Spec PyProof.Rows
/-! ### promises of defs that are called with no builtin at work that watches for itself -/
structure FnOkG (P : Program) (w : World) (K : PySem.W.Frag) (mg : Str → Option Value) (base : Heap) (CX : CXT) (k : Nat) (f : Addr) (fd : FuncData) (ps : List Str) (sp : L2.Sp) : Prop where
  len : ∀ vs H Q E, sp vs H Q E → vs.length = ps.length
  run : ∀ (A : Around) (outer : List Env) (s : Shared) (H : Hp) (args : Args) (us : List Value) (vs : List V) (Q : VK) (E : XK), Room k A → A.guards = some [] → Env0 P w K mg base A outer s H → BindsTo s fd args (ps.zip us) → Vals vs us → sp vs H Q E →
    codeAny (model P w) A (.call (.ref f) args) (CR CX outer P w H s Q E) s
section
variable {P : Program} {w : World} {K : PySem.W.Frag} {mg : Str → Option Value} {base : Heap} {CX : CXT} {k : Nat} {f : Addr} {fd : FuncData} {ps : List Str} {sp : L2.Sp}
theorem FnOk.toG (F : FnOk P w K mg base CX k f fd ps sp) : FnOkG P w K mg base CX k f fd ps sp := ⟨F.len, fun A outer s H args us vs Q E hr _ e0 hb hv hs => F.run A outer s H args us vs Q E hr e0 hb hv hs⟩
theorem FnOkG.mono {j : Nat} (F : FnOkG P w K mg base CX j f fd ps sp) (h : j ≤ k) : FnOkG P w K mg base CX k f fd ps sp := ⟨F.len, fun A outer s H args us vs Q E hr => F.run A outer s H args us vs Q E (hr.mono h)⟩
end
/-- a def by its body -/
theorem fn_byG {CX : CXT} {P : Program} {w : World} {K : PySem.W.Frag} {mg : Str → Option Value} {base : Heap} {k : Nat} {f : Addr} {name qual : Str} {params : Arguments} {body : List Stmt} {scope : Scope} {dV kV doc pm cdv ct oc : Value} {an od : Option Addr}
    {osl : Array (Option Value)} {N ps : List Str} {sp : L2.Sp} (lk : K.lookup f = some ⟨oc, od, .func (PySem.W.fnOf name qual params body scope dV kV doc pm an cdv ct), osl⟩) (hcd : PySem.W.codeIn K cdv qual = true) (S : FnScope N ps scope)
    (len : ∀ vs H Q E, sp vs H Q E → vs.length = ps.length)
    (hb : ∀ (A : Around) (outer : List Env) (s : Shared) (H : Hp) (vs : List V) (Q : VK) (E : XK), Room k (A.deeper (PyProof.Rows.envOfC qual scope s.heap.objs.size f cdv)) → A.guards = some [] → sp vs H Q E →
      ∃ t, PSs (cxOf CX P w K mg base N qual scope f cdv A outer s H E) body t ∧ t { nx := fun _ H' => Q .non H', rt := Q } (start N vs) H) :
    FnOkG P w K mg base CX (k + 1) f (PySem.W.fnOf name qual params body scope dV kV doc pm an cdv ct) ps sp := by
  constructor
  · exact len
  · intro A outer s H args us vs Q E hr hg e0 hbi hv hs
    obtain ⟨t, ht, hq⟩ := hb A outer s H vs Q E (hr.deeper _) hg hs
    have n1 := len _ _ _ _ hs
    have kin : K.In s.heap := e0.mod.kin.keeps fun b o e => (e0.bs b o e).1
    have nol : s.heap.NoLimit := e0.mod.nolimit.keeps fun b o e => (e0.bs b o e).1
    have loc : ∀ z ∈ ps.zip us, scope.names.lookup z.1 = some .local ∨ (scope.names.lookup z.1 = some .cell ∧ ((cellsFrom (s.heap.objs.size + 1) scope.names []).lookup z.1).isSome = true) := fun ⟨x, v⟩ hz =>
      (S.par x (List.of_mem_zip hz).1).imp id fun q => ⟨q, PySem.W.cellsFrom_some _ _ _ (.inl q)⟩
    refine codeAny_call_function hr.depth (kin _ _ lk) rfl S.co S.gen rfl (PySem.W.codeRec_of kin hcd) (hbi _ _ _ _ (wpAny_newFunctionEnv_cells S.kind loc fun env he s1 x => ?_))
    cases he
    refine ⟨nol.keeps x.toInCall.keep, codeAny_func (wpAny_mono (ht.run [] s1 (start N vs) H _ (inv_start S hr.hd e0 n1 hv x) hq) (fun fl s' q => ?_) fun _ _ q => q)⟩
    match fl, q with
    | .ret u, ⟨v, σ', H', J, rv, q⟩ => exact ⟨v, H', J.os, J.bare, J.base, J.hok, rv, q⟩
    | .next, ⟨σ', H', J, q⟩ => exact ⟨V.non, H', J.os, J.bare, J.base, J.hok, rfl, q⟩
    | .brk, ⟨_, _, _, q⟩ => exact False.elim q
    | .cont, ⟨_, _, _, q⟩ => exact False.elim q
/-- the law's call, from an abstract heap H that tracks at most the script -/
theorem law_coreG {P : Program} {w : World} {K : PySem.W.Frag} {mg mb : Str → Option Value} {CX : CXT} {k : Nat} {fa a : Addr} {fd : FuncData} {x : Str} {sp : L2.Sp} {s : Shared} {vs : List Value} {H : Hp}
    (kin : K.In s.heap) (ng : s.heap.Ns mainGlobals mg) (nb : s.heap.Ns builtinsNs mb) (hbb : ∀ x : Str, x ≠ "__name__" → mb x = bootBuiltins x) (nol : s.heap.NoLimit) (hg : s.gens = #[])
    (ha : s.heap.get? a = some { cls := .type "list", data := .seq vs.toArray }) (hr : Room k callerA)
    (F : ∀ base : Heap, K.In base → base.Ns mainGlobals mg → FnOkG P w K mg base CX k fa fd [x] sp) (hbi : ∀ (s : Shared) (u : Value), BindsTo s fd ⟨[u], []⟩ [(x, u)])
    (hO : Only H) (hs : sp [.ref a] H (fun v _ => v = .bl true) fun _ _ _ => False) (hok : HOk P w H s.heap) (hA : ∀ b, H b ≠ none → b = a) (hK : H a ≠ none → K.lookup a = none)
    (hCX : ∀ H e s', CX [] H s (fun _ _ _ => False) e s' → False) :
    codeAny (model P w) callerA (.call (.ref fa) ⟨[.ref a], []⟩) (fun r s' => r = .ok (.ret (.bool true)) ∧ OldK s.heap s'.heap ∧ s'.os = s.os ∧ AllBare s'.gens) s := by
  have free : ∀ b, b ≠ a → H b = none := fun b hb => by
    cases q : H b with
    | none => rfl
    | some u => exact absurd (hA b (by rw [q]; simp)) hb
  have ns : ∀ {b : Addr} {m : Str → Option Value}, s.heap.Ns b m → (hidT s.heap H).Ns b m := fun {b m} ⟨o, es, ep, e, d, r⟩ => by
    have hb : b ≠ a := fun z => by
      subst z
      rw [ha] at e
      cases e
      exact nomatch (show Data.seq vs.toArray _ = Data.dict es ep from d)
    exact ⟨o, es, ep, hidT_get e (free b hb), d, r⟩
  have kb : K.In (hidT s.heap H) := fun b o e => hidT_get (kin b o e) (by
    by_cases hb : b = a
    · subst hb
      cases q : H b with
      | none => rfl
      | some u => rw [hK (by rw [q]; simp)] at e; cases e
    · exact free b hb)
  obtain ⟨mc, l1, l2⟩ := nol
  have e0 : Env0 P w K mg (hidT s.heap H) callerA [] s H := ⟨rfl, ⟨kb, ns ng, ⟨mb, ns nb, hbb⟩, mc, ns l1, l2⟩, fun b o e => of_hidT e, Nat.le_of_eq (hidT_size _ _), trivial, (fun b hb => absurd (show b ∈ ([] : List Addr) from hb) (by simp)), hok, .of_eq hg⟩
  refine codeAny_mono ((F _ kb (ns ng)).run callerA [] s H ⟨[.ref a], []⟩ [.ref a] [.ref a] _ _ hr rfl e0 (hbi s (.ref a)) (.cons rfl .nil) hs) fun r s' h => ?_
  match r, h with
  | .error e, h => exact (hCX H e s' h).elim
  | .ok .next, h => exact False.elim h
  | .ok .brk, h => exact False.elim h
  | .ok .cont, h => exact False.elim h
  | .ok (.ret u), ⟨v, H', os, bare, un, hok', rv, q⟩ =>
    cases (show v = .bl true from q)
    obtain rfl : u = Value.bool true := rv
    refine ⟨rfl, OldK.of_keep fun b o e => ?_, os, bare⟩
    cases q : H b with
    | none => exact un.keep b o e q (fun z => absurd (show b ∈ ([] : List Addr) from z) (by simp)) (by simp)
    | some u =>
      rcases hO b with z | ⟨ob, xs, z⟩
      · rw [q] at z; cases z
      · obtain ⟨e1, _⟩ := hok b _ z
        obtain ⟨e2, _⟩ := hok' b _ (un.frzs b ob _ z)
        rw [e] at e1; cases e1
        exact e2
theorem law_callG {P : Program} {w : World} {K : PySem.W.Frag} {mg mb : Str → Option Value} {CX : CXT} {k : Nat} {fa a : Addr} {fd : FuncData} {x : Str} {sp : L2.Sp} {s : Shared} {vs : List Value} {is : List Int}
    (kin : K.In s.heap) (ng : s.heap.Ns mainGlobals mg) (nb : s.heap.Ns builtinsNs mb) (hbb : ∀ x : Str, x ≠ "__name__" → mb x = bootBuiltins x) (nol : s.heap.NoLimit) (hg : s.gens = #[])
    (ha : s.heap.get? a = some { cls := .type "list", data := .seq vs.toArray }) (hi : IntsAre vs is) (hl : is.length ≤ sizeLine) (hr : Room k callerA)
    (F : ∀ base : Heap, K.In base → base.Ns mainGlobals mg → FnOkG P w K mg base CX k fa fd [x] sp) (hbi : ∀ (s : Shared) (u : Value), BindsTo s fd ⟨[u], []⟩ [(x, u)])
    (hs : ∀ H : Hp, Only H → SqL K H a (is.map V.int) → sp [.ref a] H (fun v _ => v = .bl true) fun _ _ _ => False) (hCX : ∀ H e s', CX [] H s (fun _ _ _ => False) e s' → False) :
    codeAny (model P w) callerA (.call (.ref fa) ⟨[.ref a], []⟩) (fun r s' => r = .ok (.ret (.bool true)) ∧ OldK s.heap s'.heap ∧ s'.os = s.os ∧ AllBare s'.gens) s := by
  have rv := vals_ints hi
  have hsz : vs.length = is.length := hi.length
  cases hk : K.lookup a with
  | some o =>
    have e := kin a o hk
    rw [ha] at e
    cases e
    refine law_coreG kin ng nb hbb nol hg ha hr F hbi (H := fun _ => none) (fun _ => .inl rfl) (hs _ (fun _ => .inl rfl) (.inr ⟨_, vs.toArray, _, hk, rfl, rfl, rfl, by rw [List.size_toArray, hsz]; exact hl, by simpa using rv⟩)) (fun b u z => nomatch (show (none : Option HO) = some u from z)) (fun b z => absurd rfl z) (fun z => absurd rfl z) hCX
  | none =>
    have hO : Only (fun b => if b = a then some (.frz { cls := .type "list", data := .seq vs.toArray } (.lst (is.map V.int))) else none) := fun b => by
      by_cases hb : b = a
      · exact .inr ⟨_, _, if_pos hb⟩
      · exact .inl (if_neg hb)
    refine law_coreG kin ng nb hbb nol hg ha hr F hbi hO (hs _ hO (.inl (.inr ⟨{ cls := .type "list", data := .seq vs.toArray }, if_pos rfl⟩))) (fun b u z => ?_) (fun b z => Classical.byContradiction fun hb => z (if_neg hb)) (fun _ => hk) hCX
    by_cases hb : b = a
    · subst hb
      cases (if_pos rfl).symm.trans z
      exact ⟨ha, by rw [List.length_map]; exact hl, vs, _, rv, ha⟩
    · exact nomatch (if_neg hb).symm.trans z
theorem walk_byG {l : PySem.W.OpenLaw} {n k : Nat} {q : Program} {loose : List Str} {XP : (Str → Option Value) → Heap → Prop} {YP : World → Heap → Prop} {d : DefRec} {K : Params → PySem.W.Frag} {CX : World → CXT} {sp : World → L2.Sp} {x : Str}
    (hn : l.most = some n) (hn2 : n ≤ sizeLine) (hdf : d.params.defaults = []) (hr : Room k callerA) (hY : ∀ (w : World) (h : Heap), YP w h → (K w.params).In h)
    (F : ∀ (w : World) (mg : Str → Option Value) (fa : Addr) (h : Heap), (K w.params).In h → h.Ns mainGlobals mg → mg d.name = some (.ref fa) →
      ∃ fd : FuncData, (∀ (s : Shared) (u : Value), BindsTo s fd ⟨[u], []⟩ [(x, u)]) ∧ ∀ base : Heap, (K w.params).In base → base.Ns mainGlobals mg → FnOkG l.prog w (K w.params) mg base (CX w) k fa fd [x] (sp w))
    (hs : ∀ (w : World) (H : Hp) (a : Addr) (ns : List Int), ns.length ≤ n → Only H → SqL (K w.params) H a (ns.map V.int) → sp w [.ref a] H (fun v _ => v = .bl true) fun _ _ _ => False)
    (hCX : ∀ (w : World) (H : Hp) (s : Shared) (e : Value) (s' : Shared), CX w [] H s (fun _ _ _ => False) e s' → False) :
    PySem.W.WalkO q loose XP YP l.row.toRowW d [] (fun f vs => PySem.call f vs) := by
  refine Att.attach_call hn hdf fun w _ s₁ mg _ fa _ _ _ _ a _ ns G Y _ _ _ hmg hobj hints hlen hg => ?_
  have kin := hY w _ Y
  obtain ⟨fd, hb, hF⟩ := F w mg fa _ kin G.T.g hmg
  exact law_callG kin G.T.g G.T.b G.T.builtins G.T.nolimit hg hobj hints (Nat.le_trans hlen hn2) hr hF hb (fun H hO hS => hs w H a ns hlen hO hS) fun H e s' => hCX w H s₁ e s'
section
variable {X : L2.Cx} {k : Nat} {f : Addr} {fd : FuncData} {ps : List Str} {sp : L2.Sp} {CX : CXT} {ds : List Value} {dvs : List V} {E : XK} {x : Str} {p pos : Pos} {e : Expr} {es : List Expr} {t : TA}
theorem pe_callG (F : FnOkG X.prog X.w X.K X.mg X.base CX k f fd ps sp) (hr : Room k X.A) (hgd : X.A.guards = some []) (hg : Gl X x) (hm : X.mg x = some (.ref f)) (hk : PySem.W.keepIn X.K (.ref f) = true) (hb : Binds X.K fd ps ds) (hd : Vals dvs ds) (hx : Passes CX X E)
    (ha : PA X (e :: es) t) (hdb : (x == ("__debug__" : Str)) = false := by decide) (he : starEach (e :: es) X.env = (false, eval e X.env) :: starEach es X.env := by rfl) (hpl : (backTo pos (starEach es X.env)).any (·.1) = false := by rfl) :
    PE X (.Call (.Name x p) (e :: es) [] pos) (tCall sp dvs E t) := by
  refine ⟨fun pins s σ H Q I h => wpAny_Call_Name_kw (ld_glob I hg hm ?_ hdb)⟩
  refine PySem.W.callWith_K (h₀ := X.base) I.ok.mod.kin hk (thn (ha.run pos pins s σ H _ I h) fun us s1 ⟨vs, H1, I1, r, q⟩ => ⟨I1.kIn, ?_⟩) he hpl
  have r2 : Vals (vs ++ dvs) (us ++ ds) := r.append hd
  have hl : (us ++ ds).length = ps.length := by rw [← r2.length]; exact F.len _ _ _ _ q
  refine wpAny_call (codeAny_mono (F.run X.A X.stack s1 H1 ⟨us, []⟩ (us ++ ds) (vs ++ dvs) Q E hr hgd I1.env0 (hb s1 us I1.kIn hl) r2 q) fun r s' hq => ?_)
  match r, hq with
  | .error e, hq => exact hx pins σ H1 s1 e s' I1 hq
  | .ok (.ret u), hq => exact I1.after hq
  | .ok .next, hq => exact False.elim hq
  | .ok .brk, hq => exact False.elim hq
  | .ok .cont, hq => exact False.elim hq
end
structure RoomG (k : Nat) (A : Around) : Prop where
  r : Room k A
  g : A.guards = some []
theorem RoomG.mono {j k : Nat} {A : Around} (r : RoomG k A) (h : j ≤ k) : RoomG j A := ⟨r.r.mono h, r.g⟩
section
variable {K : PySem.W.Frag} {P : Program} {w : World} {mg : Str → Option Value} {base : Heap}
theorem fun_okG {x qual : Str} {st : Stmt} {f : Addr} {fd : FuncData} {N ps : List Str} {k : Nat} {sp : L2.Sp} (F : Fun K x qual st f fd) (S : FnScope N ps (defScope st)) (len : ∀ vs H Q E, sp vs H Q E → vs.length = ps.length)
    (hb : ∀ (cdv : Value) (A : Around) (outer : List Env) (s : Shared) (H : Hp) (vs : List V) (Q : VK) (E : XK), RoomG k (A.deeper (PyProof.Rows.envOfC qual (defScope st) s.heap.objs.size f cdv)) → sp vs H Q E →
      ∃ t, PSs (cxOf CX0 P w K mg base N qual (defScope st) f cdv A outer s H E).nox (defBody st) t ∧ t { nx := fun _ H' => Q .non H', rt := Q } (start N vs) H) : FnOkG P w K mg base CX0 (k + 1) f fd ps sp := by
  obtain ⟨oc, od, kV, doc, pm, an, cdv, ct, osl, rfl, lk, hcd⟩ := F.ex
  refine fn_byG lk hcd S len fun A outer s H vs Q E hr hg hs => ?_
  obtain ⟨t, h, q⟩ := hb cdv A outer s H vs Q E ⟨hr, hg⟩ hs
  exact ⟨t, h.nox, q⟩
end
end
section
variable {X : Cx} {e : Expr} {es : List Expr} {wr : WA}
theorem de_call {k : Nat} {f : Addr} {fd : FuncData} {ps : List Str} {sp : SpD} {x : Str} {p pos : Pos} (ks : List Nat) {n : Nat} (F : FnOkG X.prog X.w X.K X.mg X.base CX0 k f fd ps (spOf X.K n sp)) (hr : RoomG k X.A) (hg : Gl X x) (hm : X.mg x = some (.ref f)) (hk : PySem.W.keepIn X.K (.ref f) = true) (hb : Binds X.K fd ps [])
    (ha : DAn X (e :: es) n wr) (nd : ks.Nodup := by decide) (hdb : (x == ("__debug__" : Str)) = false := by decide) (he : starEach (e :: es) X.env = (false, eval e X.env) :: starEach es X.env := by rfl) (hpl : (backTo pos (starEach es X.env)).any (·.1) = false := by rfl) :
    DE X (.Call (.Name x p) (e :: es) [] pos) (dCall (CallW sp ks) wr) := by
  obtain ⟨ta, pa, qa⟩ := ha.ex
  refine ⟨_, pe_callG F hr.r hr.g hg hm hk hb .nil (pass0 (X := X)) pa hdb he hpl, fun b A own H σ s Ks Q R h kk => ?_⟩
  show ta σ H fun vs H1 => spOf X.K n sp (vs ++ []) H1 Q E0
  refine qa _ _ _ _ _ _ _ _ R h fun A1 o1 H1 vs s1 xs R1 U1 E1 h1 => ?_
  rw [List.append_nil]
  exact callW_run nd (E1.len.trans h1.1) R1 E1 h1.2 (kk.up U1)
end
end DL
namespace DL
open PySem L2
/-! ### forgetting, and fixing -/
def limE (m : Nat) : En → En
  | .mu k => bif Nat.blt k m then .mu k else .no
  | x => x
def limF (m : Nat) : List (Str × En) → List (Str × En)
  | [] => []
  | (f, x) :: r => (f, limE m x) :: limF m r
def limM (m : Nat) : MO → MO
  | .ins C fs => .ins C (limF m fs)
  | x => x
def limL (m : Nat) : List En → List En
  | [] => []
  | x :: r => limE m x :: limL m r
def takM (m : Nat) : Nat → List MO → List MO
  | 0, _ => []
  | _ + 1, [] => []
  | n + 1, x :: r => limM m x :: takM m n r
def killL : List Nat → List En → List En
  | [], es => es
  | i :: is, es => st (killL is es) i .no
def clS (kl : List Nat) (m : Nat) (s : S) : S := ⟨killL kl (limL m s.es), takM m m s.ms, s.np⟩
theorem limL_length (m : Nat) : ∀ l : List En, (limL m l).length = l.length
  | [] => rfl
  | _ :: r => congrArg (· + 1) (limL_length m r)
theorem killL_length : ∀ (kl : List Nat) (l : List En), (killL kl l).length = l.length
  | [], _ => rfl
  | i :: is, l => by show (st (killL is l) i .no).length = _; rw [st_length, killL_length is l]
theorem gt_limL (m : Nat) : ∀ (l : List En) (i : Nat), gt (limL m l) i = limE m (gt l i)
  | [], _ => rfl
  | _ :: _, 0 => rfl
  | _ :: r, i + 1 => gt_limL m r i
theorem gt_killL : ∀ (kl : List Nat) (l : List En) (i : Nat), gt (killL kl l) i = .no ∨ (i ∉ kl ∧ gt (killL kl l) i = gt l i)
  | [], _, _ => .inr ⟨by simp, rfl⟩
  | j :: js, l, i => by
    show gt (st (killL js l) j .no) i = .no ∨ _
    rw [show killL (j :: js) l = st (killL js l) j .no from rfl, gt_st]
    split
    · exact .inl rfl
    · rename_i h
      rcases gt_killL js l i with q | ⟨q1, q2⟩
      · exact .inl q
      · by_cases e : j = i
        · subst e
          have : ¬ j < (killL js l).length := fun z => h ⟨rfl, z⟩
          exact .inl (gt_ge _ _ (by omega))
        · exact .inr ⟨fun z => (List.mem_cons.mp z).elim (fun z => e z.symm) q1, q2⟩
theorem takM_length (m : Nat) : ∀ (n : Nat) (l : List MO), (takM m n l).length = min n l.length
  | 0, _ => by simp [takM]
  | n + 1, [] => by simp [takM]
  | n + 1, x :: r => by simp [takM, takM_length m n r]
theorem gm_takM (m : Nat) : ∀ (n : Nat) (l : List MO) (i : Nat), gm (takM m n l) i = if i < n then limM m (gm l i) else .gone
  | 0, _, i => by simp [takM, gm]
  | n + 1, [], i => by simp [takM, gm, limM]
  | n + 1, x :: r, 0 => by simp [takM, gm]
  | n + 1, x :: r, i + 1 => by
    show gm (takM m n r) i = _
    rw [gm_takM m n r i]
    simp [gm]
section
variable {K : PySem.W.Frag} {b : Bd} {A : Addr → Prop} {own : List (List Addr)} {H : Hp} {σ : L2.St} {s : S}
theorem ER.lim {v : V} {x : En} {m : Nat} (h : ER K A own H v x) : ER K A (own.take m) H v (limE m x) := by
  cases x with
  | no => trivial
  | da d => exact h
  | mu k =>
    show ER K A (own.take m) H v (bif Nat.blt k m then .mu k else .no)
    by_cases q : k < m
    · rw [show Nat.blt k m = true from by simpa using q]
      obtain ⟨a, r, e1, e2⟩ := h
      exact ⟨a, r, by rw [go_take, if_pos q]; exact e1, e2⟩
    · rw [show Nat.blt k m = false from Bool.eq_false_iff.mpr fun z => q (by simpa using z)]
      trivial
theorem RKE.lim {m : Nat} : ∀ {ws : List (Str × V)} {fs : List (Str × En)}, RKE K A own H ws fs → RKE K A (own.take m) H ws (limF m fs)
  | [], [], _ => trivial
  | _ :: _, (_, _) :: _, ⟨e, h, t⟩ => ⟨e, h.lim, RKE.lim t⟩
theorem MR.lim {l : List Addr} {x : MO} {m : Nat} (h : MR K A own H l x) : MR K A (own.take m) H l (limM m x) := by
  cases x with
  | gone => trivial
  | lst ds => exact h
  | dct kvs => exact h
  | rnd n => exact h
  | box n => exact h
  | tab n => exact h
  | ins C fs =>
    obtain ⟨a, r, ws, rfl, h1, h3⟩ := h
    exact ⟨a, r, ws, rfl, h1, h3.lim⟩
theorem Own.take {ms : List MO} (o : Own K A own H ms) (m : Nat) : Own K A (own.take m) H (takM m m ms) := by
  refine ⟨by rw [List.length_take, takM_length, o.ol], fun k => ?_, fun k j a h1 h2 => ?_, fun k => ?_, fun k a h1 => ?_, o.al⟩
  · rw [go_take, gm_takM]
    split
    · exact (o.mr k).lim
    · trivial
  · rw [go_take] at h1 h2
    split at h1
    · split at h2
      · exact o.dj k j a h1 h2
      · cases h2
    · cases h1
  · rw [go_take]
    split
    · exact o.ld k
    · exact List.nodup_nil
  · rw [go_take] at h1
    split at h1
    · exact o.oa k a h1
    · cases h1
theorem Rel.cl (r : Rel K b A own H σ s) (kl : List Nat) (m : Nat) (hm : s.np ≤ m) : Rel K b A (own.take m) H σ (clS kl m s) := by
  refine ⟨r.toOwn.take m, by show _ = (killL kl (limL m s.es)).length; rw [killL_length, limL_length]; exact r.len, fun i => ?_, r.ge, r.fr, fun k a h => ?_, ?_, ?_, r.lim, r.a0⟩
  · show gt (killL kl (limL m s.es)) i = .no ∨ ∃ v, σ[i]? = some (some v) ∧ ER K A (own.take m) H v (gt (killL kl (limL m s.es)) i)
    rcases gt_killL kl (limL m s.es) i with q | ⟨_, q⟩
    · exact .inl q
    · rw [q, gt_limL]
      rcases r.sl i with z | ⟨v, e, h⟩
      · rw [z]; exact .inl rfl
      · exact .inr ⟨v, e, h.lim⟩
  · rw [go_take] at h
    split at h
    · exact r.fo k a h
    · cases h
  · rw [List.take_take, show min (clS kl m s).np m = s.np from Nat.min_eq_left hm]; exact r.pre
  · rw [List.length_take]; have := r.npl; show s.np ≤ _; omega
/-- slots killed, the others' objects kept: for other slots -/
theorem Rel.slots {σ' : L2.St} {es' : List En} (r : Rel K b A own H σ s) (hl : σ'.length = es'.length) (h : ∀ i, gt es' i = .no ∨ ∃ v, σ'[i]? = some (some v) ∧ ER K A own H v (gt es' i)) : Rel K b A own H σ' { s with es := es' } :=
  { r with len := hl, sl := h }
/-! #### an object that changed is data from here on -/
def subE (k : Nat) (d : D) : En → En
  | .mu j => bif Nat.beq j k then .da d else .mu j
  | x => x
def subF (k : Nat) (d : D) : List (Str × En) → List (Str × En)
  | [] => []
  | (f, x) :: r => (f, subE k d x) :: subF k d r
def subM (k : Nat) (d : D) : MO → MO
  | .ins C fs => .ins C (subF k d fs)
  | x => x
def subL (k : Nat) (d : D) : List En → List En
  | [] => []
  | x :: r => subE k d x :: subL k d r
def subS (k : Nat) (d : D) : List MO → List MO
  | [] => []
  | x :: r => subM k d x :: subS k d r
theorem subL_length (k : Nat) (d : D) : ∀ l : List En, (subL k d l).length = l.length
  | [] => rfl
  | _ :: r => congrArg (· + 1) (subL_length k d r)
theorem subS_length (k : Nat) (d : D) : ∀ l : List MO, (subS k d l).length = l.length
  | [] => rfl
  | _ :: r => congrArg (· + 1) (subS_length k d r)
theorem gt_subL (k : Nat) (d : D) : ∀ (l : List En) (i : Nat), gt (subL k d l) i = subE k d (gt l i)
  | [], _ => rfl
  | _ :: _, 0 => rfl
  | _ :: r, i + 1 => gt_subL k d r i
theorem gm_subS (k : Nat) (d : D) : ∀ (l : List MO) (i : Nat), gm (subS k d l) i = subM k d (gm l i)
  | [], _ => rfl
  | _ :: _, 0 => rfl
  | _ :: r, i + 1 => gm_subS k d r i
def so : List (List Addr) → Nat → List (List Addr)
  | [], _ => []
  | _ :: r, 0 => [] :: r
  | x :: r, i + 1 => x :: so r i
theorem so_length : ∀ (l : List (List Addr)) (i : Nat), (so l i).length = l.length
  | [], _ => rfl
  | _ :: _, 0 => rfl
  | _ :: r, i + 1 => congrArg (· + 1) (so_length r i)
theorem go_so : ∀ (l : List (List Addr)) (i j : Nat), go (so l i) j = if i = j then [] else go l j
  | [], i, j => by simp [so, go]
  | x :: r, 0, 0 => by simp [so, go]
  | x :: r, 0, j + 1 => by simp [so, go]
  | x :: r, i + 1, 0 => by simp [so, go]
  | x :: r, i + 1, j + 1 => by
    show go (so r i) j = _
    rw [go_so r i j]
    simp [go]
theorem take_so : ∀ (l : List (List Addr)) (i n : Nat), n ≤ i → (so l i).take n = l.take n
  | [], _, _, _ => rfl
  | x :: r, i, 0, _ => by simp
  | x :: r, 0, n + 1, h => by omega
  | x :: r, i + 1, n + 1, h => by
    show x :: (so r i).take n = x :: r.take n
    rw [take_so r i n (by omega)]
def frzS (k : Nat) (ds : List D) (s : S) : S := ⟨subL k (.list ds) s.es, sm (subS k (.list ds) s.ms) k .gone, s.np⟩
theorem Rel.frz (r : Rel K b A own H σ s) {k : Nat} {ds : List D} (g : gm s.ms k = .lst ds) (hk : s.np ≤ k) :
    Rel K b (fun a => A a ∧ a ∉ go own k) (so own k) H σ (frzS k ds s) ∧ Kp A H (fun a => A a ∧ a ∉ go own k) H ∧ ∀ v, ER K A own H v (.mu k) → Rp K (fun a => A a ∧ a ∉ go own k) H v (.list ds) := by
  have kp : Kp A H (fun a => A a ∧ a ∉ go own k) H := fun a u n q => ⟨q, fun z => n z.1⟩
  have m := r.mr k
  rw [g] at m
  obtain ⟨p, vs, e1, e2, e3⟩ := m
  have rp : Rp K (fun a => A a ∧ a ∉ go own k) H (.ref p) (.list ds) := .lst ⟨e2, fun z => z.2 (by rw [e1]; simp)⟩ (RpL.mono kp e3)
  have er : ∀ {v : V} {x : En}, ER K A own H v x → ER K (fun a => A a ∧ a ∉ go own k) (so own k) H v (subE k (.list ds) x) := by
    intro v x h
    cases x with
    | no => trivial
    | da d => exact Rp.mono kp h
    | mu j =>
      obtain ⟨a, q, f1, f2⟩ := h
      show ER K _ _ H v (bif Nat.beq j k then .da (.list ds) else .mu j)
      by_cases e : j = k
      · subst e
        rw [show Nat.beq j j = true from by simp]
        rw [e1] at f1; cases f1; subst f2; exact rp
      · rw [show Nat.beq j k = false from Bool.eq_false_iff.mpr fun z => e (by simpa using z)]
        exact ⟨a, q, by rw [go_so, if_neg (Ne.symm e)]; exact f1, f2⟩
  have rke : ∀ {ws : List (Str × V)} {fs : List (Str × En)}, RKE K A own H ws fs → RKE K (fun a => A a ∧ a ∉ go own k) (so own k) H ws (subF k (.list ds) fs) := by
    intro ws fs
    induction fs generalizing ws with
    | nil => intro h; cases ws with
      | nil => trivial
      | cons _ _ => exact h.elim
    | cons x xs ih => intro h; cases ws with
      | nil => exact h.elim
      | cons w ws => exact ⟨h.1, er h.2.1, ih h.2.2⟩
  refine ⟨⟨⟨?_, fun j => ?_, fun i j a h1 h2 => ?_, fun i => ?_, fun i a h1 => ?_, fun a h => r.al a h.1⟩, ?_, fun i => ?_, fun a h => ?_, r.fr, fun i a h1 => ?_, ?_, ?_, fun a h => r.lim a h.1, r.a0⟩, kp, fun v h => ?_⟩
  · show (so own k).length = (sm (subS k (.list ds) s.ms) k .gone).length
    rw [so_length, sm_length, subS_length]; exact r.ol
  · show MR K _ (so own k) H (go (so own k) j) (gm (sm (subS k (.list ds) s.ms) k .gone) j)
    rw [gm_sm, go_so]
    by_cases e : k = j
    · subst e
      have : k < s.ms.length := gm_lt (by rw [g]; intro z; cases z)
      rw [if_pos rfl, if_pos ⟨rfl, by rw [subS_length]; exact this⟩]; trivial
    · rw [if_neg e, if_neg (fun z => e z.1), gm_subS]
      have mj := r.mr j
      cases q : gm s.ms j with
      | gone => trivial
      | lst ds' => rw [q] at mj; obtain ⟨a, vs, h1, h2, h3⟩ := mj; exact ⟨a, vs, h1, h2, RpL.mono kp h3⟩
      | dct ds' => rw [q] at mj; obtain ⟨a, vs, h1, h2, h3⟩ := mj; exact ⟨a, vs, h1, h2, h3.up kp⟩
      | rnd n => rw [q] at mj; exact mj
      | box n => rw [q] at mj; exact mj
      | tab n =>
        rw [q] at mj
        obtain ⟨P, c, h1, hc, ps, h2, h3, h4⟩ := mj
        refine ⟨P, c, h1, hc, ps, h2, h3, fun pos cv e => ?_⟩
        obtain ⟨c', e1, e2, e3⟩ := h4 pos cv e
        exact ⟨c', e1, e2, fun z => e3 z.1⟩
      | ins C fs => rw [q] at mj; obtain ⟨a, dx, ws, h1, h2, h4⟩ := mj; exact ⟨a, dx, ws, h1, h2, rke h4⟩
  · rw [go_so] at h1 h2
    split at h1
    · cases h1
    · split at h2
      · cases h2
      · exact r.dj i j a h1 h2
  · rw [go_so]
    split
    · exact List.nodup_nil
    · exact r.ld i
  · rw [go_so] at h1
    split at h1
    · cases h1
    · rename_i ne
      exact ⟨r.oa i a h1, fun z => ne (r.dj k i a z h1)⟩
  · show σ.length = (subL k (.list ds) s.es).length
    rw [subL_length]; exact r.len
  · show gt (subL k (.list ds) s.es) i = .no ∨ ∃ v, σ[i]? = some (some v) ∧ ER K _ (so own k) H v (gt (subL k (.list ds) s.es) i)
    rw [gt_subL]
    rcases r.sl i with z | ⟨v, e, h⟩
    · rw [z]; exact .inl rfl
    · exact .inr ⟨v, e, er h⟩
  · refine ⟨r.ge a h, fun z => ?_⟩
    rcases r.fo k a z with ⟨j, q⟩ | q
    · rw [← r.pre, go_take] at q
      split at q
      · have := r.dj k j a z q; omega
      · cases q
    · exact r.a0 a h q
  · rw [go_so] at h1
    split at h1
    · cases h1
    · exact r.fo i a h1
  · show (so own k).take s.np = b.own0
    rw [take_so own k s.np hk]; exact r.pre
  · rw [so_length]; exact r.npl
  · obtain ⟨a, q, f1, rfl⟩ := h
    rw [e1] at f1; cases f1; exact rp
end
end DL
namespace DL
open PySem L2
section
variable {X : Cx} {a b c e : Expr} {wa wb wc we : WE} {pos : Pos} {es : List Expr} {wr : WA} {wt : WT} {sts : List Stmt} {w u : WS}
/-! ### blocks -/
def sNil : WS := fun s D => D.nx s
def sSeq (w u : WS) : WS := fun s D => w s { D with nx := fun s1 => u s1 D }
theorem Kp.refl' {A : Addr → Prop} {H : Hp} : Kp A H A H := Kp.refl
theorem dss_nil : DSs X [] sNil := ⟨_, pss_nil, fun b A own H σ s D E R h m => m.nx _ _ _ _ _ R Kp.refl h⟩
theorem dss_cons {st : Stmt} (h1 : DS X st w) (h2 : DSs X sts u) : DSs X (st :: sts) (sSeq w u) := by
  obtain ⟨t1, p1, q1⟩ := h1.ex
  obtain ⟨t2, p2, q2⟩ := h2.ex
  refine ⟨_, pss_cons p1 p2, fun b A own H σ s D E R h m => ?_⟩
  show t1 { E with nx := t2 E } σ H
  exact q1 _ _ _ _ _ _ _ _ R h ⟨fun A' o' H' σ' s' R' k h' => q2 _ _ _ _ _ _ _ _ R' h' (m.up k), m.rt, m.bk, m.ct⟩
theorem dss_one {st : Stmt} (h1 : DS X st w) : DSs X [st] w := by
  obtain ⟨t1, p1, q1⟩ := h1.ex
  exact ⟨_, pss_one p1, q1⟩
/-- a list that has changed is data from here on -/
def frzW (k : Nat) (s : S) (K : S → Prop) : Prop := match gm s.ms k with | .lst ds => s.np ≤ k ∧ K (frzS k ds s) | _ => False
def sFrz (k : Nat) (w : WS) : WS := fun s D => frzW k s fun s1 => w s1 D
theorem dss_frz (k : Nat) (h : DSs X sts w) : DSs X sts (sFrz k w) := by
  obtain ⟨t, p, q⟩ := h.ex
  refine ⟨t, p, fun b A own H σ s D E R h m => ?_⟩
  unfold sFrz frzW at h
  split at h
  · rename_i ds g
    obtain ⟨R1, k1, _⟩ := R.frz g h.1
    exact q _ _ _ _ _ _ _ _ R1 h.2 (m.up k1)
  · exact h.elim
/-- forgetting -/
def sCl (kl : List Nat) (m : Nat) (w : WS) : WS := fun s D => s.np ≤ m ∧ w (clS kl m s) D
theorem dss_cl (kl : List Nat) (m : Nat) (h : DSs X sts w) : DSs X sts (sCl kl m w) := by
  obtain ⟨t, p, q⟩ := h.ex
  exact ⟨t, p, fun b A own H σ s D E R h m' => q _ _ _ _ _ _ _ _ (R.cl kl m h.1) h.2 m'⟩
/-- a word of one's own between statements -/
def sCut (kl : List Nat) (m : Nat) (w u : WS) : WS := fun s D => ∃ M : S → Prop, w s { D with nx := fun s1 => s1.np ≤ m ∧ M (clS kl m s1) } ∧ ∀ s1, M s1 → u s1 D
theorem dss_cut {st : Stmt} (kl : List Nat) (m : Nat) (h1 : DS X st w) (h2 : DSs X sts u) : DSs X (st :: sts) (sCut kl m w u) := by
  obtain ⟨t1, p1, q1⟩ := h1.ex
  obtain ⟨t2, p2, q2⟩ := h2.ex
  refine ⟨_, pss_cons p1 p2, fun b A own H σ s D E R h mt => ?_⟩
  obtain ⟨M, h1, h2⟩ := h
  show t1 { E with nx := t2 E } σ H
  exact q1 _ _ _ _ _ _ _ _ R h1 ⟨fun A' o' H' σ' s' R' k h' => q2 _ _ _ _ _ _ _ _ (R'.cl kl m h'.1) (h2 _ h'.2) (mt.up k), mt.rt, mt.bk, mt.ct⟩
/-! ### statements -/
def sAsg (we : WE) (wg : WG) : WS := fun s D => we s fun s1 x => wg x s1 D.nx
theorem asg_run {te : TE} {g : TG} {js : List Nat} {wg : WG} (qe : ∀ (b : Bd) (A : Addr → Prop) (own : List (List Addr)) (H : Hp) (σ : L2.St) (s : S) (Ks : S → En → Prop) (Q : VK), Rel X.K b A own H σ s → we s Ks → PostE X.K b A own H σ Ks Q → te σ H Q)
    (qg : ∀ (b : Bd) (A : Addr → Prop) (own : List (List Addr)) (H : Hp) (σ : L2.St) (s : S) (v : V) (x : En) (Ks : S → Prop) (Q : L2.St → Hp → Prop), Rel X.K b A own H σ s → ER X.K A own H v x → wg x s Ks → PostG X.K b A own H σ js Ks Q → g v σ H Q)
    (b : Bd) (A : Addr → Prop) (own : List (List Addr)) (H : Hp) (σ : L2.St) (s : S) (D : Dn) (E : Ends) (R : Rel X.K b A own H σ s) (h : sAsg we wg s D) (m : Mt X.K b A H D E) : tAsg te g E σ H := by
  show te σ H fun x H1 => g x σ H1 E.nx
  refine qe _ _ _ _ _ _ _ _ R h fun A1 o1 H1 v1 s1 x1 R1 U1 E1 h1 => ?_
  exact qg _ _ _ _ _ _ _ _ _ _ R1 E1 h1 fun A2 o2 H2 σ2 s2 R2 U2 _ h2 => m.nx _ _ _ _ _ R2 (U1.trans U2).kp h2
theorem ds_asg {tg : Expr} {js : List Nat} {wg : WG} (he : DE X e we) (hg : DG X tg js wg) (hs : swapsWithSole [tg] e pos.line X.env = pure false := by rfl) (hw : swappedStores [tg] e X.env = pure none := by rfl)
    (h1 : (assignEach [tg] X.env).map (·.2) = [assign tg X.env] := by rfl) : DS X (.Assign [tg] e pos) (sAsg we wg) := by
  obtain ⟨te, pe, qe⟩ := he.ex
  obtain ⟨g, pg, qg⟩ := hg.ex
  exact ⟨_, ps_asg pe pg hs hw h1, asg_run qe qg⟩
theorem gN_run (i : Nat) (b : Bd) (A : Addr → Prop) (own : List (List Addr)) (H : Hp) (σ : L2.St) (s : S) (v : V) (x : En) (Ks : S → Prop) (Q : L2.St → Hp → Prop) (R : Rel X.K b A own H σ s) (E : ER X.K A own H v x) (h : gN i x s Ks) (k : PostG X.K b A own H σ [i] Ks Q) : gName i v σ H Q :=
  k _ _ _ _ _ (R.slot E) Up.refl ⟨List.length_set .., fun j n => List.getElem?_set_ne (fun z => n (by simp [z]))⟩ h
theorem ds_set {i : Nat} {x : Str} {pos' : Pos} (hN : X.N.Nodup) (hi : X.N[i]? = some x) (hx : Loc X.env.scope x) (he : DE X e we) (hs : swapsWith e (some (.Name x pos')) pos.line X.env = pure false := by rfl) (hf : X.fn x = true ∨ X.env.scope.names.lookup x = some .local := by first | exact .inl rfl | exact .inr rfl | assumption) :
    DS X (.Assign [.Name x pos'] e pos) (sAsg we (gN i)) := by
  obtain ⟨te, pe, qe⟩ := he.ex
  exact ⟨_, ps_set hN hi hx pe hs hf, asg_run qe (gN_run i)⟩
def sPar (i j : Nat) (wr : WA) : WS := fun s D => wr s fun s1 xs => a2 xs fun x y => D.nx ((s1.sE i x).sE j y)
theorem ds_par {i j : Nat} {x y : Str} {px py pt : Pos} {kt k2 pt2} (hc : X.calm = true) (hN : X.N.Nodup) (hi : X.N[i]? = some x) (hj : X.N[j]? = some y) (hij : i ≠ j)
    (hx : X.env.scope.names.lookup x = some .local) (hy : X.env.scope.names.lookup y = some .local) (ha : DA X [a, b] wr)
    (hw : swappedStores [.Tuple [.Name x px, .Name y py] kt pt] (.Tuple [a, b] k2 pt2) X.env = pure (some [x, y]))
    (hs : swapsWithSole [.Tuple [.Name x px, .Name y py] kt pt] (.Tuple [a, b] k2 pt2) pos.line X.env = pure false := by rfl) :
    DS X (.Assign [.Tuple [.Name x px, .Name y py] kt pt] (.Tuple [a, b] k2 pt2) pos) (sPar i j wr) := by
  obtain ⟨ta, pa, qa⟩ := ha.ex
  refine ⟨_, ps_par hc hN hi hj hij hx hy pa hw hs, fun b A own H σ s D E R h m => ?_⟩
  show ta σ H fun vs H1 => ∃ v w, vs = [v, w] ∧ E.nx ((σ.set i (some v)).set j (some w)) H1
  refine qa _ _ _ _ _ _ _ _ R h fun A1 o1 H1 vs s1 xs R1 U1 E1 h1 => ?_
  obtain ⟨v, w, x, y, rfl, e1, e2, h1⟩ := a2_inv E1 h1
  exact ⟨v, w, rfl, m.nx _ _ _ _ _ ((R1.slot e1).slot e2) U1.kp h1⟩
def a3 (xs : List En) (k : En → En → En → Prop) : Prop := match xs with | [x, y, z] => k x y z | _ => False
theorem a3_inv {K : PySem.W.Frag} {A : Addr → Prop} {own : List (List Addr)} {H : Hp} {vs : List V} {xs : List En} {k : En → En → En → Prop} (e : ERL K A own H vs xs) (h : a3 xs k) : ∃ v u w x y z, vs = [v, u, w] ∧ ER K A own H v x ∧ ER K A own H u y ∧ ER K A own H w z ∧ k x y z := by
  unfold a3 at h
  split at h
  · match vs, e with
    | [v, u, w], ⟨e1, e2, e3, _⟩ => exact ⟨v, u, w, _, _, _, rfl, e1, e2, e3, h⟩
  · exact h.elim
def sPar3 (i j l : Nat) (wr : WA) : WS := fun s D => wr s fun s1 xs => a3 xs fun x y z => D.nx (((s1.sE i x).sE j y).sE l z)
theorem ds_par3 {i j l : Nat} {x y z : Str} {px py pz pt : Pos} {kt k2 pt2} (hc : X.calm = true) (hN : X.N.Nodup) (hi : X.N[i]? = some x) (hj : X.N[j]? = some y) (hl : X.N[l]? = some z) (hij : i ≠ j) (hil : i ≠ l) (hjl : j ≠ l)
    (hx : X.env.scope.names.lookup x = some .local) (hy : X.env.scope.names.lookup y = some .local) (hz : X.env.scope.names.lookup z = some .local) (ha : DA X [a, b, c] wr)
    (hw : swappedStores [.Tuple [.Name x px, .Name y py, .Name z pz] kt pt] (.Tuple [a, b, c] k2 pt2) X.env = pure (some [x, y, z]))
    (hs : swapsWithSole [.Tuple [.Name x px, .Name y py, .Name z pz] kt pt] (.Tuple [a, b, c] k2 pt2) pos.line X.env = pure false := by rfl) :
    DS X (.Assign [.Tuple [.Name x px, .Name y py, .Name z pz] kt pt] (.Tuple [a, b, c] k2 pt2) pos) (sPar3 i j l wr) := by
  obtain ⟨ta, pa, qa⟩ := ha.ex
  refine ⟨_, ps_par3 hc hN hi hj hl hij hil hjl hx hy hz pa hw hs, fun b A own H σ s D E R h m => ?_⟩
  show ta σ H fun vs H1 => ∃ u v w, vs = [u, v, w] ∧ E.nx (((σ.set i (some u)).set j (some v)).set l (some w)) H1
  refine qa _ _ _ _ _ _ _ _ R h fun A1 o1 H1 vs s1 xs R1 U1 E1 h1 => ?_
  obtain ⟨v, u, w, x, y, z, rfl, e1, e2, e3, h1⟩ := a3_inv E1 h1
  exact ⟨v, u, w, rfl, m.nx _ _ _ _ _ (((R1.slot e1).slot e2).slot e3) U1.kp h1⟩
def sAug (i : Nat) (we : WE) (rd : S → En → En → (S → En → Prop) → Prop) : WS := fun s D => onE (gt s.es i) fun x => we s fun s1 y => rd s1 x y fun s2 z => D.nx (s2.sE i z)
theorem ds_aug {i : Nat} {x : Str} {op : Operator} {r : R2} {rd} {pos' : Pos} (hN : X.N.Nodup) (hi : X.N[i]? = some x) (hx : Loc X.env.scope x) (he : DE X e we) (ho : OpR X (inplaceOp op) r) (hd : OpD X.K r rd) (hf : X.fn x = true ∨ X.env.scope.names.lookup x = some .local := by first | exact .inl rfl | exact .inr rfl | assumption) :
    DS X (.AugAssign (.Name x pos') op e pos) (sAug i we rd) := by
  obtain ⟨te, pe, qe⟩ := he.ex
  refine ⟨_, ps_aug hN hi hx pe ho hf, fun b A own H σ s D E R h m => ?_⟩
  show ∃ x, σ[i]? = some (some x) ∧ te σ H fun y H1 => r x y H1 fun z H2 => E.nx (σ.set i (some z)) H2
  obtain ⟨n, h⟩ := onE_inv h
  rcases R.sl i with z | ⟨v, e, q⟩
  · exact (n z).elim
  refine ⟨v, e, ?_⟩
  refine qe _ _ _ _ _ _ _ _ R h fun A1 o1 H1 v1 s1 x1 R1 U1 E1 h1 => ?_
  exact hd _ _ _ _ _ _ _ _ _ _ _ _ R1 (q.up U1) E1 h1 fun A2 o2 H2 v2 s2 x2 R2 U2 E2 h2 => m.nx _ _ _ _ _ (R2.slot E2) (U1.trans U2).kp h2
def sAugAdd (i : Nat) (we : WE) : WS := sAug i we fun s x y Ks => iI x y fun i j => Ks s (.da (.int (i + j)))
def sAugSub (i : Nat) (we : WE) : WS := sAug i we fun s x y Ks => iI x y fun i j => Ks s (.da (.int (i - j)))
theorem ds_augAdd {i : Nat} {x : Str} {pos' : Pos} (hN : X.N.Nodup) (hi : X.N[i]? = some x) (hx : Loc X.env.scope x) (he : DE X e we) (hf : X.fn x = true ∨ X.env.scope.names.lookup x = some .local := by first | exact .inl rfl | exact .inr rfl | assumption) : DS X (.AugAssign (.Name x pos') .Add e pos) (sAugAdd i we) := ds_aug hN hi hx he iop_add opd_int0 hf
theorem ds_augSub {i : Nat} {x : Str} {pos' : Pos} (hN : X.N.Nodup) (hi : X.N[i]? = some x) (hx : Loc X.env.scope x) (he : DE X e we) (hf : X.fn x = true ∨ X.env.scope.names.lookup x = some .local := by first | exact .inl rfl | exact .inr rfl | assumption) : DS X (.AugAssign (.Name x pos') .Sub e pos) (sAugSub i we) := ds_aug hN hi hx he iop_sub opd_int0 hf
def sExp (we : WE) : WS := fun s D => we s fun s1 _ => D.nx s1
theorem ds_exp (he : DE X e we) (hs : swapsWith e none pos.line X.env = pure false := by rfl) : DS X (.Expr e pos) (sExp we) := by
  obtain ⟨te, pe, qe⟩ := he.ex
  exact ⟨_, ps_expr pe hs, fun b A own H σ s D E R h m => qe _ _ _ _ _ _ _ _ R h fun A1 o1 H1 v1 s1 x1 R1 U1 E1 h1 => m.nx _ _ _ _ _ R1 U1.kp h1⟩
def sRet (we : WE) : WS := fun s D => we s D.rt
theorem ds_ret (he : DE X e we) : DS X (.Return (some e) pos) (sRet we) := by
  obtain ⟨te, pe, qe⟩ := he.ex
  exact ⟨_, ps_ret pe, fun b A own H σ s D E R h m => qe _ _ _ _ _ _ _ _ R h fun A1 o1 H1 v1 s1 x1 R1 U1 E1 h1 => m.rt _ _ _ _ _ _ _ R1 U1.kp E1 h1⟩
def sRetN : WS := fun s D => D.rt s (.da .none)
theorem ds_retN : DS X (.Return none pos) sRetN := ⟨_, ps_retN, fun b A own H σ s D E R h m => m.rt _ _ _ _ _ _ (.da .none) R Kp.refl .non h⟩
theorem ds_pass : DS X (.Pass pos) sNil := ⟨_, ps_pass, fun b A own H σ s D E R h m => m.nx _ _ _ _ _ R Kp.refl h⟩
def sBrk : WS := fun s D => D.bk s
def sCnt : WS := fun s D => D.ct s
theorem ds_break : DS X (.Break pos) sBrk := ⟨_, ps_break, fun b A own H σ s D E R h m => m.bk _ _ _ _ _ R Kp.refl h⟩
theorem ds_continue : DS X (.Continue pos) sCnt := ⟨_, ps_continue, fun b A own H σ s D E R h m => m.ct _ _ _ _ _ R Kp.refl h⟩
def sIf (wt : WT) (w u : WS) : WS := fun s D => wt s fun s1 c => (c = true → w s1 D) ∧ (c = false → u s1 D)
theorem ds_if {sts2 : List Stmt} (hc : DT X c wt) (ha : DSs X sts w) (hb : DSs X sts2 u) : DS X (.If c sts sts2 pos) (sIf wt w u) := by
  obtain ⟨tc, pc, qc⟩ := hc.ex
  obtain ⟨ta, pa, qa⟩ := ha.ex
  obtain ⟨tb, pb, qb⟩ := hb.ex
  refine ⟨_, ps_if pc pa pb, fun b A own H σ s D E R h m => ?_⟩
  show tc σ H fun b H1 => if b = true then ta E σ H1 else tb E σ H1
  refine qc _ _ _ _ _ _ _ _ R h fun A1 o1 H1 s1 c R1 U1 h1 => ?_
  cases c with
  | true => rw [if_pos rfl]; exact qa _ _ _ _ _ _ _ _ R1 (h1.1 rfl) (m.up U1.kp)
  | false => rw [if_neg (by decide)]; exact qb _ _ _ _ _ _ _ _ R1 (h1.2 rfl) (m.up U1.kp)
/-! ### what a for walks -/
/-- J walks the data ds from here on -/
def Wk (K : PySem.W.Frag) (b : Bd) (J : It) (ds : List D) (A : Addr → Prop) (H : Hp) : Prop := ∀ (A1 : Addr → Prop) (H1 : Hp), Kp A H A1 H1 → ∀ i, (ds.length ≤ i → J.stop i H1) ∧ (∀ d, ds[i]? = some d → J.go i H1 ∧
  ∀ x H2, J.yld i H1 x H2 → ∀ (own1 : List (List Addr)) (σ : L2.St) (s : S), Rel K b A1 own1 H1 σ s → Rel K b A1 own1 H2 σ s ∧ Up A1 own1 H1 A1 own1 H2 ∧ Rp K A1 H2 x d)
abbrev WI := S → (S → List D → Prop) → Prop
def PostI (K : PySem.W.Frag) (b : Bd) (A : Addr → Prop) (own : List (List Addr)) (H : Hp) (σ : L2.St) (Ks : S → List D → Prop) (Q : It → Hp → Prop) : Prop := ∀ (A' : Addr → Prop) (own' : List (List Addr)) (H' : Hp) (s' : S) (ds : List D) (J : It), Rel K b A' own' H' σ s' → Up A own H A' own' H' → Wk K b J ds A' H' → Ks s' ds → Q J H'
structure DI (X : Cx) (tg e : Expr) (w : WI) : Prop where
  ex : ∃ t, PI X tg e t ∧ ∀ (b : Bd) (A : Addr → Prop) (own : List (List Addr)) (H : Hp) (σ : L2.St) (s : S) (Ks : S → List D → Prop) (Q : It → Hp → Prop), Rel X.K b A own H σ s → w s Ks → PostI X.K b A own H σ Ks Q → t σ H Q
variable {tg : Expr}
def iLst (we : WE) : WI := fun s Ks => we s fun s1 x => daI x fun d => match d with | .list ds => Ks s1 ds | _ => False
def iTpl (we : WE) : WI := fun s Ks => we s fun s1 x => daI x fun d => match d with | .tuple ds => Ks s1 ds | _ => False
theorem wk_list {K : PySem.W.Frag} {b : Bd} {a : Addr} {vs : List V} {ds : List D} {A : Addr → Prop} {H : Hp} (l : LsR A H a vs) (r : RpL K A H vs ds) : Wk K b (Itl K a) ds A H := by
  intro A1 H1 kp i
  have l1 : LsR A1 H1 a vs := kp _ _ l.2 l.1
  have r1 : RpL K A1 H1 vs ds := RpL.mono kp r
  refine ⟨fun hi => ⟨vs, l1.sq, by rw [r1.length]; exact hi⟩, fun d hd => ?_⟩
  obtain ⟨x, hx, rx⟩ := r1.get hd
  refine ⟨⟨vs, x, l1.sq, hx⟩, fun y H2 hy own1 σ s R => ?_⟩
  obtain ⟨rfl, hy⟩ := hy
  have := hy vs l1.sq
  rw [hx] at this
  cases this
  exact ⟨R, Up.refl, rx⟩
theorem wk_tup {K : PySem.W.Frag} {b : Bd} {a : Addr} {vs : List V} {ds : List D} {A : Addr → Prop} {H : Hp} (l : TuR K A H a vs) (r : RpL K A H vs ds) : Wk K b (Itt K a) ds A H := by
  intro A1 H1 kp i
  have l1 : TuR K A1 H1 a vs := l.elim (fun q => .inl (kp _ _ q.2 q.1)) .inr
  have r1 : RpL K A1 H1 vs ds := RpL.mono kp r
  refine ⟨fun hi => ⟨vs, l1.sq, by rw [r1.length]; exact hi⟩, fun d hd => ?_⟩
  obtain ⟨x, hx, rx⟩ := r1.get hd
  refine ⟨⟨vs, x, l1.sq, hx⟩, fun y H2 hy own1 σ s R => ?_⟩
  obtain ⟨rfl, hy⟩ := hy
  have := hy vs l1.sq
  rw [hx] at this
  cases this
  exact ⟨R, Up.refl, rx⟩
theorem di_list (he : DE X e we) : DI X tg e (iLst we) := by
  obtain ⟨te, pe, qe⟩ := he.ex
  refine ⟨_, pi_list pe, fun b A own H σ s Ks Q R h k => ?_⟩
  show te σ H fun x H1 => ∃ a, x = .ref a ∧ (∃ xs, SqL X.K H1 a xs) ∧ Q (Itl X.K a) H1
  refine qe _ _ _ _ _ _ _ _ R h fun A1 o1 H1 v1 s1 x1 R1 U1 E1 h1 => ?_
  obtain ⟨d, rfl, h2⟩ := daI_inv h1
  clear h1
  have h1 := h2
  clear h2
  split at h1
  · cases (show Rp X.K A1 H1 v1 _ from E1) with
    | lst l r => exact ⟨_, rfl, ⟨_, l.sq⟩, k _ _ _ _ _ _ R1 U1 (wk_list l r) h1⟩
  · exact h1.elim
theorem di_tup (he : DE X e we) : DI X tg e (iTpl we) := by
  obtain ⟨te, pe, qe⟩ := he.ex
  refine ⟨_, pi_tup pe, fun b A own H σ s Ks Q R h k => ?_⟩
  show te σ H fun x H1 => ∃ a, x = .ref a ∧ (∃ xs, SqT X.K H1 a xs) ∧ Q (Itt X.K a) H1
  refine qe _ _ _ _ _ _ _ _ R h fun A1 o1 H1 v1 s1 x1 R1 U1 E1 h1 => ?_
  obtain ⟨d, rfl, h2⟩ := daI_inv h1
  clear h1
  have h1 := h2
  clear h2
  split at h1
  · cases (show Rp X.K A1 H1 v1 _ from E1) with
    | tup l r => exact ⟨_, rfl, ⟨_, l.sq⟩, k _ _ _ _ _ _ R1 U1 (wk_tup l r) h1⟩
  · exact h1.elim
/-- lo, lo + 1, .. -/
def rng (lo : Int) (n : Nat) : List D := (List.range n).map fun (i : Nat) => PyData.int (lo + (i : Int))
theorem rng_length (lo : Int) (n : Nat) : (rng lo n).length = n := by simp [rng]
theorem rng_get {lo : Int} {n i : Nat} {d : D} (h : (rng lo n)[i]? = some d) : i < n ∧ d = .int (lo + (i : Int)) := by
  unfold rng at h
  rw [List.getElem?_map] at h
  by_cases q : i < n
  · rw [List.getElem?_range q] at h
    cases h
    exact ⟨q, rfl⟩
  · rw [List.getElem?_eq_none (by simpa using q)] at h
    cases h
theorem wk_rng {K : PySem.W.Frag} {b : Bd} {lo : Int} {n : Nat} {A : Addr → Prop} {H : Hp} : Wk K b (Itr lo n) (rng lo n) A H := by
  intro A1 H1 kp i
  refine ⟨fun hi => by rw [rng_length] at hi; exact hi, fun d hd => ?_⟩
  obtain ⟨h1, rfl⟩ := rng_get hd
  refine ⟨h1, fun y H2 hy own1 σ s R => ?_⟩
  obtain ⟨rfl, rfl⟩ := hy
  exact ⟨R, Up.refl, .int _⟩
def iR1 (wr : WA) : WI := fun s Ks => wr s fun s1 xs => a1 xs fun x => i1 x fun n => -(2 ^ 62) ≤ n ∧ n < 2 ^ 62 ∧ Ks s1 (rng 0 n.toNat)
def iR2 (wr : WA) : WI := fun s Ks => wr s fun s1 xs => a2 xs fun x y => iI x y fun i j => (-(2 ^ 62) ≤ i ∧ i < 2 ^ 62 ∧ -(2 ^ 62) ≤ j ∧ j < 2 ^ 62) ∧ Ks s1 (rng i (j - i).toNat)
theorem di_range1 {p : Pos} (hg : Gl X "range") (hm : X.mg "range" = none) (ha : DA X [a] wr) (hs : starEach [a] X.env = [(false, eval a X.env)] := by rfl) : DI X tg (.Call (.Name "range" p) [a] [] pos) (iR1 wr) := by
  obtain ⟨ta, pa, qa⟩ := ha.ex
  refine ⟨_, pi_range1 hg hm pa hs, fun b A own H σ s Ks Q R h k => ?_⟩
  show ta σ H fun vs H1 => ∃ j : Int, vs = [.int j] ∧ -(2 ^ 62) ≤ j ∧ j < 2 ^ 62 ∧ Q (Itr 0 j.toNat) H1
  refine qa _ _ _ _ _ _ _ _ R h fun A1 o1 H1 vs s1 xs R1 U1 E1 h1 => ?_
  obtain ⟨v, x, rfl, e1, h1⟩ := a1_inv E1 h1
  obtain ⟨n, rfl, b1, b2, h1⟩ := i1_inv h1
  cases e1
  exact ⟨n, rfl, b1, b2, k _ _ _ _ _ _ R1 U1 wk_rng h1⟩
theorem di_range2 {p : Pos} (hg : Gl X "range") (hm : X.mg "range" = none) (ha : DA X [a, b] wr) (hs : starEach [a, b] X.env = [(false, eval a X.env), (false, eval b X.env)] := by rfl) (hs2 : starEach [b] X.env = [(false, eval b X.env)] := by rfl) : DI X tg (.Call (.Name "range" p) [a, b] [] pos) (iR2 wr) := by
  obtain ⟨ta, pa, qa⟩ := ha.ex
  refine ⟨_, pi_range2 hg hm pa hs hs2, fun b A own H σ s Ks Q R h k => ?_⟩
  show ta σ H fun vs H1 => ∃ i j : Int, vs = [.int i, .int j] ∧ (-(2 ^ 62) ≤ i ∧ i < 2 ^ 62 ∧ -(2 ^ 62) ≤ j ∧ j < 2 ^ 62) ∧ Q (Itr i (j - i).toNat) H1
  refine qa _ _ _ _ _ _ _ _ R h fun A1 o1 H1 vs s1 xs R1 U1 E1 h1 => ?_
  obtain ⟨v, u, x, y, rfl, e1, e2, h1⟩ := a2_inv E1 h1
  obtain ⟨i, j, rfl, rfl, b1, h1⟩ := iI_inv h1
  cases e1; cases e2
  exact ⟨i, j, rfl, b1, k _ _ _ _ _ _ R1 U1 wk_rng h1⟩
/-- signs of a text -/
def sgs (z : Str) : List D := z.cps.toList.map fun c => PyData.str ⟨#[c]⟩
def iSgs (we : WE) : WI := fun s Ks => we s fun s1 x => daI x fun d => match d with | .str z => Ks s1 (sgs z) | _ => False
theorem di_str (he : DE X e we) : DI X tg e (iSgs we) := by
  obtain ⟨te, pe, qe⟩ := he.ex
  refine ⟨_, pi_str pe, fun b A own H σ s Ks Q R h k => ?_⟩
  show te σ H fun v H1 => ∃ x, v = .str x ∧ Q (Its x) H1
  refine qe _ _ _ _ _ _ _ _ R h fun A1 o1 H1 v1 s1 x1 R1 U1 E1 h1 => ?_
  obtain ⟨d, rfl, h2⟩ := daI_inv h1
  clear h1
  have h1 := h2
  clear h2
  split at h1
  · rename_i z
    cases (show Rp X.K A1 H1 v1 _ from E1)
    refine ⟨z, rfl, k _ _ _ _ _ _ R1 U1 ?_ h1⟩
    intro A2 H2 kp i
    refine ⟨fun hi => ?_, fun d hd => ?_⟩
    · show z.cps.size ≤ i
      have : (sgs z).length = z.cps.size := by simp [sgs]
      omega
    · unfold sgs at hd
      rw [List.getElem?_map] at hd
      cases q : z.cps.toList[i]? with
      | none => rw [q] at hd; cases hd
      | some c =>
        rw [q] at hd; cases hd
        have q' : z.cps[i]? = some c := by rw [← q]; simp
        refine ⟨(Array.getElem?_eq_some_iff.mp q').1, fun y H3 hy own1 σ s R => ?_⟩
        obtain ⟨rfl, c', e1, rfl⟩ := hy
        rw [q'] at e1; cases e1
        exact ⟨R, Up.refl, .str _⟩
  · exact h1.elim
/-- zip of two lists, of two tuples; enumerate -/
def zipD : List D → List D → List D
  | x :: xs, y :: ys => .tuple [x, y] :: zipD xs ys
  | _, _ => []
theorem zipD_get : ∀ {xs ys : List D} {i : Nat} {d : D}, (zipD xs ys)[i]? = some d → ∃ x y, xs[i]? = some x ∧ ys[i]? = some y ∧ d = .tuple [x, y]
  | [], _, _, _, h => by simp [zipD] at h
  | _ :: _, [], _, _, h => by simp [zipD] at h
  | x :: xs, y :: ys, 0, d, h => ⟨x, y, rfl, rfl, by simp [zipD] at h; exact h.symm⟩
  | x :: xs, y :: ys, i + 1, d, h => by
    obtain ⟨x', y', h1, h2, h3⟩ := zipD_get (xs := xs) (ys := ys) (i := i) (by simpa [zipD] using h)
    exact ⟨x', y', by simpa using h1, by simpa using h2, h3⟩
theorem zipD_length : ∀ (xs ys : List D), (zipD xs ys).length = min xs.length ys.length
  | [], _ => by simp [zipD]
  | _ :: _, [] => by simp [zipD]
  | x :: xs, y :: ys => by simp [zipD, zipD_length xs ys]
def iZip (wr : WA) : WI := fun s Ks => wr s fun s1 xs => da2' xs fun d e => match d, e with | .list ds, .list es => Ks s1 (zipD ds es) | .tuple ds, .tuple es => Ks s1 (zipD ds es) | _, _ => False
where da2' (xs : List En) (k : D → D → Prop) : Prop := a2 xs fun x y => da2 x y k
theorem wk_new {K : PySem.W.Frag} {b : Bd} {A1 : Addr → Prop} {H1 : Hp} {T : Addr} {vs : List V} {ds : List D} (hT : H1 T = none) (r : RpL K A1 H1 vs ds) (own1 : List (List Addr)) (σ : L2.St) (s : S) (R : Rel K b A1 own1 H1 σ s) :
    Rel K b A1 own1 (upd H1 T (.tup vs)) σ s ∧ Up A1 own1 H1 A1 own1 (upd H1 T (.tup vs)) ∧ Rp K A1 (upd H1 T (.tup vs)) (.ref T) (.tuple ds) := by
  obtain ⟨R1, U1⟩ := R.new (o := .tup vs) hT
  exact ⟨R1, U1, .tup (.inl ⟨upd_same, R.freshA hT⟩) (RpL.mono U1.kp r)⟩
theorem di_zip {p tpos : Pos} {elts : List Expr} {kk : Nat} (hg : Gl X "zip") (hm : X.mg "zip" = none) (ha : DA X [a, b] wr)
    (hs : starEach [a, b] X.env = (false, eval a X.env) :: starEach [b] X.env := by rfl) (hpl : (backTo pos (starEach [b] X.env)).any (·.1) = false := by rfl) :
    DI X (.Tuple elts kk tpos) (.Call (.Name "zip" p) [a, b] [] pos) (iZip wr) := by
  obtain ⟨ta, pa, qa⟩ := ha.ex
  refine ⟨_, RZ.pi_zipA hg hm pa hs hpl, fun b A own H σ s Ks Q R h k => ?_⟩
  show ta σ H fun vs H1 => ∃ a b xs ys, vs = [.ref a, .ref b] ∧ ((SqL X.K H1 a xs ∧ SqL X.K H1 b ys ∧ Q (Itz X.K a b) H1) ∨ (SqT X.K H1 a xs ∧ SqT X.K H1 b ys ∧ Q (RZ.ItzT X.K a b) H1))
  refine qa _ _ _ _ _ _ _ _ R h fun A1 o1 H1 vs s1 xs R1 U1 E1 h1 => ?_
  obtain ⟨v, u, x, y, rfl, e1, e2, h1⟩ := a2_inv E1 h1
  obtain ⟨d, e, rfl, rfl, h2⟩ := da2_inv h1
  clear h1
  have h1 := h2
  clear h2
  split at h1
  · rename_i ds es
    cases (show Rp X.K A1 H1 v _ from e1) with
    | lst l r => cases (show Rp X.K A1 H1 u _ from e2) with
      | lst l' r' =>
        refine ⟨_, _, _, _, rfl, .inl ⟨l.sq, l'.sq, k _ _ _ _ _ _ R1 U1 ?_ h1⟩⟩
        intro A2 H2 kp i
        have l2 : LsR A2 H2 _ _ := kp _ _ l.2 l.1
        have l3 : LsR A2 H2 _ _ := kp _ _ l'.2 l'.1
        have r2 := RpL.mono kp r
        have r3 := RpL.mono kp r'
        refine ⟨fun hi => ⟨_, _, l2.sq, l3.sq, by rw [r2.length, r3.length]; rw [zipD_length] at hi; omega⟩, fun d hd => ?_⟩
        obtain ⟨x, y, hx, hy, rfl⟩ := zipD_get hd
        obtain ⟨vx, gx, rx⟩ := r2.get hx
        obtain ⟨vy, gy, ry⟩ := r3.get hy
        refine ⟨⟨_, _, vx, vy, l2.sq, l3.sq, gx, gy⟩, fun z H3 hz own1 σ s R => ?_⟩
        obtain ⟨T, x', y', rfl, hT, rfl, f1, f2⟩ := hz
        have f1 := f1 _ l2.sq
        have f2 := f2 _ l3.sq
        rw [gx] at f1; rw [gy] at f2
        cases f1; cases f2
        exact wk_new hT (.cons rx (.cons ry .nil)) own1 σ s R
  · rename_i ds es
    cases (show Rp X.K A1 H1 v _ from e1) with
    | tup l r => cases (show Rp X.K A1 H1 u _ from e2) with
      | tup l' r' =>
        refine ⟨_, _, _, _, rfl, .inr ⟨l.sq, l'.sq, k _ _ _ _ _ _ R1 U1 ?_ h1⟩⟩
        intro A2 H2 kp i
        have l2 : TuR X.K A2 H2 _ _ := l.elim (fun q => .inl (kp _ _ q.2 q.1)) .inr
        have l3 : TuR X.K A2 H2 _ _ := l'.elim (fun q => .inl (kp _ _ q.2 q.1)) .inr
        have r2 := RpL.mono kp r
        have r3 := RpL.mono kp r'
        refine ⟨fun hi => ⟨_, _, l2.sq, l3.sq, by rw [r2.length, r3.length]; rw [zipD_length] at hi; omega⟩, fun d hd => ?_⟩
        obtain ⟨x, y, hx, hy, rfl⟩ := zipD_get hd
        obtain ⟨vx, gx, rx⟩ := r2.get hx
        obtain ⟨vy, gy, ry⟩ := r3.get hy
        refine ⟨⟨_, _, vx, vy, l2.sq, l3.sq, gx, gy⟩, fun z H3 hz own1 σ s R => ?_⟩
        obtain ⟨T, x', y', rfl, hT, rfl, f1, f2⟩ := hz
        have f1 := f1 _ l2.sq
        have f2 := f2 _ l3.sq
        rw [gx] at f1; rw [gy] at f2
        cases f1; cases f2
        exact wk_new hT (.cons rx (.cons ry .nil)) own1 σ s R
  · exact h1.elim
def enuD : Nat → List D → List D
  | _, [] => []
  | n, x :: xs => .tuple [.int (n : Int), x] :: enuD (n + 1) xs
theorem enuD_get : ∀ {xs : List D} {n i : Nat} {d : D}, (enuD n xs)[i]? = some d → ∃ x, xs[i]? = some x ∧ d = .tuple [.int ((n + i : Nat) : Int), x]
  | [], _, _, _, h => by simp [enuD] at h
  | x :: xs, n, 0, d, h => ⟨x, rfl, by simp [enuD] at h; exact h.symm⟩
  | x :: xs, n, i + 1, d, h => by
    obtain ⟨x', h1, h3⟩ := enuD_get (xs := xs) (n := n + 1) (i := i) (by simpa [enuD] using h)
    exact ⟨x', by simpa using h1, by rw [h3, show n + 1 + i = n + (i + 1) by omega]⟩
theorem enuD_length : ∀ (n : Nat) (xs : List D), (enuD n xs).length = xs.length
  | _, [] => rfl
  | n, x :: xs => congrArg (· + 1) (enuD_length (n + 1) xs)
def iEnu (wr : WA) : WI := fun s Ks => wr s fun s1 xs => a1 xs fun x => daI x fun d => match d with | .list ds => Ks s1 (enuD 0 ds) | _ => False
theorem di_enum {p tpos : Pos} {elts : List Expr} {kk : Nat} (hg : Gl X "enumerate") (hm : X.mg "enumerate" = none) (ha : DA X [a] wr) (hs : starEach [a] X.env = [(false, eval a X.env)] := by rfl) :
    DI X (.Tuple elts kk tpos) (.Call (.Name "enumerate" p) [a] [] pos) (iEnu wr) := by
  obtain ⟨ta, pa, qa⟩ := ha.ex
  refine ⟨_, pi_enum hg hm pa hs, fun b A own H σ s Ks Q R h k => ?_⟩
  show ta σ H fun vs H1 => ∃ a xs, vs = [.ref a] ∧ SqL X.K H1 a xs ∧ Q (Ite X.K a) H1
  refine qa _ _ _ _ _ _ _ _ R h fun A1 o1 H1 vs s1 xs R1 U1 E1 h1 => ?_
  obtain ⟨v, x, rfl, e1, h1⟩ := a1_inv E1 h1
  obtain ⟨d, rfl, h2⟩ := daI_inv h1
  clear h1
  have h1 := h2
  clear h2
  split at h1
  · cases (show Rp X.K A1 H1 v _ from e1) with
    | lst l r =>
      refine ⟨_, _, rfl, l.sq, k _ _ _ _ _ _ R1 U1 ?_ h1⟩
      intro A2 H2 kp i
      have l2 : LsR A2 H2 _ _ := kp _ _ l.2 l.1
      have r2 := RpL.mono kp r
      refine ⟨fun hi => ⟨_, l2.sq, by rw [r2.length]; rw [enuD_length] at hi; exact hi⟩, fun d hd => ?_⟩
      obtain ⟨x, hx, rfl⟩ := enuD_get hd
      obtain ⟨vx, gx, rx⟩ := r2.get hx
      refine ⟨⟨_, vx, l2.sq, gx⟩, fun z H3 hz own1 σ s R => ?_⟩
      obtain ⟨T, x', rfl, hT, rfl, f1⟩ := hz
      have f1 := f1 _ l2.sq
      rw [gx] at f1
      cases f1
      rw [Nat.zero_add]
      exact wk_new hT (.cons (.int _) (.cons rx .nil)) own1 σ s R
  · exact h1.elim
/-! ### for, while -/
def sFor (kl : List Nat) (m : Nat) (wi : WI) (wg : WG) (wb : WS) : WS := fun s D => wi s fun s1 ds => ∃ I : Nat → S → Prop, (s1.np ≤ m ∧ I 0 (clS kl m s1)) ∧
  (∀ i d s2, ds[i]? = some d → I i s2 → wg (.da d) s2 fun s3 => wb s3 { D with nx := fun s4 => s4.np ≤ m ∧ I (i + 1) (clS kl m s4), ct := fun s4 => s4.np ≤ m ∧ I (i + 1) (clS kl m s4), bk := D.nx }) ∧
  (∀ s2, I ds.length s2 → D.nx s2)
theorem ds_for (kl : List Nat) (m : Nat) {wi : WI} {js : List Nat} {wg : WG} {it : Expr} (hp : PassesOwn (model X.prog X.w) X.A X.env X.xe) (hc : X.calm = true) (hi : DI X tg it wi) (hg : DG X tg js wg) (hb : DSs X sts w)
    (hs : ∀ x, foldedSetIterable it X.env x = pure x := by intro _; rfl) : DS X (.For tg it sts [] pos) (sFor kl m wi wg w) := by
  obtain ⟨ti, pi, qi⟩ := hi.ex
  obtain ⟨g, pg, qg⟩ := hg.ex
  obtain ⟨tb, pb, qb⟩ := hb.ex
  refine ⟨_, ps_for hp hc pi pg pb hs, fun b A own H σ s D E R h mt => ?_⟩
  show ti σ H fun J H1 => ∃ W : Nat → Nat → L2.St → Hp → Prop, (∃ m, W 0 m σ H1) ∧ ∀ i m σ H, W i m σ H →
    (J.stop i H ∧ E.nx σ H) ∨ (J.go i H ∧ ∃ N : L2.St → Hp → Prop, (∀ σ' H', N σ' H' → ∃ m', m' < m ∧ W (i + 1) m' σ' H') ∧ ∀ x H', J.yld i H x H' → g x σ H' fun σ2 H2 => tb { E with nx := N, ct := N, bk := E.nx } σ2 H2)
  refine qi _ _ _ _ _ _ _ _ R h fun A1 o1 H1 s1 ds J R1 U1 wk h1 => ?_
  obtain ⟨I, ⟨hm, h0⟩, hs, hd⟩ := h1
  refine ⟨fun i k σ2 H2 => k = ds.length - i ∧ i ≤ ds.length ∧ ∃ (A2 : Addr → Prop) (o2 : List (List Addr)) (s2 : S), Rel X.K b A2 o2 H2 σ2 s2 ∧ Kp A1 H1 A2 H2 ∧ I i s2, ⟨_, rfl, Nat.zero_le _, A1, _, _, R1.cl kl m hm, Kp.refl, h0⟩, ?_⟩
  rintro i k σ2 H2 ⟨rfl, hi, A2, o2, s2, R2, kp, hI⟩
  obtain ⟨wstop, wgo⟩ := wk A2 H2 kp i
  by_cases hlt : i < ds.length
  · obtain ⟨hgo, hy⟩ := wgo ds[i] (List.getElem?_eq_getElem hlt)
    refine .inr ⟨hgo, fun σ' H' => ∃ (A3 : Addr → Prop) (o3 : List (List Addr)) (s3 : S), Rel X.K b A3 o3 H' σ' s3 ∧ Kp A1 H1 A3 H' ∧ I (i + 1) s3, fun σ' H' ⟨A3, o3, s3, r3, k3, i3⟩ => ⟨ds.length - (i + 1), by omega, rfl, hlt, A3, o3, s3, r3, k3, i3⟩, fun x H3 hx => ?_⟩
    obtain ⟨R3, U3, rx⟩ := hy x H3 hx o2 σ2 s2 R2
    refine qg _ _ _ _ _ _ _ _ _ _ R3 (show ER X.K A2 o2 H3 x (.da ds[i]) from rx) (hs i _ s2 (List.getElem?_eq_getElem hlt) hI) fun A4 o4 H4 σ4 s4 R4 U4 _ h4 => ?_
    have kp4 : Kp A1 H1 A4 H4 := (kp.trans U3.kp).trans U4.kp
    exact qb _ _ _ _ _ _ _ _ R4 h4 ⟨fun A5 o5 H5 σ5 s5 R5 k5 h5 => ⟨A5, _, _, R5.cl kl m h5.1, kp4.trans k5, h5.2⟩, fun A5 o5 H5 σ5 s5 v x R5 k5 e5 h5 => mt.rt _ _ _ _ _ _ _ R5 ((U1.kp.trans kp4).trans k5) e5 h5,
      fun A5 o5 H5 σ5 s5 R5 k5 h5 => mt.nx _ _ _ _ _ R5 ((U1.kp.trans kp4).trans k5) h5, fun A5 o5 H5 σ5 s5 R5 k5 h5 => ⟨A5, _, _, R5.cl kl m h5.1, kp4.trans k5, h5.2⟩⟩
  · have e : i = ds.length := by omega
    subst e
    exact .inl ⟨wstop (Nat.le_refl _), mt.nx _ _ _ _ _ R2 (U1.kp.trans kp) (hd _ hI)⟩
def sWhile (kl : List Nat) (m : Nat) (wt : WT) (wb : WS) : WS := fun s D => ∃ (I : S → Prop) (μ : S → Nat), (s.np ≤ m ∧ I (clS kl m s)) ∧
  ∀ s2, I s2 → wt s2 fun s3 c => (c = true → wb s3 { D with nx := fun s4 => s4.np ≤ m ∧ I (clS kl m s4) ∧ μ (clS kl m s4) < μ s2, ct := fun s4 => s4.np ≤ m ∧ I (clS kl m s4) ∧ μ (clS kl m s4) < μ s2, bk := D.nx }) ∧ (c = false → D.nx s3)
theorem ds_while (kl : List Nat) (m : Nat) (hp : PassesOwn (model X.prog X.w) X.A X.env X.xe) (hc : DT X c wt) (hb : DSs X sts w) : DS X (.While c sts [] pos) (sWhile kl m wt w) := by
  obtain ⟨tc, pc, qc⟩ := hc.ex
  obtain ⟨tb, pb, qb⟩ := hb.ex
  refine ⟨_, ps_while hp pc pb, fun b A own H σ s D E R h mt => ?_⟩
  show ∃ W : Nat → L2.St → Hp → Prop, (∃ m, W m σ H) ∧ ∀ m σ H, W m σ H →
    tc σ H fun b H1 => if b = true then ∃ N : L2.St → Hp → Prop, (∀ σ' H', N σ' H' → ∃ m', m' < m ∧ W m' σ' H') ∧ tb { E with nx := N, ct := N, bk := E.nx } σ H1 else E.nx σ H1
  obtain ⟨I, μ, ⟨hm, h0⟩, hs⟩ := h
  refine ⟨fun k σ2 H2 => ∃ (A2 : Addr → Prop) (o2 : List (List Addr)) (s2 : S), k = μ s2 ∧ Rel X.K b A2 o2 H2 σ2 s2 ∧ Kp A H A2 H2 ∧ I s2, ⟨_, A, _, _, rfl, R.cl kl m hm, Kp.refl, h0⟩, ?_⟩
  rintro k σ2 H2 ⟨A2, o2, s2, rfl, R2, kp, hI⟩
  refine qc _ _ _ _ _ _ _ _ R2 (hs s2 hI) fun A3 o3 H3 s3 c R3 U3 h3 => ?_
  have kp3 := kp.trans U3.kp
  cases c with
  | true =>
    rw [if_pos rfl]
    refine ⟨fun σ' H' => ∃ (A4 : Addr → Prop) (o4 : List (List Addr)) (s4 : S), Rel X.K b A4 o4 H' σ' s4 ∧ Kp A H A4 H' ∧ I s4 ∧ μ s4 < μ s2, fun σ' H' ⟨A4, o4, s4, r4, k4, i4, l4⟩ => ⟨_, l4, A4, o4, s4, rfl, r4, k4, i4⟩, ?_⟩
    exact qb _ _ _ _ _ _ _ _ R3 (h3.1 rfl) ⟨fun A5 o5 H5 σ5 s5 R5 k5 h5 => ⟨A5, _, _, R5.cl kl m h5.1, kp3.trans k5, h5.2.1, h5.2.2⟩, fun A5 o5 H5 σ5 s5 v x R5 k5 e5 h5 => mt.rt _ _ _ _ _ _ _ R5 (kp3.trans k5) e5 h5,
      fun A5 o5 H5 σ5 s5 R5 k5 h5 => mt.nx _ _ _ _ _ R5 (kp3.trans k5) h5, fun A5 o5 H5 σ5 s5 R5 k5 h5 => ⟨A5, _, _, R5.cl kl m h5.1, kp3.trans k5, h5.2.1, h5.2.2⟩⟩
  | false => rw [if_neg (by decide)]; exact mt.nx _ _ _ _ _ R3 kp3 (h3.2 rfl)
end
end DL
namespace DL
open PySem L2
/-! ### a rule's meaning, alone -/
def canE (K : PySem.W.Frag) (w : WE) : TE := fun σ H Q => ∃ (b : Bd) (A : Addr → Prop) (own : List (List Addr)) (s : S) (Ks : S → En → Prop), Rel K b A own H σ s ∧ w s Ks ∧ PostE K b A own H σ Ks Q
def canT (K : PySem.W.Frag) (w : WT) : TT := fun σ H Q => ∃ (b : Bd) (A : Addr → Prop) (own : List (List Addr)) (s : S) (Ks : S → Bool → Prop), Rel K b A own H σ s ∧ w s Ks ∧ PostT K b A own H σ Ks Q
def canG (K : PySem.W.Frag) (js : List Nat) (w : WG) : TG := fun v σ H Q => ∃ (b : Bd) (A : Addr → Prop) (own : List (List Addr)) (s : S) (x : En) (Ks : S → Prop), Rel K b A own H σ s ∧ ER K A own H v x ∧ w x s Ks ∧ PostG K b A own H σ js Ks Q
structure DTs (X : Cx) (ifs : List Expr) (w : WT) : Prop where
  ex : ∃ tt, PTs X ifs tt ∧ ∀ (b : Bd) (A : Addr → Prop) (own : List (List Addr)) (H : Hp) (σ : L2.St) (s : S) (Ks : S → Bool → Prop) (Q : Bool → Hp → Prop), Rel X.K b A own H σ s → w s Ks → PostT X.K b A own H σ Ks Q → tt σ H Q
section
variable {X : Cx} {a b c e : Expr} {we : WE} {wt : WT} {wg : WG} {pos : Pos} {js : List Nat}
theorem DE.can (h : DE X e we) : PE X e (canE X.K we) := by
  obtain ⟨te, pe, qe⟩ := h.ex
  exact ⟨fun pins s σ H Q I ⟨b, A, own, s', Ks, R, hw, k⟩ => pe.run pins s σ H Q I (qe _ _ _ _ _ _ _ _ R hw k)⟩
theorem DG.can (h : DG X e js wg) : PG X e (canG X.K js wg) := by
  obtain ⟨te, pe, qe⟩ := h.ex
  exact ⟨fun pins s σ H v u Q I r ⟨b, A, own, s', x, Ks, R, E, hw, k⟩ => pe.run pins s σ H v u Q I r (qe _ _ _ _ _ _ _ _ _ _ R E hw k)⟩
theorem DTs.can {ifs : List Expr} (h : DTs X ifs wt) : PTs X ifs (canT X.K wt) := by
  obtain ⟨te, pe, qe⟩ := h.ex
  exact ⟨fun pins s σ H Q I ⟨b, A, own, s', Ks, R, hw, k⟩ => pe.run pins s σ H Q I (qe _ _ _ _ _ _ _ _ R hw k)⟩
def tYesD : WT := fun s Ks => Ks s true
theorem dts_nil : DTs X [] tYesD := ⟨_, pts_nil, fun b A own H σ s Ks Q R h k => k _ _ _ _ _ R Up.refl h⟩
theorem dts_one (h : DT X c wt) : DTs X [c] wt := by
  obtain ⟨t, p, q⟩ := h.ex
  exact ⟨_, pts_one p, q⟩
/-! ### comprehensions -/
theorem wipe_at (σ : L2.St) : ∀ (vs : List Nat) (i : Nat), (wipe σ vs)[i]? = if i ∈ vs ∧ i < σ.length then some none else σ[i]?
  | [], i => by simp [wipe]
  | v :: vs, i => by
    unfold wipe
    by_cases e : v = i
    · subst e
      by_cases h : v < σ.length
      · rw [List.getElem?_set_self (by rw [wipe_length]; exact h), if_pos ⟨List.mem_cons_self, h⟩]
      · rw [if_neg fun z => h z.2, List.getElem?_eq_none (by rw [List.length_set, wipe_length]; omega), List.getElem?_eq_none (by omega)]
    · rw [List.getElem?_set_ne e, wipe_at σ vs i]
      by_cases h : i ∈ vs ∧ i < σ.length
      · rw [if_pos h, if_pos ⟨List.mem_cons_of_mem _ h.1, h.2⟩]
      · rw [if_neg h, if_neg fun z => h ⟨(List.mem_cons.mp z.1).resolve_left (Ne.symm e), z.2⟩]
theorem wipe_sto {vs js : List Nat} {σ σ' : L2.St} (h : Sto js (wipe σ vs) σ') (hj : ∀ j ∈ js, j ∈ vs) : wipe σ' vs = wipe σ vs := by
  have hl : σ'.length = σ.length := h.1.trans (wipe_length σ vs)
  refine List.ext_getElem? fun i => ?_
  rw [wipe_at, hl]
  by_cases e : i ∈ vs ∧ i < σ.length
  · rw [if_pos e, wipe_at, if_pos e]
  · rw [if_neg e]
    by_cases q : i ∈ vs
    · have : ¬ i < σ.length := fun z => e ⟨q, z⟩
      rw [List.getElem?_eq_none (by omega), List.getElem?_eq_none (by rw [wipe_length]; omega)]
    · exact h.2 i fun z => q (hj i z)
/-- the turns of a comprehension -/
def lcTurns (vs : List Nat) (wg : WG) (wt : WT) (we : WE) (s1 : S) (ds : List D) (Kf : List MO → List D → Prop) : Prop := ∃ I : Nat → List MO → List D → Prop, I 0 s1.ms [] ∧
  (∀ i d ms acc, ds[i]? = some d → I i ms acc → ms.length = s1.ms.length → wg (.da d) ⟨killL vs s1.es, ms ++ [.lst acc], s1.np⟩ fun s2 => wt s2 fun s3 c =>
    (c = true → we s3 fun s4 x => daI x fun y => acc.length < sizeLine ∧ gm s4.ms s1.ms.length = .lst acc ∧ I (i + 1) (takM s1.ms.length s1.ms.length s4.ms) (acc ++ [y])) ∧
    (c = false → gm s3.ms s1.ms.length = .lst acc ∧ I (i + 1) (takM s1.ms.length s1.ms.length s3.ms) acc)) ∧
  (∀ ms acc, I ds.length ms acc → ms.length = s1.ms.length → Kf ms acc)
def dLc (vs : List Nat) (wi : WI) (wg : WG) (wt : WT) (we : WE) : WE := fun s Ks => wi s fun s1 ds => lcTurns vs wg wt we s1 ds fun ms acc => Ks ⟨s1.es, takM s1.ms.length s1.ms.length ms, s1.np⟩ (.da (.list acc))
def dLcM (vs : List Nat) (wi : WI) (wg : WG) (wt : WT) (we : WE) : WE := fun s Ks => wi s fun s1 ds => lcTurns vs wg wt we s1 ds fun ms acc => Ks ⟨s1.es, ms ++ [.lst acc], s1.np⟩ (.mu s1.ms.length)
/-- an object left out at the end, its places kept known -/
theorem Rel.wiped {K : PySem.W.Frag} {b : Bd} {A : Addr → Prop} {own : List (List Addr)} {H : Hp} {σ : L2.St} {s : S} (vs : List Nat) (R : Rel K b A own H σ s) : Rel K b A own H (wipe σ vs) { s with es := killL vs s.es } := by
  refine R.slots (by rw [wipe_length, killL_length]; exact R.len) fun i => ?_
  rcases gt_killL vs s.es i with q | ⟨q1, q2⟩
  · exact .inl q
  · rw [q2]
    rcases R.sl i with z | ⟨v, e, h⟩
    · exact .inl z
    · exact .inr ⟨v, by rw [wipe_out q1]; exact e, h⟩
theorem takM_app (m : Nat) (l r : List MO) (h : l.length = m) : takM m m (l ++ r) = takM m m l := by
  have : ∀ (n : Nat) (l : List MO), l.length = n → takM m n (l ++ r) = takM m n l := by
    intro n
    induction n with
    | zero => intro l _; rfl
    | succ n ih => intro l hl; cases l with
      | nil => cases hl
      | cons x xs => exact congrArg (limM m x :: ·) (ih xs (by simpa using hl))
  exact this m l h
theorem takM_sm (m : Nat) (y : MO) : ∀ (n k : Nat) (l : List MO), n ≤ k → takM m n (sm l k y) = takM m n l
  | 0, _, _, _ => rfl
  | n + 1, _, [], _ => rfl
  | n + 1, 0, x :: r, h => by omega
  | n + 1, k + 1, x :: r, h => by
    show limM m x :: takM m n (sm r k y) = limM m x :: takM m n r
    rw [takM_sm m y n k r (by omega)]
theorem Rel.back {K : PySem.W.Frag} {b : Bd} {A : Addr → Prop} {own : List (List Addr)} {H : Hp} {σ' σ : L2.St} {s : S} {m : Nat} {acc : List PyData} {es : List En} (R : Rel K b A own H σ' s) (hm : s.np ≤ m) (g : gm s.ms m = .lst acc)
    (hl : σ.length = es.length) (h : ∀ i, gt es i = .no ∨ ∃ v, σ[i]? = some (some v) ∧ ER K A (own.take (m + 1)) H v (gt es i)) : Rel K b A (own.take (m + 1)) H σ ⟨es, takM m m s.ms ++ [.lst acc], s.np⟩ := by
  have hml : m < s.ms.length := gm_lt (by rw [g]; intro z; cases z)
  have hol := R.ol
  have tl : (takM m m s.ms).length = m := by rw [takM_length]; omega
  have gl : ∀ k, gm (takM m m s.ms ++ [.lst acc]) k = if k < m then limM m (gm s.ms k) else if k = m then .lst acc else .gone := fun k => by
    rw [gm_app, tl]
    by_cases q : k < m
    · rw [if_pos q, if_pos q, gm_takM, if_pos q]
    · rw [if_neg q, if_neg q]
      by_cases q2 : k = m
      · subst q2; rw [Nat.sub_self, if_pos rfl]; rfl
      · rw [if_neg q2]; exact gm_ge _ _ (by simp; omega)
  refine ⟨⟨?_, fun k => ?_, fun k j a h1 h2 => ?_, fun k => ?_, fun k a h1 => ?_, R.al⟩, hl, h, R.ge, R.fr, fun k a h1 => ?_, ?_, ?_, R.lim, R.a0⟩
  · rw [List.length_append, tl, List.length_take]; show _ = m + 1; omega
  · rw [go_take, gl]
    by_cases q : k < m
    · rw [if_pos (show k < m + 1 by omega), if_pos q]
      refine (R.mr k).lim.up ⟨Kp.refl, fun k a r e => ?_⟩ fun a o _ e => e
      rw [go_take] at e ⊢
      split at e
      · rw [if_pos (by omega)]; exact e
      · cases e
    · rw [if_neg q]
      by_cases q2 : k = m
      · subst q2
        rw [if_pos (by omega), if_pos rfl]
        have := R.mr k
        rw [g] at this
        exact this.plain rfl
      · rw [if_neg (by omega), if_neg q2]; trivial
  · rw [go_take] at h1 h2
    split at h1
    · split at h2
      · exact R.dj k j a h1 h2
      · cases h2
    · cases h1
  · rw [go_take]
    split
    · exact R.ld k
    · exact List.nodup_nil
  · rw [go_take] at h1
    split at h1
    · exact R.oa k a h1
    · cases h1
  · rw [go_take] at h1
    split at h1
    · exact R.fo k a h1
    · cases h1
  · rw [List.take_take, show min s.np (m + 1) = s.np by omega]; exact R.pre
  · rw [List.length_take]; have := R.npl; show s.np ≤ _; omega
theorem lc_run {K : PySem.W.Frag} {wi : TI} {wI : WI} {vs : List Nat} (hj : ∀ j ∈ js, j ∈ vs)
    (qi : ∀ (b : Bd) (A : Addr → Prop) (own : List (List Addr)) (H : Hp) (σ : L2.St) (s : S) (Ks : S → List D → Prop) (Q : It → Hp → Prop), Rel K b A own H σ s → wI s Ks → PostI K b A own H σ Ks Q → wi σ H Q)
    (Kf : S → List MO → List D → Prop) (b : Bd) (A : Addr → Prop) (own : List (List Addr)) (H : Hp) (σ : L2.St) (s : S) (Q : VK) (R : Rel K b A own H σ s)
    (h : wI s fun s1 ds => lcTurns vs wg wt we s1 ds (Kf s1))
    (k : ∀ (A' : Addr → Prop) (own' : List (List Addr)) (H' : Hp) (s1 : S) (ms : List MO) (acc : List D) (v : V), Rel K b A' own' H' σ ⟨s1.es, ms ++ [.lst acc], s1.np⟩ → Up A own H A' own' H' → ms.length = s1.ms.length → ER K A' own' H' v (.mu s1.ms.length) →
      (∃ (A'' : Addr → Prop) (own'' : List (List Addr)), Rel K b A'' own'' H' σ ⟨s1.es, takM s1.ms.length s1.ms.length ms, s1.np⟩ ∧ Up A own H A'' own'' H' ∧ Rp K A'' H' v (.list acc)) → Kf s1 ms acc → Q v H') :
    tLc wi (canG K js wg) (canT K wt) (canE K we) vs σ H Q := by
  show wi σ H fun J H1 => ∀ D, H1 D = none → ∃ W : Nat → Nat → Hp → Prop, (∃ m, W 0 m (upd H1 D (.lst []))) ∧ ∀ i m H, W i m H →
    (J.stop i H ∧ Q (.ref D) H) ∨ (J.go i H ∧ ∃ Nx : Hp → Prop, (∀ H', Nx H' → ∃ m', m' < m ∧ W (i + 1) m' H') ∧ ∀ x H', J.yld i H x H' → canG K js wg x (wipe σ vs) H' fun σ2 H2 => wipe σ2 vs = wipe σ vs ∧ canT K wt σ2 H2 fun b H3 =>
      if b = true then canE K we σ2 H3 fun y H4 => ∃ acc, H4 D = some (.lst acc) ∧ acc.length < sizeLine ∧ Nx (upd H4 D (.lst (acc ++ [y]))) else Nx H3)
  refine qi _ _ _ _ _ _ _ _ R h fun A1 o1 H1 s1 ds J R1 U1 wk h1 => ?_
  obtain ⟨I, h0, hs, hd⟩ := h1
  intro D hD
  obtain ⟨R0, U0, g0⟩ := R1.newMu (o := .lst []) hD (.lst []) fun A' own' u => ⟨D, [], rfl, upd_same, .nil⟩
  -- what holds ahead of each turn
  refine ⟨fun i n H2 => n = ds.length - i ∧ i ≤ ds.length ∧ ∃ (A2 : Addr → Prop) (o2 : List (List Addr)) (ms : List MO) (acc : List PyData), Rel K b A2 o2 H2 σ ⟨s1.es, ms ++ [.lst acc], s1.np⟩ ∧ Up A1 o1 H1 A2 o2 H2 ∧ ms.length = s1.ms.length ∧ go o2 s1.ms.length = [D] ∧ I i ms acc,
    ⟨_, rfl, Nat.zero_le _, _, _, s1.ms, [], R0, U0, rfl, g0, h0⟩, ?_⟩
  rintro i n H2 ⟨rfl, hi, A2, o2, ms, acc, R2, U2, ml, g2, hI⟩
  have npm : s1.np ≤ ms.length := by rw [ml, ← R1.ol]; exact R1.npl
  obtain ⟨wstop, wgo⟩ := wk A2 H2 U2.kp i
  by_cases hlt : i < ds.length
  · obtain ⟨hgo, hy⟩ := wgo ds[i] (List.getElem?_eq_getElem hlt)
    refine .inr ⟨hgo, fun H' => ∃ (A3 : Addr → Prop) (o3 : List (List Addr)) (ms3 : List MO) (acc3 : List PyData), Rel K b A3 o3 H' σ ⟨s1.es, ms3 ++ [.lst acc3], s1.np⟩ ∧ Up A1 o1 H1 A3 o3 H' ∧ ms3.length = s1.ms.length ∧ go o3 s1.ms.length = [D] ∧ I (i + 1) ms3 acc3,
      fun H' ⟨A3, o3, ms3, acc3, r3, u3, l3, g3, i3⟩ => ⟨ds.length - (i + 1), by omega, rfl, hlt, A3, o3, ms3, acc3, r3, u3, l3, g3, i3⟩, fun x H3 hx => ?_⟩
    obtain ⟨R3, U3, rx⟩ := hy x H3 hx o2 σ _ R2
    have R3w := R3.wiped vs
    -- back from a state of the turn to the next one
    have back : ∀ (A5 : Addr → Prop) (o5 : List (List Addr)) (H5 : Hp) (σ4 : L2.St) (s5 : S) (acc5 : List PyData), Rel K b A5 o5 H5 σ4 s5 → Up A2 o2 H3 A5 o5 H5 → gm s5.ms s1.ms.length = .lst acc5 →
        Rel K b A5 (o5.take (s1.ms.length + 1)) H5 σ ⟨s1.es, takM s1.ms.length s1.ms.length s5.ms ++ [.lst acc5], s1.np⟩ ∧ Up A1 o1 H1 A5 (o5.take (s1.ms.length + 1)) H5 ∧ (takM s1.ms.length s1.ms.length s5.ms).length = s1.ms.length ∧ go (o5.take (s1.ms.length + 1)) s1.ms.length = [D] := by
      intro A5 o5 H5 σ4 s5 acc5 R5 U5 g5
      have npe : s5.np = s1.np := R5.np.symm.trans R1.np
      have go5 : go o5 s1.ms.length = [D] := U5.ow _ _ _ g2
      have u : Up A1 o1 H1 A5 (o5.take (s1.ms.length + 1)) H5 := ⟨(U2.kp.trans U3.kp).trans U5.kp, fun k a r e => by
        have hk : k < o1.length := Nat.lt_of_not_le fun z => by rw [go_ge _ _ z] at e; cases e
        rw [go_take, if_pos (by have := R1.ol; omega)]
        exact U5.ow _ _ _ (U2.ow _ _ _ e)⟩
      have hml : s1.ms.length < s5.ms.length := gm_lt (by rw [g5]; intro z; cases z)
      refine ⟨?_, u, by rw [takM_length]; omega, by rw [go_take, if_pos (by omega)]; exact go5⟩
      have := R5.back (σ := σ) (es := s1.es) (by rw [npe]; omega) g5 R1.len fun j => (R1.sl j).imp id fun ⟨v, e, q⟩ => ⟨v, e, q.up u⟩
      rw [npe] at this
      exact this
    refine ⟨b, A2, o2, ⟨killL vs s1.es, ms ++ [.lst acc], s1.np⟩, .da ds[i], _, R3w, rx, hs i _ ms acc (List.getElem?_eq_getElem hlt) hI ml, fun A4 o4 H4 σ2 s2 R4 U4 S4 h4 => ⟨wipe_sto S4 hj, b, A4, o4, s2, _, R4, h4, fun A5 o5 H5 s3 c R5 U5 h5 => ?_⟩⟩
    cases c with
    | false =>
      rw [if_neg (by decide)]
      obtain ⟨g5, i5⟩ := h5.2 rfl
      obtain ⟨r, u, l, g⟩ := back A5 o5 H5 σ2 s3 acc R5 (U4.trans U5) g5
      exact ⟨_, _, _, _, r, u, l, g, i5⟩
    | true =>
      rw [if_pos rfl]
      refine ⟨b, A5, o5, s3, _, R5, h5.1 rfl, fun A6 o6 H6 v s4 x R6 U6 E6 h6 => ?_⟩
      obtain ⟨y, rfl, hl, g6, i6⟩ := daI_inv h6
      have go6 : go o6 s1.ms.length = [D] := ((U4.trans U5).trans U6).ow _ _ _ g2
      obtain ⟨p, us, ep, e2, e3, _, up⟩ := mu_at R6 (v := .ref D) ⟨D, [], go6, rfl⟩ g6
      cases ep
      obtain ⟨R7, U7⟩ := up _ _ (e3.append (.cons (show Rp K A6 H6 v y from E6) .nil))
      refine ⟨us, e2, by rw [e3.length]; exact hl, ?_⟩
      have hml : s1.ms.length < s4.ms.length := gm_lt (by rw [g6]; intro z; cases z)
      obtain ⟨r, u, l, g⟩ := back A6 o6 _ σ2 _ (acc ++ [y]) R7 (((U4.trans U5).trans U6).trans U7) (by show gm (sm s4.ms s1.ms.length _) s1.ms.length = _; rw [gm_sm, if_pos ⟨rfl, hml⟩])
      refine ⟨_, _, _, _, r, u, l, g, ?_⟩
      show I (i + 1) (takM _ _ (sm s4.ms s1.ms.length _)) _
      rw [takM_sm _ _ _ _ _ (Nat.le_refl _)]
      exact i6
  · have e : i = ds.length := by omega
    subst e
    refine .inl ⟨wstop (Nat.le_refl _), k _ _ _ s1 ms acc _ R2 (U1.trans U2) ml ⟨D, [], g2, rfl⟩ ?_ (hd ms acc hI ml)⟩
    -- the list as data
    have g3 : gm (ms ++ [.lst acc]) s1.ms.length = .lst acc := by rw [gm_app, ml, if_neg (Nat.lt_irrefl _), Nat.sub_self]; rfl
    have mm := R2.mr s1.ms.length
    rw [show gm (⟨s1.es, ms ++ [.lst acc], s1.np⟩ : S).ms s1.ms.length = .lst acc from g3] at mm
    obtain ⟨p, us, e1, e2, e3⟩ := mm
    rw [g2] at e1
    cases e1
    have kp : Kp A2 H2 (fun a => A2 a ∧ a ≠ D) H2 := fun a u n q => ⟨q, fun z => n z.1⟩
    have u1 : Up A1 o1 H1 (fun a => A2 a ∧ a ≠ D) (o2.take s1.ms.length) H2 := ⟨U2.kp.trans kp, fun k a r e => by
      have hk : k < o1.length := Nat.lt_of_not_le fun z => by rw [go_ge _ _ z] at e; cases e
      rw [go_take, if_pos (by have := R1.ol; omega)]
      exact U2.ow _ _ _ e⟩
    have hol : o2.length = s1.ms.length + 1 := by
      have := R2.ol
      rw [show (⟨s1.es, ms ++ [.lst acc], s1.np⟩ : S).ms = ms ++ [.lst acc] from rfl, List.length_append, ml] at this
      exact this
    have ne : ∀ k a, k < s1.ms.length → a ∈ go o2 k → a ≠ D := fun k a hk h z => by
      subst z
      have := R2.dj k s1.ms.length a h (by rw [g2]; simp)
      omega
    have up2 : Up A2 (o2.take s1.ms.length) H2 (fun a => A2 a ∧ a ≠ D) (o2.take s1.ms.length) H2 := ⟨kp, fun _ _ _ e => e⟩
    refine ⟨fun a => A2 a ∧ a ≠ D, o2.take s1.ms.length, ⟨⟨?_, fun j => ?_, fun i j a h1 h2 => ?_, fun i => ?_, fun i a h1 => ?_, fun a h => R2.al a h.1⟩, R1.len, fun j => (R1.sl j).imp id fun ⟨v, e, q⟩ => ⟨v, e, q.up u1⟩, fun a h => ⟨R2.ge a h, fun z => ?_⟩, R2.fr, fun i a h1 => ?_, ?_, ?_, fun a h => R2.lim a h.1, R2.a0⟩, U1.trans u1, .lst ⟨e2, fun z => z.2 rfl⟩ (RpL.mono kp e3)⟩
    · show (o2.take s1.ms.length).length = (takM s1.ms.length s1.ms.length ms).length
      rw [List.length_take, takM_length]; omega
    · show MR K _ (o2.take s1.ms.length) H2 (go (o2.take s1.ms.length) j) (gm (takM s1.ms.length s1.ms.length ms) j)
      rw [go_take, gm_takM]
      by_cases q : j < s1.ms.length
      · rw [if_pos q, if_pos q]
        have mj := R2.mr j
        rw [show gm (⟨s1.es, ms ++ [.lst acc], s1.np⟩ : S).ms j = gm ms j from by show gm (ms ++ [.lst acc]) j = _; rw [gm_app, ml, if_pos q]] at mj
        exact mj.lim.up up2 fun a o _ e => e
      · rw [if_neg q, if_neg q]; trivial
    · rw [go_take] at h1 h2
      split at h1
      · split at h2
        · exact R2.dj i j a h1 h2
        · cases h2
      · cases h1
    · rw [go_take]
      split
      · exact R2.ld i
      · exact List.nodup_nil
    · rw [go_take] at h1
      split at h1
      · rename_i hi'
        exact ⟨R2.oa i a h1, ne i a hi' h1⟩
      · cases h1
    · subst z
      exact R2.a0 a h (by
        rcases R2.fo s1.ms.length a (by rw [g2]; simp) with ⟨j, q⟩ | q
        · rw [← R2.pre, go_take] at q
          split at q
          · rename_i hj'
            have := R2.dj _ _ a q (by rw [g2]; simp)
            have npl := R1.npl
            have := R1.ol
            have : (⟨s1.es, ms ++ [.lst acc], s1.np⟩ : S).np = s1.np := rfl
            omega
          · cases q
        · exact q)
    · rw [go_take] at h1
      split at h1
      · exact R2.fo i a h1
      · cases h1
    · have npl := R1.npl
      have := R1.ol
      show (o2.take s1.ms.length).take s1.np = b.own0
      rw [List.take_take, show min s1.np s1.ms.length = s1.np by omega]; exact R2.pre
    · have npl := R1.npl
      have := R1.ol
      show s1.np ≤ (o2.take s1.ms.length).length
      rw [List.length_take]; omega
theorem de_lc {elt tg iter : Expr} {ifs : List Expr} {scope : Scope} (own : List (Str × Nat)) {wI : WI} (hc : X.calm = true) (hN : X.N.Nodup) (hi : DI X tg iter wI) (ok : BlkOk X.N X.env.scope scope own) (hj : ∀ j ∈ js, j ∈ own.map (·.2))
    (hg : ∀ (s : Shared) (H : Hp) (C : Addr) (cl : List (Str × Addr)) (fp : List Addr), DG (X.blk s H scope (compEnvC scope cl C X.env) fp) tg js wg) (ht : ∀ (s : Shared) (H : Hp) (C : Addr) (cl : List (Str × Addr)) (fp : List Addr), DTs (X.blk s H scope (compEnvC scope cl C X.env) fp) ifs wt)
    (he : ∀ (s : Shared) (H : Hp) (C : Addr) (cl : List (Str × Addr)) (fp : List Addr), DE (X.blk s H scope (compEnvC scope cl C X.env) fp) elt we) (hs : ∀ x, foldedSetIterable iter X.env x = pure x := by intro _; rfl) :
    DE X (.ListComp elt [⟨tg, iter, ifs, 0⟩] scope pos) (dLc (own.map (·.2)) wI wg wt we) := by
  obtain ⟨ti, pi, qi⟩ := hi.ex
  refine ⟨_, pe_lc (g := canG X.K js wg) (tt := canT X.K wt) (te := canE X.K we) hc hN pi ok (fun s H C cl fp => (hg s H C cl fp).can) (fun s H C cl fp => (ht s H C cl fp).can) (fun s H C cl fp => (he s H C cl fp).can) hs, fun b A own' H σ s Ks Q R h k => ?_⟩
  exact lc_run hj qi (fun s1 ms acc => Ks ⟨s1.es, takM s1.ms.length s1.ms.length ms, s1.np⟩ (.da (.list acc))) b A own' H σ s Q R h fun A' own' H' s1 ms acc v R1 U1 ml E1 ⟨A2, o2, R2, U2, r⟩ hk => k.da R2 U2 r hk
theorem de_lcM {elt tg iter : Expr} {ifs : List Expr} {scope : Scope} (own : List (Str × Nat)) {wI : WI} (hc : X.calm = true) (hN : X.N.Nodup) (hi : DI X tg iter wI) (ok : BlkOk X.N X.env.scope scope own) (hj : ∀ j ∈ js, j ∈ own.map (·.2))
    (hg : ∀ (s : Shared) (H : Hp) (C : Addr) (cl : List (Str × Addr)) (fp : List Addr), DG (X.blk s H scope (compEnvC scope cl C X.env) fp) tg js wg) (ht : ∀ (s : Shared) (H : Hp) (C : Addr) (cl : List (Str × Addr)) (fp : List Addr), DTs (X.blk s H scope (compEnvC scope cl C X.env) fp) ifs wt)
    (he : ∀ (s : Shared) (H : Hp) (C : Addr) (cl : List (Str × Addr)) (fp : List Addr), DE (X.blk s H scope (compEnvC scope cl C X.env) fp) elt we) (hs : ∀ x, foldedSetIterable iter X.env x = pure x := by intro _; rfl) :
    DE X (.ListComp elt [⟨tg, iter, ifs, 0⟩] scope pos) (dLcM (own.map (·.2)) wI wg wt we) := by
  obtain ⟨ti, pi, qi⟩ := hi.ex
  refine ⟨_, pe_lc (g := canG X.K js wg) (tt := canT X.K wt) (te := canE X.K we) hc hN pi ok (fun s H C cl fp => (hg s H C cl fp).can) (fun s H C cl fp => (ht s H C cl fp).can) (fun s H C cl fp => (he s H C cl fp).can) hs, fun b A own' H σ s Ks Q R h k => ?_⟩
  exact lc_run hj qi (fun s1 ms acc => Ks (S.mk s1.es (ms ++ [MO.lst acc]) s1.np) (.mu s1.ms.length)) b A own' H σ s Q R h fun A' own' H' s1 ms acc v R1 U1 ml E1 _ hk => k _ _ _ _ _ (.mu s1.ms.length) R1 U1 E1 hk
/-- name = [..] -/
theorem ds_setLc {i : Nat} {y : Str} {py spos : Pos} {elt tg iter : Expr} {ifs : List Expr} {scope : Scope} (own : List (Str × Nat)) {wI : WI} (hc : X.calm = true) (hN : X.N.Nodup) (hy : X.N[i]? = some y) (hyl : X.env.scope.names.lookup y = some .local)
    (hsw : swapsWith (.ListComp elt [⟨tg, iter, ifs, 0⟩] scope pos) (some (.Name y py)) spos.line X.env = pure true) (hi : DI X tg iter wI) (ok : BlkOk X.N X.env.scope scope own) (hj : ∀ j ∈ js, j ∈ own.map (·.2))
    (hg : ∀ (s : Shared) (H : Hp) (C : Addr) (cl : List (Str × Addr)) (fp : List Addr), DG (X.blk s H scope (compEnvC scope cl C X.env) fp) tg js wg) (ht : ∀ (s : Shared) (H : Hp) (C : Addr) (cl : List (Str × Addr)) (fp : List Addr), DTs (X.blk s H scope (compEnvC scope cl C X.env) fp) ifs wt)
    (he : ∀ (s : Shared) (H : Hp) (C : Addr) (cl : List (Str × Addr)) (fp : List Addr), DE (X.blk s H scope (compEnvC scope cl C X.env) fp) elt we) (hs : ∀ x, foldedSetIterable iter X.env x = pure x := by intro _; rfl) :
    DS X (.Assign [.Name y py] (.ListComp elt [⟨tg, iter, ifs, 0⟩] scope pos) spos) (sAsg (dLc (own.map (·.2)) wI wg wt we) (gN i)) := by
  obtain ⟨ti, pi, qi⟩ := hi.ex
  refine ⟨_, ps_setLc (g := canG X.K js wg) (tt := canT X.K wt) (te := canE X.K we) hc hN hy hyl hsw pi ok (fun s H C cl fp => (hg s H C cl fp).can) (fun s H C cl fp => (ht s H C cl fp).can) (fun s H C cl fp => (he s H C cl fp).can) hs, asg_run (fun b A own' H σ s Ks Q R h k => ?_) (gN_run i)⟩
  exact lc_run hj qi (fun s1 ms acc => Ks ⟨s1.es, takM s1.ms.length s1.ms.length ms, s1.np⟩ (.da (.list acc))) b A own' H σ s Q R h fun A' own' H' s1 ms acc v R1 U1 ml E1 ⟨A2, o2, R2, U2, r⟩ hk => k.da R2 U2 r hk
theorem ds_setLcM {i : Nat} {y : Str} {py spos : Pos} {elt tg iter : Expr} {ifs : List Expr} {scope : Scope} (own : List (Str × Nat)) {wI : WI} (hc : X.calm = true) (hN : X.N.Nodup) (hy : X.N[i]? = some y) (hyl : X.env.scope.names.lookup y = some .local)
    (hsw : swapsWith (.ListComp elt [⟨tg, iter, ifs, 0⟩] scope pos) (some (.Name y py)) spos.line X.env = pure true) (hi : DI X tg iter wI) (ok : BlkOk X.N X.env.scope scope own) (hj : ∀ j ∈ js, j ∈ own.map (·.2))
    (hg : ∀ (s : Shared) (H : Hp) (C : Addr) (cl : List (Str × Addr)) (fp : List Addr), DG (X.blk s H scope (compEnvC scope cl C X.env) fp) tg js wg) (ht : ∀ (s : Shared) (H : Hp) (C : Addr) (cl : List (Str × Addr)) (fp : List Addr), DTs (X.blk s H scope (compEnvC scope cl C X.env) fp) ifs wt)
    (he : ∀ (s : Shared) (H : Hp) (C : Addr) (cl : List (Str × Addr)) (fp : List Addr), DE (X.blk s H scope (compEnvC scope cl C X.env) fp) elt we) (hs : ∀ x, foldedSetIterable iter X.env x = pure x := by intro _; rfl) :
    DS X (.Assign [.Name y py] (.ListComp elt [⟨tg, iter, ifs, 0⟩] scope pos) spos) (sAsg (dLcM (own.map (·.2)) wI wg wt we) (gN i)) := by
  obtain ⟨ti, pi, qi⟩ := hi.ex
  refine ⟨_, ps_setLc (g := canG X.K js wg) (tt := canT X.K wt) (te := canE X.K we) hc hN hy hyl hsw pi ok (fun s H C cl fp => (hg s H C cl fp).can) (fun s H C cl fp => (ht s H C cl fp).can) (fun s H C cl fp => (he s H C cl fp).can) hs, asg_run (fun b A own' H σ s Ks Q R h k => ?_) (gN_run i)⟩
  exact lc_run hj qi (fun s1 ms acc => Ks (S.mk s1.es (ms ++ [MO.lst acc]) s1.np) (.mu s1.ms.length)) b A own' H σ s Q R h fun A' own' H' s1 ms acc v R1 U1 ml E1 _ hk => k _ _ _ _ _ (.mu s1.ms.length) R1 U1 E1 hk
end
end DL
namespace DL
open PySem L2
/-! ### the def's own theorem -/
def nos : Nat → List En
  | 0 => []
  | n + 1 => .no :: nos n
theorem nos_length : ∀ n, (nos n).length = n
  | 0 => rfl
  | n + 1 => congrArg (· + 1) (nos_length n)
theorem gt_nos : ∀ n i, gt (nos n) i = .no
  | 0, _ => rfl
  | n + 1, 0 => rfl
  | n + 1, i + 1 => gt_nos n i
def endD (Ks : List MO → En → Prop) : Dn where
  nx := fun s => Ks (takM s.np s.np s.ms) (.da .none)
  rt := fun s x => match x with | .mu j => Ks s.ms (.mu j) | .da d => Ks (takM s.np s.np s.ms) (.da d) | .no => False
  bk := fun _ => False
  ct := fun _ => False
section
variable {P : Program} {w : World} {K : PySem.W.Frag} {mg : Str → Option Value} {base : Heap}
theorem start_at {A : Addr → Prop} {own : List (List Addr)} {H : Hp} (N : List Str) : ∀ {vs : List V} {xs : List En}, ERL K A own H vs xs → ∀ (n i : Nat), gt (xs ++ nos n) i = .no ∨ ∃ v, (vs.map some ++ List.replicate n none)[i]? = some (some v) ∧ ER K A own H v (gt (xs ++ nos n) i)
  | [], [], _, n, i => .inl (gt_nos n i)
  | v :: vs, x :: xs, ⟨h, _⟩, n, 0 => .inr ⟨v, rfl, h⟩
  | v :: vs, x :: xs, ⟨_, t⟩, n, i + 1 => start_at N t n i
theorem fn_data {x qual : Str} {st : Stmt} {f : Addr} {fd : FuncData} {N ps : List Str} {k : Nat} {sp : SpD} (F : Fun K x qual st f fd) (Sc : FnScope N ps (defScope st)) (W : WS)
    (hb : ∀ (cdv : Value) (A : Around) (outer : List Env) (s : Shared) (H : Hp) (E : XK), RoomG k (A.deeper (PyProof.Rows.envOfC qual (defScope st) s.heap.objs.size f cdv)) → DSs (cxOf CX0 P w K mg base N qual (defScope st) f cdv A outer s H E).nox (defBody st) W)
    (hsp : ∀ xs ms Ks, sp xs ms Ks → xs.length = ps.length → W ⟨xs ++ nos (N.length - ps.length), ms, ms.length⟩ (endD Ks)) : FnOkG P w K mg base CX0 (k + 1) f fd ps (spOf K ps.length sp) := by
  refine fun_okG F Sc (fun vs H Q E h => ?_) (fun cdv A outer s H vs Q E hr h => ?_)
  · obtain ⟨_, _, _, _, _, hn, _⟩ := h
    exact hn
  · obtain ⟨Av, own, xs, ms, Ks, hn, he, ho, hs, k1⟩ := h
    obtain ⟨t, pt, qt⟩ := (hb cdv A outer s H E hr).ex
    have hxl : xs.length = ps.length := he.len.symm.trans hn
    have hN : ps.length ≤ N.length := by
      have := congrArg List.length Sc.pre
      rw [List.length_take] at this
      omega
    refine ⟨t, pt, ?_⟩
    have R : Rel K ⟨H, own, Av⟩ Av own H (start N vs) ⟨xs ++ nos (N.length - ps.length), ms, ms.length⟩ := by
      refine ⟨ho, ?_, fun i => ?_, fun a h => h, fun a o n h => h, fun k a h => .inl ⟨k, h⟩, ?_, ?_, fun a h => .inl h, ho.al⟩
      · show (vs.map some ++ List.replicate (N.length - vs.length) none).length = _
        simp [nos_length, hn, hxl]
      · show gt (xs ++ nos (N.length - ps.length)) i = .no ∨ ∃ v, (vs.map some ++ List.replicate (N.length - vs.length) none)[i]? = some (some v) ∧ _
        rw [hn]
        exact start_at N he _ i
      · show own.take ms.length = own
        rw [← ho.ol]; exact List.take_length
      · show ms.length ≤ own.length
        rw [ho.ol]; exact Nat.le_refl _
    have fin : ∀ (A' : Addr → Prop) (own' : List (List Addr)) (H' : Hp) (σ' : L2.St) (s' : S) (v : V) (x : En), Rel K ⟨H, own, Av⟩ A' own' H' σ' s' → ER K A' own' H' v x → (match x with | .mu j => Ks s'.ms (.mu j) | .da d => Ks (takM s'.np s'.np s'.ms) (.da d) | .no => False) → Q v H' := by
      intro A' own' H' σ' s' v x R' ex hx
      have np : own.length = s'.np := R'.np
      have hpre : own'.take own.length = own := by rw [np]; exact R'.pre
      cases x with
      | no => exact hx.elim
      | mu j => exact k1 A' own' H' v s'.ms (.mu j) R'.toOwn hpre R'.ge R'.lim (fun a o n h => R'.fr a o n h) R'.fo ex hx
      | da d =>
        refine k1 A' (own'.take s'.np) H' v (takM s'.np s'.np s'.ms) (.da d) (R'.toOwn.take _) ?_ R'.ge R'.lim (fun a o n h => R'.fr a o n h) (fun k a h => ?_) ex hx
        · rw [np, List.take_take, Nat.min_self]; exact R'.pre
        · rw [go_take] at h
          split at h
          · exact R'.fo k a h
          · cases h
    refine qt _ _ _ _ _ _ (endD Ks) _ R (hsp xs ms Ks hs hxl) ⟨fun A' own' H' σ' s' R' _ h => fin A' own' H' σ' s' .non (.da .none) R' .non h, fun A' own' H' σ' s' v x R' _ ex h => fin A' own' H' σ' s' v x R' ex h, fun _ _ _ _ _ _ _ h => h.elim, fun _ _ _ _ _ _ _ h => h.elim⟩
end
/-! ### isinstance -/
def tyD : D → String
  | .none => "NoneType"
  | .bool _ => "bool"
  | .int _ => "int"
  | .str _ => "str"
  | .list _ => "list"
  | .tuple _ => "tuple"
  | .dict _ => "dict"
inductive Ty where | int | bool | str | list | tuple
def Ty.nm : Ty → String
  | .int => "int"
  | .bool => "bool"
  | .str => "str"
  | .list => "list"
  | .tuple => "tuple"
def isT : Ty → D → Bool
  | .int, .int _ => true
  | .int, .bool _ => true
  | .bool, .bool _ => true
  | .str, .str _ => true
  | .list, .list _ => true
  | .tuple, .tuple _ => true
  | _, _ => false
theorem rp_ty {K : PySem.W.Frag} {A : Addr → Prop} {H : Hp} {v : V} {d : D} (r : Rp K A H v d) : TyX K H v (.type (tyD d)) := by
  cases r with
  | non => exact .base .non
  | bl c => exact .base (.bl c)
  | int i => exact .base (.int i)
  | str x => exact .base (.str x)
  | lst l r => exact .base (.lst l.1)
  | tup l r =>
    rcases l with l | l
    · exact .base (.tup l.1)
    · rcases l (fun _ => none) with (h | ⟨o, h⟩) | ⟨o, its, n, h, c, _⟩
      · cases h
      · cases h
      · exact .kTuple h c
  | dct l n r => exact .fDict l
theorem isT_kit (T : Ty) {K : PySem.W.Frag} {A : Addr → Prop} {H : Hp} {v : V} {d : D} (r : Rp K A H v d) : PySem.W.kitOne K (.type (tyD d)) (.type T.nm) = some (isT T d) := by
  refine kit_ty ?_
  have key : ∀ T : Ty, kitB "NoneType" T.nm = some false ∧ kitB "bool" T.nm = some (isT T (.bool true)) ∧ kitB "int" T.nm = some (isT T (.int 0)) ∧ kitB "str" T.nm = some (isT T (.str "")) ∧ kitB "list" T.nm = some (isT T (.list [])) ∧ kitB "tuple" T.nm = some (isT T (.tuple [])) ∧ kitB "dict" T.nm = some false := by
    intro T
    cases T <;> decide +kernel
  obtain ⟨k0, k1, k2, k3, k4, k5, k6⟩ := key T
  cases r with
  | non => rw [show isT T .none = false from by cases T <;> rfl]; exact k0
  | bl c => rw [show isT T (.bool c) = isT T (.bool true) from by cases T <;> rfl]; exact k1
  | int i => rw [show isT T (.int i) = isT T (.int 0) from by cases T <;> rfl]; exact k2
  | str x => rw [show isT T (.str x) = isT T (.str "") from by cases T <;> rfl]; exact k3
  | @lst _ _ ds l r => rw [show isT T (.list ds) = isT T (.list []) from by cases T <;> rfl]; exact k4
  | @tup _ _ ds l r => rw [show isT T (.tuple ds) = isT T (.tuple []) from by cases T <;> rfl]; exact k5
  | @dct _ _ _ kvs l n r => rw [show isT T (.dict (kvs.map fun z => (kD z.1, z.2))) = false from by cases T <;> rfl]; exact k6
theorem vw_ty {K : PySem.W.Frag} {b : Bd} {A : Addr → Prop} {own : List (List Addr)} {H : Hp} {σ : L2.St} {s : S} (R : Rel K b A own H σ s) {v : V} {x : En} {d : D} (h : ER K A own H v x) (e : vw s x = some d) : TyX K H v (.type (tyD d)) ∧ ∃ A' v', Rp K A' H v' d := by
  cases x with
  | no => cases e
  | da d' => cases e; exact ⟨rp_ty h, A, v, h⟩
  | mu k =>
    obtain ⟨a, vs, rfl, h1, r⟩ : ∃ a vs, v = .ref a ∧ H a = some (.lst vs) ∧ ∃ ds, d = .list ds ∧ RpL K A H vs ds := by
      obtain ⟨a, r, g, rfl⟩ := h
      have m := R.mr k
      unfold vw at e
      simp only at e
      cases q : gm s.ms k with
      | lst ds =>
        rw [q] at e m
        cases e
        obtain ⟨a', vs, e1, e2, e3⟩ := m
        rw [e1] at g
        cases g
        exact ⟨_, _, rfl, e2, ds, rfl, e3⟩
      | _ => rw [q] at e; cases e
    obtain ⟨ds, rfl, r⟩ := r
    refine ⟨.base (.lst h1), fun _ => False, .ref a, .lst ⟨h1, fun z => z⟩ ?_⟩
    exact RpL.mono (A := A) (H := H) (fun b u n q => ⟨q, fun z => z⟩) r
section
variable {X : Cx} {a b c e : Expr} {wa wb wc we : WE} {pos : Pos}
def dIsi (T : Ty) (wa : WE) : WE := fun s Ks => wa s fun s1 x => onO (vw s1 x) fun d => Ks s1 (.da (.bool (isT T d)))
theorem pe_type {x : Str} {T : String} {p : Pos} (hg : Gl X x) (hm : X.mg x = none) (hv : bootBuiltins x = some (.type T)) (hn : x ≠ "__name__" := by decide) (hd : (x == ("__debug__" : Str)) = false := by decide) : PE X (.Name x p) (tC (.ty T)) := pe_bltn hg hm hv (show RelV (.ty T) (.type T) from rfl) hn hd
theorem de_isi {x : Str} (T : Ty) {p p2 : Pos} (hg : Gl X "isinstance") (hm : X.mg "isinstance" = none) (hg2 : Gl X x) (hm2 : X.mg x = none) (hv2 : bootBuiltins x = some (.type T.nm)) (ha : DE X a wa)
    (hn : x ≠ "__name__" := by decide) (hd : (x == ("__debug__" : Str)) = false := by decide)
    (he : starEach (a :: [.Name x p2]) X.env = (false, eval a X.env) :: starEach [.Name x p2] X.env := by rfl) (hpl : (backTo pos (starEach [.Name x p2] X.env)).any (·.1) = false := by rfl) (he2 : starEach (.Name x p2 :: []) X.env = (false, eval (.Name x p2) X.env) :: starEach [] X.env := by rfl) :
    DE X (.Call (.Name "isinstance" p) [a, .Name x p2] [] pos) (dIsi T wa) := by
  obtain ⟨ta, pa, qa⟩ := ha.ex
  refine ⟨_, pe_callB call_isi hg hm (by decide +kernel) (pa_cons pa (pa_cons (pe_type hg2 hm2 hv2 hn hd) pa_nil he2) he) (he := he) (hpl := hpl), fun b A own H σ s Ks Q R h k => ?_⟩
  show ta σ H fun x H1 => rIsi X.K [x, .ty T.nm] H1 Q
  refine qa _ _ _ _ _ _ _ _ R h fun A1 o1 H1 v1 s1 x1 R1 U1 E1 h1 => ?_
  obtain ⟨d, hd, h1⟩ := onO_inv h1
  obtain ⟨t1, A', v', r'⟩ := vw_ty R1 E1 hd
  exact ⟨v1, .ty T.nm, _, _, _, rfl, .ty T.nm, t1, isT_kit T r', k.da R1 U1 (.bl _) h1⟩
def dIsi2 (T U : Ty) (wa : WE) : WE := fun s Ks => wa s fun s1 x => onO (vw s1 x) fun d => Ks s1 (.da (.bool (isT T d || isT U d)))
theorem de_isi2 {x y : Str} (T U : Ty) {p p2 p3 p4 : Pos} {kk : Nat} (hg : Gl X "isinstance") (hm : X.mg "isinstance" = none) (hg2 : Gl X x) (hm2 : X.mg x = none) (hv2 : bootBuiltins x = some (.type T.nm)) (hg3 : Gl X y) (hm3 : X.mg y = none) (hv3 : bootBuiltins y = some (.type U.nm)) (ha : DE X a wa)
    (hn : x ≠ "__name__" := by decide) (hd : (x == ("__debug__" : Str)) = false := by decide) (hn3 : y ≠ "__name__" := by decide) (hd3 : (y == ("__debug__" : Str)) = false := by decide)
    (he : starEach (a :: [.Tuple [.Name x p2, .Name y p3] kk p4]) X.env = (false, eval a X.env) :: starEach [.Tuple [.Name x p2, .Name y p3] kk p4] X.env := by rfl) (hpl : (backTo pos (starEach [.Tuple [.Name x p2, .Name y p3] kk p4] X.env)).any (·.1) = false := by rfl)
    (he2 : starEach (.Tuple [.Name x p2, .Name y p3] kk p4 :: []) X.env = (false, eval (.Tuple [.Name x p2, .Name y p3] kk p4) X.env) :: starEach [] X.env := by rfl)
    (he3 : starEach (.Name x p2 :: [.Name y p3]) X.env = (false, eval (.Name x p2) X.env) :: starEach [.Name y p3] X.env := by rfl) (he4 : starEach (.Name y p3 :: []) X.env = (false, eval (.Name y p3) X.env) :: starEach [] X.env := by rfl) :
    DE X (.Call (.Name "isinstance" p) [a, .Tuple [.Name x p2, .Name y p3] kk p4] [] pos) (dIsi2 T U wa) := by
  obtain ⟨ta, pa, qa⟩ := ha.ex
  refine ⟨_, pe_callB call_isiT hg hm (by decide +kernel) (pa_cons pa (pa_cons (pe_tup (pa_cons (pe_type hg2 hm2 hv2 hn hd) (pa_cons (pe_type hg3 hm3 hv3 hn3 hd3) pa_nil he4) he3)) pa_nil he2) he) (he := he) (hpl := hpl), fun b A own H σ s Ks Q R h k => ?_⟩
  show ta σ H fun x H1 => (([.ty T.nm, .ty U.nm] : List V).length ≤ sizeLine ∧ ∀ p, H1 p = none → rIsiT X.K [x, .ref p] (upd H1 p (.tup [.ty T.nm, .ty U.nm])) Q)
  refine qa _ _ _ _ _ _ _ _ R h fun A1 o1 H1 v1 s1 x1 R1 U1 E1 h1 => ⟨by show 2 ≤ sizeLine; decide, fun p hp => ?_⟩
  obtain ⟨d, hd, h1⟩ := onO_inv h1
  obtain ⟨R2, U2⟩ := R1.new (o := .tup [.ty T.nm, .ty U.nm]) hp
  obtain ⟨t1, A', v', r'⟩ := vw_ty R2 (E1.up U2) hd
  refine ⟨v1, p, [.ty T.nm, .ty U.nm], _, [.type T.nm, .type U.nm], _, rfl, upd_same, .cons (.ty T.nm) (.cons (.ty U.nm) .nil), t1, ?_, k.da R2 (U1.trans U2) (.bl (isT T d || isT U d)) h1⟩
  refine kitAny_cons (isT_kit T r') (fun e => ?_) (fun e => by rw [e]; rfl)
  refine kitAny_cons (isT_kit U r') (fun e2 => ?_) (fun e2 => by rw [e2, Bool.or_true])
  rw [e, e2]; exact kitAny_nil
end
end DL
namespace DL
open PySem L2 PySem.Spec PyProof.Rows
section
variable {X : Cx} {tg e : Expr} {we : WE}
/-- iter of a list or of a tuple, by the value -/
theorem pie_of {pins : List (Addr × Obj)} {σ : L2.St} {H : Hp} {s : Shared} {Q : It → Hp → Prop} {o : Obj} {J : It} {tn : Nat → Heap → Prop}
    (I : Inv X pins σ H s) (T : Turn X.prog X.w X.K tg J [s.heap.objs.size] s.heap.objs.size tn)
    (t0 : tn 0 (s.heap.push o)) (q : Q J H) :
    PIE X pins σ tg Q (.ref s.heap.objs.size) { s with heap := s.heap.push o } := by
  have fr : H s.heap.objs.size = none := I.hok.fresh (Nat.le_refl _)
  have I2 : Inv X pins σ H { s with heap := s.heap.push o } :=
    I.kept (t' := s.toks) fun b u h => Heap.get?_push_of_some _ h
  refine ⟨_, _, _, _, H, rfl, I2, T, t0, ?_, q⟩
  intro b hb
  cases List.mem_singleton.mp hb
  exact I.fpOk (Nat.le_refl _) fr
def iSeqV (K : PySem.W.Frag) (te : TE) : TI := fun σ H R => te σ H fun x H1 => ∃ a, x = .ref a ∧
  (((∃ xs, SqL K H1 a xs) ∧ R (Itl K a) H1) ∨ ((∃ xs, SqT K H1 a xs) ∧ R (Itt K a) H1))
theorem pi_seq {te : TE} (h : PE X e te) : PI X tg e (iSeqV X.K te) := by
  constructor
  intro pins s σ H R I hw
  refine thn (h.run pins s σ H _ I hw) ?_
  rintro v s1 ⟨x, H1, I1, r1, a, rfl, q⟩
  cases r1
  rcases q with ⟨⟨xs, hx⟩, q⟩ | ⟨⟨xs, hx⟩, q⟩
  · obtain ⟨its, _, p, _⟩ := I1.list hx
    refine wpAny_pyIter_list p.isList ?_
    exact pie_of I1 (turn_list a _) ⟨_, Heap.get?_push_size _ rfl, rfl, rfl⟩ q
  · obtain ⟨its, _, p, _⟩ := I1.tuple hx
    refine wpAny_pyIter_tuple (items := its.toArray) p ?_
    exact pie_of I1 (turn_tuple a _) ⟨_, Heap.get?_push_size _ rfl, rfl, rfl⟩ q
def iSeq (we : WE) : WI := fun s Ks => we s fun s1 x => daI x fun d => onO (seqD d) fun ds => Ks s1 ds
theorem di_seq (he : DE X e we) : DI X tg e (iSeq we) := by
  obtain ⟨te, pe, qe⟩ := he.ex
  refine ⟨_, pi_seq pe, fun b A own H σ s Ks Q R h k => ?_⟩
  show te σ H fun x H1 => ∃ a, x = .ref a ∧ (((∃ xs, SqL X.K H1 a xs) ∧ Q (Itl X.K a) H1) ∨ ((∃ xs, SqT X.K H1 a xs) ∧ Q (Itt X.K a) H1))
  refine qe _ _ _ _ _ _ _ _ R h fun A1 o1 H1 v1 s1 x1 R1 U1 E1 h1 => ?_
  obtain ⟨d, rfl, h2⟩ := daI_inv h1
  obtain ⟨ds, hd, h2⟩ := onO_inv h2
  clear h1
  have E1 : Rp X.K A1 H1 v1 d := E1
  cases E1 with
  | lst l r => cases hd; exact ⟨_, rfl, .inl ⟨⟨_, l.sq⟩, k _ _ _ _ _ _ R1 U1 (wk_list l r) h2⟩⟩
  | tup l r => cases hd; exact ⟨_, rfl, .inr ⟨⟨_, l.sq⟩, k _ _ _ _ _ _ R1 U1 (wk_tup l r) h2⟩⟩
  | non => cases hd
  | dct _ _ _ => cases hd
  | bl c => cases hd
  | int i => cases hd
  | str x => cases hd
end
section
variable {X : Cx} {a b c e : Expr} {wa wb wc we : WE} {pos : Pos} {es : List Expr}
/-- a < b < c -/
def dChain (rd rd' : S → En → En → (S → En → Prop) → Prop) (wa wb wc : WE) : WE := fun s Ks => wa s fun s1 x => wb s1 fun s2 y => rd s2 x y fun s3 z => isB z fun k =>
  (k = true → wc s3 fun s4 w => rd' s4 y w Ks) ∧ (k = false → Ks s3 (.da (.bool false)))
theorem chain_run {r r' : R2} {rd rd'} {ta tb tc : TE} (hd : OpD X.K r rd) (hd' : OpD X.K r' rd')
    (qa : ∀ (b : Bd) (A : Addr → Prop) (own : List (List Addr)) (H : Hp) (σ : L2.St) (s : S) (Ks : S → En → Prop) (Q : VK), Rel X.K b A own H σ s → wa s Ks → PostE X.K b A own H σ Ks Q → ta σ H Q)
    (qb : ∀ (b : Bd) (A : Addr → Prop) (own : List (List Addr)) (H : Hp) (σ : L2.St) (s : S) (Ks : S → En → Prop) (Q : VK), Rel X.K b A own H σ s → wb s Ks → PostE X.K b A own H σ Ks Q → tb σ H Q)
    (qc : ∀ (b : Bd) (A : Addr → Prop) (own : List (List Addr)) (H : Hp) (σ : L2.St) (s : S) (Ks : S → En → Prop) (Q : VK), Rel X.K b A own H σ s → wc s Ks → PostE X.K b A own H σ Ks Q → tc σ H Q)
    (b : Bd) (A : Addr → Prop) (own : List (List Addr)) (H : Hp) (σ : L2.St) (s : S) (Ks : S → En → Prop) (Q : VK) (R : Rel X.K b A own H σ s) (h : dChain rd rd' wa wb wc s Ks) (k : PostE X.K b A own H σ Ks Q) : tChain r r' ta tb tc σ H Q := by
  show ta σ H fun x H1 => tb σ H1 fun y H2 => r x y H2 fun z H3 => ∃ k, z = .bl k ∧ (if k = true then tc σ H3 fun w' H4 => r' y w' H4 Q else Q (.bl false) H3)
  refine qa _ _ _ _ _ _ _ _ R h fun A1 o1 H1 v1 s1 x1 R1 U1 E1 h1 => ?_
  refine qb _ _ _ _ _ _ _ _ R1 h1 fun A2 o2 H2 v2 s2 x2 R2 U2 E2 h2 => ?_
  refine hd _ _ _ _ _ _ _ _ _ _ _ _ R2 (E1.up U2) E2 h2 fun A3 o3 H3 v3 s3 x3 R3 U3 E3 h3 => ?_
  obtain ⟨q, rfl, h4⟩ := isB_inv h3
  cases E3
  refine ⟨q, rfl, ?_⟩
  cases q with
  | true =>
    rw [if_pos rfl]
    refine qc _ _ _ _ _ _ _ _ R3 (h4.1 rfl) fun A4 o4 H4 v4 s4 x4 R4 U4 E4 h5 => ?_
    exact hd' _ _ _ _ _ _ _ _ _ _ _ _ R4 (E2.up (U3.trans U4)) E4 h5 (k.up (((U1.trans U2).trans U3).trans U4))
  | false => rw [if_neg (by decide)]; exact k.da R3 ((U1.trans U2).trans U3) (.bl _) (h4.2 rfl)
theorem de_chain {op op' : CmpOp} {r r' : R2} {rd rd'} (ho : OpR X (compareOp op) r) (ho' : OpR X (compareOp op') r') (hd : OpD X.K r rd) (hd' : OpD X.K r' rd') (ha : DE X a wa) (hb : DE X b wb) (hc : DE X c wc)
    (hm : lastMarks [op, op'] [b, c] = false := by with_unfolding_all rfl) : DE X (.Compare a [op, op'] [b, c] pos) (dChain rd rd' wa wb wc) := by
  obtain ⟨ta, pa, qa⟩ := ha.ex
  obtain ⟨tb, pb, qb⟩ := hb.ex
  obtain ⟨tc, pc, qc⟩ := hc.ex
  exact ⟨_, pe_chain ho ho' pa pb pc hm, chain_run hd hd' qa qb qc⟩
theorem dt_chain {op op' : CmpOp} {r r' : R2} {rd rd'} (ho : OpR X (compareOp op) r) (ho' : OpR X (compareOp op') r') (hd : OpD X.K r rd) (hd' : OpD X.K r' rd') (ha : DE X a wa) (hb : DE X b wb) (hc : DE X c wc)
    (hm : lastMarks [op, op'] [b, c] = false := by with_unfolding_all rfl) : DT X (.Compare a [op, op'] [b, c] pos) (tT (dChain rd rd' wa wb wc)) := by
  obtain ⟨ta, pa, qa⟩ := ha.ex
  obtain ⟨tb, pb, qb⟩ := hb.ex
  obtain ⟨tc, pc, qc⟩ := hc.ex
  exact ⟨_, pt_chain ho ho' pa pb pc hm, tT_run (chain_run hd hd' qa qb qc)⟩
/-! ### texts -/
def dAddS : WE → WE → WE := d2 fun s x y Ks => match x, y with | .da (.str i), .da (.str j) => i.length + j.length ≤ sizeLine ∧ Ks s (.da (.str (i ++ j))) | _, _ => False
theorem opd_addS {K : PySem.W.Frag} : OpD K (fun x y H Q => ∃ i j, x = .str i ∧ y = .str j ∧ i.length + j.length ≤ sizeLine ∧ Q (.str (i ++ j)) H) (fun s x y Ks => match x, y with | .da (.str i), .da (.str j) => i.length + j.length ≤ sizeLine ∧ Ks s (.da (.str (i ++ j))) | _, _ => False) := by
  intro b A own H σ s vx vy x y Ks Q R ex ey h k
  split at h
  · cases ex; cases ey
    exact ⟨_, _, rfl, rfl, h.1, k.da R Up.refl (.str _) h.2⟩
  · exact h.elim
theorem de_addS (ha : DE X a wa) (hb : DE X b wb) : DE X (.BinOp a .Add b pos) (dAddS wa wb) := de_op op_add_str opd_addS ha hb
/-- list + list: a new one -/
def dCat : WE → WE → WE := d2 fun s x y Ks => vw2 s x y fun d e => match d, e with | .list i, .list j => i.length + j.length ≤ sizeLine ∧ Ks s (.da (.list (i ++ j))) | _, _ => False
def dCatM : WE → WE → WE := d2 fun s x y Ks => vw2 s x y fun d e => match d, e with | .list i, .list j => i.length + j.length ≤ sizeLine ∧ Ks (s.aM (.lst (i ++ j))) (.mu s.ms.length) | _, _ => False
theorem opd_cat {K : PySem.W.Frag} : OpD K rCat (fun s x y Ks => vw2 s x y fun d e => match d, e with | .list i, .list j => i.length + j.length ≤ sizeLine ∧ Ks s (.da (.list (i ++ j))) | _, _ => False) := by
  intro b A own H σ s vx vy x y Ks Q R ex ey h k
  obtain ⟨d, hd, h⟩ := onO_inv h
  obtain ⟨e, he, h⟩ := onO_inv h
  split at h
  · obtain ⟨p, vs, rfl, q, r⟩ := vw_lstH R ex hd
    obtain ⟨p', vs', rfl, q', r'⟩ := vw_lstH R ey he
    exact ⟨p, p', vs, vs', rfl, rfl, q, q', by rw [r.length, r'.length]; exact h.1, fun z hz => new_lst R k (r.append r') hz h.2⟩
  · exact h.elim
theorem opd_catM {K : PySem.W.Frag} : OpD K rCat (fun s x y Ks => vw2 s x y fun d e => match d, e with | .list i, .list j => i.length + j.length ≤ sizeLine ∧ Ks (s.aM (.lst (i ++ j))) (.mu s.ms.length) | _, _ => False) := by
  intro b A own H σ s vx vy x y Ks Q R ex ey h k
  obtain ⟨d, hd, h⟩ := onO_inv h
  obtain ⟨e, he, h⟩ := onO_inv h
  split at h
  · obtain ⟨p, vs, rfl, q, r⟩ := vw_lstH R ex hd
    obtain ⟨p', vs', rfl, q', r'⟩ := vw_lstH R ey he
    exact ⟨p, p', vs, vs', rfl, rfl, q, q', by rw [r.length, r'.length]; exact h.1, fun z hz => new_mu R k (r.append r') hz h.2⟩
  · exact h.elim
theorem de_cat (ha : DE X a wa) (hb : DE X b wb) : DE X (.BinOp a .Add b pos) (dCat wa wb) := de_op op_cat opd_cat ha hb
theorem de_catM (ha : DE X a wa) (hb : DE X b wb) : DE X (.BinOp a .Add b pos) (dCatM wa wb) := de_op op_cat opd_catM ha hb
end
/-! ### the law's draws -/
/-- a number drawn below many; the fuel is one less -/
def spTake : SpD := fun xs ms Ks => match xs, ms with
  | [.mu 0, .da (.int many)], [.rnd n] => 1 ≤ n ∧ CDivW 0 many ∧ ∀ d, 0 ≤ d → d < many → Ks [.rnd (n - 1)] (.da (.int d))
  | _, _ => False
def spTakeH : Sp := fun vs H Q _ => ∃ (a c : Addr) (cs : List Int) (t many : Int), vs = [.ref a, .int many] ∧ H a = some (.dK [(.inr "cells", .ref c), (.inr "turn", .int t)]) ∧ H c = some (.lst (cs.map V.int)) ∧
  1 ≤ cs.length ∧ cs.length ≤ 63 ∧ 0 ≤ t ∧ t + 1 ≤ turnMax ∧ CDivW 0 many ∧
  ∀ (H' : Hp) (cs' : List Int) (d : Int), (∀ b o, b ≠ a → b ≠ c → H b = some o → H' b = some o) → H' a = some (.dK [(.inr "cells", .ref c), (.inr "turn", .int (t + 1))]) → H' c = some (.lst (cs'.map V.int)) → cs'.length = cs.length → 0 ≤ d → d < many → Q (.int d) H'
theorem spTake_imp {K : PySem.W.Frag} {vs : List V} {H : Hp} {Q : VK} {E : XK} (h : spOf K 2 spTake vs H Q E) : spTakeH vs H Q E := by
  obtain ⟨A, own, xs, ms, Ks, hn, he, ho, hs, k⟩ := h
  unfold spTake at hs
  split at hs
  · rename_i many n
    obtain ⟨h1, h2, h3⟩ := hs
    match vs, he with
    | [v, u], ⟨e1, e2, _⟩ =>
      cases e2
      obtain ⟨a, r, g, rfl⟩ := e1
      have m := ho.mr 0
      obtain ⟨a', c, cs, t, e1, ha, hc, l1, l2, t0, t1⟩ := (show MR K A own H (go own 0) (.rnd n) from m)
      rw [e1] at g
      cases g
      refine ⟨a, c, cs, t, many, rfl, ha, hc, l1, l2, t0, by omega, h2, fun H' cs' d fr ha' hc' hl d0 d1 => ?_⟩
      have ol : own.length = 1 := ho.ol
      have own_eq : own = [[a, c]] := by
        match own, ol, e1 with
        | [l], _, e => exact congrArg (fun x => [x]) e
      subst own_eq
      refine k A [[a, c]] H' (.int d) [.rnd (n - 1)] (.da (.int d)) ⟨rfl, fun j => ?_, ho.dj, ho.ld, ho.oa, fun b hb => ?_⟩ rfl (fun _ h => h) (fun _ h => .inl h) (fun b o hb q => fr b o (fun z => hb 0 (by subst z; exact List.mem_cons_self)) (fun z => hb 0 (by subst z; exact List.mem_cons_of_mem _ List.mem_cons_self)) q) (fun j b hb => .inl ⟨j, hb⟩) (.int d) (h3 d d0 d1)
      · match j with
        | 0 => exact ⟨a, c, cs', t + 1, rfl, ha', hc', by omega, by omega, by omega, by omega⟩
        | j + 1 => trivial
      · by_cases q : b = a
        · subst q; rw [ha']; intro z; cases z
        · by_cases q2 : b = c
          · subst q2; rw [hc']; intro z; cases z
          · intro z
            cases e : H b with
            | none => exact ho.al b hb e
            | some o => rw [fr b o q q2 e] at z; cases z
  · exact hs.elim
/-- the script's state made -/
def spBeginH (K : PySem.W.Frag) : Sp := fun vs H Q _ => ∃ (s : Addr) (ns : List Int), vs = [.ref s] ∧ SqL K H s (ns.map V.int) ∧
  ∀ (H' : Hp) (a c : Addr) (cs : List Int), (∀ b o, H b = some o → H' b = some o) → H' a = some (.dK [(.inr "cells", .ref c), (.inr "turn", .int 0)]) → H' c = some (.lst (cs.map V.int)) → H a = none → H c = none → a ≠ c → 1 ≤ cs.length → cs.length ≤ 63 → Q (.ref a) H'
/-- the law's own promise -/
def spLawH (K : PySem.W.Frag) : Sp := fun vs H Q _ => ∃ (a : Addr) (ns : List Int), vs = [.ref a] ∧ SqL K H a (ns.map V.int) ∧ ns.length ≤ 63 ∧ ∀ H', Q (.bl true) H'
def fuel0 : Nat := 1000000000000
def endLaw : Dn where
  nx := fun _ => False
  rt := fun _ x => x = .da (.bool true)
  bk := fun _ => False
  ct := fun _ => False
end DL
namespace DL
open PySem L2 PySem.Spec PyProof.Rows
/-! ### ways -/
section
variable {p : Prop} [Decidable p] {A B : Prop}
theorem bT (h : p) (a : A) : (decide p = true → A) ∧ (decide p = false → B) := ⟨fun _ => a, fun z => absurd h (of_decide_eq_false z)⟩
theorem bF (h : ¬ p) (b : B) : (decide p = true → A) ∧ (decide p = false → B) := ⟨fun z => absurd (of_decide_eq_true z) h, fun _ => b⟩
theorem bS (a : p → A) (b : ¬ p → B) : (decide p = true → A) ∧ (decide p = false → B) := ⟨fun z => a (of_decide_eq_true z), fun z => b (of_decide_eq_false z)⟩
theorem nF (h : p) (b : B) : ((!decide p) = true → A) ∧ ((!decide p) = false → B) := ⟨fun z => (by rw [decide_eq_true h] at z; cases z), fun _ => b⟩
theorem nT (h : ¬ p) (a : A) : ((!decide p) = true → A) ∧ ((!decide p) = false → B) := ⟨fun _ => a, fun z => by rw [decide_eq_false h] at z; cases z⟩
theorem nS (a : ¬ p → A) (b : p → B) : ((!decide p) = true → A) ∧ ((!decide p) = false → B) := ⟨fun z => a fun h => (by rw [decide_eq_true h] at z; cases z), fun z => b (Classical.byContradiction fun h => by rw [decide_eq_false h] at z; cases z)⟩
theorem tt (a : A) : (true = true → A) ∧ (true = false → B) := ⟨fun _ => a, fun z => by cases z⟩
theorem ff (b : B) : (false = true → A) ∧ (false = false → B) := ⟨fun z => (by cases z), fun _ => b⟩
end
theorem nd1 {k : Nat} : ([k] : List Nat).Nodup := List.nodup_cons.mpr ⟨List.not_mem_nil, List.nodup_nil⟩
theorem ip {a b : Nat} (h : a ≤ b) : (10 : Int) ^ a ≤ 10 ^ b := by
  have h2 : ((10 ^ a : Nat) : Int) ≤ ((10 ^ b : Nat) : Int) := Int.ofNat_le.mpr (Nat.pow_le_pow_right (by decide) h)
  simpa using h2
theorem mulA {a b : Int} (x y : Nat) (ha : a.natAbs < 2 ^ x) (hb : b.natAbs < 2 ^ y) (h : x + y ≤ 134217728 := by decide) : CMulX a b := mulx_ok ha hb h
theorem divA {a b : Int} (x : Nat) (h : 0 < b) (hb : b.natAbs < 2 ^ x) (h0 : 0 < x := by decide) (h9 : x ≤ 9000 := by decide) : CDivW a b := wide_div h hb h0 h9
theorem pw10 {k : Int} (h : 0 ≤ k) (h2 : k ≤ 1000000) : CPow 10 k := ⟨h, h2, by decide⟩
/-! ### calls by facts of the top -/
def muks : List En → List Nat
  | [] => []
  | .mu k :: r => k :: muks r
  | _ :: r => muks r
def CallV (sp : SpD) : S → List En → (S → En → Prop) → Prop := fun s xs Ks => (muks xs).Nodup ∧ CallW sp (muks xs) s xs Ks
structure At (K : PySem.W.Frag) (mg : Str → Option Value) (x : Str) (st : Stmt) (ps : List Str) (f : Addr) (fd : FuncData) : Prop where
  F : Fun K x x st f fd
  g : mg x = some (.ref f)
  kp : PySem.W.keepIn K (.ref f) = true
  b : Binds K fd ps []
structure Ok (P : Program) (w : World) (K : PySem.W.Frag) (mg : Str → Option Value) (base : Heap) (k : Nat) (x : Str) (st : Stmt) (ps : List Str) (n : Nat) (sp : SpD) : Prop where
  ex : ∃ f fd, At K mg x st ps f fd ∧ FnOkG P w K mg base CX0 k f fd ps (spOf K n sp)
section
variable {X : Cx} {e : Expr} {es : List Expr} {wr : WA}
theorem de_callV {k : Nat} {st : Stmt} {ps : List Str} {sp : SpD} {x : Str} {p pos : Pos} {n : Nat} (O : Ok X.prog X.w X.K X.mg X.base k x st ps n sp) (hr : RoomG k X.A) (hg : Gl X x)
    (ha : DAn X (e :: es) n wr) (hdb : (x == ("__debug__" : Str)) = false := by decide) (he : starEach (e :: es) X.env = (false, eval e X.env) :: starEach es X.env := by rfl) (hpl : (backTo pos (starEach es X.env)).any (·.1) = false := by rfl) :
    DE X (.Call (.Name x p) (e :: es) [] pos) (dCall (CallV sp) wr) := by
  obtain ⟨f, fd, a, F⟩ := O.ex
  obtain ⟨ta, pa, qa⟩ := ha.ex
  refine ⟨_, pe_callG F hr.r hr.g hg a.g a.kp a.b .nil (pass0 (X := X)) pa hdb he hpl, fun b A own H σ s Ks Q R h kk => ?_⟩
  show ta σ H fun vs H1 => spOf X.K n sp (vs ++ []) H1 Q E0
  refine qa _ _ _ _ _ _ _ _ R h fun A1 o1 H1 vs s1 xs R1 U1 E1 h1 => ?_
  rw [List.append_nil]
  exact callW_run h1.2.1 (E1.len.trans h1.1) R1 E1 h1.2.2 (kk.up U1)
/-- the slot's object fixed, if it is one -/
def sFrzV (i : Nat) (w : WS) : WS := fun s D => match gt s.es i with | .mu k => frzW k s fun s1 => w s1 D | _ => w s D
theorem dss_frzV {sts : List Stmt} {w : WS} (i : Nat) (h : DSs X sts w) : DSs X sts (sFrzV i w) := by
  obtain ⟨t, p, q⟩ := h.ex
  refine ⟨t, p, fun b A own H σ s D E R h m => ?_⟩
  unfold sFrzV at h
  split at h
  · rename_i k _
    unfold frzW at h
    split at h
    · rename_i ds g
      obtain ⟨R1, k1, _⟩ := R.frz g h.1
      exact q _ _ _ _ _ _ _ _ R1 h.2 (m.up k1)
    · exact h.elim
  · exact q _ _ _ _ _ _ _ _ R h m
end
section
variable {P : Program} {w : World} {K : PySem.W.Frag} {mg : Str → Option Value} {base : Heap}
theorem hu64 {k : Nat} {A : Around} (hr : RoomG k A) : A.units + 64 < cLine := by have := hr.r.un; omega
theorem hu1 {k : Nat} {A : Around} (hr : RoomG k A) : A.units + 1 < cLine := by have := hr.r.un; omega
theorem hu1R {k : Nat} {A : Around} (hr : Room k A) : A.units + 1 < cLine := by have := hr.un; omega
/-- the law: its state begun, then the rest by the D-layer -/
theorem ok_law {x qual : Str} {st : Stmt} {f fB : Addr} {fd fdB : FuncData} {N : List Str} {k : Nat} {rest : List Stmt} {W : WS} {p1 p2 p3 p4 p5 : Pos} {n : Nat}
    (F : Fun K x qual st f fd) (Sc : FnScope N ["_law_script"] (defScope st))
    (hbd : defBody st = .Assign [.Name "_law_state" p1] (.Call (.Name "_law_begin" p2) [.Name "_law_script" p3] [] p4) p5 :: rest)
    (hN : N = ("_law_script" : Str) :: ("_law_state" : Str) :: N.drop 2) (hn : (N.drop 2).length = n)
    (hloc : Loc (defScope st) ("_law_state" : Str)) (hs0 : Vis (defScope st) ("_law_script" : Str))
    (hgl : (defScope st).names.lookup ("_law_begin" : Str) = some .globalImplicit)
    (GB : FnOk P w K mg base CX0 k fB fdB ["_law_script"] (spBeginH K)) (FB : PySem.W.keepIn K (.ref fB) = true) (bB : Binds K fdB ["_law_script"] []) (gB : mg "_law_begin" = some (.ref fB))
    (hb : ∀ (cdv : Value) (A : Around) (outer : List Env) (s : Shared) (H : Hp) (E : XK), RoomG k (A.deeper (PyProof.Rows.envOfC qual (defScope st) s.heap.objs.size f cdv)) → DSs (cxOf CX0 P w K mg base N qual (defScope st) f cdv A outer s H E).nox rest W)
    (hW : W ⟨.no :: .mu 0 :: nos n, [.rnd fuel0], 0⟩ endLaw) : FnOkG P w K mg base CX0 (k + 1) f fd ["_law_script"] (spLawH K) := by
  refine fun_okG F Sc (fun vs H Q E h => ?_) (fun cdv A outer s H vs Q E hr h => ?_)
  · obtain ⟨a, ns, rfl, _⟩ := h
    rfl
  · obtain ⟨a, ns, rfl, hS, hlen, q⟩ := h
    obtain ⟨t, pt, qt⟩ := (hb cdv A outer s H E hr).ex
    have e0 : N[0]? = some ("_law_script" : Str) := by rw [hN]; rfl
    have e1 : N[1]? = some ("_law_state" : Str) := by rw [hN]; rfl
    rw [hbd]
    refine ⟨_, pss_cons (ps_set (i := 1) Sc.nd e1 hloc (pe_call GB hr.r hgl gB FB bB .nil pass0 (pa_cons (pe_var e0 hs0) pa_nil)) (hf := .inl rfl)) pt, ?_⟩
    have hst : L2.start N [V.ref a] = some (V.ref a) :: none :: List.replicate n none := by
      unfold L2.start
      rw [hN]
      simp [List.replicate_succ, hn]
    rw [hst]
    refine ⟨.ref a, rfl, a, ns, rfl, hS, fun H1 ad c cs hx ha hc na nc hac l1 l2 => ?_⟩
    refine qt ⟨H, [], fun _ => False⟩ (fun b => b = ad ∨ b = c) [[ad, c]] H1 _ ⟨.no :: .mu 0 :: nos n, [.rnd fuel0], 0⟩ endLaw _ ⟨⟨rfl, fun j => ?_, fun j j' b h1 h2 => ?_, fun j => ?_, fun j b hb => ?_, fun b hb => ?_⟩, ?_, fun i => ?_, fun _ h => h.elim, fun b o _ h => hx b o h, fun j b hb => ?_, rfl, Nat.zero_le _, fun b hb => ?_, fun _ h => h.elim⟩ hW ?_
    · match j with
      | 0 => exact ⟨ad, c, cs, 0, rfl, ha, hc, l1, l2, by omega, by decide⟩
      | j + 1 => trivial
    · match j, j', h1, h2 with
      | 0, 0, _, _ => rfl
      | 0, j' + 1, _, h2 => cases h2
      | j + 1, _, h1, _ => cases h1
    · match j with
      | 0 => exact List.nodup_cons.mpr ⟨by simpa using hac, by simp⟩
      | j + 1 => exact List.nodup_nil
    · match j, hb with
      | 0, hb =>
        rcases List.mem_cons.mp hb with rfl | hb
        · exact .inl rfl
        · exact .inr (List.mem_singleton.mp hb)
      | j + 1, hb => cases hb
    · rcases hb with rfl | rfl
      · rw [ha]; intro z; cases z
      · rw [hc]; intro z; cases z
    · show (((some (V.ref a) :: none :: List.replicate n none).set 1 (some (V.ref ad))).length = _)
      simp [nos_length]
    · match i with
      | 0 => exact .inl rfl
      | 1 => exact .inr ⟨.ref ad, rfl, ad, [c], rfl, rfl⟩
      | i + 2 => exact .inl (gt_nos n i)
    · match j, hb with
      | 0, hb =>
        rcases List.mem_cons.mp hb with rfl | hb
        · exact .inr na
        · cases List.mem_singleton.mp hb; exact .inr nc
      | j + 1, hb => cases hb
    · rcases hb with rfl | rfl
      · exact .inr na
      · exact .inr nc
    · refine ⟨fun A' own' H' σ' s' R' _ h => h.elim, fun A' own' H' σ' s' v x R' _ ex h => ?_, fun _ _ _ _ _ _ _ h => h.elim, fun _ _ _ _ _ _ _ h => h.elim⟩
      cases (show x = .da (.bool true) from h)
      cases ex
      exact q H'
def st0 (xs : List En) (n0 : Nat) (ms : List MO) (np : Nat) : S := ⟨xs ++ nos n0, ms, np⟩
theorem ok_data {x : Str} {st : Stmt} {N ps : List Str} {k n n0 : Nat} {sp : SpD} (hF : ∃ f fd, At K mg x st ps f fd) (Sc : FnScope N ps (defScope st)) (W : WS)
    (hb : ∀ (f : Addr) (cdv : Value) (A : Around) (outer : List Env) (s : Shared) (H : Hp) (E : XK), RoomG k (A.deeper (PyProof.Rows.envOfC x (defScope st) s.heap.objs.size f cdv)) → DSs (cxOf CX0 P w K mg base N x (defScope st) f cdv A outer s H E).nox (defBody st) W)
    (hsp : ∀ xs ms Ks, sp xs ms Ks → xs.length = n → W (st0 xs n0 ms ms.length) (endD Ks)) (hn : ps.length = n := by rfl) (hn0 : N.length - ps.length = n0 := by rfl) : Ok P w K mg base (k + 1) x st ps n sp := by
  obtain ⟨f, fd, a⟩ := hF
  subst hn
  subst hn0
  exact ⟨f, fd, a, fn_data a.F Sc W (hb f) hsp⟩
end
end DL
namespace DL
open PySem L2 PySem.Spec PyProof.Rows
/-! ### a law's own sameness -/
mutual
/-- data that a law's sameness takes; bo: truths, too -/
def okS (bo : Bool) : D → Bool
  | .none => true
  | .bool _ => bo
  | .int _ => true
  | .str x => PyData.canLay0 (.str x)
  | .list ds => okSs bo ds && decide (ds.length ≤ sizeLine)
  | .tuple ds => okSs bo ds && decide (ds.length ≤ sizeLine)
  | .dict _ => false
def okSs (bo : Bool) : List D → Bool
  | [] => true
  | d :: r => okS bo d && okSs bo r
end
mutual
theorem okS_lay {bo : Bool} : ∀ {d : D}, okS bo d = true → d.canLay0 = true
  | .none, _ => by simp [PyData.canLay0]
  | .bool _, _ => by simp [PyData.canLay0]
  | .int _, _ => by simp [PyData.canLay0]
  | .str x, h => by simpa [okS] using h
  | .list ds, h => by
    simp only [okS, Bool.and_eq_true] at h
    simpa [PyData.canLay0] using okSs_lay h.1
  | .tuple ds, h => by
    simp only [okS, Bool.and_eq_true] at h
    simpa [PyData.canLay0] using okSs_lay h.1
  | .dict _, h => by simp [okS] at h
theorem okSs_lay {bo : Bool} : ∀ {ds : List D}, okSs bo ds = true → PyData.canLayAll0 ds = true
  | [], _ => by simp [PyData.canLayAll0]
  | d :: r, h => by
    simp only [okSs, Bool.and_eq_true] at h
    simp [PyData.canLayAll0, okS_lay h.1, okSs_lay h.2]
end
theorem okSs_get {bo : Bool} : ∀ {ds : List D} {i : Nat} {d : D}, okSs bo ds = true → ds[i]? = some d → okS bo d = true
  | [], _, _, _, h => by simp at h
  | x :: r, 0, d, h, e => by
    simp only [okSs, Bool.and_eq_true] at h
    simp at e; subst e; exact h.1
  | x :: r, i + 1, d, h, e => by
    simp only [okSs, Bool.and_eq_true] at h
    exact okSs_get h.2 (by simpa using e)
theorem okSs_of {bo : Bool} : ∀ {ds : List D}, (∀ d ∈ ds, okS bo d = true) → okSs bo ds = true
  | [], _ => rfl
  | x :: r, h => by
    simp only [okSs, Bool.and_eq_true]
    exact ⟨h _ (by simp), okSs_of fun d q => h d (by simp [q])⟩
theorem depth_get : ∀ {ds : List D} {i : Nat} {d : D}, ds[i]? = some d → d.depth ≤ PyData.depthAll ds
  | [], _, _, h => by simp at h
  | x :: r, 0, d, e => by
    simp at e; subst e; simp only [PyData.depthAll]; omega
  | x :: r, i + 1, d, e => by
    have := depth_get (ds := r) (by simpa using e)
    simp only [PyData.depthAll]; omega
theorem depth_of {n : Nat} : ∀ {ds : List D}, (∀ d ∈ ds, d.depth ≤ n) → PyData.depthAll ds ≤ n
  | [], _ => by simp [PyData.depthAll]
  | x :: r, h => by
    have h1 := h x (by simp)
    have h2 := depth_of (n := n) (ds := r) fun d q => h d (by simp [q])
    simp only [PyData.depthAll]; omega
/-- the same data: True -/
def spSame (bo : Bool) (n : Nat) : SpD := fun xs ms Ks => match xs, ms with
  | [.da d, .da e], [] => d = e ∧ okS bo d = true ∧ d.depth < n ∧ n ≤ 60 ∧ Ks [] (.da (.bool true))
  | _, _ => False
theorem shaped_of {bo : Bool} {d : D} (h : okS bo d = true) (hd : d.depth ≤ 64) : SeqAt.shaped d = true := by
  show (d.canLay0 && decide (d.depth ≤ 64)) = true
  rw [okS_lay h, decide_eq_true hd]; rfl
theorem Ok.none {P : Program} {w : World} {K : PySem.W.Frag} {mg : Str → Option Value} {base : Heap} {x : Str} {st : Stmt} {ps : List Str} {n : Nat} {sp : SpD} (hF : ∃ f fd, At K mg x st ps f fd) (h : ∀ xs ms Ks, ¬ sp xs ms Ks) : Ok P w K mg base 0 x st ps n sp := by
  obtain ⟨f, fd, a⟩ := hF
  refine ⟨f, fd, a, ⟨fun vs H Q E q => ?_, fun A outer s H args us vs Q E hr _ he hb hv hs => ?_⟩⟩
  · obtain ⟨_, _, _, _, _, _, _, _, q, _⟩ := q
    exact (h _ _ _ q).elim
  · obtain ⟨_, _, _, _, _, _, _, _, q, _⟩ := hs
    exact (h _ _ _ q).elim
theorem nFr {α : Type} {a : α} [Decidable (a = a)] {A B : Prop} (b : B) : ((!decide (a = a)) = true → A) ∧ ((!decide (a = a)) = false → B) := nF rfl b
theorem bTr {α : Type} {a : α} [Decidable (a = a)] {A B : Prop} (x : A) : (decide (a = a) = true → A) ∧ (decide (a = a) = false → B) := bT rfl x
theorem xT {c : Bool} {A B : Prop} (h : c = true) (a : A) : (c = true → A) ∧ (c = false → B) := ⟨fun _ => a, fun z => by rw [h] at z; cases z⟩
theorem xF {c : Bool} {A B : Prop} (h : c = false) (b : B) : (c = true → A) ∧ (c = false → B) := ⟨fun z => (by rw [h] at z; cases z), fun _ => b⟩
theorem xnF {c : Bool} {A B : Prop} (h : c = true) (b : B) : ((!c) = true → A) ∧ ((!c) = false → B) := ⟨fun z => (by rw [h] at z; cases z), fun _ => b⟩
theorem xnT {c : Bool} {A B : Prop} (h : c = false) (a : A) : ((!c) = true → A) ∧ ((!c) = false → B) := ⟨fun _ => a, fun z => by rw [h] at z; cases z⟩
theorem onO_mk {α : Type} {o : Option α} {f : α → Prop} {x : α} (h : o = some x) (k : f x) : onO o f := by subst h; exact k
/-- all of these calls told True -/
theorem all_true : ∀ n : Nat, (List.replicate n true).all id = true
  | 0 => rfl
  | n + 1 => by rw [List.replicate_succ, List.all_cons, all_true n]; rfl
end DL
namespace DL
open PySem L2 PySem.Spec PyProof.Rows
section
variable {X : Cx} {a b c e : Expr} {wa wb wc we : WE} {pos : Pos} {es : List Expr} {wr : WA}
/-- xs[::-1] of a list: new data -/
def dRevL (we : WE) : WE := fun s Ks => we s fun s1 x => onO (vw s1 x) fun d => match d with | .list ds => Ks s1 (.da (.list ds.reverse)) | _ => False
theorem de_revL {k : Nat} {p1 p2 p3 : Pos} (he : DE X e we) : DE X (.Subscript e (.Slice none none (some (.UnaryOp .USub (.Constant (.int 1) k p1) p2)) p3) pos) (dRevL we) := by
  obtain ⟨te, pe, qe⟩ := he.ex
  refine ⟨_, pe_revL pe, fun b A own H σ s Ks Q R h k => ?_⟩
  show te σ H fun x H1 => ∃ a xs, x = .ref a ∧ SqL X.K H1 a xs ∧ ∀ p, H1 p = none → Q (.ref p) (upd H1 p (.lst xs.reverse))
  refine qe _ _ _ _ _ _ _ _ R h fun A1 o1 H1 v1 s1 x1 R1 U1 E1 h1 => ?_
  obtain ⟨d, hd, h1⟩ := onO_inv h1
  split at h1
  · obtain ⟨a, vs, rfl, q, r⟩ := vw_lst R1 E1 hd
    exact ⟨a, vs, rfl, q, fun p hp => new_lst R1 (k.up U1) r.reverse hp h1⟩
  · exact h1.elim
end
end DL
namespace DL
open PySem L2 PySem.Spec PyProof.Rows
/-! ### a call that only reads: objects that change are lent as data; what comes back is a number, a truth, a text or None -/
def viL (s : S) : List En → Option (List En)
  | [] => some []
  | x :: r => match vw s x with
    | some d => (match viL s r with | some ys => some (.da d :: ys) | none => none)
    | none => none
def scD : D → Bool
  | .none => true
  | .bool _ => true
  | .int _ => true
  | .str _ => true
  | _ => false
theorem Rp.scal {K : PySem.W.Frag} {A A' : Addr → Prop} {H H' : Hp} {v : V} {d : D} (r : Rp K A H v d) (h : scD d = true) : Rp K A' H' v d := by
  cases r with
  | non => exact .non
  | bl c => exact .bl c
  | int i => exact .int i
  | str x => exact .str x
  | lst l r => cases h
  | tup l r => cases h
  | dct l n r => cases h
theorem vi_er {K : PySem.W.Frag} {b : Bd} {A : Addr → Prop} {own : List (List Addr)} {H : Hp} {σ : L2.St} {s : S} (R : Rel K b A own H σ s) {v : V} {x : En} {d : D} (h : ER K A own H v x) (e : vw s x = some d) : Rp K (fun _ => False) H v d := by
  have kp : Kp A H (fun _ => False) H := fun _ _ _ r => ⟨r, fun z => z⟩
  cases x with
  | no => cases e
  | da d' => cases e; exact Rp.mono kp h
  | mu k =>
    obtain ⟨a, r, g, rfl⟩ := h
    have m := R.mr k
    unfold vw at e
    simp only at e
    cases q : gm s.ms k with
    | lst ds =>
      rw [q] at e m
      cases e
      obtain ⟨a', vs, e1, e2, e3⟩ := m
      rw [e1] at g
      cases g
      exact .lst ⟨e2, fun z => z⟩ (RpL.mono kp e3)
    | gone => rw [q] at e; cases e
    | dct _ => rw [q] at e; cases e
    | rnd _ => rw [q] at e; cases e
    | box _ => rw [q] at e; cases e
    | tab _ => rw [q] at e; cases e
    | ins _ _ => rw [q] at e; cases e
theorem vi_erl {K : PySem.W.Frag} {b : Bd} {A : Addr → Prop} {own : List (List Addr)} {H : Hp} {σ : L2.St} {s : S} (R : Rel K b A own H σ s) : ∀ {vs : List V} {xs ys : List En}, ERL K A own H vs xs → viL s xs = some ys → ERL K (fun _ => False) [] H vs ys
  | [], [], _, _, e => by cases e; trivial
  | v :: vs, x :: xs, ys, ⟨h, t⟩, e => by
    unfold viL at e
    split at e
    · rename_i d q
      split at e
      · rename_i zs q2
        cases e
        exact ⟨vi_er R h q, vi_erl R t q2⟩
      · cases e
    · cases e
def CallB (sp : SpD) : S → List En → (S → En → Prop) → Prop := fun s xs Ks => onO (viL s xs) fun ys => sp ys [] fun _ r => daI r fun d => scD d = true ∧ Ks s (.da d)
theorem Own.none (K : PySem.W.Frag) (H : Hp) : Own K (fun _ => False) [] H [] := ⟨rfl, fun _ => trivial, fun _ _ _ h => (by cases h), fun _ => List.nodup_nil, fun _ _ h => (by cases h), fun _ h => h.elim⟩
section
variable {X : Cx} {e : Expr} {es : List Expr} {wr : WA}
theorem de_callB' {k : Nat} {st : Stmt} {ps : List Str} {sp : SpD} {x : Str} {p pos : Pos} {n : Nat} (O : Ok X.prog X.w X.K X.mg X.base k x st ps n sp) (hr : RoomG k X.A) (hg : Gl X x)
    (ha : DAn X (e :: es) n wr) (hdb : (x == ("__debug__" : Str)) = false := by decide) (he : starEach (e :: es) X.env = (false, eval e X.env) :: starEach es X.env := by rfl) (hpl : (backTo pos (starEach es X.env)).any (·.1) = false := by rfl) :
    DE X (.Call (.Name x p) (e :: es) [] pos) (dCall (CallB sp) wr) := by
  obtain ⟨f, fd, a, F⟩ := O.ex
  obtain ⟨ta, pa, qa⟩ := ha.ex
  refine ⟨_, pe_callG F hr.r hr.g hg a.g a.kp a.b .nil (pass0 (X := X)) pa hdb he hpl, fun b A own H σ s Ks Q R h kk => ?_⟩
  show ta σ H fun vs H1 => spOf X.K n sp (vs ++ []) H1 Q E0
  refine qa _ _ _ _ _ _ _ _ R h fun A1 o1 H1 vs s1 xs R1 U1 E1 h1 => ?_
  rw [List.append_nil]
  obtain ⟨ys, hy, h2⟩ := onO_inv h1.2
  refine ⟨fun _ => False, [], ys, [], _, E1.len.trans h1.1, vi_erl R1 E1 hy, Own.none _ _, h2, fun A' own' H' v ms' r _ _ _ _ fr _ er hk => ?_⟩
  obtain ⟨d, rfl, hs, hk⟩ := daI_inv hk
  obtain ⟨R2, U2⟩ := R1.ext (H' := H') fun a o q => fr a o (fun k z => by cases z) q
  exact kk.da R2 (U1.trans U2) (Rp.scal er hs) hk
end
end DL
namespace DL
open PySem L2 PySem.Spec PyProof.Rows
section
variable {X : Cx} {a b c e : Expr} {wa wb wc we : WE} {pos : Pos} {es : List Expr} {wr : WA}
/-- min of three numbers -/
def cMin3 : S → List En → (S → En → Prop) → Prop := fun s xs Ks => a3 xs fun x y z => iI x y fun i j => i1 z fun k => Ks s (.da (.int (min (min i j) k)))
theorem cd_min3 {K : PySem.W.Frag} : CallD K (rNuC3 nuMin3) cMin3 := by
  intro b A own H σ s vs xs Ks Q R E h k
  match xs, vs, E, h with
  | [x, y, z], [v, u, w], ⟨e1, e2, e3, _⟩, h =>
    have h : iI x y fun i j => i1 z fun k => Ks s (.da (.int (min (min i j) k))) := h
    obtain ⟨i, j, rfl, rfl, h⟩ := iI_inv h
    obtain ⟨l, rfl, h⟩ := i1_inv h
    cases e1; cases e2; cases e3
    refine ⟨_, _, _, .int (min (min i j) l), rfl, ?_, k.da R Up.refl (.int _) h⟩
    show ((Option.map (fun c => if c = true then V.int j else V.int i) (some (decide (j < i)))).bind fun m => (nuLt (.int l) m).map fun c => if c = true then V.int l else m) = _
    by_cases h1 : j < i
    · rw [decide_eq_true h1]
      show (Option.map (fun c => if c = true then V.int l else V.int j) (some (decide (l < j)))) = _
      by_cases h2 : l < j
      · rw [decide_eq_true h2]; show some (V.int l) = _; congr 2; omega
      · rw [decide_eq_false h2]; show some (V.int j) = _; congr 2; omega
    · rw [decide_eq_false h1]
      show (Option.map (fun c => if c = true then V.int l else V.int i) (some (decide (l < i)))) = _
      by_cases h2 : l < i
      · rw [decide_eq_true h2]; show some (V.int l) = _; congr 2; omega
      · rw [decide_eq_false h2]; show some (V.int i) = _; congr 2; omega
theorem de_min3 {p : Pos} (hc : X.calm = true) (hg : Gl X "min") (hm : X.mg "min" = none) (ha : DE X a wa) (hb : DE X b wb) (hcc : DE X c wc)
    (he : starEach (a :: [b, c]) X.env = (false, eval a X.env) :: starEach [b, c] X.env := by rfl) (he2 : starEach (b :: [c]) X.env = (false, eval b X.env) :: starEach [c] X.env := by rfl) (he3 : starEach (c :: []) X.env = (false, eval c X.env) :: starEach [] X.env := by rfl)
    (hpl : (backTo pos (starEach [b, c] X.env)).any (·.1) = false := by rfl) : DE X (.Call (.Name "min" p) [a, b, c] [] pos) (dCall cMin3 (aCons wa (aCons wb (aCons wc aNil)))) :=
  de_callB (call_min3Nu hc) cd_min3 hg hm (by decide +kernel) (da_cons ha (da_cons hb (da_cons hcc da_nil he3) he2) he) (he := he) (hpl := hpl)
/-- the first place of a number in a list of numbers -/
def dIndexI (wa wb : WE) : WE := fun s Ks => wa s fun s1 x => ∃ ns : List Int, x = .da (.list (ns.map .int)) ∧ wb s1 fun s2 y => i1 y fun v => ∃ j : Nat, ns[j]? = some v ∧ (∀ m, m < j → ns[m]? ≠ some v) ∧ Ks s2 (.da (.int (j : Nat)))
theorem de_indexI {apos cpos : Pos} (ho : DE X a wa) (hi : DE X b wb)
    (hbase : attributeBase a "index" X.env (eval a X.env) = eval a X.env := by rfl)
    (hfew : ((backTo cpos (starEach (b :: []) X.env)).all (fun x => !x.1) && (backToKw cpos (keywordEach [] X.env)).all (fun x => x.1.isSome)
      && decide ((b :: []).length + ([] : List Keyword).length + (if ([] : List Keyword).isEmpty then 0 else 1) < 30)) = true := by rfl)
    (hline : (apos.endLine == cpos.line) = true := by rfl) (hs : starEach (b :: []) X.env = (false, eval b X.env) :: starEach [] X.env := by rfl) (hplain : (backTo cpos (starEach [] X.env)).any (·.1) = false := by rfl) :
    DE X (.Call (.Attribute a "index" apos) [b] [] cpos) (dIndexI wa wb) := by
  obtain ⟨ta, pa, qa⟩ := ho.ex
  obtain ⟨tr, pr, qr⟩ := (da_cons hi da_nil hs).ex
  refine ⟨_, pe_bm PySem.F.plainAttrs_list PySem.F.slot_list_index PySem.F.type_list_index mt_index pa pr hbase hfew hline hs hplain, fun b A own H σ s Ks Q R h k => ?_⟩
  show ta σ H fun x H1 => tyV X.K "list" x H1 ∧ tr σ H1 fun xs H2 => rIndex X.K x xs H2 Q
  refine qa _ _ _ _ _ _ _ _ R h fun A1 o1 H1 v1 s1 x1 R1 U1 E1 h1 => ?_
  obtain ⟨ns, rfl, h1⟩ := h1
  obtain ⟨p, us, rfl, l1, r1⟩ : ∃ p us, v1 = .ref p ∧ LsR A1 H1 p us ∧ RpL X.K A1 H1 us (ns.map .int) := by
    cases (show Rp X.K A1 H1 v1 (.list (ns.map .int)) from E1) with
    | lst l r => exact ⟨_, _, rfl, l, r⟩
  obtain rfl := RpL.ofInts r1
  refine ⟨.inl ⟨rfl, _, l1.sq⟩, ?_⟩
  refine qr _ _ _ _ _ _ (fun s2 xs => a1 xs fun y => i1 y fun v => ∃ j : Nat, ns[j]? = some v ∧ (∀ m, m < j → ns[m]? ≠ some v) ∧ Ks s2 (.da (.int (j : Nat)))) _ R1 h1 fun A2 o2 H2 vs s2 xs R2 U2 E2 h2 => ?_
  obtain ⟨v, y, rfl, E3, h2⟩ := a1_inv E2 h2
  obtain ⟨z, rfl, j, hj, hlt, h2⟩ := i1_inv h2
  cases E3
  have l2 : LsR A2 H2 p (ns.map V.int) := U2.kp _ _ l1.2 l1.1
  refine ⟨p, ns.map V.int, .int z, j, .int z, rfl, rfl, l2.sq, rfl, ?_, ?_, ?_, fun m z' hm hz => ?_, (k.up (U1.trans U2)).da R2 Up.refl (.int _) h2⟩
  · rw [List.all_map]; exact List.all_eq_true.mpr fun _ _ => rfl
  · rw [List.getElem?_map, hj]; rfl
  · show (z == z) = true
    simp
  · rw [List.getElem?_map] at hz
    cases q : ns[m]? with
    | none => rw [q] at hz; cases hz
    | some z2 =>
      rw [q] at hz
      cases hz
      show (z2 == z) = false
      have := hlt m hm
      rw [q] at this
      simp
      intro e
      exact this (by rw [e])
end
end DL
namespace DL
open PySem L2 PySem.Spec PyProof.Rows
section
variable {X : Cx} {a b c e : Expr} {wa wb wc we : WE} {pos : Pos} {es : List Expr} {wr : WA}
/-! ### int(..) of a number, a truth, a text -/
def cInt : S → List En → (S → En → Prop) → Prop := fun s xs Ks => a1 xs fun x => daI x fun d => match d with
  | .int i => Ks s (.da (.int i))
  | .bool k => Ks s (.da (.int (if k = true then 1 else 0)))
  | .str z => ∃ n, PySem.intText? z = some n ∧ z.length ≤ 640 ∧ Ks s (.da (.int n))
  | _ => False
def rInt : List V → Hp → VK → Prop := fun xs H Q => ((∃ i, xs = [.int i] ∧ Q (.int i) H) ∨ ∃ k, xs = [.bl k] ∧ Q (.int (if k then 1 else 0)) H) ∨ ∃ a n, xs = [.str a] ∧ PySem.intText? a = some n ∧ a.length ≤ 640 ∧ Q (.int n) H
theorem cr_int : CallR X (.type "int") rInt := fun pins s σ H vs us Q I r h => h.elim (fun h => call_int1 pins s σ H vs us Q I r h) fun h => call_int_str pins s σ H vs us Q I r h
theorem cd_int {K : PySem.W.Frag} : CallD K rInt cInt := by
  intro b A own H σ s vs xs Ks Q R E h k
  obtain ⟨v, x, rfl, e1, h⟩ := a1_inv E h
  obtain ⟨d, rfl, h⟩ := daI_inv h
  cases d with
  | int i => cases e1; exact .inl (.inl ⟨i, rfl, k.da R Up.refl (.int i) h⟩)
  | bool c => cases e1; exact .inl (.inr ⟨c, rfl, k.da R Up.refl (.int _) h⟩)
  | str z =>
    cases e1
    obtain ⟨n, h1, h2, h3⟩ := h
    exact .inr ⟨z, n, rfl, h1, h2, k.da R Up.refl (.int n) h3⟩
  | none => exact h.elim
  | list _ => exact h.elim
  | tuple _ => exact h.elim
  | dict _ => exact h.elim
theorem de_int1 {p : Pos} (hg : Gl X "int") (hm : X.mg "int" = none) (ha : DE X a wa) (he : starEach (a :: []) X.env = (false, eval a X.env) :: starEach [] X.env := by rfl) : DE X (.Call (.Name "int" p) [a] [] pos) (dCall cInt (aCons wa aNil)) := de_callTy cr_int cd_int hg hm (by decide +kernel) (da_cons ha da_nil he) (he := he)
/-! ### str(..) of a number, a text -/
def cStr1 : S → List En → (S → En → Prop) → Prop := fun s xs Ks => a1 xs fun x => i1 x fun i => i.natAbs.log2 < 1920 ∧ Ks s (.da (.str (toString i)))
theorem cd_strI {K : PySem.W.Frag} : CallD K (fun xs H Q => ∃ i, xs = [.int i] ∧ i.natAbs.log2 < 1920 ∧ Q (.str (toString i)) H) cStr1 := by
  intro b A own H σ s vs xs Ks Q R E h k
  obtain ⟨v, x, rfl, e1, h⟩ := a1_inv E h
  obtain ⟨i, rfl, h1, h2⟩ := i1_inv h
  cases e1
  exact ⟨i, rfl, h1, k.da R Up.refl (.str _) h2⟩
theorem de_strI {p : Pos} (hg : Gl X "str") (hm : X.mg "str" = none) (ha : DE X a wa) (he : starEach (a :: []) X.env = (false, eval a X.env) :: starEach [] X.env := by rfl) : DE X (.Call (.Name "str" p) [a] [] pos) (dCall cStr1 (aCons wa aNil)) := de_callTy call_str_int cd_strI hg hm (by decide +kernel) (da_cons ha da_nil he) (he := he)
/-! ### min, max of data -/
def fitD (ds : List D) : Prop := PyData.canLayAll0 ds = true ∧ PyData.depthAll ds ≤ 60
theorem vals_back : ∀ {xs : List V} {us : List Value} {i : Nat} {u : Value}, Vals xs us → us[i]? = some u → ∃ x, xs[i]? = some x ∧ RelV x u
  | _, _, _, _, .nil, h => by simp at h
  | _, _, 0, _, .cons r _, h => by simp at h; subst h; exact ⟨_, rfl, r⟩
  | _, _, i + 1, _, .cons _ t, h => by
    obtain ⟨x, h1, h2⟩ := vals_back (i := i) t (by simpa using h)
    exact ⟨x, by simpa using h1, h2⟩
theorem plain_mem : ∀ {xs : List PyData} {x : PyData}, PyData.plainAll xs = true → x ∈ xs → x.plain = true
  | _ :: _, _, h, hx => by
    rw [PyData.plainAll, Bool.and_eq_true] at h
    rcases List.mem_cons.mp hx with rfl | hx
    · exact h.1
    · exact plain_mem h.2 hx
def cMinD : S → List En → (S → En → Prop) → Prop := fun s xs Ks => a1 xs fun x => ∃ (d : D) (ds : List D), vw s x = some (.list (d :: ds)) ∧ PySem.W.AlikeAll (d :: ds) ∧ fitD (d :: ds) ∧ Ks s (.da (PySem.W.minD d ds))
def rMinD (K : PySem.W.Frag) : List V → Hp → VK → Prop := fun vs H Q => ∃ (a : Addr) (xs : List V) (d : D) (ds : List D), vs = [.ref a] ∧ SqL K H a xs ∧ DpAll K H xs (d :: ds) ∧ PySem.W.AlikeAll (d :: ds) ∧ fitD (d :: ds) ∧ ∀ (i : Nat) v, xs[i]? = some v → (d :: ds)[i]? = some (PySem.W.minD d ds) → Q v H
theorem cr_minD (hc : X.calm = true) (hu : X.A.units + 64 < cLine) : CallR X (.builtin "min") (rMinD X.K) := by
  intro pins s σ H vs us Q I r h
  obtain ⟨a, xs, d, ds, rfl, hs, hd, hal, ⟨hf1, hf2⟩, q⟩ := h
  obtain ⟨its, rv, hl, hz⟩ := I.list hs
  rw [Vals.ref1 r]
  obtain ⟨as, hr⟩ := Dp.readsAll I (d :: ds) xs its hd rv
  refine PySem.W.min_list_data (I.ok.hd hc) hl.isList (vs := its.toArray) hr hal (by omega) fun i v h' tk bs hv hrd hk => ?_
  have hv' : its[i]? = some v := by simpa using hv
  obtain ⟨x, hx, rx⟩ := vals_back rv hv'
  refine ⟨x, H, I.kept hk, rx, q i x hx ?_⟩
  obtain ⟨bs', r1, hi, hm2, _⟩ := PySem.W.readsAll_at hr i v hv'
  have pl : PyData.plainAll (d :: ds) = true := PyData.plainAll_of_canLay0 _ hf1
  have e := PySem.SeqAt.plain_unique _ _ v _ _ (plain_mem pl hm2) (Reads.keeps hk r1) hrd
  rw [List.getElem?_eq_getElem hi]
  rw [List.getD_eq_getElem?_getD, List.getElem?_eq_getElem hi] at e
  exact congrArg some e
theorem vw_lstAll {K : PySem.W.Frag} {b : Bd} {A : Addr → Prop} {own : List (List Addr)} {H : Hp} {σ : L2.St} {s : S} (R : Rel K b A own H σ s) {v : V} {x : En} {ds : List D} (h : ER K A own H v x) (e : vw s x = some (.list ds)) :
    ∃ a vs, v = .ref a ∧ SqL K H a vs ∧ RpL K A H vs ds := vw_lst R h e
theorem cd_minD {K : PySem.W.Frag} : CallD K (rMinD K) cMinD := by
  intro b A own H σ s vs xs Ks Q R E h k
  obtain ⟨v, x, rfl, e1, h⟩ := a1_inv E h
  obtain ⟨d, ds, hd, hal, hf, h⟩ := h
  obtain ⟨a, us, rfl, q, r⟩ := vw_lst R e1 hd
  refine ⟨a, us, d, ds, rfl, q, r.dp hf.1, hal, hf, fun i v hv hi => ?_⟩
  obtain ⟨y, hy, ry⟩ := r.get hi
  rw [hv] at hy
  cases hy
  exact k.da R Up.refl ry h
theorem de_minD {p : Pos} (hc : X.calm = true) (hu : X.A.units + 64 < cLine) (hg : Gl X "min") (hm : X.mg "min" = none) (ha : DE X a wa) (he : starEach (a :: []) X.env = (false, eval a X.env) :: starEach [] X.env := by rfl) : DE X (.Call (.Name "min" p) [a] [] pos) (dCall cMinD (aCons wa aNil)) := de_callB (cr_minD hc hu) cd_minD hg hm (by decide +kernel) (da_cons ha da_nil he) (he := he)
/-! ### x in a list, in a tuple -/
def rInS (K : PySem.W.Frag) (neg : Bool) : R2 := fun x y H Q => ∃ (d : D) (ds : List D), Dp K H x d ∧ (Dp K H y (.list ds) ∨ Dp K H y (.tuple ds)) ∧ fitD [d] ∧ fitD ds ∧ Q (.bl (xr neg (ds.any fun z => PyData.eqv z d))) H
theorem fit_room {A : Around} {d : D} {ds : List D} (h : fitD [d]) (hu : A.units + 64 < cLine) : A.units + 1 + min (PyData.depthAll ds) d.depth < cLine := by
  have h2 := h.2
  simp only [PyData.depthAll] at h2
  have : min (PyData.depthAll ds) d.depth ≤ d.depth := Nat.min_le_right _ _
  omega
theorem fit_one {d : D} (h : fitD [d]) : d.canLay0 = true := by
  have := h.1
  simp only [PyData.canLayAll0, Bool.and_eq_true] at this
  exact this.1
theorem op_inS2 (hu : X.A.units + 64 < cLine) : OpR X (compareOp .In) (rInS X.K false) := by
  intro pins s σ H x y v u Q I rx ry h
  obtain ⟨d, ds, hd, he, fd, fs, q⟩ := h
  obtain ⟨as, r1⟩ := Dp.reads I d x v hd rx
  rcases he with he | he
  · obtain ⟨bs, r2⟩ := Dp.reads I (.list ds) y u he ry
    exact SeqAt.in_list_reads r2 r1 fs.1 (fit_one fd) (fit_room fd hu) ⟨.bl _, H, I, rfl, q⟩
  · obtain ⟨bs, r2⟩ := Dp.reads I (.tuple ds) y u he ry
    exact SeqAt.in_tuple_reads r2 r1 fs.1 (fit_one fd) (fit_room fd hu) ⟨.bl _, H, I, rfl, q⟩
theorem op_notInS2 (hu : X.A.units + 64 < cLine) : OpR X (compareOp .NotIn) (rInS X.K true) := by
  intro pins s σ H x y v u Q I rx ry h
  obtain ⟨d, ds, hd, he, fd, fs, q⟩ := h
  obtain ⟨as, r1⟩ := Dp.reads I d x v hd rx
  rcases he with he | he
  · obtain ⟨bs, r2⟩ := Dp.reads I (.list ds) y u he ry
    exact SeqAt.notIn_list_reads r2 r1 fs.1 (fit_one fd) (fit_room fd hu) ⟨.bl _, H, I, rfl, q⟩
  · obtain ⟨bs, r2⟩ := Dp.reads I (.tuple ds) y u he ry
    exact SeqAt.notIn_tuple_reads r2 r1 fs.1 (fit_one fd) (fit_room fd hu) ⟨.bl _, H, I, rfl, q⟩
def rdInD (neg : Bool) : S → En → En → (S → En → Prop) → Prop := fun s x y Ks => vw2 s x y fun d e => onO (seqD e) fun ds => fitD [d] ∧ fitD ds ∧ Ks s (.da (.bool (xr neg (ds.any fun z => PyData.eqv z d))))
theorem opd_inD {K : PySem.W.Frag} {neg : Bool} : OpD K (rInS K neg) (rdInD neg) := by
  intro b A own H σ s vx vy x y Ks Q R e1 e2 h k
  obtain ⟨d, hd, h⟩ := onO_inv h
  obtain ⟨e, he, h⟩ := onO_inv h
  obtain ⟨ds, hs, f1, f2, h⟩ := onO_inv h
  refine ⟨d, ds, vw_dp R e1 hd (by have := f1.1; rw [PyData.canLayAll0, Bool.and_eq_true] at this; exact this.1), ?_, f1, f2, k.da R Up.refl (.bl _) h⟩
  have q := vw_dp R e2 he
  cases e with
  | list es => cases hs; exact .inl (q (by simpa only [PyData.canLay0] using f2.1))
  | tuple es => cases hs; exact .inr (q (by simpa only [PyData.canLay0] using f2.1))
  | _ => cases hs
theorem de_inD (hu : X.A.units + 64 < cLine) (ha : DE X a wa) (hb : DE X b wb) (hm : behindInMarks .In b = false := by rfl) : DE X (.Compare a [.In] [b] pos) (d2 (rdInD false) wa wb) := de_cmp (op_inS2 hu) opd_inD ha hb hm
theorem de_notinD (hu : X.A.units + 64 < cLine) (ha : DE X a wa) (hb : DE X b wb) (hm : behindInMarks .NotIn b = false := by rfl) : DE X (.Compare a [.NotIn] [b] pos) (d2 (rdInD true) wa wb) := de_cmp (op_notInS2 hu) opd_inD ha hb hm
theorem dt_inD (hu : X.A.units + 64 < cLine) (ha : DE X a wa) (hb : DE X b wb) (hm : behindInMarks .In b = false := by rfl) : DT X (.Compare a [.In] [b] pos) (tT (d2 (rdInD false) wa wb)) := dt_cmp (op_inS2 hu) opd_inD ha hb hm
theorem dt_notinD (hu : X.A.units + 64 < cLine) (ha : DE X a wa) (hb : DE X b wb) (hm : behindInMarks .NotIn b = false := by rfl) : DT X (.Compare a [.NotIn] [b] pos) (tT (d2 (rdInD true) wa wb)) := dt_cmp (op_notInS2 hu) opd_inD ha hb hm
/-! ### sorted(..) of a list of data -/
def sortD (ds : List D) : List D := ds.mergeSort (PySem.W.dataLe false id)
def canSort (ds : List D) : Prop := PySem.W.AllAlike ds ∧ PySem.W.Sortable ds ∧ fitD ds
def rSortedD (K : PySem.W.Frag) : List V → Hp → VK → Prop := fun vs H Q => ∃ (a : Addr) (zs : List (V × D)), vs = [.ref a] ∧ SqL K H a (zs.map (·.1)) ∧ DpAll K H (zs.map (·.1)) (zs.map (·.2)) ∧ canSort (zs.map (·.2)) ∧
  ∀ p, H p = none → Q (.ref p) (upd H p (.lst ((zs.mergeSort (PySem.W.dataLe false (·.2))).map (·.1))))
theorem each_vals {h : Heap} : ∀ {zs : List (V × D)} {us : List Value} {as : List Addr}, Vals (zs.map (·.1)) us → ReadsAll h us (zs.map (·.2)) as → PySem.W.EachIs (fun (u : Value) (z : V × D) => RelV z.1 u) us zs ∧ PySem.W.EachIs (fun (u : Value) (z : V × D) => ∃ as, Reads h u z.2 as) us zs
  | [], _, _, .nil, _ => ⟨.nil, .nil⟩
  | z :: zs, _, _, .cons r t, .cons r2 t2 => by
    obtain ⟨h1, h2⟩ := each_vals t t2
    exact ⟨.cons r h1, .cons ⟨_, r2⟩ h2⟩
theorem vals_each : ∀ {zs : List (V × D)} {us : List Value}, PySem.W.EachIs (fun (u : Value) (z : V × D) => RelV z.1 u) us zs → Vals (zs.map (·.1)) us
  | _, _, .nil => .nil
  | _, _, .cons r t => .cons r (vals_each t)
theorem depth_le_all {ds : List D} {d : D} (h : d ∈ ds) : d.depth ≤ PyData.depthAll ds := by
  obtain ⟨i, hi⟩ := List.getElem?_of_mem h
  exact depth_get hi
theorem cr_sortedD (hu : X.A.units + 64 < cLine) : CallR X (.builtin "sorted") (rSortedD X.K) := by
  intro pins s σ H vs us Q I r h
  obtain ⟨a, zs, rfl, hs, hd, ⟨c1, c2, c3, c4⟩, q⟩ := h
  obtain ⟨its, rv, hl, hz⟩ := I.list hs
  rw [Vals.ref1 r]
  obtain ⟨as, hr⟩ := Dp.readsAll I _ _ its hd rv
  obtain ⟨h1, h2⟩ := each_vals rv hr
  refine PySem.W.sorted_data (enc := fun z : V × D => z.2) hl.isList h1 h2 c1 c2 (by rw [List.length_map] at hz; exact hz) (fun z hm => ?_) fun out h3 h4 => ?_
  · have := depth_le_all (List.mem_map_of_mem (f := fun z : V × D => z.2) hm)
    omega
  · obtain ⟨ep, he'⟩ := PyProof.Rows.sortedAll_at s.heap its out.toArray
    refine ⟨.ref _, upd H (s.heap.objs.size + 1) (.lst ((zs.mergeSort (PySem.W.dataLe false (·.2))).map (·.1))), I.laid (t' := s.toks) (fun _ _ => PyProof.Rows.sortedAll_old) (Nat.le_succ _) ⟨?_, out, ep, vals_each h4, he'⟩, rfl, q _ (I.hok.fresh (Nat.le_succ _))⟩
    rw [List.length_map, List.length_mergeSort]
    rw [List.length_map] at hz
    exact hz
theorem rpl_zip {K : PySem.W.Frag} {A : Addr → Prop} {H : Hp} : ∀ {vs : List V} {ds : List D}, RpL K A H vs ds → ∃ zs : List (V × D), zs.map (·.1) = vs ∧ zs.map (·.2) = ds ∧ ∀ z ∈ zs, Rp K A H z.1 z.2
  | _, _, .nil => ⟨[], rfl, rfl, fun _ h => by cases h⟩
  | _, _, .cons r t => by
    obtain ⟨zs, e1, e2, h⟩ := rpl_zip t
    refine ⟨(_, _) :: zs, by rw [List.map_cons, e1], by rw [List.map_cons, e2], fun z hz => ?_⟩
    rcases List.mem_cons.mp hz with rfl | hz
    · exact r
    · exact h z hz
theorem rpl_map {K : PySem.W.Frag} {A : Addr → Prop} {H : Hp} : ∀ {zs : List (V × D)}, (∀ z ∈ zs, Rp K A H z.1 z.2) → RpL K A H (zs.map (·.1)) (zs.map (·.2))
  | [], _ => .nil
  | z :: zs, h => .cons (h z (by simp)) (rpl_map fun y hy => h y (by simp [hy]))
theorem map_sort (zs : List (V × D)) : (zs.mergeSort (PySem.W.dataLe false (·.2))).map (·.2) = sortD (zs.map (·.2)) :=
  List.map_mergeSort fun _ _ _ _ => rfl
def cSortD : S → List En → (S → En → Prop) → Prop := fun s xs Ks => a1 xs fun x => ∃ ds : List D, vw s x = some (.list ds) ∧ canSort ds ∧ Ks s (.da (.list (sortD ds)))
def cSortDM : S → List En → (S → En → Prop) → Prop := fun s xs Ks => a1 xs fun x => ∃ ds : List D, vw s x = some (.list ds) ∧ canSort ds ∧ Ks (s.aM (.lst (sortD ds))) (.mu s.ms.length)
theorem sortD_run {K : PySem.W.Frag} {b : Bd} {A : Addr → Prop} {own : List (List Addr)} {H : Hp} {σ : L2.St} {s : S} {v : V} {x : En} {ds : List D} {Q : VK} (R : Rel K b A own H σ s) (e1 : ER K A own H v x) (hd : vw s x = some (.list ds)) (hc : canSort ds)
    (q : ∀ vs p, RpL K A H vs (sortD ds) → H p = none → Q (.ref p) (upd H p (.lst vs))) : rSortedD K [v] H Q := by
  obtain ⟨a, us, rfl, hs, r⟩ := vw_lst R e1 hd
  obtain ⟨zs, rfl, rfl, hz⟩ := rpl_zip r
  refine ⟨a, zs, rfl, hs, r.dp hc.2.2.1, hc, fun p hp => q _ p ?_ hp⟩
  rw [← map_sort]
  exact rpl_map fun z hm => hz z ((List.mergeSort_perm _ _).mem_iff.mp hm)
theorem cd_sortD {K : PySem.W.Frag} : CallD K (rSortedD K) cSortD := by
  intro b A own H σ s vs xs Ks Q R E h k
  obtain ⟨v, x, rfl, e1, ds, hd, hc, h⟩ := a1_inv E h
  exact sortD_run R e1 hd hc fun vs p r hp => new_lst R k r hp h
theorem cd_sortDM {K : PySem.W.Frag} : CallD K (rSortedD K) cSortDM := by
  intro b A own H σ s vs xs Ks Q R E h k
  obtain ⟨v, x, rfl, e1, ds, hd, hc, h⟩ := a1_inv E h
  exact sortD_run R e1 hd hc fun vs p r hp => new_mu R k r hp h
theorem de_sortD {p : Pos} (hu : X.A.units + 64 < cLine) (hg : Gl X "sorted") (hm : X.mg "sorted" = none) (ha : DE X a wa) (he : starEach (a :: []) X.env = (false, eval a X.env) :: starEach [] X.env := by rfl) : DE X (.Call (.Name "sorted" p) [a] [] pos) (dCall cSortD (aCons wa aNil)) := de_callB (cr_sortedD hu) cd_sortD hg hm (by decide +kernel) (da_cons ha da_nil he) (he := he)
theorem de_sortDM {p : Pos} (hu : X.A.units + 64 < cLine) (hg : Gl X "sorted") (hm : X.mg "sorted" = none) (ha : DE X a wa) (he : starEach (a :: []) X.env = (false, eval a X.env) :: starEach [] X.env := by rfl) : DE X (.Call (.Name "sorted" p) [a] [] pos) (dCall cSortDM (aCons wa aNil)) := de_callB (cr_sortedD hu) cd_sortDM hg hm (by decide +kernel) (da_cons ha da_nil he) (he := he)
end
end DL
namespace DL
open PySem L2 PySem.Spec PyProof.Rows
/-! ### sorted(d.items()), the values ints -/
def itemI (z : Key × Int) : D := .tuple [kD z.1, .int z.2]
def rSortIts : V → Hp → VK → Prop := fun x H Q => ∃ (d : Addr) (kis : List (Key × Int)), x = .ref d ∧ H d = some (.dK (kis.map fun z => (z.1, V.int z.2))) ∧ canSort (kis.map itemI) ∧
  ∀ (H' : Hp) (p : Addr) (ps : List (Addr × Key × Int)), (∀ b o, H b = some o → H' b = some o) → H p = none → ps.map (·.2) = kis.mergeSort (PySem.W.dataLe false itemI) → H' p = some (.lst (ps.map fun z => V.ref z.1)) →
    (∀ z ∈ ps, H z.1 = none ∧ z.1 ≠ p ∧ H' z.1 = some (.tup [kV z.2.1, .int z.2.2])) → Q (.ref p) H'
def tSortIts (te : TE) : TE := fun σ H Q => te σ H fun x H1 => rSortIts x H1 Q
section
variable {X : Cx} {e : Expr} {te : TE} {p apos cpos pos : Pos}
theorem relV_kD {k : Key} {u : Value} (h : RelV (kV k) u) (hp : Heap) : Reads hp u (kD k) [] := by
  cases k with
  | inl i => obtain ⟨t, rfl⟩ := h; exact .int i t
  | inr x => obtain ⟨t, rfl⟩ := h; exact .str x t
theorem each_zip : ∀ {as : List Addr} {kis : List (Key × Int)}, as.length = kis.length → PySem.W.EachIs (fun (u : Value) (z : Addr × Key × Int) => u = .ref z.1) (as.map Value.ref) (as.zip kis)
  | [], [], _ => .nil
  | a :: as, k :: kis, h => .cons rfl (each_zip (Nat.succ.inj h))
  | [], _ :: _, h => by cases h
  | _ :: _, [], h => by cases h
theorem each_ref : ∀ {ps : List (Addr × Key × Int)} {us : List Value}, PySem.W.EachIs (fun (u : Value) (z : Addr × Key × Int) => u = .ref z.1) us ps → us = ps.map fun z => Value.ref z.1
  | _, _, .nil => rfl
  | _, _, .cons r t => by rw [r, each_ref t]; rfl
theorem each_of {R : Value → Addr × Key × Int → Prop} : ∀ {as : List Addr} {kis : List (Key × Int)}, as.length = kis.length → (∀ (j : Nat) a k, as[j]? = some a → kis[j]? = some k → R (.ref a) (a, k)) → PySem.W.EachIs R (as.map Value.ref) (as.zip kis)
  | [], [], _, _ => .nil
  | a :: as, k :: kis, h, q => .cons (q 0 a k rfl rfl) (each_of (Nat.succ.inj h) fun j a k h1 h2 => q (j + 1) a k (by simpa using h1) (by simpa using h2))
  | [], _ :: _, h, _ => by cases h
  | _ :: _, [], h, _ => by cases h
theorem map_zip_snd : ∀ {as : List Addr} {kis : List (Key × Int)}, as.length = kis.length → (as.zip kis).map (·.2) = kis
  | [], [], _ => rfl
  | a :: as, k :: kis, h => by rw [List.zip_cons_cons, List.map_cons, map_zip_snd (Nat.succ.inj h)]
  | [], _ :: _, h => by cases h
  | _ :: _, [], h => by cases h
theorem pairs_at {K : Type} [DecidableEq K] {P : Program} {w : World} {knd : PySem.KeyKind P w K} : ∀ {es : List DictEntry} {kvs : List (K × Value)}, Pairs knd es kvs → ∀ {j : Nat} {e : DictEntry}, es[j]? = some e → ∃ k v, kvs[j]? = some (k, v) ∧ knd.is k e.key = true ∧ e.val = v
  | _, _, .nil, _, _, h => by simp at h
  | _, _, .cons h1 h2 t, 0, _, h => by simp at h; subst h; exact ⟨_, _, rfl, h1, h2⟩
  | _, _, .cons _ _ t, j + 1, _, h => by
    obtain ⟨k, v, e1, e2⟩ := pairs_at t (j := j) (by simpa using h)
    exact ⟨k, v, by simpa using e1, e2⟩
theorem pairs_len {K : Type} [DecidableEq K] {P : Program} {w : World} {knd : PySem.KeyKind P w K} : ∀ {es : List DictEntry} {kvs : List (K × Value)}, Pairs knd es kvs → es.length = kvs.length
  | _, _, .nil => rfl
  | _, _, .cons _ _ t => congrArg (· + 1) (pairs_len t)
theorem cr_items {pins : List (Addr × Obj)} {σ : L2.St} {H : Hp} {s : Shared} {Q : VK} {d r : Addr} {kis : List (Key × Int)} (hc : X.calm = true) (hu : X.A.units + 64 < cLine) (I : Inv X pins σ H s) (view : s.heap.IsItemsView r d) (hd : H d = some (.dK (kis.map fun z => (z.1, V.int z.2)))) (hcs : canSort (kis.map itemI))
    (q : ∀ (H' : Hp) (p : Addr) (ps : List (Addr × Key × Int)), (∀ b o, H b = some o → H' b = some o) → H p = none → ps.map (·.2) = kis.mergeSort (PySem.W.dataLe false itemI) → H' p = some (.lst (ps.map fun z => V.ref z.1)) →
      (∀ z ∈ ps, H z.1 = none ∧ z.1 ≠ p ∧ H' z.1 = some (.tup [kV z.2.1, .int z.2.2])) → Q (.ref p) H') : wpAny (model X.prog X.w) X.A (call (.builtin "sorted") [.ref r]) (EP X pins σ Q) X.xe s := by
  obtain ⟨hz, hs0, vs, kv, hdo⟩ := I.hok d _ hd
  obtain ⟨o, es, ep, ho, hx, hdat, hks, hps, hnd⟩ := id hdo
  have l0 : es.size = kis.length := by
    have h1 := pairs_len hps
    have h2 := Paired.length kv
    rw [List.length_map] at h2
    rw [Array.length_toList] at h1
    omega
  have hz' : kis.length ≤ sizeLine := by rw [List.length_map] at hz; exact hz
  refine DT.sortedI (es := es) (ep := ep) (I.ok.hd hc) view ⟨o, ho, hx, hdat⟩ (by omega) fun h' tk as hk hlt hl hG => ?_
  have lak : as.length = kis.length := by omega
  have nd : as.Nodup := List.Pairwise.imp (fun h => Nat.ne_of_lt h) hG.rise
  have pr : ∀ (j : Nat) (b : Addr), as[j]? = some b → ∃ (k : Key) (i : Int) (uk ui : Value), kis[j]? = some (k, i) ∧ RelV (kV k) uk ∧ RelV (.int i) ui ∧ h'.get? b = some { cls := .type "tuple", data := .seq #[uk, ui] } := by
    intro j b hj
    obtain ⟨en, he, hg⟩ := hG.pairs j b hj
    obtain ⟨k, v, e1, e2, e3⟩ := pairs_at hps (j := j) (e := en) (by simpa using he)
    obtain ⟨y, hy, ry, rv⟩ := DX.pget kv e1
    rw [List.getElem?_map] at hy
    cases q : kis[j]? with
    | none => rw [q] at hy; cases hy
    | some z =>
      rw [q] at hy
      cases hy
      refine ⟨z.1, z.2, en.key, en.val, rfl, ?_, by rw [e3]; exact rv, hg⟩
      rw [show z.1 = k from ry]
      exact relV_key (show keyIs k en.key = true from e2)
  have hob : (h'.push { cls := .type "list", data := .seq (as.map Value.ref).toArray }).get? h'.objs.size = some (seqObj "list" (as.map Value.ref).toArray 0) := Heap.get?_push_size _ rfl
  have kb : ∀ b o, s.heap.get? b = some o → (h'.push { cls := .type "list", data := .seq (as.map Value.ref).toArray }).get? b = some o := fun b o e => Heap.get?_push_of_some _ (hk b o e)
  have ne0 : ∀ b o, h'.get? b = some o → b ≠ h'.objs.size := fun b o e => Nat.ne_of_lt (Heap.lt_size e)
  generalize hh2 : h'.push { cls := .type "list", data := .seq (as.map Value.ref).toArray } = h2 at hob kb ⊢
  have ka : ∀ b o, h'.get? b = some o → h2.get? b = some o := fun b o e => by rw [← hh2]; exact Heap.get?_push_of_some _ e
  have rd : PySem.W.EachIs (fun (v : Value) (z : Addr × Key × Int) => ∃ xs, Reads h2 v (itemI z.2) xs ∧ h'.objs.size ∉ xs) (as.map Value.ref) (as.zip kis) := each_of lak fun j a k h1 h2' => by
    obtain ⟨k', i', uk, ui, e1, e2, e3, e4⟩ := pr j a h1
    rw [h2'] at e1
    cases e1
    obtain ⟨t, rfl⟩ := e3
    have r := relV_kD e2 h2
    refine ⟨_, Reads.tuple (ka _ _ e4) rfl rfl (.cons r (.cons (.int i' t) .nil)), by simp⟩
  have hms : (as.zip kis).map (fun z => itemI z.2) = kis.map itemI := by
    rw [show (as.zip kis).map (fun z => itemI z.2) = ((as.zip kis).map (·.2)).map itemI by rw [List.map_map]; rfl, map_zip_snd lak]
  refine PySem.W.list_sort_data (s := { s with heap := h2, toks := tk }) (vs := as.map Value.ref) (R := fun (u : Value) (z : Addr × Key × Int) => u = .ref z.1) (enc := fun z : Addr × Key × Int => itemI z.2) hob (each_zip lak) rd (by rw [hms]; exact hcs.1) (by rw [hms]; exact hcs.2.1) (by rw [List.length_zip, lak, Nat.min_self]; exact hz') (fun z hz => ?_) fun out h3 h4 => ?_
  · show X.A.units + 1 + 1 + PyData.depth (.tuple [kD z.2.1, .int z.2.2]) < cLine
    have : PyData.depth (.tuple [kD z.2.1, .int z.2.2]) ≤ 1 := by
      cases z.2.1 <;> simp [kD, PyData.depth, PyData.depthAll]
    omega
  · have hout := each_ref h4
    generalize hp : (as.zip kis).mergeSort (PySem.W.dataLe false fun z : Addr × Key × Int => itemI z.2) = ps at hout h4
    have pz : ps.Perm (as.zip kis) := by rw [← hp]; exact List.mergeSort_perm _ _
    have hmap : ps.map (·.2) = kis.mergeSort (PySem.W.dataLe false itemI) := by
      have e := List.map_mergeSort (f := fun z : Addr × Key × Int => z.2) (r := PySem.W.dataLe false fun z : Addr × Key × Int => itemI z.2) (s := PySem.W.dataLe false itemI) (l := as.zip kis) fun _ _ _ _ => rfl
      rw [map_zip_snd lak] at e
      rw [← hp]
      exact e
    have idx : ∀ z ∈ ps, ∃ j : Nat, as[j]? = some z.1 ∧ kis[j]? = some z.2 := by
      intro z' hz'
      obtain ⟨j, hj⟩ := List.mem_iff_getElem?.mp (pz.mem_iff.mp hz')
      exact ⟨j, List.getElem?_zip_eq_some.mp hj⟩
    have kF : ∀ b o, b ≠ h'.objs.size → h2.get? b = some o → (sortedHeap h2 h'.objs.size (as.map Value.ref) out.toArray).get? b = some o := fun b o hb e => (PyProof.Rows.sortedHeap_old hb (Heap.lt_size e)).trans e
    have kS : ∀ b o, s.heap.get? b = some o → (sortedHeap h2 h'.objs.size (as.map Value.ref) out.toArray).get? b = some o := fun b o e => kF b o (ne0 _ _ (hk b o e)) (kb b o e)
    obtain ⟨eF, heF⟩ := PyProof.Rows.sortedHeap_at (vs := as.map Value.ref) (out := out.toArray) hob
    have I1 : Inv X pins σ H { s with heap := sortedHeap h2 h'.objs.size (as.map Value.ref) out.toArray, toks := tk } := I.kept (t' := tk) kS
    have hn0 : H h'.objs.size = none := I.hok.fresh (Nat.le_of_lt hlt)
    have hlen : (ps.map fun z => V.ref z.1).length ≤ sizeLine := by
      have e := pz.length_eq
      rw [List.length_zip, lak, Nat.min_self] at e
      rw [List.length_map]
      omega
    have rv : Vals (ps.map fun z => V.ref z.1) out := by
      rw [hout]
      exact vals_maps (fun z : Addr × Key × Int => V.ref z.1) (fun z => Value.ref z.1) ps fun _ _ => rfl
    have I2 : Inv X pins σ (upd H h'.objs.size (.lst (ps.map fun z => V.ref z.1))) { s with heap := sortedHeap h2 h'.objs.size (as.map Value.ref) out.toArray, toks := tk } :=
      I1.take (h' := sortedHeap h2 h'.objs.size (as.map Value.ref) out.toArray) (t' := tk) (fun b ob _ e => e) (I.fpOk (Nat.le_of_lt hlt) hn0) ⟨hlen, out, eF, rv, heF⟩
    obtain ⟨H2, I3, g, qt⟩ := DX.takeT (P := fun b vs => ∃ (j : Nat) (k : Key) (i : Int), as[j]? = some b ∧ kis[j]? = some (k, i) ∧ vs = [kV k, .int i]) I as _ I2 nd fun b hb => by
      obtain ⟨j, hj⟩ := List.mem_iff_getElem?.mp hb
      obtain ⟨k, i, uk, ui, e1, e2, e3, e4⟩ := pr j b hj
      have hbl : s.heap.objs.size ≤ b := Nat.le_of_lt (hG.above b hb)
      refine ⟨hbl, ?_, [kV k, .int i], ⟨j, k, i, hj, e1, rfl⟩, fun H3 => ⟨(by rw [sizeLine_eq]; show 2 ≤ 16777216; omega), [uk, ui], .cons e2 (.cons e3 .nil), ⟨_, kF _ _ (ne0 _ _ e4) (ka _ _ e4), rfl, 0, rfl⟩⟩⟩
      rw [upd_ne (ne0 _ _ e4)]
      exact I.hok.fresh hbl
    have gr : ∀ b o, H b = some o → H2 b = some o := fun b o e => g b o (by rw [upd_ne (ne_of_none e hn0)]; exact e)
    refine ⟨.ref h'.objs.size, H2, I3, rfl, q H2 h'.objs.size ps gr hn0 hmap (g _ _ upd_same) fun z' hz' => ?_⟩
    obtain ⟨i, i1, i2⟩ := idx z' hz'
    obtain ⟨vs', ⟨j, k, iv, j1, j2, ev⟩, hH⟩ := qt z'.1 (List.mem_of_getElem? i1)
    have eij : i = j := (List.getElem?_inj (List.getElem?_eq_some_iff.mp i1).1 nd).mp (i1.trans j1.symm)
    subst eij
    have ee : (k, iv) = z'.2 := Option.some.inj (j2.symm.trans i2)
    obtain ⟨_, _, _, _, _, _, _, e4⟩ := pr i z'.1 i1
    refine ⟨I.hok.fresh (Nat.le_of_lt (hG.above _ (List.mem_of_getElem? i1))), ne0 _ _ e4, ?_⟩
    rw [ev] at hH
    rw [← ee]
    exact hH
theorem pe_sortIts (hc : X.calm = true) (hu : X.A.units + 64 < cLine) (he : PE X e te) (hg : Gl X "sorted") (hm : X.mg "sorted" = none) (hbase : attributeBase e "items" X.env (eval e X.env) = eval e X.env := by rfl) (hline : (apos.endLine == cpos.line) = true := by rfl)
    (hs : starEach [.Call (.Attribute e "items" apos) [] [] cpos] X.env = (false, eval (.Call (.Attribute e "items" apos) [] [] cpos) X.env) :: starEach [] X.env := by rfl) :
    PE X (.Call (.Name "sorted" p) [.Call (.Attribute e "items" apos) [] [] cpos] [] pos) (tSortIts te) := by
  refine ⟨fun pins s σ H Q I hq => ?_⟩
  refine wpAny_Call_Name_kw (ld_blt I hg hm (u := .builtin "sorted") (by decide +kernel) ?_)
  refine PyProof.Rows.callWith_builtin1 ?_ hs rfl
  rw [hs]
  show wpAny _ _ (spliced ((false, eval (.Call (.Attribute e "items" apos) [] [] cpos) X.env) :: backTo pos (starEach [] X.env))) _ _ s
  refine Calls.spliced_cons ?_
  refine wpAny_Call_method (T := "dict") (id := "dict.items") hbase rfl hline F.plainAttrs_dict F.slot_dict_items F.type_dict_items (thn (he.run pins s σ H _ I hq) fun u s1 ⟨x, H1, I1, rx, d, kis, ex, hd, hcs, q⟩ => ?_)
  subst ex
  obtain rfl : u = Value.ref d := rx
  obtain ⟨hz, hs0, vs, kv, hdo⟩ := I1.hok d _ hd
  have I2 : Inv X pins σ H1 { s1 with heap := s1.heap.push { cls := .type "dict_items", data := .fields #[.ref d] } } := I1.kept (t' := s1.toks) fun b ob q => Heap.get?_push_of_some _ q
  refine ⟨hdo.typeIs, hdo.mapOf.noDict, ?_⟩
  show wpAny _ _ (callWith cpos (.builtin "dict.items") [.ref d] [] []) _ X.xe s1
  refine method_meetsIn F.slot_dict_items F.entry_dict_items rfl (PySem.evalArgs_none ⟨rfl, hdo.typeIs, F.args_dict_items_1 _, _, meets_dict_items (mixKind X.prog X.w) d hs0, ⟨vs, hdo⟩, ?_⟩)
  refine Calls.spliced_nil ?_
  exact cr_items hc hu I2 ⟨_, Heap.get?_push_size _ rfl, rfl, rfl⟩ hd hcs q
end
section
variable {X : Cx} {a b c e : Expr} {wa wb wc we : WE} {pos : Pos}
def dctI (kis : List (Key × Int)) : List (Key × D) := kis.map fun z => (z.1, PyData.int z.2)
def sortIt (kis : List (Key × Int)) : List (Key × Int) := kis.mergeSort (PySem.W.dataLe false itemI)
theorem rkv_ints {K : PySem.W.Frag} {A : Addr → Prop} {H : Hp} : ∀ {ws : List (Key × V)} {kis : List (Key × Int)}, RKV K A H ws (dctI kis) → ws = kis.map fun z => (z.1, V.int z.2)
  | [], [], _ => rfl
  | w :: ws, z :: kis, ⟨e, r, t⟩ => by
    have r : Rp K A H w.2 (.int z.2) := r
    have h2 : w.2 = .int z.2 := by
      generalize w.2 = v at r
      cases r; rfl
    have h1 : w.1 = z.1 := e
    rw [List.map_cons, ← rkv_ints (kis := kis) t, ← h1, ← h2]
def dSortIts (wo : WE) : WE := fun s Ks => wo s fun s1 o => mu2 s1 o fun _ kvs => ∃ kis : List (Key × Int), kvs = dctI kis ∧ canSort (kis.map itemI) ∧ Ks s1 (.da (.list ((sortIt kis).map itemI)))
theorem de_sortIts {p apos cpos : Pos} (hc : X.calm = true) (hu : X.A.units + 64 < cLine) (hg : Gl X "sorted") (hm : X.mg "sorted" = none) (he : DE X e we) (hbase : attributeBase e "items" X.env (eval e X.env) = eval e X.env := by rfl) (hline : (apos.endLine == cpos.line) = true := by rfl)
    (hs : starEach [.Call (.Attribute e "items" apos) [] [] cpos] X.env = (false, eval (.Call (.Attribute e "items" apos) [] [] cpos) X.env) :: starEach [] X.env := by rfl) :
    DE X (.Call (.Name "sorted" p) [.Call (.Attribute e "items" apos) [] [] cpos] [] pos) (dSortIts we) := by
  obtain ⟨te, pe, qe⟩ := he.ex
  refine ⟨_, pe_sortIts hc hu pe hg hm hbase hline hs, fun b A own H σ s Ks Q R h k => ?_⟩
  show te σ H fun x H1 => rSortIts x H1 Q
  refine qe _ _ _ _ _ _ _ _ R h fun A1 o1 H1 v1 s1 x1 R1 U1 E1 h1 => ?_
  obtain ⟨j, kvs, rfl, g, kis, rfl, hcs, h1⟩ := mu2_inv h1
  obtain ⟨d, vs, rfl, e2, e3, e4, _⟩ := mud_at R1 E1 g
  rw [rkv_ints e3] at e2
  refine ⟨d, kis, rfl, e2, hcs, fun H' p ps hk hp hps hl ht => ?_⟩
  obtain ⟨R2, U2⟩ := R1.ext hk
  refine k.da R2 (U1.trans U2) (.lst ⟨hl, R1.freshA hp⟩ ?_) h1
  show RpL X.K A1 H' (ps.map fun z => V.ref z.1) ((sortIt kis).map itemI)
  rw [sortIt, ← hps, List.map_map]
  clear hps hl h1
  induction ps with
  | nil => exact .nil
  | cons z zs ih =>
    obtain ⟨t1, t2, t3⟩ := ht z (by simp)
    refine .cons (.tup (.inl ⟨t3, R1.freshA t1⟩) (.cons ?_ (.cons (.int _) .nil))) (ih fun y hy => ht y (by simp [hy]))
    cases z.2.1 with
    | inl i => exact .int i
    | inr x => exact .str x
/-- sorted(d), list(d), len(d) -/
def kInts : List (Key × D) → Option (List Int)
  | [] => some []
  | (.inl i, _) :: r => match kInts r with | some is => some (i :: is) | none => none
  | _ :: _ => none
theorem kInts_map : ∀ {kvs : List (Key × D)} {is : List Int}, kInts kvs = some is → kvs.map (·.1) = is.map Sum.inl
  | [], _, h => by cases h; rfl
  | (.inl i, d) :: r, _, h => by
    unfold kInts at h
    split at h
    · rename_i is q
      cases h
      rw [List.map_cons, List.map_cons, kInts_map q]
    · cases h
  | (.inr x, d) :: r, _, h => by cases h
def cSortK : S → List En → (S → En → Prop) → Prop := fun s xs Ks => a1 xs fun o => mu2 s o fun _ kvs => onO (kInts kvs) fun is => is.length < 64 ∧ ∀ is' : List Int, is'.Perm is → is'.Pairwise (· ≤ ·) → Ks s (.da (.list (is'.map .int)))
def rSortK : List V → Hp → VK → Prop := fun xs H Q => ∃ (a : Addr) (kvs : List (Key × V)) (ks : List Int), xs = [.ref a] ∧ Rd H a (.dK kvs) ∧ kvs.map (·.1) = ks.map Sum.inl ∧ ks.length < 64 ∧
    ∀ (ys : List Int) (p : Addr), ys.Perm ks → ys.Pairwise (· ≤ ·) → H p = none → Q (.ref p) (upd H p (.lst (ys.map V.int)))
theorem cd_sortK {K : PySem.W.Frag} : CallD K rSortK cSortK := by
  intro b A own H σ s vs xs Ks Q R E h k
  obtain ⟨v, x, rfl, e1, h⟩ := a1_inv E h
  obtain ⟨j, kvs, rfl, g, h⟩ := mu2_inv h
  obtain ⟨is, hi, hl, h⟩ := onO_inv h
  obtain ⟨d, vs, rfl, e2, e3, e4, _⟩ := mud_at R e1 g
  exact ⟨d, vs, is, rfl, .inl e2, e3.keys.trans (kInts_map hi), hl, fun ys p h1 h2 hp => new_lst R k RpL.ints hp (h ys h1 h2)⟩
theorem de_sortK {p : Pos} (hc : X.calm = true) (hg : Gl X "sorted") (hm : X.mg "sorted" = none) (ha : DE X a wa) (he : starEach (a :: []) X.env = (false, eval a X.env) :: starEach [] X.env := by rfl) : DE X (.Call (.Name "sorted" p) [a] [] pos) (dCall cSortK (aCons wa aNil)) := de_callB (call_sortedDI hc) cd_sortK hg hm (by decide +kernel) (da_cons ha da_nil he) (he := he)
def cListK : S → List En → (S → En → Prop) → Prop := fun s xs Ks => a1 xs fun o => mu2 s o fun _ kvs => Ks s (.da (.list (kvs.map fun z => kD z.1)))
def cListKM : S → List En → (S → En → Prop) → Prop := fun s xs Ks => a1 xs fun o => mu2 s o fun _ kvs => Ks (s.aM (.lst (kvs.map fun z => kD z.1))) (.mu s.ms.length)
def rListK : List V → Hp → VK → Prop := fun xs H Q => ∃ (a : Addr) (kvs : List (Key × V)), xs = [.ref a] ∧ Rd H a (.dK kvs) ∧ ∀ p, H p = none → Q (.ref p) (upd H p (.lst (kvs.map fun kv => kV kv.1)))
theorem rkv_keysV {K : PySem.W.Frag} {A : Addr → Prop} {H : Hp} : ∀ {ws : List (Key × V)} {kvs : List (Key × D)}, RKV K A H ws kvs → RpL K A H (ws.map fun kv => kV kv.1) (kvs.map fun z => kD z.1)
  | [], [], _ => .nil
  | w :: ws, z :: kvs, ⟨e, _, t⟩ => by
    refine .cons ?_ (rkv_keysV t)
    show Rp K A H (kV w.1) (kD z.1)
    rw [show w.1 = z.1 from e]
    cases z.1 with
    | inl i => exact .int i
    | inr x => exact .str x
theorem cd_listK {K : PySem.W.Frag} : CallD K rListK cListK := by
  intro b A own H σ s vs xs Ks Q R E h k
  obtain ⟨v, x, rfl, e1, h⟩ := a1_inv E h
  obtain ⟨j, kvs, rfl, g, h⟩ := mu2_inv h
  obtain ⟨d, vs, rfl, e2, e3, e4, _⟩ := mud_at R e1 g
  exact ⟨d, vs, rfl, .inl e2, fun p hp => new_lst R k (rkv_keysV e3) hp h⟩
theorem cd_listKM {K : PySem.W.Frag} : CallD K rListK cListKM := by
  intro b A own H σ s vs xs Ks Q R E h k
  obtain ⟨v, x, rfl, e1, h⟩ := a1_inv E h
  obtain ⟨j, kvs, rfl, g, h⟩ := mu2_inv h
  obtain ⟨d, vs, rfl, e2, e3, e4, _⟩ := mud_at R e1 g
  exact ⟨d, vs, rfl, .inl e2, fun p hp => new_mu R k (rkv_keysV e3) hp h⟩
theorem de_listK {p : Pos} (hc : X.calm = true) (hg : Gl X "list") (hm : X.mg "list" = none) (ha : DE X a wa) (he : starEach (a :: []) X.env = (false, eval a X.env) :: starEach [] X.env := by rfl) : DE X (.Call (.Name "list" p) [a] [] pos) (dCall cListK (aCons wa aNil)) := de_callTy (call_listD hc) cd_listK hg hm (by decide +kernel) (da_cons ha da_nil he) (he := he)
theorem de_listKM {p : Pos} (hc : X.calm = true) (hg : Gl X "list") (hm : X.mg "list" = none) (ha : DE X a wa) (he : starEach (a :: []) X.env = (false, eval a X.env) :: starEach [] X.env := by rfl) : DE X (.Call (.Name "list" p) [a] [] pos) (dCall cListKM (aCons wa aNil)) := de_callTy (call_listD hc) cd_listKM hg hm (by decide +kernel) (da_cons ha da_nil he) (he := he)
def cLenD : S → List En → (S → En → Prop) → Prop := fun s xs Ks => a1 xs fun o => mu2 s o fun _ kvs => Ks s (.da (.int (kvs.length : Int)))
theorem cd_lenD {K : PySem.W.Frag} : CallD K (fun xs H Q => ∃ a kvs, xs = [V.ref a] ∧ H a = some (.dK kvs) ∧ Q (.int kvs.length) H) cLenD := by
  intro b A own H σ s vs xs Ks Q R E h k
  obtain ⟨v, x, rfl, e1, h⟩ := a1_inv E h
  obtain ⟨j, kvs, rfl, g, h⟩ := mu2_inv h
  obtain ⟨d, vs, rfl, e2, e3, e4, _⟩ := mud_at R e1 g
  refine ⟨d, vs, rfl, e2, ?_⟩
  rw [e3.len]
  exact k.da R Up.refl (.int _) h
theorem de_lenD {p : Pos} (hg : Gl X "len") (hm : X.mg "len" = none) (ha : DE X a wa) (he : starEach (a :: []) X.env = (false, eval a X.env) :: starEach [] X.env := by rfl) : DE X (.Call (.Name "len" p) [a] [] pos) (dCall cLenD (aCons wa aNil)) := de_callB call_lenD cd_lenD hg hm PySem.boot_len (da_cons ha da_nil he) (he := he)
end
end DL
namespace DL
open PySem L2 PySem.Spec PyProof.Rows
section
variable {X : Cx} {a b c e : Expr} {wa wb wc we : WE} {pos : Pos}
/-- x, y = a, b where a name is a cell: by a tuple -/
theorem ds_parG {i j : Nat} {x y : Str} {px py pt : Pos} {kt k2 pt2} {wr : WA} (hc : X.calm = true) (hN : X.N.Nodup) (hi : X.N[i]? = some x) (hj : X.N[j]? = some y)
    (hx : Loc X.env.scope x) (hy : Loc X.env.scope y) (ha : DAn X [a, b] 2 wr)
    (hs : swapsWithSole [.Tuple [.Name x px, .Name y py] kt pt] (.Tuple [a, b] k2 pt2) pos.line X.env = pure false := by rfl) (hw : swappedStores [.Tuple [.Name x px, .Name y py] kt pt] (.Tuple [a, b] k2 pt2) X.env = pure none := by rfl)
    (h1 : (assignEach [.Tuple [.Name x px, .Name y py] kt pt] X.env).map (·.2) = [assign (.Tuple [.Name x px, .Name y py] kt pt) X.env] := by rfl)
    (hn : (assignEach [.Name x px, .Name y py] X.env).length = 2 := by rfl) (hst : (assignEach [.Name x px, .Name y py] X.env).findIdx? (·.1) = none := by rfl)
    (hf : X.fn x = true ∨ X.env.scope.names.lookup x = some .local := by first | exact .inl rfl | exact .inr rfl | assumption) (hf2 : X.fn y = true ∨ X.env.scope.names.lookup y = some .local := by first | exact .inl rfl | exact .inr rfl | assumption) :
    DS X (.Assign [.Tuple [.Name x px, .Name y py] kt pt] (.Tuple [a, b] k2 pt2) pos) (sPar i j wr) := by
  obtain ⟨ta, pa, qa⟩ := ha.ex
  refine ⟨_, ps_asg (pe_tup pa) (pg_tup hc (pgs_cons (pg_name hN hi hx hf) (pgs_cons (pg_name hN hj hy hf2) pgs_nil)) hn hst) hs hw h1, fun b A own H σ s D E R h m => ?_⟩
  show ta σ H fun vs H1 => vs.length ≤ sizeLine ∧ ∀ p, H1 p = none → _
  refine qa _ _ _ _ _ _ _ _ R h fun A1 o1 H1 vs s1 xs R1 U1 E1 h1 => ?_
  obtain ⟨hl, h1⟩ := h1
  obtain ⟨v, w, x, y, rfl, e1, e2, h1⟩ := a2_inv E1 h1
  refine ⟨by show 2 ≤ sizeLine; decide, fun p hp => ?_⟩
  obtain ⟨R2, U2⟩ := R1.new (o := .tup [v, w]) hp
  refine ⟨p, [v, w], rfl, .inl (.inl upd_same), rfl, v, [w], rfl, ?_⟩
  exact ⟨w, [], rfl, rfl, m.nx _ _ _ _ _ ((R2.slot (e1.up U2)).slot (e2.up U2)) (U1.trans U2).kp h1⟩
end
end DL
namespace DL
open PySem L2 PySem.Spec PyProof.Rows
/-! ### enumerate over a tuple -/
section
variable {prog : Program} {w : World} {A : Around} {E : Value → Shared → Prop} {s : Shared}
theorem meets_enumT {v : Value} {o : Obj} {H : Heap → Prop} (B : Begins v o H) :
    Meets (Builtin.«enumerate.__new__» ⟨[.type "enumerate", v], []⟩) (fun _ R s => H s.heap ∧
      R (.ok (.ret (.ref (s.heap.push o).objs.size))) { s with heap := (s.heap.push o).push { cls := .type "enumerate", data := .fields #[.none, .bool false, .ref s.heap.objs.size, rawInt 0, .none, .none] } }) :=
  .of_wp fun prog w A R s h => by
    obtain ⟨hp, g, d, tk, os⟩ := s; obtain ⟨h1, h⟩ := h
    have hsub := sub_enumerate
    have q1 : ∀ {A' : Around} {E : Value → Shared → Prop} {Q : Value → Shared → Prop}, Q (.ref hp.objs.size) ⟨hp.push o, g, d, tk, os⟩ → wpAny (model prog w) A' (pyIter v) Q E ⟨hp, g, d, tk, os⟩ :=
      fun q => B.iter prog w _ _ ⟨hp, g, d, tk, os⟩ _ h1 q
    wp_walk using q1
    refine wpAny_stack_any fun st => wpAny_pure ?_
    split
    · rename_i c _ _ _ _ _
      cases (c == Value.type "enumerate")
      · wp_walk using q1
        exact ⟨_, rfl, h⟩
      · wp_walk using q1
        exact ⟨_, rfl, h⟩
    · wp_walk using q1
      exact ⟨_, rfl, h⟩
theorem call_enumT {v : Value} {o : Obj} {H : Heap → Prop} {Q : Value → Shared → Prop} (B : Begins v o H) (h1 : H s.heap)
    (h : ∀ h', IsEnum h' (s.heap.objs.size + 1) s.heap.objs.size 0 .none → h'.get? s.heap.objs.size = some o → h'.objs.size = s.heap.objs.size + 2 →
      (∀ b o, s.heap.get? b = some o → h'.get? b = some o) → Q (.ref (s.heap.objs.size + 1)) { s with heap := h' }) :
    wpAny (model prog w) A (call (.type "enumerate") [v]) Q E s := by
  refine callType_new F.called_enumerate (by decide) (F.typeCall_enumerate_1 _) (F.newCall_enumerate_1 _) (fun obj => F.args_object_init_2 obj _) F.entry_enumerate_new
    (meets_enumT B) ⟨h1, ?_⟩
  have hz : (s.heap.push o).objs.size = s.heap.objs.size + 1 := Heap.size_push ..
  show _ ∧ _
  rw [hz]
  have he : IsEnum ((s.heap.push o).push { cls := .type "enumerate", data := .fields #[.none, .bool false, .ref s.heap.objs.size, rawInt 0, .none, .none] }) (s.heap.objs.size + 1) s.heap.objs.size 0 .none := by
    have := Heap.get?_push_size (s.heap.push o) (o := { cls := .type "enumerate", data := .fields #[.none, .bool false, .ref s.heap.objs.size, rawInt 0, .none, .none] }) rfl
    rw [hz] at this; exact this
  refine ⟨⟨_, he, rfl⟩, h _ he (Heap.get?_push_of_some _ (Heap.get?_push_size _ B.free)) (by rw [Heap.size_push, hz]) fun b o x => Heap.get?_push_of_some _ (Heap.get?_push_of_some _ x)⟩
end
def IteT (K : PySem.W.Frag) (a : Addr) : It :=
  ⟨fun i H => ∃ (xs : List V) (x : V), SqT K H a xs ∧ xs[i]? = some x, fun i H v H' => ∃ T x, v = .ref T ∧ H T = none ∧ H' = upd H T (.tup [.int (i : Nat), x]) ∧ ∀ xs, SqT K H a xs → xs[i]? = some x, fun i H => ∃ xs : List V, SqT K H a xs ∧ xs.length ≤ i⟩
theorem turn_enumT {P : Program} {w : World} {K : PySem.W.Frag} {elts : List Expr} {kk : Nat} {tpos : Pos} (a e it : Addr) :
    Turn P w K (.Tuple elts kk tpos) (IteT K a) [e, it] e (fun i h => (∃ old, IsEnum h e it ((i : Nat) : Int) old) ∧ h.IsTupleIter it a i ∧ e ≠ it) where
  mem := by simp
  obj := fun i h st b hb => by
    obtain ⟨⟨old, he⟩, ⟨o, ho, hc, hd⟩, _⟩ := st
    have e' : b = e ∨ b = it := by simpa using hb
    rcases e' with z | z
    · rw [z]; exact ⟨_, he, fun v q => nomatch q⟩
    · rw [z]; exact ⟨o, ho, fun v q => by rw [hd] at q; cases q⟩
  keep := fun i h h' st k => let ⟨⟨old, he⟩, hi, hne⟩ := st; ⟨⟨old, k e (by simp) _ he⟩, hi.at fun o q => k it (by simp) o q, hne⟩
  item := by
    intro X hP hw hK hc i pins s σ H E I hf st hg
    subst hP hw hK
    obtain ⟨⟨old, he⟩, hit, hne⟩ := st
    obtain ⟨xs, x, hq, hx⟩ := hg
    obtain ⟨its, rv, p, hz⟩ := I.tuple hq
    obtain ⟨u, hu, ru⟩ := rv.get hx
    have hp : s.heap.IsTuple a its.toArray := p
    have hel : e < s.heap.objs.size := Heap.lt_size he
    have hil : it < s.heap.objs.size := by obtain ⟨_, q, _⟩ := hit; exact Heap.lt_size q
    have hit0 : a ≠ it := fun z => by
      obtain ⟨o1, q1, c1, _⟩ := hit
      obtain ⟨o2, q2, c2, _⟩ := hp
      rw [z, q1] at q2
      cases q2
      rw [c1] at c2
      injection c2 with c2
      exact absurd c2 (by decide)
    have hae : e ≠ a := fun z => by
      obtain ⟨o2, q2, c2, _⟩ := hp
      rw [← z, he] at q2
      cases q2
      injection c2 with c2
      exact absurd c2 (by decide)
    have hlt : i < its.toArray.size := by
      have := (List.getElem?_eq_some_iff.mp hu).1
      simpa using this
    refine wpAny_pyNext_enum_itemC (Draws.tuple (A := X.A.in1) (show X.A.in1.handled = none from I.ok.hd hc) it a hit0 its.toArray) he ⟨hit, hp⟩ hlt hne (by simp [hne, hae]) fun u' h' tk hu' ho hst' hT hsz hk => ?_
    have eu : u' = u := by
      have q : its[i]? = some u' := by simpa using hu'
      rw [hu] at q
      exact (Option.some.inj q).symm
    subst eu
    refine ⟨_, rfl, wpAny_letOwnedTupleGo_enum (s := { s with heap := h', toks := tk + 1 }) ho fun h'' he' sb => ?_⟩
    have hT2 : h''.get? s.heap.objs.size = some { cls := .type "tuple", data := .seq #[.int i tk, u'] } := (sb.2 _ (Nat.ne_of_gt hel)).trans hT
    have new : ObjOk X.prog X.w (upd H s.heap.objs.size (.tup [.int (i : Nat), x])) h'' s.heap.objs.size (.tup [.int (i : Nat), x]) :=
      ⟨by show 2 ≤ sizeLine; decide, [.int i tk, u'], .cons ⟨_, rfl⟩ (.cons ru .nil), ⟨_, hT2, rfl, _, rfl⟩⟩
    have I1 : Inv X pins σ (upd H s.heap.objs.size (.tup [.int (i : Nat), x])) { s with heap := h'', toks := tk + 1 } :=
      I.turnedNew (ch := [e, it]) (fun b ob hb q => (sb.2 b (fun z => hb (by simp [z]))).trans (hk b ob (fun z => hb (by simp [z])) (fun z => hb (by simp [z])) q)) hf (Nat.le_refl _) new
    refine ⟨.ref s.heap.objs.size, _, I1, rfl, ⟨_, x, rfl, I.hok.fresh (Nat.le_refl _), rfl, fun ys hy => by rw [I.tuple_inj hy hq]; exact hx⟩, ⟨⟨u', ?_⟩, hst'.1.at fun o q => (sb.2 it (Ne.symm hne)).trans q, hne⟩, fun b hb => ?_⟩
    · have e1 : ((i + 1 : Nat) : Int) = (i : Int) + 1 := by omega
      rw [e1]; exact he'
    · have hb' : b < s.heap.objs.size := by
        have e' : b = e ∨ b = it := by simpa using hb
        rcases e' with z | z
        · rw [z]; exact hel
        · rw [z]; exact hil
      rw [upd_ne (Nat.ne_of_lt hb')]
      exact (hf b hb).1
  done := by
    intro X hP hw hK hc i pins s σ H E I hf st hg
    subst hP hw hK
    obtain ⟨⟨old, he⟩, hit, hne⟩ := st
    obtain ⟨xs, hq, hx⟩ := hg
    obtain ⟨its, rv, p, hz⟩ := I.tuple hq
    have hp : s.heap.IsTuple a its.toArray := p
    obtain ⟨f0, f1, f2, f3, f4, f5⟩ := hf it (by simp)
    have hl := rv.length
    refine wpAny_pyNext_enum_endD (n := i) (St := fun j h => j = i ∧ h.IsTupleIter it a i ∧ h.IsTuple a its.toArray) (fp := [it, a]) (P := fun _ _ => True) ⟨fun j h st => ?_, fun j h h' st hk => ?_, fun j s Q E hi st hQ => ?_, fun s Q E st hE => ?_⟩ he ⟨rfl, hit, hp⟩ fun h' eb => ⟨rfl, I.turned (t' := s.toks) (fun b o hb q => eb b o hb q) f0 f1 f3 f4 f5⟩
    · obtain ⟨_, ⟨o, ho, _⟩, _⟩ := st; exact ⟨o, ho⟩
    · exact ⟨st.1, st.2.1.at fun o e => hk it (by simp) o e, st.2.2.at fun o e => hk a (by simp) o e⟩
    · exact absurd hi (by rw [st.1]; exact Nat.lt_irrefl _)
    · exact wpAny_nextOf_tuple_end (I.ok.hd hc) st.2.1 st.2.2 (by simp; omega) hE
  self := fun A i s Q E st h => let ⟨⟨_, he⟩, _⟩ := st; wpAny_pyIter_enum he h
/-- enumerate over a list or a tuple -/
def iEnumA (K : PySem.W.Frag) (ta : TA) : TI := fun σ H R => ta σ H fun vs H1 => ∃ a xs, vs = [.ref a] ∧ ((SqL K H1 a xs ∧ R (Ite K a) H1) ∨ (SqT K H1 a xs ∧ R (IteT K a) H1))
theorem pi_enumA {X : Cx} {e : Expr} {ta : TA} {p pos tpos : Pos} {elts : List Expr} {kk : Nat} (hg : Gl X "enumerate") (hm : X.mg "enumerate" = none) (ha : PA X [e] ta) (hs : starEach [e] X.env = [(false, eval e X.env)] := by rfl) :
    PI X (.Tuple elts kk tpos) (.Call (.Name "enumerate" p) [e] [] pos) (iEnumA X.K ta) := by
  refine ⟨fun pins s σ H R I h => ?_⟩
  refine Call_ (ld_blt I hg hm boot_enumerate (PyProof.Rows.callWith_type1 (thn (ha.run pos pins s σ H _ I h) fun us s1 ⟨vs, H1, I1, r1, q1⟩ => ?_) hs rfl))
  obtain ⟨a, xs, ex, q⟩ := q1
  subst ex
  cases r1 with
  | cons r rr =>
    cases rr
    cases r
    have hfp : ∀ b, b ∈ [s1.heap.objs.size + 1, s1.heap.objs.size] → FpOk X pins H1 b := fun b hb => by
      have e' : b = s1.heap.objs.size + 1 ∨ b = s1.heap.objs.size := by simpa using hb
      have hle : s1.heap.objs.size ≤ b := by
        rcases e' with z | z
        · rw [z]; exact Nat.le_add_right _ _
        · rw [z]; exact Nat.le_refl _
      exact I1.fpOk hle (I1.hok.fresh hle)
    rcases q with ⟨hq, q⟩ | ⟨hq, q⟩
    · obtain ⟨its, rv, p', hz⟩ := I1.list hq
      refine call_enumerate_list p'.isList fun h' he hit hsz hk => wpAny_pyIter_enum he ?_
      have I2 : Inv X pins σ H1 { s1 with heap := h' } := I1.kept (t' := s1.toks) hk
      exact ⟨s1.heap.objs.size + 1, [s1.heap.objs.size + 1, s1.heap.objs.size], _, _, H1, rfl, I2, turn_enum a (s1.heap.objs.size + 1) s1.heap.objs.size, ⟨⟨.none, he⟩, hit, Nat.succ_ne_self _⟩, hfp, q⟩
    · obtain ⟨its, rv, p', hz⟩ := I1.tuple hq
      have hp : s1.heap.IsTuple a its.toArray := p'
      refine call_enumT (begins_tuple a its.toArray) hp fun h' he hit hsz hk => wpAny_pyIter_enum he ?_
      have I2 : Inv X pins σ H1 { s1 with heap := h' } := I1.kept (t' := s1.toks) hk
      exact ⟨s1.heap.objs.size + 1, [s1.heap.objs.size + 1, s1.heap.objs.size], _, _, H1, rfl, I2, turn_enumT a (s1.heap.objs.size + 1) s1.heap.objs.size, ⟨⟨.none, he⟩, ⟨_, hit, rfl, rfl⟩, Nat.succ_ne_self _⟩, hfp, q⟩
section
variable {X : Cx} {a b c e : Expr} {wr : WA} {pos : Pos}
def iEnuA (wr : WA) : WI := fun s Ks => wr s fun s1 xs => a1 xs fun x => daI x fun d => match d with | .list ds => Ks s1 (enuD 0 ds) | .tuple ds => Ks s1 (enuD 0 ds) | _ => False
theorem di_enumA {p tpos : Pos} {elts : List Expr} {kk : Nat} (hg : Gl X "enumerate") (hm : X.mg "enumerate" = none) (ha : DA X [a] wr) (hs : starEach [a] X.env = [(false, eval a X.env)] := by rfl) :
    DI X (.Tuple elts kk tpos) (.Call (.Name "enumerate" p) [a] [] pos) (iEnuA wr) := by
  obtain ⟨ta, pa, qa⟩ := ha.ex
  refine ⟨_, pi_enumA hg hm pa hs, fun b A own H σ s Ks Q R h k => ?_⟩
  show ta σ H fun vs H1 => ∃ a xs, vs = [.ref a] ∧ ((SqL X.K H1 a xs ∧ Q (Ite X.K a) H1) ∨ (SqT X.K H1 a xs ∧ Q (IteT X.K a) H1))
  refine qa _ _ _ _ _ _ _ _ R h fun A1 o1 H1 vs s1 xs R1 U1 E1 h1 => ?_
  obtain ⟨v, x, rfl, e1, h1⟩ := a1_inv E1 h1
  obtain ⟨d, rfl, h2⟩ := daI_inv h1
  clear h1
  have h1 := h2
  clear h2
  split at h1
  · cases (show Rp X.K A1 H1 v _ from e1) with
    | lst l r =>
      refine ⟨_, _, rfl, .inl ⟨l.sq, k _ _ _ _ _ _ R1 U1 ?_ h1⟩⟩
      intro A2 H2 kp i
      have l2 : LsR A2 H2 _ _ := kp _ _ l.2 l.1
      have r2 := RpL.mono kp r
      refine ⟨fun hi => ⟨_, l2.sq, by rw [r2.length]; rw [enuD_length] at hi; exact hi⟩, fun d hd => ?_⟩
      obtain ⟨x, hx, rfl⟩ := enuD_get hd
      obtain ⟨vx, gx, rx⟩ := r2.get hx
      refine ⟨⟨_, vx, l2.sq, gx⟩, fun z H3 hz own1 σ s R => ?_⟩
      obtain ⟨T, x', rfl, hT, rfl, f1⟩ := hz
      have f1 := f1 _ l2.sq
      rw [gx] at f1
      cases f1
      rw [Nat.zero_add]
      exact wk_new hT (.cons (.int _) (.cons rx .nil)) own1 σ s R
  · cases (show Rp X.K A1 H1 v _ from e1) with
    | tup l r =>
      refine ⟨_, _, rfl, .inr ⟨l.sq, k _ _ _ _ _ _ R1 U1 ?_ h1⟩⟩
      intro A2 H2 kp i
      have l2 : TuR X.K A2 H2 _ _ := l.elim (fun q => .inl (kp _ _ q.2 q.1)) .inr
      have r2 := RpL.mono kp r
      refine ⟨fun hi => ⟨_, l2.sq, by rw [r2.length]; rw [enuD_length] at hi; exact hi⟩, fun d hd => ?_⟩
      obtain ⟨x, hx, rfl⟩ := enuD_get hd
      obtain ⟨vx, gx, rx⟩ := r2.get hx
      refine ⟨⟨_, vx, l2.sq, gx⟩, fun z H3 hz own1 σ s R => ?_⟩
      obtain ⟨T, x', rfl, hT, rfl, f1⟩ := hz
      have f1 := f1 _ l2.sq
      rw [gx] at f1
      cases f1
      rw [Nat.zero_add]
      exact wk_new hT (.cons (.int _) (.cons rx .nil)) own1 σ s R
  · exact h1.elim
end
end DL
namespace DL
open PySem L2 PySem.Spec PyProof.Rows
/-! ### a dict that changes no more is data -/
def dictD (kvs : List (Key × D)) : D := .dict (kvs.map fun z => (kD z.1, z.2))
section
variable {K : PySem.W.Frag} {A A' : Addr → Prop} {own own' : List (List Addr)} {H H' : Hp} {b : Bd} {σ : L2.St} {s : S}
theorem RKV.rpK : ∀ {ws : List (Key × V)} {kvs : List (Key × D)}, RKV K A H ws kvs → RpK K A H ws kvs
  | [], [], _ => .nil
  | (k, v) :: ws, (k', d) :: kvs, ⟨e, h, t⟩ => by
    have e : k = k' := e
    subst e
    exact .cons h (RKV.rpK t)
theorem RpK.rkv : ∀ {ws : List (Key × V)} {kvs : List (Key × D)}, RpK K A H ws kvs → RKV K A H ws kvs
  | _, _, .nil => trivial
  | _, _, .cons h t => ⟨rfl, h, RpK.rkv t⟩
theorem RpK.get : ∀ {ws : List (Key × V)} {kvs : List (Key × D)} {i : Nat} {k : Key} {d : D}, RpK K A H ws kvs → kvs[i]? = some (k, d) → ∃ v, ws[i]? = some (k, v) ∧ Rp K A H v d
  | _, _, _, _, _, .nil, e => by simp at e
  | _, _, 0, _, _, .cons a _, e => by
    simp at e
    obtain ⟨rfl, rfl⟩ := e
    exact ⟨_, rfl, a⟩
  | _, _, i + 1, _, _, .cons _ b, e => by
    obtain ⟨y, h1, h2⟩ := RpK.get (i := i) b (by simpa using e)
    exact ⟨y, by simpa using h1, h2⟩
theorem RpK.length : ∀ {ws : List (Key × V)} {kvs : List (Key × D)}, RpK K A H ws kvs → ws.length = kvs.length
  | _, _, .nil => rfl
  | _, _, .cons _ b => congrArg (· + 1) (RpK.length b)
/-- what reads as a dict -/
theorem rp_dict {v : V} {es : List (D × D)} (r : Rp K A H v (.dict es)) : ∃ a o ws kvs, v = .ref a ∧ es = kvs.map (fun z => (kD z.1, z.2)) ∧ H a = some (.frz o (.dK ws)) ∧ ¬ A a ∧ RpK K A H ws kvs := by
  generalize hd : PyData.dict es = d at r
  cases r with
  | dct l n q => cases hd; exact ⟨_, _, _, _, rfl, rfl, l, n, q⟩
  | non => cases hd
  | bl c => cases hd
  | int i => cases hd
  | str x => cases hd
  | lst l q => cases hd
  | tup l q => cases hd
def frzDS (k : Nat) (kvs : List (Key × D)) (s : S) : S := ⟨subL k (dictD kvs) s.es, sm (subS k (dictD kvs) s.ms) k .gone, s.np⟩
theorem Rel.frzD (r : Rel K b A own H σ s) {k : Nat} {kvs : List (Key × D)} (g : gm s.ms k = .dct kvs) (hk : s.np ≤ k) :
    ∃ p ws, H p = some (.dK ws) ∧ go own k = [p] ∧ RKV K A H ws kvs ∧ ∀ od, Rel K b (fun a => A a ∧ a ∉ go own k) (so own k) (upd H p (.frz od (.dK ws))) σ (frzDS k kvs s) ∧ Kp A H (fun a => A a ∧ a ∉ go own k) (upd H p (.frz od (.dK ws))) := by
  have m := r.mr k
  rw [g] at m
  obtain ⟨p, ws, e1, e2, e3⟩ := m
  have pA : A p := r.oa k p (by rw [e1]; simp)
  refine ⟨p, ws, e2, e1, e3, fun od => ?_⟩
  have kp : Kp A H (fun a => A a ∧ a ∉ go own k) (upd H p (.frz od (.dK ws))) := fun a u n q => ⟨by rw [upd_ne (fun z => n (by rw [z]; exact pA))]; exact q, fun z => n z.1⟩
  generalize hH : upd H p (.frz od (.dK ws)) = H1 at kp
  have h1p : H1 p = some (.frz od (.dK ws)) := by rw [← hH]; exact upd_same
  have h1n : ∀ a, a ≠ p → H1 a = H a := fun a n => by rw [← hH]; exact upd_ne n
  have rp : Rp K (fun a => A a ∧ a ∉ go own k) H1 (.ref p) (dictD kvs) := .dct h1p (fun z => z.2 (by rw [e1]; simp)) (RKV.rpK (e3.up kp))
  have er : ∀ {v : V} {x : En}, ER K A own H v x → ER K (fun a => A a ∧ a ∉ go own k) (so own k) H1 v (subE k (dictD kvs) x) := by
    intro v x h
    cases x with
    | no => trivial
    | da d => exact Rp.mono kp h
    | mu j =>
      obtain ⟨a, q, f1, f2⟩ := h
      show ER K _ _ H1 v (bif Nat.beq j k then .da (dictD kvs) else .mu j)
      by_cases e : j = k
      · subst e
        rw [show Nat.beq j j = true from by simp]
        rw [e1] at f1; cases f1; subst f2; exact rp
      · rw [show Nat.beq j k = false from Bool.eq_false_iff.mpr fun z => e (by simpa using z)]
        exact ⟨a, q, by rw [go_so, if_neg (Ne.symm e)]; exact f1, f2⟩
  have rke : ∀ {ws : List (Str × V)} {fs : List (Str × En)}, RKE K A own H ws fs → RKE K (fun a => A a ∧ a ∉ go own k) (so own k) H1 ws (subF k (dictD kvs) fs) := by
    intro ws fs
    induction fs generalizing ws with
    | nil => intro h; cases ws with
      | nil => trivial
      | cons _ _ => exact h.elim
    | cons x xs ih => intro h; cases ws with
      | nil => exact h.elim
      | cons w ws => exact ⟨h.1, er h.2.1, ih h.2.2⟩
  refine ⟨⟨⟨?_, fun j => ?_, fun i j a h1 h2 => ?_, fun i => ?_, fun i a h1 => ?_, fun a h z => ?_⟩, ?_, fun i => ?_, fun a h => ?_, fun a o hn h0 => ?_, fun i a h1 => ?_, ?_, ?_, fun a h => r.lim a h.1, r.a0⟩, kp⟩
  · show (so own k).length = (sm (subS k (dictD kvs) s.ms) k .gone).length
    rw [so_length, sm_length, subS_length]; exact r.ol
  · show MR K _ (so own k) H1 (go (so own k) j) (gm (sm (subS k (dictD kvs) s.ms) k .gone) j)
    rw [gm_sm, go_so]
    by_cases e : k = j
    · subst e
      have : k < s.ms.length := gm_lt (by rw [g]; intro z; cases z)
      rw [if_pos rfl, if_pos ⟨rfl, by rw [subS_length]; exact this⟩]; trivial
    · rw [if_neg e, if_neg (fun z => e z.1), gm_subS]
      have mj := r.mr j
      have ne : ∀ a, a ∈ go own j → H1 a = H a := fun a ha => h1n a fun z => e (r.dj k j p (by rw [e1]; simp) (by rw [← z]; exact ha))
      cases q : gm s.ms j with
      | gone => trivial
      | lst ds' => rw [q] at mj; obtain ⟨a, vs, h1, h2, h3⟩ := mj; exact ⟨a, vs, h1, (ne a (by rw [h1]; simp)).trans h2, RpL.mono kp h3⟩
      | dct ds' => rw [q] at mj; obtain ⟨a, vs, h1, h2, h3⟩ := mj; exact ⟨a, vs, h1, (ne a (by rw [h1]; simp)).trans h2, h3.up kp⟩
      | rnd n => rw [q] at mj; obtain ⟨a, c, cs, t, h1, h2, h3, h4⟩ := mj; exact ⟨a, c, cs, t, h1, (ne a (by rw [h1]; simp)).trans h2, (ne c (by rw [h1]; simp)).trans h3, h4⟩
      | box n => rw [q] at mj; obtain ⟨a, x, y, z, h1, h2, h4⟩ := mj; exact ⟨a, x, y, z, h1, (ne a (by rw [h1]; simp)).trans h2, h4⟩
      | tab n =>
        rw [q] at mj
        obtain ⟨P, c, h1, hc, ps, h2, h3, h4⟩ := mj
        refine ⟨P, c, h1, hc, ps, (ne P (by rw [h1]; simp)).trans h2, h3, fun pos cv e => ?_⟩
        obtain ⟨c', e5, e6, e7⟩ := h4 pos cv e
        exact ⟨c', e5, kp _ _ e7 e6⟩
      | ins C fs => rw [q] at mj; obtain ⟨a, dx, ws, h1, h2, h4⟩ := mj; exact ⟨a, dx, ws, h1, h2.up (fun b o hb e => (ne b (by rw [h1]; exact hb)).trans e), rke h4⟩
  · rw [go_so] at h1 h2
    split at h1
    · cases h1
    · split at h2
      · cases h2
      · exact r.dj i j a h1 h2
  · rw [go_so]
    split
    · exact List.nodup_nil
    · exact r.ld i
  · rw [go_so] at h1
    split at h1
    · cases h1
    · rename_i ne
      exact ⟨r.oa i a h1, fun z => ne (r.dj k i a z h1)⟩
  · by_cases e : a = p
    · subst e; rw [h1p] at z; cases z
    · rw [h1n a e] at z; exact r.al a h.1 z
  · show σ.length = (subL k (dictD kvs) s.es).length
    rw [subL_length]; exact r.len
  · show gt (subL k (dictD kvs) s.es) i = .no ∨ ∃ v, σ[i]? = some (some v) ∧ ER K _ (so own k) H1 v (gt (subL k (dictD kvs) s.es) i)
    rw [gt_subL]
    rcases r.sl i with z | ⟨v, e, h⟩
    · rw [z]; exact .inl rfl
    · exact .inr ⟨v, e, er h⟩
  · refine ⟨r.ge a h, fun z => ?_⟩
    rcases r.fo k a z with ⟨j, q⟩ | q
    · rw [← r.pre, go_take] at q
      split at q
      · have := r.dj k j a z q; omega
      · cases q
    · exact r.a0 a h q
  · have ne : a ≠ p := fun z => by
      rcases r.fo k p (by rw [e1]; simp) with ⟨j, q⟩ | q
      · exact hn j (by rw [z]; exact q)
      · rw [z, q] at h0; cases h0
    rw [h1n a ne]
    exact r.fr a o hn h0
  · rw [go_so] at h1
    split at h1
    · cases h1
    · exact r.fo i a h1
  · show (so own k).take s.np = b.own0
    rw [take_so own k s.np hk]; exact r.pre
  · rw [so_length]; exact r.npl
end
/-- locked for good -/
def tFz (t : TS) : TS := fun D σ H => ∃ d u, H d = some u ∧ Mut (some u) ∧ ∀ od, t D σ (upd H d (.frz od u))
section
variable {X : Cx} {a b c e : Expr} {wa wb wc we : WE} {pos : Pos} {sts : List Stmt} {w : WS}
theorem pss_fz {t : TS} (h : PSs X sts t) : PSs X sts (tFz t) := by
  refine ⟨fun pins s σ H D I hw => ?_⟩
  obtain ⟨d, u, hd, mu, hw⟩ := hw
  obtain ⟨od, I1⟩ := I.lock hd mu
  exact h.run pins s σ _ _ I1 (hw od)
def sFrzD (i : Nat) (w : WS) : WS := fun s D => match gt s.es i with | .mu k => (match gm s.ms k with | .dct kvs => s.np ≤ k ∧ w (frzDS k kvs s) D | _ => False) | _ => False
theorem dss_frzD (i : Nat) (h : DSs X sts w) : DSs X sts (sFrzD i w) := by
  obtain ⟨t, p, q⟩ := h.ex
  refine ⟨_, pss_fz p, fun b A own H σ s D E R h m => ?_⟩
  unfold sFrzD at h
  split at h
  · split at h
    · rename_i kvs g
      obtain ⟨p, ws, h1, _, _, h2⟩ := R.frzD g h.1
      refine ⟨p, _, h1, trivial, fun od => ?_⟩
      obtain ⟨R1, k1⟩ := h2 od
      exact q _ _ _ _ _ _ _ _ R1 h.2 (m.up k1)
    · exact h.elim
  · exact h.elim
/-! #### its items, its keys -/
def iItD (we : WE) : WI := fun s Ks => we s fun s1 x => daI x fun d => match d with | .dict es => Ks s1 (es.map fun z => .tuple [z.1, z.2]) | _ => False
theorem rp_key {K : PySem.W.Frag} {A : Addr → Prop} {H : Hp} (k : Key) : Rp K A H (kV k) (kD k) := by
  cases k with
  | inl i => exact .int i
  | inr x => exact .str x
theorem di_itD {apos cpos tpos : Pos} {elts : List Expr} {kk : Nat} (he : DE X e we) (hbase : attributeBase e "items" X.env (eval e X.env) = eval e X.env := by rfl) (hline : (apos.endLine == cpos.line) = true := by rfl) :
    DI X (.Tuple elts kk tpos) (.Call (.Attribute e "items" apos) [] [] cpos) (iItD we) := by
  obtain ⟨te, pe, qe⟩ := he.ex
  refine ⟨_, pi_items pe hbase hline, fun b A own H σ s Ks Q R h k => ?_⟩
  show te σ H fun x H1 => ∃ d o kvs, x = .ref d ∧ H1 d = some (.frz o (.dK kvs)) ∧ Q (Iti d o kvs) H1
  refine qe _ _ _ _ _ _ _ _ R h fun A1 o1 H1 v1 s1 x1 R1 U1 E1 h1 => ?_
  obtain ⟨d, rfl, h2⟩ := daI_inv h1
  clear h1
  cases d with
  | dict es =>
    obtain ⟨a, o, ws, kvs, rfl, rfl, l, n, q⟩ := rp_dict (show Rp X.K A1 H1 v1 (.dict es) from E1)
    refine ⟨a, o, ws, rfl, l, k _ _ _ _ _ _ R1 U1 ?_ h2⟩
    intro A2 H2 kp i
    obtain ⟨l2, n2⟩ := kp _ _ n l
    have q2 := RpK.mono kp q
    refine ⟨fun hi => ⟨l2, by rw [q2.length]; rw [List.length_map, List.length_map] at hi; exact hi⟩, fun d hd => ?_⟩
    rw [List.getElem?_map, List.getElem?_map] at hd
    cases hk : kvs[i]? with
    | none => rw [hk] at hd; cases hd
    | some z =>
      rw [hk] at hd
      cases hd
      obtain ⟨v, gv, rv⟩ := q2.get (k := z.1) (d := z.2) hk
      refine ⟨⟨l2, (List.getElem?_eq_some_iff.mp gv).1⟩, fun y H3 hy own1 σ s R => ?_⟩
      obtain ⟨T, k', v', e1, rfl, hT, rfl⟩ := hy
      rw [gv] at e1
      cases e1
      exact wk_new hT (.cons (rp_key _) (.cons rv .nil)) own1 σ s R
  | _ => exact h2.elim
def cListDd : S → List En → (S → En → Prop) → Prop := fun s xs Ks => a1 xs fun x => daI x fun d => match d with | .dict es => Ks s (.da (.list (es.map (·.1)))) | _ => False
theorem cd_listDd {K : PySem.W.Frag} : CallD K rListK cListDd := by
  intro b A own H σ s vs xs Ks Q R E h k
  obtain ⟨v, x, rfl, e1, h⟩ := a1_inv E h
  obtain ⟨d, rfl, h2⟩ := daI_inv h
  clear h
  cases d with
  | dict es =>
    obtain ⟨a, o, ws, kvs, rfl, rfl, l, n, q⟩ := rp_dict (show Rp K A H v (.dict es) from e1)
    refine ⟨a, ws, rfl, .inr ⟨o, l⟩, fun p hp => new_lst R k ?_ hp h2⟩
    rw [List.map_map]
    exact rkv_keysV q.rkv
  | _ => exact h2.elim
theorem de_listDd {p : Pos} (hc : X.calm = true) (hg : Gl X "list") (hm : X.mg "list" = none) (ha : DE X a wa) (he : starEach (a :: []) X.env = (false, eval a X.env) :: starEach [] X.env := by rfl) : DE X (.Call (.Name "list" p) [a] [] pos) (dCall cListDd (aCons wa aNil)) := de_callTy (call_listD hc) cd_listDd hg hm (by decide +kernel) (da_cons ha da_nil he) (he := he)
end
end DL
namespace DL
open PySem L2 PySem.Spec PyProof.Rows
/-! ### zip over lists and tuples, mixed (printed by zipgen.py) -/
def Sq1 (K : PySem.W.Frag) (H : Hp) (t : Bool) (a : Addr) (xs : List V) : Prop := match t with | false => SqL K H a xs | true => SqT K H a xs
def isS (t : Bool) (h : Heap) (a : Addr) (its : Array Value) : Prop := match t with | false => h.IsList a its | true => h.IsTuple a its
def itN (t : Bool) (h : Heap) (it a : Addr) (i : Nat) : Prop := match t with | false => h.IsListIter it a i | true => h.IsTupleIter it a i
def itO (t : Bool) (a : Addr) : Obj := match t with | false => { cls := .type "list_iterator", data := .fields #[.ref a, .int 0 0] } | true => { cls := .type "tuple_iterator", data := .fields #[.ref a, .int 0 0] }
theorem isS.lt {t : Bool} {h : Heap} {a : Addr} {its : Array Value} (p : isS t h a its) : a < h.objs.size := by
  cases t with
  | false => obtain ⟨o, e, _⟩ := (show h.IsList a its from p); exact Heap.lt_size e
  | true => obtain ⟨o, e, _⟩ := (show h.IsTuple a its from p); exact Heap.lt_size e
theorem itN.obj {t : Bool} {h : Heap} {it a : Addr} {i : Nat} (p : itN t h it a i) : ∃ o, h.get? it = some o ∧ ∀ v, o.data ≠ .cell v := by
  cases t with
  | false => obtain ⟨o, e, c, d⟩ := (show h.IsListIter it a i from p); exact ⟨o, e, fun v z => by rw [d] at z; cases z⟩
  | true => obtain ⟨o, e, c, d⟩ := (show h.IsTupleIter it a i from p); exact ⟨o, e, fun v z => by rw [d] at z; cases z⟩
theorem itN.at {t : Bool} {h h' : Heap} {it a : Addr} {i : Nat} (p : itN t h it a i) (k : ∀ o, h.get? it = some o → h'.get? it = some o) : itN t h' it a i := by
  cases t with
  | false => exact Heap.IsListIter.at (show h.IsListIter it a i from p) k
  | true => exact Heap.IsTupleIter.at (show h.IsTupleIter it a i from p) k
theorem itN_new {t : Bool} {h : Heap} {it a : Addr} (e : h.get? it = some (itO t a)) : itN t h it a 0 := by
  cases t with
  | false => exact ⟨_, e, rfl, rfl⟩
  | true => exact ⟨_, e, rfl, rfl⟩
theorem beginsS (t : Bool) (a : Addr) (its : Array Value) : Begins (.ref a) (itO t a) (fun h => isS t h a its) := by
  cases t with
  | false => exact begins_list a its
  | true => exact begins_tuple a its
theorem drawsS {prog : Program} {w : World} {A : Around} (hh : A.handled = none) (t : Bool) {it a : Addr} (hne : a ≠ it) (its : Array Value) :
    Draws prog w A it [it, a] its.size (fun i v => its[i]? = some v) (fun i h => itN t h it a i ∧ isS t h a its) := by
  cases t with
  | false => exact Draws.list hh it a hne its
  | true => exact Draws.tuple hh it a hne its
section
variable {X : Cx} {pins : List (Addr × Obj)} {σ : L2.St} {H : Hp} {s : Shared}
theorem _root_.L2.Inv.sq1 {t : Bool} {a : Addr} {xs : List V} (I : Inv X pins σ H s) (h : Sq1 X.K H t a xs) : ∃ its : List Value, Vals xs its ∧ isS t s.heap a its.toArray ∧ xs.length ≤ sizeLine := by
  cases t with
  | false => obtain ⟨its, rv, p, z⟩ := I.list h; exact ⟨its, rv, p.isList, z⟩
  | true => obtain ⟨its, rv, p, z⟩ := I.tuple h; exact ⟨its, rv, p, z⟩
end
/-- a sequence's place, off A -/
def SqD (K : PySem.W.Frag) (A : Addr → Prop) (H : Hp) (t : Bool) (a : Addr) (xs : List V) : Prop := match t with | false => LsR A H a xs | true => TuR K A H a xs
theorem SqD.sq {K : PySem.W.Frag} {A : Addr → Prop} {H : Hp} {t : Bool} {a : Addr} {xs : List V} (h : SqD K A H t a xs) : Sq1 K H t a xs := by
  cases t with
  | false => exact LsR.sq h
  | true => exact TuR.sq h
theorem SqD.mono {K : PySem.W.Frag} {A A' : Addr → Prop} {H H' : Hp} {t : Bool} {a : Addr} {xs : List V} (h : SqD K A H t a xs) (kp : Kp A H A' H') : SqD K A' H' t a xs := by
  cases t with
  | false => exact kp _ _ h.2 h.1
  | true => exact Or.elim h (fun q => .inl (kp _ _ q.2 q.1)) .inr
theorem rp_seq {K : PySem.W.Frag} {A : Addr → Prop} {H : Hp} {v : V} {d : D} {ds : List D} (r : Rp K A H v d) (h : seqD d = some ds) : ∃ t a us, v = .ref a ∧ SqD K A H t a us ∧ RpL K A H us ds := by
  cases r with
  | lst l r => cases h; exact ⟨false, _, _, rfl, l, r⟩
  | tup l r => cases h; exact ⟨true, _, _, rfl, l, r⟩
  | non => cases h
  | bl c => cases h
  | int i => cases h
  | str x => cases h
  | dct _ _ _ => cases h
def ItzG2 (K : PySem.W.Frag) (t1 : Bool) (a1 : Addr) (xs1 : List V) (t2 : Bool) (a2 : Addr) (xs2 : List V) : It :=
  ⟨fun i H => Sq1 K H t1 a1 xs1 ∧ Sq1 K H t2 a2 xs2 ∧ i < xs1.length ∧ i < xs2.length,
   fun i H v H' => ∃ T x1 x2, v = .ref T ∧ H T = none ∧ H' = upd H T (.tup [x1, x2]) ∧ xs1[i]? = some x1 ∧ xs2[i]? = some x2,
   fun i H => Sq1 K H t1 a1 xs1 ∧ Sq1 K H t2 a2 xs2 ∧ (xs1.length ≤ i ∨ xs2.length ≤ i)⟩
theorem turn_zipG2 {P : Program} {w : World} {K : PySem.W.Frag} {elts : List Expr} {kk : Nat} {tpos : Pos} {t1 t2 : Bool} {xs1 xs2 : List V} {a1 a2 z TI TO i1 i2 : Addr} (S : ZipSep2 z TI TO i1 i2 [i1, a1] [i2, a2]) (n1 : a1 ≠ i1) (n2 : a2 ≠ i2) :
    Turn P w K (.Tuple elts kk tpos) (ItzG2 K t1 a1 xs1 t2 a2 xs2) [z, TI, TO, i1, i2] z (fun i h => IsZip h z TI TO .none ∧ IsTupOf2 h TI (.ref i1) (.ref i2) ∧ (∃ y1 y2, IsTupOf2 h TO y1 y2) ∧ itN t1 h i1 a1 i ∧ itN t2 h i2 a2 i ∧ i ≤ xs1.length ∧ i ≤ xs2.length) where
  mem := by simp
  obj := fun i h st c hc => by
    obtain ⟨hz, hTI, ⟨y1, y2, hTO⟩, s1, s2, _⟩ := st
    have e' : c = z ∨ c = TI ∨ c = TO ∨ c = i1 ∨ c = i2 := by simpa using hc
    rcases e' with q | q | q | q | q
    · rw [q]; exact ⟨_, hz, fun v q => nomatch q⟩
    · rw [q]; exact ⟨_, hTI, fun v q => nomatch q⟩
    · rw [q]; exact ⟨_, hTO, fun v q => nomatch q⟩
    · rw [q]; exact s1.obj
    · rw [q]; exact s2.obj
  keep := fun i h h' st k => by
    obtain ⟨hz, hTI, ⟨y1, y2, hTO⟩, s1, s2, hl⟩ := st
    exact ⟨k z (by simp) _ hz, k TI (by simp) _ hTI, ⟨y1, y2, k TO (by simp) _ hTO⟩, s1.at fun o q => k i1 (by simp) o q, s2.at fun o q => k i2 (by simp) o q, hl⟩
  item := by
    intro X hP hw hK hc i pins s σ H E I hf st hg
    subst hP hw hK
    obtain ⟨hz, hTI, ⟨y1, y2, hTO⟩, s1, s2, l1, l2⟩ := st
    obtain ⟨q1, q2, g1, g2⟩ := hg
    obtain ⟨its1, rv1, p1, z1⟩ := I.sq1 q1
    obtain ⟨u1, hu1, ru1⟩ := rv1.get (List.getElem?_eq_getElem g1)
    obtain ⟨its2, rv2, p2, z2⟩ := I.sq1 q2
    obtain ⟨u2, hu2, ru2⟩ := rv2.get (List.getElem?_eq_getElem g2)
    have hzl : z < s.heap.objs.size := Heap.lt_size hz
    refine wpAny_pyNext_zipD2_item S (drawsS (A := X.A.in1) (show X.A.in1.handled = none from I.ok.hd hc) t1 n1 its1.toArray) (drawsS (A := X.A.in1) (show X.A.in1.handled = none from I.ok.hd hc) t2 n2 its2.toArray) hz hTI hTO ⟨s1, p1⟩ ⟨s2, p2⟩ (by have := rv1.length; rw [List.size_toArray]; omega) (by have := rv2.length; rw [List.size_toArray]; omega) fun v1 v2 h' tk w1 w2 z' TO' d1 d2 hT hsz hk => ?_
    have e1 : v1 = u1 := by
      have q : its1[i]? = some v1 := by simpa using w1
      rw [hu1] at q
      exact (Option.some.inj q).symm
    subst e1
    have e2 : v2 = u2 := by
      have q : its2[i]? = some v2 := by simpa using w2
      rw [hu2] at q
      exact (Option.some.inj q).symm
    subst e2
    refine ⟨_, rfl, wpAny_letOwnedTupleGo_zip (s := { s with heap := h', toks := tk }) z' fun h'' z'' sb => ?_⟩
    have hT2 : h''.get? s.heap.objs.size = some { cls := .type "tuple", data := .seq #[v1, v2] } := (sb.2 _ (Nat.ne_of_gt hzl)).trans hT
    have new : ObjOk X.prog X.w (upd H s.heap.objs.size (.tup [xs1[i], xs2[i]])) h'' s.heap.objs.size (.tup [xs1[i], xs2[i]]) :=
      ⟨by show 2 ≤ sizeLine; decide, [v1, v2], (.cons ru1 (.cons ru2 .nil)), ⟨_, hT2, rfl, _, rfl⟩⟩
    have I1 : Inv X pins σ (upd H s.heap.objs.size (.tup [xs1[i], xs2[i]])) { s with heap := h'', toks := tk } :=
      I.turnedNew (ch := [z, TI, TO, i1, i2]) (fun c o hb q => (sb.2 c (fun q' => hb (by simp [q']))).trans (hk c o (fun q' => hb (by simp [q'])) (fun q' => hb (by simp [q'])) (fun q' => hb (by simp [q'])) (fun q' => hb (by simp [q'])) q)) hf (Nat.le_refl _) new
    refine ⟨.ref s.heap.objs.size, _, I1, rfl, ⟨_, _, _, rfl, I.hok.fresh (Nat.le_refl _), rfl, List.getElem?_eq_getElem g1, List.getElem?_eq_getElem g2⟩, ⟨z'', ?_, ⟨v1, v2, ?_⟩, d1.1.at fun o q => (sb.2 i1 (fun q' => S.zf1 (by simp [← q']))).trans q, d2.1.at fun o q => (sb.2 i2 (fun q' => S.zf2 (by simp [← q']))).trans q, g1, g2⟩, fun b hb => ?_⟩
    · exact (sb.2 _ S.TIz).trans (hk _ _ S.TIz S.TITO S.TIi1 S.TIi2 hTI)
    · exact (sb.2 _ S.TOz).trans TO'
    · have hb' : b < s.heap.objs.size := by
        have e' : b = z ∨ b = TI ∨ b = TO ∨ b = i1 ∨ b = i2 := by simpa using hb
        rcases e' with q | q | q | q | q
        · rw [q]; exact hzl
        · rw [q]; exact Heap.lt_size hTI
        · rw [q]; exact Heap.lt_size hTO
        · rw [q]; obtain ⟨_, e, _⟩ := s1.obj; exact Heap.lt_size e
        · rw [q]; obtain ⟨_, e, _⟩ := s2.obj; exact Heap.lt_size e
      rw [upd_ne (Nat.ne_of_lt hb')]
      exact (hf b hb).1
  done := by
    intro X hP hw hK hc i pins s σ H E I hf st hg
    subst hP hw hK
    obtain ⟨hz, hTI, ⟨y1, y2, hTO⟩, s1, s2, l1, l2⟩ := st
    obtain ⟨q1, q2, ge⟩ := hg
    obtain ⟨its1, rv1, p1, z1⟩ := I.sq1 q1
    have m1 := rv1.length
    obtain ⟨its2, rv2, p2, z2⟩ := I.sq1 q2
    have m2 := rv2.length
    exact wpAny_pyNext_zipD2_end S (drawsS (A := X.A.in1) (show X.A.in1.handled = none from I.ok.hd hc) t1 n1 its1.toArray) (drawsS (A := X.A.in1) (show X.A.in1.handled = none from I.ok.hd hc) t2 n2 its2.toArray) hz hTI hTO ⟨s1, p1⟩ ⟨s2, p2⟩ (by rw [List.size_toArray]; omega) (by rw [List.size_toArray]; omega) (by simp only [List.size_toArray]; omega) fun h' tk hk => ⟨rfl, I.turnedL (t' := tk) (ch := [z, TI, TO, i1, i2]) (fun c o hb q => hk c o (fun q' => hb (by simp [q'])) (fun q' => hb (by simp [q'])) (fun q' => hb (by simp [q'])) (fun q' => hb (by simp [q'])) q) hf⟩
  self := fun A i s Q E st h => wpAny_pyIter_zip st.1 h
def iZipG2 (K : PySem.W.Frag) (ta : TA) : TI := fun σ H R => ta σ H fun vs H => ∃ t1 a1 xs1 t2 a2 xs2, vs = [.ref a1, .ref a2] ∧ Sq1 K H t1 a1 xs1 ∧ Sq1 K H t2 a2 xs2 ∧ R (ItzG2 K t1 a1 xs1 t2 a2 xs2) H
theorem pi_zipG2 {X : Cx} {e1 e2 : Expr} {ta : TA} {p pos tpos : Pos} {elts : List Expr} {kk : Nat} (hg : Gl X "zip") (hm : X.mg "zip" = none) (ha : PA X [e1, e2] ta)
    (hs : starEach [e1, e2] X.env = (false, eval e1 X.env) :: starEach [e2] X.env := by rfl) (hpl : (backTo pos (starEach [e2] X.env)).any (·.1) = false := by rfl) :
    PI X (.Tuple elts kk tpos) (.Call (.Name "zip" p) [e1, e2] [] pos) (iZipG2 X.K ta) := by
  refine ⟨fun pins s σ H R I h => ?_⟩
  refine Call_ (ld_blt I hg hm PyProof.Rows.boot_zip (PyProof.Rows.callWith_type1 (thn (ha.run pos pins s σ H _ I h) fun us s1 ⟨vs, H1, I1, r1, q1⟩ => ?_) hs hpl))
  obtain ⟨t1, a1, xs1, t2, a2, xs2, ex, f1, f2, q⟩ := q1
  subst ex
  cases r1 with
  | cons r1x r1 =>
    cases r1 with
    | cons r2x r1 =>
      cases r1
      cases r1x
      cases r2x
      obtain ⟨its1, rv1, p1, z1⟩ := I1.sq1 f1
      have lt1 : a1 < s1.heap.objs.size := p1.lt
      obtain ⟨its2, rv2, p2, z2⟩ := I1.sq1 f2
      have lt2 : a2 < s1.heap.objs.size := p2.lt
      have fresh : ∀ c, c ∈ [s1.heap.objs.size + 4, s1.heap.objs.size + 2, s1.heap.objs.size + 3, s1.heap.objs.size, s1.heap.objs.size + 1] → FpOk X pins H1 c := fun c hcm => by
        have hle : s1.heap.objs.size ≤ c := by
          have e' : c = s1.heap.objs.size + 4 ∨ c = s1.heap.objs.size + 2 ∨ c = s1.heap.objs.size + 3 ∨ c = s1.heap.objs.size ∨ c = s1.heap.objs.size + 1 := by simpa using hcm
          rcases e' with q | q | q | q | q
          · rw [q]; exact Nat.le_add_right _ _
          · rw [q]; exact Nat.le_add_right _ _
          · rw [q]; exact Nat.le_add_right _ _
          · rw [q]; exact Nat.le_refl _
          · rw [q]; exact Nat.le_add_right _ _
        exact I1.fpOk hle (I1.hok.fresh hle)
      refine zip_begins2 (beginsS t1 a1 its1.toArray) (beginsS t2 a2 its2.toArray) p1 p2 fun h' hz hTI hTO b1 b2 hsz hk => wpAny_pyIter_zip hz ?_
      have I2 : Inv X pins σ H1 { s1 with heap := h' } := I1.kept (t' := s1.toks) hk
      exact ⟨s1.heap.objs.size + 4, [s1.heap.objs.size + 4, s1.heap.objs.size + 2, s1.heap.objs.size + 3, s1.heap.objs.size, s1.heap.objs.size + 1], _, _, H1, rfl, I2, turn_zipG2 (zip_sep2 (fp1 := [a1]) (fun b hb => by rw [List.mem_singleton.mp hb]; exact lt1) (fp2 := [a2]) (fun b hb => by rw [List.mem_singleton.mp hb]; exact lt2)) (Nat.ne_of_lt (Nat.lt_of_lt_of_le lt1 (Nat.le_refl _))) (Nat.ne_of_lt (Nat.lt_of_lt_of_le lt2 (Nat.le_add_right _ _))), ⟨hz, hTI, ⟨_, _, hTO⟩, itN_new b1, itN_new b2, Nat.zero_le _, Nat.zero_le _⟩, fresh, q⟩
section
variable {X : Cx} {e1 e2 : Expr} {wr : WA} {pos : Pos}
def iZipA2 (wr : WA) : WI := fun s Ks => wr s fun s1 xs => a2 xs fun x y => da2 x y fun d e => onO (seqD d) fun ds => onO (seqD e) fun es => Ks s1 (zipD ds es)
theorem di_zipA2 {p tpos : Pos} {elts : List Expr} {kk : Nat} (hg : Gl X "zip") (hm : X.mg "zip" = none) (ha : DA X [e1, e2] wr)
    (hs : starEach [e1, e2] X.env = (false, eval e1 X.env) :: starEach [e2] X.env := by rfl) (hpl : (backTo pos (starEach [e2] X.env)).any (·.1) = false := by rfl) :
    DI X (.Tuple elts kk tpos) (.Call (.Name "zip" p) [e1, e2] [] pos) (iZipA2 wr) := by
  obtain ⟨ta, pa, qa⟩ := ha.ex
  refine ⟨_, pi_zipG2 hg hm pa hs hpl, fun b A own H σ s Ks Q R h k => ?_⟩
  show ta σ H fun vs H => ∃ t1 a1 xs1 t2 a2 xs2, vs = [.ref a1, .ref a2] ∧ Sq1 X.K H t1 a1 xs1 ∧ Sq1 X.K H t2 a2 xs2 ∧ Q (ItzG2 X.K t1 a1 xs1 t2 a2 xs2) H
  refine qa _ _ _ _ _ _ _ _ R h fun A1 o1 H1 vs s1 xs R1 U1 E1 h1 => ?_
  obtain ⟨v1, v2, x, y, rfl, c1, c2, h1⟩ := a2_inv E1 h1
  obtain ⟨d1, d2, rfl, rfl, h2⟩ := da2_inv h1
  clear h1
  obtain ⟨ds1, hd1, h2⟩ := onO_inv h2
  obtain ⟨t1, a1, us1, rfl, st1, r1⟩ := rp_seq (show Rp X.K A1 H1 v1 d1 from c1) hd1
  obtain ⟨ds2, hd2, h2⟩ := onO_inv h2
  obtain ⟨t2, a2, us2, rfl, st2, r2⟩ := rp_seq (show Rp X.K A1 H1 v2 d2 from c2) hd2
  refine ⟨t1, a1, us1, t2, a2, us2, rfl, st1.sq, st2.sq, k _ _ _ _ _ _ R1 U1 ?_ h2⟩
  intro A2 H2 kp i
  have m1 := st1.mono kp
  have g1 := RpL.mono kp r1
  have m2 := st2.mono kp
  have g2 := RpL.mono kp r2
  refine ⟨fun hi => ⟨m1.sq, m2.sq, ?_⟩, fun d hd => ?_⟩
  · rw [zipD_length] at hi
    rw [g1.length, g2.length]
    omega
  · obtain ⟨x1, x2, hx1, hx2, rfl⟩ := zipD_get hd
    obtain ⟨y1, gy1, ry1⟩ := g1.get hx1
    obtain ⟨y2, gy2, ry2⟩ := g2.get hx2
    refine ⟨⟨m1.sq, m2.sq, (List.getElem?_eq_some_iff.mp gy1).1, (List.getElem?_eq_some_iff.mp gy2).1⟩, fun w H3 hw own1 σ s R => ?_⟩
    obtain ⟨T, z1, z2, rfl, hT, rfl, k1, k2⟩ := hw
    rw [gy1] at k1
    cases k1
    rw [gy2] at k2
    cases k2
    exact wk_new hT (.cons ry1 (.cons ry2 .nil)) own1 σ s R
end
def ItzG3 (K : PySem.W.Frag) (t1 : Bool) (a1 : Addr) (xs1 : List V) (t2 : Bool) (a2 : Addr) (xs2 : List V) (t3 : Bool) (a3 : Addr) (xs3 : List V) : It :=
  ⟨fun i H => Sq1 K H t1 a1 xs1 ∧ Sq1 K H t2 a2 xs2 ∧ Sq1 K H t3 a3 xs3 ∧ i < xs1.length ∧ i < xs2.length ∧ i < xs3.length,
   fun i H v H' => ∃ T x1 x2 x3, v = .ref T ∧ H T = none ∧ H' = upd H T (.tup [x1, x2, x3]) ∧ xs1[i]? = some x1 ∧ xs2[i]? = some x2 ∧ xs3[i]? = some x3,
   fun i H => Sq1 K H t1 a1 xs1 ∧ Sq1 K H t2 a2 xs2 ∧ Sq1 K H t3 a3 xs3 ∧ (xs1.length ≤ i ∨ xs2.length ≤ i ∨ xs3.length ≤ i)⟩
theorem turn_zipG3 {P : Program} {w : World} {K : PySem.W.Frag} {elts : List Expr} {kk : Nat} {tpos : Pos} {t1 t2 t3 : Bool} {xs1 xs2 xs3 : List V} {a1 a2 a3 z TI TO i1 i2 i3 : Addr} (S : ZipSep3 z TI TO i1 i2 i3 [i1, a1] [i2, a2] [i3, a3]) (n1 : a1 ≠ i1) (n2 : a2 ≠ i2) (n3 : a3 ≠ i3) :
    Turn P w K (.Tuple elts kk tpos) (ItzG3 K t1 a1 xs1 t2 a2 xs2 t3 a3 xs3) [z, TI, TO, i1, i2, i3] z (fun i h => IsZip h z TI TO .none ∧ IsTupOf3 h TI (.ref i1) (.ref i2) (.ref i3) ∧ (∃ y1 y2 y3, IsTupOf3 h TO y1 y2 y3) ∧ itN t1 h i1 a1 i ∧ itN t2 h i2 a2 i ∧ itN t3 h i3 a3 i ∧ i ≤ xs1.length ∧ i ≤ xs2.length ∧ i ≤ xs3.length) where
  mem := by simp
  obj := fun i h st c hc => by
    obtain ⟨hz, hTI, ⟨y1, y2, y3, hTO⟩, s1, s2, s3, _⟩ := st
    have e' : c = z ∨ c = TI ∨ c = TO ∨ c = i1 ∨ c = i2 ∨ c = i3 := by simpa using hc
    rcases e' with q | q | q | q | q | q
    · rw [q]; exact ⟨_, hz, fun v q => nomatch q⟩
    · rw [q]; exact ⟨_, hTI, fun v q => nomatch q⟩
    · rw [q]; exact ⟨_, hTO, fun v q => nomatch q⟩
    · rw [q]; exact s1.obj
    · rw [q]; exact s2.obj
    · rw [q]; exact s3.obj
  keep := fun i h h' st k => by
    obtain ⟨hz, hTI, ⟨y1, y2, y3, hTO⟩, s1, s2, s3, hl⟩ := st
    exact ⟨k z (by simp) _ hz, k TI (by simp) _ hTI, ⟨y1, y2, y3, k TO (by simp) _ hTO⟩, s1.at fun o q => k i1 (by simp) o q, s2.at fun o q => k i2 (by simp) o q, s3.at fun o q => k i3 (by simp) o q, hl⟩
  item := by
    intro X hP hw hK hc i pins s σ H E I hf st hg
    subst hP hw hK
    obtain ⟨hz, hTI, ⟨y1, y2, y3, hTO⟩, s1, s2, s3, l1, l2, l3⟩ := st
    obtain ⟨q1, q2, q3, g1, g2, g3⟩ := hg
    obtain ⟨its1, rv1, p1, z1⟩ := I.sq1 q1
    obtain ⟨u1, hu1, ru1⟩ := rv1.get (List.getElem?_eq_getElem g1)
    obtain ⟨its2, rv2, p2, z2⟩ := I.sq1 q2
    obtain ⟨u2, hu2, ru2⟩ := rv2.get (List.getElem?_eq_getElem g2)
    obtain ⟨its3, rv3, p3, z3⟩ := I.sq1 q3
    obtain ⟨u3, hu3, ru3⟩ := rv3.get (List.getElem?_eq_getElem g3)
    have hzl : z < s.heap.objs.size := Heap.lt_size hz
    refine wpAny_pyNext_zipD3_item S (drawsS (A := X.A.in1) (show X.A.in1.handled = none from I.ok.hd hc) t1 n1 its1.toArray) (drawsS (A := X.A.in1) (show X.A.in1.handled = none from I.ok.hd hc) t2 n2 its2.toArray) (drawsS (A := X.A.in1) (show X.A.in1.handled = none from I.ok.hd hc) t3 n3 its3.toArray) hz hTI hTO ⟨s1, p1⟩ ⟨s2, p2⟩ ⟨s3, p3⟩ (by have := rv1.length; rw [List.size_toArray]; omega) (by have := rv2.length; rw [List.size_toArray]; omega) (by have := rv3.length; rw [List.size_toArray]; omega) fun v1 v2 v3 h' tk w1 w2 w3 z' TO' d1 d2 d3 hT hsz hk => ?_
    have e1 : v1 = u1 := by
      have q : its1[i]? = some v1 := by simpa using w1
      rw [hu1] at q
      exact (Option.some.inj q).symm
    subst e1
    have e2 : v2 = u2 := by
      have q : its2[i]? = some v2 := by simpa using w2
      rw [hu2] at q
      exact (Option.some.inj q).symm
    subst e2
    have e3 : v3 = u3 := by
      have q : its3[i]? = some v3 := by simpa using w3
      rw [hu3] at q
      exact (Option.some.inj q).symm
    subst e3
    refine ⟨_, rfl, wpAny_letOwnedTupleGo_zip (s := { s with heap := h', toks := tk }) z' fun h'' z'' sb => ?_⟩
    have hT2 : h''.get? s.heap.objs.size = some { cls := .type "tuple", data := .seq #[v1, v2, v3] } := (sb.2 _ (Nat.ne_of_gt hzl)).trans hT
    have new : ObjOk X.prog X.w (upd H s.heap.objs.size (.tup [xs1[i], xs2[i], xs3[i]])) h'' s.heap.objs.size (.tup [xs1[i], xs2[i], xs3[i]]) :=
      ⟨by show 3 ≤ sizeLine; decide, [v1, v2, v3], (.cons ru1 (.cons ru2 (.cons ru3 .nil))), ⟨_, hT2, rfl, _, rfl⟩⟩
    have I1 : Inv X pins σ (upd H s.heap.objs.size (.tup [xs1[i], xs2[i], xs3[i]])) { s with heap := h'', toks := tk } :=
      I.turnedNew (ch := [z, TI, TO, i1, i2, i3]) (fun c o hb q => (sb.2 c (fun q' => hb (by simp [q']))).trans (hk c o (fun q' => hb (by simp [q'])) (fun q' => hb (by simp [q'])) (fun q' => hb (by simp [q'])) (fun q' => hb (by simp [q'])) (fun q' => hb (by simp [q'])) q)) hf (Nat.le_refl _) new
    refine ⟨.ref s.heap.objs.size, _, I1, rfl, ⟨_, _, _, _, rfl, I.hok.fresh (Nat.le_refl _), rfl, List.getElem?_eq_getElem g1, List.getElem?_eq_getElem g2, List.getElem?_eq_getElem g3⟩, ⟨z'', ?_, ⟨v1, v2, v3, ?_⟩, d1.1.at fun o q => (sb.2 i1 (fun q' => S.zf1 (by simp [← q']))).trans q, d2.1.at fun o q => (sb.2 i2 (fun q' => S.zf2 (by simp [← q']))).trans q, d3.1.at fun o q => (sb.2 i3 (fun q' => S.zf3 (by simp [← q']))).trans q, g1, g2, g3⟩, fun b hb => ?_⟩
    · exact (sb.2 _ S.TIz).trans (hk _ _ S.TIz S.TITO S.TIi1 S.TIi2 S.TIi3 hTI)
    · exact (sb.2 _ S.TOz).trans TO'
    · have hb' : b < s.heap.objs.size := by
        have e' : b = z ∨ b = TI ∨ b = TO ∨ b = i1 ∨ b = i2 ∨ b = i3 := by simpa using hb
        rcases e' with q | q | q | q | q | q
        · rw [q]; exact hzl
        · rw [q]; exact Heap.lt_size hTI
        · rw [q]; exact Heap.lt_size hTO
        · rw [q]; obtain ⟨_, e, _⟩ := s1.obj; exact Heap.lt_size e
        · rw [q]; obtain ⟨_, e, _⟩ := s2.obj; exact Heap.lt_size e
        · rw [q]; obtain ⟨_, e, _⟩ := s3.obj; exact Heap.lt_size e
      rw [upd_ne (Nat.ne_of_lt hb')]
      exact (hf b hb).1
  done := by
    intro X hP hw hK hc i pins s σ H E I hf st hg
    subst hP hw hK
    obtain ⟨hz, hTI, ⟨y1, y2, y3, hTO⟩, s1, s2, s3, l1, l2, l3⟩ := st
    obtain ⟨q1, q2, q3, ge⟩ := hg
    obtain ⟨its1, rv1, p1, z1⟩ := I.sq1 q1
    have m1 := rv1.length
    obtain ⟨its2, rv2, p2, z2⟩ := I.sq1 q2
    have m2 := rv2.length
    obtain ⟨its3, rv3, p3, z3⟩ := I.sq1 q3
    have m3 := rv3.length
    exact wpAny_pyNext_zipD3_end S (drawsS (A := X.A.in1) (show X.A.in1.handled = none from I.ok.hd hc) t1 n1 its1.toArray) (drawsS (A := X.A.in1) (show X.A.in1.handled = none from I.ok.hd hc) t2 n2 its2.toArray) (drawsS (A := X.A.in1) (show X.A.in1.handled = none from I.ok.hd hc) t3 n3 its3.toArray) hz hTI hTO ⟨s1, p1⟩ ⟨s2, p2⟩ ⟨s3, p3⟩ (by rw [List.size_toArray]; omega) (by rw [List.size_toArray]; omega) (by rw [List.size_toArray]; omega) (by simp only [List.size_toArray]; omega) fun h' tk hk => ⟨rfl, I.turnedL (t' := tk) (ch := [z, TI, TO, i1, i2, i3]) (fun c o hb q => hk c o (fun q' => hb (by simp [q'])) (fun q' => hb (by simp [q'])) (fun q' => hb (by simp [q'])) (fun q' => hb (by simp [q'])) (fun q' => hb (by simp [q'])) q) hf⟩
  self := fun A i s Q E st h => wpAny_pyIter_zip st.1 h
def iZipG3 (K : PySem.W.Frag) (ta : TA) : TI := fun σ H R => ta σ H fun vs H => ∃ t1 a1 xs1 t2 a2 xs2 t3 a3 xs3, vs = [.ref a1, .ref a2, .ref a3] ∧ Sq1 K H t1 a1 xs1 ∧ Sq1 K H t2 a2 xs2 ∧ Sq1 K H t3 a3 xs3 ∧ R (ItzG3 K t1 a1 xs1 t2 a2 xs2 t3 a3 xs3) H
theorem pi_zipG3 {X : Cx} {e1 e2 e3 : Expr} {ta : TA} {p pos tpos : Pos} {elts : List Expr} {kk : Nat} (hg : Gl X "zip") (hm : X.mg "zip" = none) (ha : PA X [e1, e2, e3] ta)
    (hs : starEach [e1, e2, e3] X.env = (false, eval e1 X.env) :: starEach [e2, e3] X.env := by rfl) (hpl : (backTo pos (starEach [e2, e3] X.env)).any (·.1) = false := by rfl) :
    PI X (.Tuple elts kk tpos) (.Call (.Name "zip" p) [e1, e2, e3] [] pos) (iZipG3 X.K ta) := by
  refine ⟨fun pins s σ H R I h => ?_⟩
  refine Call_ (ld_blt I hg hm PyProof.Rows.boot_zip (PyProof.Rows.callWith_type1 (thn (ha.run pos pins s σ H _ I h) fun us s1 ⟨vs, H1, I1, r1, q1⟩ => ?_) hs hpl))
  obtain ⟨t1, a1, xs1, t2, a2, xs2, t3, a3, xs3, ex, f1, f2, f3, q⟩ := q1
  subst ex
  cases r1 with
  | cons r1x r1 =>
    cases r1 with
    | cons r2x r1 =>
      cases r1 with
      | cons r3x r1 =>
        cases r1
        cases r1x
        cases r2x
        cases r3x
        obtain ⟨its1, rv1, p1, z1⟩ := I1.sq1 f1
        have lt1 : a1 < s1.heap.objs.size := p1.lt
        obtain ⟨its2, rv2, p2, z2⟩ := I1.sq1 f2
        have lt2 : a2 < s1.heap.objs.size := p2.lt
        obtain ⟨its3, rv3, p3, z3⟩ := I1.sq1 f3
        have lt3 : a3 < s1.heap.objs.size := p3.lt
        have fresh : ∀ c, c ∈ [s1.heap.objs.size + 5, s1.heap.objs.size + 3, s1.heap.objs.size + 4, s1.heap.objs.size, s1.heap.objs.size + 1, s1.heap.objs.size + 2] → FpOk X pins H1 c := fun c hcm => by
          have hle : s1.heap.objs.size ≤ c := by
            have e' : c = s1.heap.objs.size + 5 ∨ c = s1.heap.objs.size + 3 ∨ c = s1.heap.objs.size + 4 ∨ c = s1.heap.objs.size ∨ c = s1.heap.objs.size + 1 ∨ c = s1.heap.objs.size + 2 := by simpa using hcm
            rcases e' with q | q | q | q | q | q
            · rw [q]; exact Nat.le_add_right _ _
            · rw [q]; exact Nat.le_add_right _ _
            · rw [q]; exact Nat.le_add_right _ _
            · rw [q]; exact Nat.le_refl _
            · rw [q]; exact Nat.le_add_right _ _
            · rw [q]; exact Nat.le_add_right _ _
          exact I1.fpOk hle (I1.hok.fresh hle)
        refine zip_begins3 (beginsS t1 a1 its1.toArray) (beginsS t2 a2 its2.toArray) (beginsS t3 a3 its3.toArray) p1 p2 p3 fun h' hz hTI hTO b1 b2 b3 hsz hk => wpAny_pyIter_zip hz ?_
        have I2 : Inv X pins σ H1 { s1 with heap := h' } := I1.kept (t' := s1.toks) hk
        exact ⟨s1.heap.objs.size + 5, [s1.heap.objs.size + 5, s1.heap.objs.size + 3, s1.heap.objs.size + 4, s1.heap.objs.size, s1.heap.objs.size + 1, s1.heap.objs.size + 2], _, _, H1, rfl, I2, turn_zipG3 (zip_sep3 (fp1 := [a1]) (fun b hb => by rw [List.mem_singleton.mp hb]; exact lt1) (fp2 := [a2]) (fun b hb => by rw [List.mem_singleton.mp hb]; exact lt2) (fp3 := [a3]) (fun b hb => by rw [List.mem_singleton.mp hb]; exact lt3)) (Nat.ne_of_lt (Nat.lt_of_lt_of_le lt1 (Nat.le_refl _))) (Nat.ne_of_lt (Nat.lt_of_lt_of_le lt2 (Nat.le_add_right _ _))) (Nat.ne_of_lt (Nat.lt_of_lt_of_le lt3 (Nat.le_add_right _ _))), ⟨hz, hTI, ⟨_, _, _, hTO⟩, itN_new b1, itN_new b2, itN_new b3, Nat.zero_le _, Nat.zero_le _, Nat.zero_le _⟩, fresh, q⟩
section
variable {X : Cx} {e1 e2 e3 : Expr} {wr : WA} {pos : Pos}
def zipD3 : List D → List D → List D → List D
  | x :: xs, y :: ys, z :: zs => .tuple [x, y, z] :: zipD3 xs ys zs
  | _, _, _ => []
theorem zipD3_get : ∀ {xs ys zs : List D} {i : Nat} {d : D}, (zipD3 xs ys zs)[i]? = some d → ∃ x y z, xs[i]? = some x ∧ ys[i]? = some y ∧ zs[i]? = some z ∧ d = .tuple [x, y, z]
  | x :: xs, y :: ys, z :: zs, 0, d, h => ⟨x, y, z, rfl, rfl, rfl, by simp [zipD3] at h; exact h.symm⟩
  | x :: xs, y :: ys, z :: zs, i + 1, d, h => by
    obtain ⟨x', y', z', h1, h2, h3, h4⟩ := zipD3_get (xs := xs) (ys := ys) (zs := zs) (i := i) (by simpa [zipD3] using h)
    exact ⟨x', y', z', by simpa using h1, by simpa using h2, by simpa using h3, h4⟩
  | [], _, _, _, _, h => by simp [zipD3] at h
  | _ :: _, [], _, _, _, h => by simp [zipD3] at h
  | _ :: _, _ :: _, [], _, _, h => by simp [zipD3] at h
theorem zipD3_length : ∀ (xs ys zs : List D), (zipD3 xs ys zs).length = min (min xs.length ys.length) zs.length
  | x :: xs, y :: ys, z :: zs => by
    have := zipD3_length xs ys zs
    simp only [zipD3, List.length_cons]
    omega
  | [], _, _ => by simp [zipD3]
  | _ :: _, [], _ => by simp [zipD3]
  | _ :: _, _ :: _, [] => by simp [zipD3]
def da3' (xs : List En) (k : D → D → D → Prop) : Prop := a3 xs fun x y z => daI x fun d => daI y fun e => daI z fun f => k d e f
def iZipA3 (wr : WA) : WI := fun s Ks => wr s fun s1 xs => da3' xs fun d e f => onO (seqD d) fun ds => onO (seqD e) fun es => onO (seqD f) fun fs => Ks s1 (zipD3 ds es fs)
theorem di_zipA3 {p tpos : Pos} {elts : List Expr} {kk : Nat} (hg : Gl X "zip") (hm : X.mg "zip" = none) (ha : DA X [e1, e2, e3] wr)
    (hs : starEach [e1, e2, e3] X.env = (false, eval e1 X.env) :: starEach [e2, e3] X.env := by rfl) (hpl : (backTo pos (starEach [e2, e3] X.env)).any (·.1) = false := by rfl) :
    DI X (.Tuple elts kk tpos) (.Call (.Name "zip" p) [e1, e2, e3] [] pos) (iZipA3 wr) := by
  obtain ⟨ta, pa, qa⟩ := ha.ex
  refine ⟨_, pi_zipG3 hg hm pa hs hpl, fun b A own H σ s Ks Q R h k => ?_⟩
  show ta σ H fun vs H => ∃ t1 a1 xs1 t2 a2 xs2 t3 a3 xs3, vs = [.ref a1, .ref a2, .ref a3] ∧ Sq1 X.K H t1 a1 xs1 ∧ Sq1 X.K H t2 a2 xs2 ∧ Sq1 X.K H t3 a3 xs3 ∧ Q (ItzG3 X.K t1 a1 xs1 t2 a2 xs2 t3 a3 xs3) H
  refine qa _ _ _ _ _ _ _ _ R h fun A1 o1 H1 vs s1 xs R1 U1 E1 h1 => ?_
  obtain ⟨v1, v2, v3, x, y, z, rfl, c1, c2, c3, h1⟩ := a3_inv E1 h1
  obtain ⟨d1, rfl, h3⟩ := daI_inv h1
  obtain ⟨d2, rfl, h4⟩ := daI_inv h3
  obtain ⟨d3, rfl, h2⟩ := daI_inv h4
  clear h3 h4
  clear h1
  obtain ⟨ds1, hd1, h2⟩ := onO_inv h2
  obtain ⟨t1, a1, us1, rfl, st1, r1⟩ := rp_seq (show Rp X.K A1 H1 v1 d1 from c1) hd1
  obtain ⟨ds2, hd2, h2⟩ := onO_inv h2
  obtain ⟨t2, a2, us2, rfl, st2, r2⟩ := rp_seq (show Rp X.K A1 H1 v2 d2 from c2) hd2
  obtain ⟨ds3, hd3, h2⟩ := onO_inv h2
  obtain ⟨t3, a3, us3, rfl, st3, r3⟩ := rp_seq (show Rp X.K A1 H1 v3 d3 from c3) hd3
  refine ⟨t1, a1, us1, t2, a2, us2, t3, a3, us3, rfl, st1.sq, st2.sq, st3.sq, k _ _ _ _ _ _ R1 U1 ?_ h2⟩
  intro A2 H2 kp i
  have m1 := st1.mono kp
  have g1 := RpL.mono kp r1
  have m2 := st2.mono kp
  have g2 := RpL.mono kp r2
  have m3 := st3.mono kp
  have g3 := RpL.mono kp r3
  refine ⟨fun hi => ⟨m1.sq, m2.sq, m3.sq, ?_⟩, fun d hd => ?_⟩
  · rw [zipD3_length] at hi
    rw [g1.length, g2.length, g3.length]
    omega
  · obtain ⟨x1, x2, x3, hx1, hx2, hx3, rfl⟩ := zipD3_get hd
    obtain ⟨y1, gy1, ry1⟩ := g1.get hx1
    obtain ⟨y2, gy2, ry2⟩ := g2.get hx2
    obtain ⟨y3, gy3, ry3⟩ := g3.get hx3
    refine ⟨⟨m1.sq, m2.sq, m3.sq, (List.getElem?_eq_some_iff.mp gy1).1, (List.getElem?_eq_some_iff.mp gy2).1, (List.getElem?_eq_some_iff.mp gy3).1⟩, fun w H3 hw own1 σ s R => ?_⟩
    obtain ⟨T, z1, z2, z3, rfl, hT, rfl, k1, k2, k3⟩ := hw
    rw [gy1] at k1
    cases k1
    rw [gy2] at k2
    cases k2
    rw [gy3] at k3
    cases k3
    exact wk_new hT (.cons ry1 (.cons ry2 (.cons ry3 .nil))) own1 σ s R
end
end DL
namespace DL
open PySem L2 PySem.Spec PyProof.Rows
section
variable {X : Cx} {a b c e : Expr} {wa wb wc we : WE} {pos : Pos}
/-! ### d[k] += x, d[k] -= x -/
def sAugD (wo wi wv : WE) (rd : S → En → En → (S → En → Prop) → Prop) : WS := fun s D => wo s fun s1 o => wi s1 fun s2 i => mu2 s2 o fun j kvs => daI i fun kd => onO (keyD kd) fun key => ∃ d, findD kvs key = some d ∧ wv s2 fun s3 y => rd s3 (.da d) y fun s4 z => mu2 s4 (.mu j) fun _ kvs' => daI z fun e => kvs'.length < sizeLine ∧ D.nx (s4.sM j (.dct (putD kvs' key e)))
theorem ds_augD {op : Operator} {r : R2} {rd} {tpos : Pos} (hu : X.A.units + 1 < cLine) (ho : DE X a wa) (hi : DE X b wb) (hv : DE X e we) (hop : OpR X (inplaceOp op) r) (hd : OpD X.K r rd)
    (ha : ∀ ov iv new, augStore b ov iv new = (do holding [new, ov, iv] (setItem ov iv new); release [new, ov, iv] []; pure .next) := by intros; rfl) :
    DS X (.AugAssign (.Subscript a b tpos) op e pos) (sAugD wa wb we rd) := by
  obtain ⟨ta, pa, qa⟩ := ho.ex
  obtain ⟨tb, pb, qb⟩ := hi.ex
  obtain ⟨te, pe, qe⟩ := hv.ex
  refine ⟨_, ps_daug (rd := r) hu pa pb pe (fun pins s σ H x y u v Q I rx ry h => hop pins s σ H x y u v Q I rx ry h) ha, fun b A own H σ s D E R h m => ?_⟩
  show ta σ H fun x H1 => tb σ H1 fun y H2 => ∃ a v, x = .ref a ∧ DGet H2 a y (some v) ∧ te σ H2 fun y2 H3 => r v y2 H3 fun z H4 => ∃ H5, DPut H4 a y z H5 ∧ E.nx σ H5
  refine qa _ _ _ _ _ _ _ _ R h fun A1 o1 H1 v1 s1 x1 R1 U1 E1 h1 => ?_
  refine qb _ _ _ _ _ _ _ _ R1 h1 fun A2 o2 H2 v2 s2 x2 R2 U2 E2 h2 => ?_
  obtain ⟨j, kvs, rfl, g, h2⟩ := mu2_inv h2
  obtain ⟨kd, rfl, h2⟩ := daI_inv h2
  obtain ⟨key, hk, d, hd', h2⟩ := onO_inv h2
  obtain ⟨p, vs, rfl, e2, e3, _, _⟩ := mud_at R2 (E1.up U2) g
  rw [keyD_rp E2 hk]
  rcases e3.find (k := key) with ⟨q1, q2⟩ | ⟨d', v', q1, q2, q3⟩
  · rw [q1] at hd'; cases hd'
  rw [q1] at hd'
  cases hd'
  refine ⟨p, v', rfl, by rw [← q2]; exact DGet.k e2, ?_⟩
  refine qe _ _ _ _ _ _ _ _ R2 h2 fun A3 o3 H3 v3 s3 x3 R3 U3 E3 h3 => ?_
  refine hd _ _ _ _ _ _ _ _ _ _ _ _ R3 (show ER X.K A3 o3 H3 v' (.da d) from Rp.mono U3.kp q3) E3 h3 fun A4 o4 H4 v4 s4 x4 R4 U4 E4 h4 => ?_
  obtain ⟨j', kvs', ej, g', h4⟩ := mu2_inv h4
  cases ej
  obtain ⟨d4, rfl, hl, h4⟩ := daI_inv h4
  obtain ⟨p', vs', ep, f2, f3, _, up⟩ := mud_at R4 (E1.up (U2.trans (U3.trans U4))) g'
  cases ep
  obtain ⟨R5, U5⟩ := up _ _ (f3.put (k := key) (show Rp X.K A4 H4 v4 d4 from E4))
  exact ⟨_, DPut.k f2 (by rw [f3.len]; exact hl), m.nx _ _ _ _ _ R5 ((((U1.trans U2).trans U3).trans U4).trans U5).kp h4⟩
def rdSubI : S → En → En → (S → En → Prop) → Prop := fun s x y Ks => iI x y fun i j => Ks s (.da (.int (i - j)))
def rdAddI : S → En → En → (S → En → Prop) → Prop := fun s x y Ks => iI x y fun i j => Ks s (.da (.int (i + j)))
theorem ds_augDSub {tpos : Pos} (hu : X.A.units + 1 < cLine) (ho : DE X a wa) (hi : DE X b wb) (hv : DE X e we)
    (ha : ∀ ov iv new, augStore b ov iv new = (do holding [new, ov, iv] (setItem ov iv new); release [new, ov, iv] []; pure .next) := by intros; rfl) : DS X (.AugAssign (.Subscript a b tpos) .Sub e pos) (sAugD wa wb we rdSubI) := ds_augD hu ho hi hv iop_sub opd_int0 ha
theorem ds_augDAdd {tpos : Pos} (hu : X.A.units + 1 < cLine) (ho : DE X a wa) (hi : DE X b wb) (hv : DE X e we)
    (ha : ∀ ov iv new, augStore b ov iv new = (do holding [new, ov, iv] (setItem ov iv new); release [new, ov, iv] []; pure .next) := by intros; rfl) : DS X (.AugAssign (.Subscript a b tpos) .Add e pos) (sAugD wa wb we rdAddI) := ds_augD hu ho hi hv iop_add opd_int0 ha
/-! ### dict(pairs) -/
def pairsD : List D → Option (List (Key × D))
  | [] => some []
  | .tuple [k, v] :: r => match keyD k, pairsD r with | some key, some kvs => some ((key, v) :: kvs) | _, _ => none
  | _ :: _ => none
def mergeD (kvs more : List (Key × D)) : List (Key × D) := more.foldl (fun acc kv => putD acc kv.1 kv.2) kvs
theorem rkv_merge {K : PySem.W.Frag} {A : Addr → Prop} {H : Hp} : ∀ {ws : List (Key × V)} {ds : List (Key × D)} {us : List (Key × V)} {es : List (Key × D)}, RKV K A H ws ds → RKV K A H us es → RKV K A H (mergeK us ws) (mergeD es ds)
  | [], [], _, _, _, h => h
  | (k, v) :: ws, (k', d) :: ds, _, _, ⟨e, r, t⟩, h => by
    have e : k = k' := e
    subst e
    show RKV K A H (mergeK (putK _ k v) ws) (mergeD (putD _ k d) ds)
    exact rkv_merge t (h.put r)
theorem pairs_rp {K : PySem.W.Frag} {A : Addr → Prop} {H : Hp} : ∀ {ds : List D} {kvs : List (Key × D)} {vs : List V}, RpL K A H vs ds → pairsD ds = some kvs → ∃ (ps : List Addr) (ws : List (Key × V)), vs = ps.map V.ref ∧ Paired (fun p kv => SqT K H p [kV kv.1, kv.2]) ps ws ∧ RKV K A H ws kvs
  | [], _, _, .nil, h => by cases h; exact ⟨[], [], rfl, .nil, trivial⟩
  | d :: ds, kvs, _, .cons (v := v) (vs := vs) r t, h => by
    unfold pairsD at h
    split at h
    · rename_i h0; cases h0
    · rename_i k x r' h0
      cases h0
      split at h
      · rename_i key kvs' hk hp
        cases h
        obtain ⟨ps, ws, rfl, q1, q2⟩ := pairs_rp t hp
        cases r with
        | tup l rr =>
          cases rr with
          | cons a1 rr =>
            cases rr with
            | cons a2 rr =>
              cases rr
              rename_i p y z
              have e := keyD_rp a1 hk
              subst e
              exact ⟨p :: ps, (key, z) :: ws, rfl, .cons l.sq q1, ⟨rfl, a2, q2⟩⟩
      · cases h
    · cases h
def cDictP : S → List En → (S → En → Prop) → Prop := fun s xs Ks => a1 xs fun x => onO (vw s x) fun d => match d with | .list ds => onO (pairsD ds) fun kvs => Ks (s.aM (.dct (mergeD [] kvs))) (.mu s.ms.length) | _ => False
def rDictP (K : PySem.W.Frag) : List V → Hp → VK → Prop := fun xs H Q => ∃ (a : Addr) (ps : List Addr) (kvs : List (Key × V)), xs = [.ref a] ∧ SqL K H a (ps.map V.ref) ∧ Paired (fun p kv => SqT K H p [kV kv.1, kv.2]) ps kvs ∧
    ∀ p, H p = none → Q (.ref p) (upd H p (.dK (mergeK [] kvs)))
theorem cd_dictP {K : PySem.W.Frag} : CallD K (rDictP K) cDictP := by
  intro b A own H σ s vs xs Ks Q R E h k
  obtain ⟨v, x, rfl, e1, h⟩ := a1_inv E h
  obtain ⟨d, hd, h⟩ := onO_inv h
  cases d with
  | list ds =>
    obtain ⟨kvs, hk, h⟩ := onO_inv h
    obtain ⟨a, us, rfl, q, r⟩ := vw_lst R e1 hd
    obtain ⟨ps, ws, rfl, q1, q2⟩ := pairs_rp r hk
    refine ⟨a, ps, ws, rfl, q, q1, fun p hp => ?_⟩
    have q3 : RKV K A H (mergeK [] ws) (mergeD [] kvs) := rkv_merge q2 trivial
    obtain ⟨R1, U1, g⟩ := R.newMu (o := .dK (mergeK [] ws)) hp (.dct (mergeD [] kvs)) fun A' own' u => ⟨p, _, rfl, upd_same, q3.up u.kp⟩
    exact k _ _ _ _ _ (.mu s.ms.length) R1 U1 ⟨p, [], g, rfl⟩ h
  | _ => exact h.elim
theorem de_dictP {p : Pos} (hc : X.calm = true) (hg : Gl X "dict") (hm : X.mg "dict" = none) (ha : DE X a wa) (he : starEach (a :: []) X.env = (false, eval a X.env) :: starEach [] X.env := by rfl) : DE X (.Call (.Name "dict" p) [a] [] pos) (dCall cDictP (aCons wa aNil)) :=
  de_callTy (call_dictP hc) cd_dictP hg hm (by decide +kernel) (da_cons ha da_nil he) (he := he)
/-! ### x in a dict that is data -/
def dDinD (neg : Bool) (wk wd : WE) : WE := fun s Ks => wk s fun s1 i => wd s1 fun s2 o => daI o fun d => ∃ kvs, d = dictD kvs ∧ daI i fun kd => onO (keyD kd) fun key => Ks s2 (.da (.bool (xr neg (findD kvs key).isSome)))
theorem rp_dictD {K : PySem.W.Frag} {A : Addr → Prop} {H : Hp} {v : V} {kvs : List (Key × D)} (r : Rp K A H v (dictD kvs)) : ∃ a o ws, v = .ref a ∧ H a = some (.frz o (.dK ws)) ∧ ¬ A a ∧ RKV K A H ws kvs := by
  obtain ⟨a, o, ws, kvs', e1, e2, l, n, q⟩ := rp_dict r
  have inj : ∀ {xs ys : List (Key × D)}, xs.map (fun z => (kD z.1, z.2)) = ys.map (fun z => (kD z.1, z.2)) → xs = ys := by
    intro xs
    induction xs with
    | nil => intro ys h; cases ys with
      | nil => rfl
      | cons _ _ => cases h
    | cons x xs ih => intro ys h; cases ys with
      | nil => cases h
      | cons y ys =>
        rw [List.map_cons, List.map_cons] at h
        injection h with h1 h2
        obtain ⟨k1, d1⟩ := x
        obtain ⟨k2, d2⟩ := y
        injection h1 with h3 h4
        have h4 : d1 = d2 := h4
        have h3 : kD k1 = kD k2 := h3
        have h5 : k1 = k2 := by cases k1 <;> cases k2 <;> simp only [kD] at h3 <;> cases h3 <;> rfl
        rw [ih h2, h4, h5]
  have := inj e2
  subst this
  exact ⟨a, o, ws, e1, l, n, q.rkv⟩
theorem dinD_at {K : PySem.W.Frag} {A : Addr → Prop} {H : Hp} {v u : V} {kvs : List (Key × D)} {kd : D} {key : Key} (r : Rp K A H v (dictD kvs)) (ru : Rp K A H u kd) (hk : keyD kd = some key) : ∃ a o, v = .ref a ∧ DGet H a u o ∧ o.isSome = (findD kvs key).isSome := by
  obtain ⟨a, o, ws, rfl, l, n, q⟩ := rp_dictD r
  refine ⟨a, _, rfl, .inl ⟨ws, key, .inr ⟨o, l⟩, keyD_rp ru hk, rfl⟩, ?_⟩
  rcases q.find (k := key) with ⟨q1, q2⟩ | ⟨d', v', q1, q2, q3⟩
  · rw [q1, q2]; rfl
  · rw [q1, q2]; rfl
section
variable {ta tb : TE} (qa : ∀ (b : Bd) (A : Addr → Prop) (own : List (List Addr)) (H : Hp) (σ : L2.St) (s : S) (Ks : S → En → Prop) (Q : VK), Rel X.K b A own H σ s → wa s Ks → PostE X.K b A own H σ Ks Q → ta σ H Q)
    (qb : ∀ (b : Bd) (A : Addr → Prop) (own : List (List Addr)) (H : Hp) (σ : L2.St) (s : S) (Ks : S → En → Prop) (Q : VK), Rel X.K b A own H σ s → wb s Ks → PostE X.K b A own H σ Ks Q → tb σ H Q)
include qa qb
theorem dinD_run (b : Bd) (A : Addr → Prop) (own : List (List Addr)) (H : Hp) (σ : L2.St) (s : S) (Ks : S → En → Prop) (Q : VK) (R : Rel X.K b A own H σ s) (h : dDinD false wb wa s Ks) (k : PostE X.K b A own H σ Ks Q) : tDIn tb ta σ H Q := by
  show tb σ H fun y H1 => ta σ H1 fun x H2 => ∃ a o, x = .ref a ∧ DGet H2 a y o ∧ Q (.bl o.isSome) H2
  refine qb _ _ _ _ _ _ _ _ R h fun A1 o1 H1 v1 s1 x1 R1 U1 E1 h1 => ?_
  refine qa _ _ _ _ _ _ _ _ R1 h1 fun A2 o2 H2 v2 s2 x2 R2 U2 E2 h2 => ?_
  obtain ⟨d, rfl, kvs, rfl, h3⟩ := daI_inv h2
  clear h2
  obtain ⟨kd, rfl, h4⟩ := daI_inv h3
  obtain ⟨key, hk, h2⟩ := onO_inv h4
  obtain ⟨a, o, e1, e2, e3⟩ := dinD_at E2 (E1.up U2) hk
  exact ⟨a, o, e1, e2, by rw [e3]; exact (k.up (U1.trans U2)).da R2 Up.refl (.bl _) h2⟩
theorem dnotinD_run (b : Bd) (A : Addr → Prop) (own : List (List Addr)) (H : Hp) (σ : L2.St) (s : S) (Ks : S → En → Prop) (Q : VK) (R : Rel X.K b A own H σ s) (h : dDinD true wb wa s Ks) (k : PostE X.K b A own H σ Ks Q) : tDNotIn tb ta σ H Q := by
  show tb σ H fun y H1 => ta σ H1 fun x H2 => ∃ a o, x = .ref a ∧ DGet H2 a y o ∧ Q (.bl (!o.isSome)) H2
  refine qb _ _ _ _ _ _ _ _ R h fun A1 o1 H1 v1 s1 x1 R1 U1 E1 h1 => ?_
  refine qa _ _ _ _ _ _ _ _ R1 h1 fun A2 o2 H2 v2 s2 x2 R2 U2 E2 h2 => ?_
  obtain ⟨d, rfl, kvs, rfl, h3⟩ := daI_inv h2
  clear h2
  obtain ⟨kd, rfl, h4⟩ := daI_inv h3
  obtain ⟨key, hk, h2⟩ := onO_inv h4
  obtain ⟨a, o, e1, e2, e3⟩ := dinD_at E2 (E1.up U2) hk
  exact ⟨a, o, e1, e2, by rw [e3]; exact (k.up (U1.trans U2)).da R2 Up.refl (.bl _) h2⟩
end
theorem de_dinD (hu : X.A.units + 1 < cLine) (hi : DE X b wb) (ho : DE X a wa) (hm : behindInMarks .In a = false := by rfl) : DE X (.Compare b [.In] [a] pos) (dDinD false wb wa) := by
  obtain ⟨ta, pa, qa⟩ := ho.ex
  obtain ⟨tb, pb, qb⟩ := hi.ex
  exact ⟨_, pe_cmp (pc_din hu pb pa) hm, fun b A own H σ s Ks Q R h k => dinD_run qa qb b A own H σ s Ks Q R h k⟩
theorem de_dnotinD (hu : X.A.units + 1 < cLine) (hi : DE X b wb) (ho : DE X a wa) (hm : behindInMarks .NotIn a = false := by rfl) : DE X (.Compare b [.NotIn] [a] pos) (dDinD true wb wa) := by
  obtain ⟨ta, pa, qa⟩ := ho.ex
  obtain ⟨tb, pb, qb⟩ := hi.ex
  exact ⟨_, pe_cmp (pc_dnotin hu pb pa) hm, fun b A own H σ s Ks Q R h k => dnotinD_run qa qb b A own H σ s Ks Q R h k⟩
theorem dt_dinD (hu : X.A.units + 1 < cLine) (hi : DE X b wb) (ho : DE X a wa) (hm : behindInMarks .In a = false := by rfl) : DT X (.Compare b [.In] [a] pos) (tT (dDinD false wb wa)) := by
  obtain ⟨ta, pa, qa⟩ := ho.ex
  obtain ⟨tb, pb, qb⟩ := hi.ex
  exact ⟨_, pt_cmp (pc_din hu pb pa) hm, tT_run fun b A own H σ s Ks Q R h k => dinD_run qa qb b A own H σ s Ks Q R h k⟩
theorem dt_dnotinD (hu : X.A.units + 1 < cLine) (hi : DE X b wb) (ho : DE X a wa) (hm : behindInMarks .NotIn a = false := by rfl) : DT X (.Compare b [.NotIn] [a] pos) (tT (dDinD true wb wa)) := by
  obtain ⟨ta, pa, qa⟩ := ho.ex
  obtain ⟨tb, pb, qb⟩ := hi.ex
  exact ⟨_, pt_cmp (pc_dnotin hu pb pa) hm, tT_run fun b A own H σ s Ks Q R h k => dnotinD_run qa qb b A own H σ s Ks Q R h k⟩
end
end DL
namespace DL
open PySem L2 PySem.Spec PyProof.Rows
/-! ### an expression that only reads a dict: it is data there -/
mutual
def nD : D → Bool
  | .none => true
  | .bool _ => true
  | .int _ => true
  | .str _ => true
  | .list ds => nDs ds
  | .tuple ds => nDs ds
  | .dict _ => false
def nDs : List D → Bool
  | [] => true
  | d :: ds => nD d && nDs ds
end
theorem nDs_of : ∀ {ds : List D}, (∀ d ∈ ds, nD d = true) → nDs ds = true
  | [], _ => rfl
  | d :: ds, h => by
    rw [nDs, h d (by simp), nDs_of fun x hx => h x (by simp [hx])]
    rfl
def nM : MO → Bool
  | .gone => true
  | .lst ds => nDs ds
  | .dct kvs => nDs (kvs.map (·.2))
  | .rnd _ => true
  | .box _ => true
  | .tab _ => false
  | .ins _ _ => false
section
variable {K : PySem.W.Frag} {A A' : Addr → Prop} {own own' : List (List Addr)} {H H' : Hp} {b : Bd} {σ : L2.St} {s : S}
mutual
theorem Rp.monoN (h : ∀ a u, ¬ A a → H a = some u → (∀ o w, u ≠ .frz o w) → H' a = some u ∧ ¬ A' a) : ∀ {v : V} {d : D}, Rp K A H v d → nD d = true → Rp K A' H' v d
  | _, _, .non, _ => .non
  | _, _, .bl b, _ => .bl b
  | _, _, .int i, _ => .int i
  | _, _, .str x, _ => .str x
  | _, _, .lst l r, n => .lst (h _ _ l.2 l.1 fun _ _ z => nomatch z) (RpL.monoN h r (by simpa only [nD] using n))
  | _, _, .tup l r, n => .tup (l.elim (fun q => .inl (h _ _ q.2 q.1 fun _ _ z => nomatch z)) .inr) (RpL.monoN h r (by simpa only [nD] using n))
  | _, _, .dct _ _ _, n => by simp [nD] at n
theorem RpL.monoN (h : ∀ a u, ¬ A a → H a = some u → (∀ o w, u ≠ .frz o w) → H' a = some u ∧ ¬ A' a) : ∀ {v : List V} {d : List D}, RpL K A H v d → nDs d = true → RpL K A' H' v d
  | _, _, .nil, _ => .nil
  | _, _, .cons a b, n => by
    rw [nDs, Bool.and_eq_true] at n
    exact .cons (Rp.monoN h a n.1) (RpL.monoN h b n.2)
end
theorem RKV.monoN (h : ∀ a u, ¬ A a → H a = some u → (∀ o w, u ≠ .frz o w) → H' a = some u ∧ ¬ A' a) : ∀ {ws : List (Key × V)} {kvs : List (Key × D)}, RKV K A H ws kvs → nDs (kvs.map (·.2)) = true → RKV K A' H' ws kvs
  | [], [], _, _ => trivial
  | _ :: _, _ :: _, ⟨e, r, t⟩, n => by
    rw [List.map_cons, nDs, Bool.and_eq_true] at n
    exact ⟨e, Rp.monoN h r n.1, RKV.monoN h t n.2⟩
def ss : List (List Addr) → Nat → List Addr → List (List Addr)
  | [], _, _ => []
  | _ :: r, 0, y => y :: r
  | x :: r, i + 1, y => x :: ss r i y
theorem ss_length : ∀ (l : List (List Addr)) (i : Nat) (y : List Addr), (ss l i y).length = l.length
  | [], _, _ => rfl
  | _ :: _, 0, _ => rfl
  | _ :: r, i + 1, y => congrArg (· + 1) (ss_length r i y)
theorem go_ss : ∀ (l : List (List Addr)) (i j : Nat) (y : List Addr), go (ss l i y) j = if i = j ∧ i < l.length then y else go l j
  | [], i, j, y => by simp [ss, go]
  | x :: r, 0, 0, y => by simp [ss, go]
  | x :: r, 0, j + 1, y => by simp [ss, go]
  | x :: r, i + 1, 0, y => by simp [ss, go]
  | x :: r, i + 1, j + 1, y => by
    show go (ss r i y) j = _
    rw [go_ss r i j y]
    simp [go]
theorem take_ss : ∀ (l : List (List Addr)) (i n : Nat) (y : List Addr), n ≤ i → (ss l i y).take n = l.take n
  | [], _, _, _, _ => rfl
  | x :: r, i, 0, _, _ => by simp
  | x :: r, 0, n + 1, _, h => by omega
  | x :: r, i + 1, n + 1, y, h => by
    show x :: (ss r i y).take n = x :: r.take n
    rw [take_ss r i n y (by omega)]
theorem nM_sub {k : Nat} {d : D} : ∀ {m : MO}, nM m = true → subM k d m = m
  | .gone, _ => rfl
  | .lst _, _ => rfl
  | .dct _, _ => rfl
  | .rnd _, _ => rfl
  | .box _, _ => rfl
  | .tab _, h => by cases h
  | .ins _ _, h => by cases h
end
section
variable {X : Cx} {e : Expr} {we : WE}
def dLk (i : Nat) (we : WE) : WE := fun s Ks => match gt s.es i with
  | .mu k => (match gm s.ms k with
    | .dct kvs => s.np ≤ k ∧ (∀ j, nM (gm s.ms j) = true) ∧ we (frzDS k kvs s) fun s1 x => daI x fun d => nD d = true ∧ s1.ms = (frzDS k kvs s).ms ∧ Ks s (.da d)
    | _ => False)
  | _ => False
theorem de_lkD (i : Nat) (he : DE X e we) : DE X e (dLk i we) := by
  obtain ⟨te, pe, qe⟩ := he.ex
  refine ⟨_, pe_lock pe, fun b A own H σ s Ks Q R h kk => ?_⟩
  unfold dLk at h
  split at h
  · rename_i k hgi
    split at h
    · rename_i kvs g
      obtain ⟨hnp, hno, h⟩ := h
      obtain ⟨p, ws, e2, e1, e3, f2⟩ := R.frzD g hnp
      have pA : A p := R.oa k p (by rw [e1]; simp)
      have hk : k < s.ms.length := gm_lt (by rw [g]; intro z; cases z)
      have hp0 : b.H0 p = none := by
        rcases R.fo k p (by rw [e1]; simp) with ⟨j, q⟩ | q
        · rw [← R.pre, go_take] at q
          split at q
          · have := R.dj k j p (by rw [e1]; simp) q
            omega
          · cases q
        · exact q
      refine ⟨p, .dK ws, e2, trivial, fun od => ?_⟩
      obtain ⟨R0, k0⟩ := f2 od
      refine qe _ _ _ _ _ _ _ _ R0 h fun A1 own1 H1 v1 s1 x1 R1 U1 E1 h1 => ?_
      obtain ⟨d, rfl, nd, hms, h1⟩ := daI_inv h1
      obtain ⟨hp1, hpA⟩ := U1.kp p (.frz od (.dK ws)) (fun z => z.2 (by rw [e1]; simp)) upd_same
      refine ⟨hp1, ?_⟩
      -- the dict again
      have ne : ∀ a, a ≠ p → upd H1 p (.dK ws) a = H1 a := fun a n => upd_ne n
      have kpN : ∀ a u, ¬ A1 a → H1 a = some u → (∀ o w, u ≠ .frz o w) → upd H1 p (.dK ws) a = some u ∧ ¬ (A1 a ∨ a = p) := fun a u n q hf => by
        have na : a ≠ p := fun z => by
          rw [z, hp1] at q
          cases q
          exact hf _ _ rfl
        exact ⟨(ne a na).trans q, fun z => z.elim n na⟩
      have kpA : Kp A H (fun a => A1 a ∨ a = p) (upd H1 p (.dK ws)) := fun a u n q => by
        have na : a ≠ p := fun z => n (by rw [z]; exact pA)
        obtain ⟨q1, q2⟩ := (k0.trans U1.kp) a u n q
        exact ⟨(ne a na).trans q1, fun z => z.elim q2 na⟩
      have hl1 : own1.length = s.ms.length := by
        rw [R1.ol, hms]
        show (sm (subS k (dictD kvs) s.ms) k .gone).length = _
        rw [sm_length, subS_length]
      have g2 : ∀ j, go (ss own1 k [p]) j = if k = j then [p] else go own1 j := fun j => by
        rw [go_ss]
        by_cases e : k = j
        · rw [if_pos ⟨e, by rw [hl1]; exact hk⟩, if_pos e]
        · rw [if_neg (fun z => e z.1), if_neg e]
      have ow2 : ∀ j a r, go own j = a :: r → go (ss own1 k [p]) j = a :: r := fun j a r q => by
        rw [g2]
        by_cases e : k = j
        · rw [if_pos e, ← e1, e]; exact q
        · rw [if_neg e]
          exact U1.ow j a r (by rw [go_so, if_neg e]; exact q)
      have U2 : Up A own H (fun a => A1 a ∨ a = p) (ss own1 k [p]) (upd H1 p (.dK ws)) := ⟨kpA, ow2⟩
      have np1 : s1.np = s.np := R1.np.symm.trans R.np
      have R2 : Rel X.K b (fun a => A1 a ∨ a = p) (ss own1 k [p]) (upd H1 p (.dK ws)) σ s := by
        refine ⟨⟨?_, fun j => ?_, fun i j a q1 q2 => ?_, fun j => ?_, fun j a q => ?_, fun a q z => ?_⟩, R.len, fun i => ?_, fun a q => .inl (R1.ge a q), fun a o hn h0 => ?_, fun j a q => ?_, ?_, ?_, fun a q => ?_, R.a0⟩
        · rw [ss_length]; exact hl1
        · rw [g2]
          by_cases e : k = j
          · subst e
            rw [if_pos rfl, g]
            exact ⟨p, ws, rfl, upd_same, e3.up kpA⟩
          · rw [if_neg e]
            have mj := R1.mr j
            have hj : gm s1.ms j = gm s.ms j := by
              rw [hms]
              show gm (sm (subS k (dictD kvs) s.ms) k .gone) j = _
              rw [gm_sm, if_neg (fun z => e z.1), gm_subS, nM_sub (hno j)]
            rw [hj] at mj
            have nn := hno j
            have nj : ∀ a, a ∈ go own1 j → a ≠ p := fun a q z => hpA (by rw [← z]; exact R1.oa j a q)
            cases q : gm s.ms j with
            | gone => trivial
            | lst ds => rw [q] at mj nn; obtain ⟨a, vs, h1, h2, h3⟩ := mj; exact ⟨a, vs, h1, (ne a (nj a (by rw [h1]; simp))).trans h2, RpL.monoN kpN h3 nn⟩
            | dct ds => rw [q] at mj nn; obtain ⟨a, vs, h1, h2, h3⟩ := mj; exact ⟨a, vs, h1, (ne a (nj a (by rw [h1]; simp))).trans h2, RKV.monoN kpN h3 nn⟩
            | rnd n => rw [q] at mj; obtain ⟨a, c, cs, t, h1, h2, h3, h4⟩ := mj; exact ⟨a, c, cs, t, h1, (ne a (nj a (by rw [h1]; simp))).trans h2, (ne c (nj c (by rw [h1]; simp))).trans h3, h4⟩
            | box n => rw [q] at mj; obtain ⟨a, x, y, z, h1, h2, h4⟩ := mj; exact ⟨a, x, y, z, h1, (ne a (nj a (by rw [h1]; simp))).trans h2, h4⟩
            | ins C fs => rw [q] at nn; cases nn
            | tab _ => rw [q] at nn; cases nn
        · rw [g2] at q1 q2
          by_cases ei : k = i
          · by_cases ej : k = j
            · rw [← ei, ← ej]
            · rw [if_pos ei] at q1
              rw [if_neg ej] at q2
              rw [List.mem_singleton.mp q1] at q2
              exact absurd (R1.oa j p q2) hpA
          · rw [if_neg ei] at q1
            by_cases ej : k = j
            · rw [if_pos ej] at q2
              rw [List.mem_singleton.mp q2] at q1
              exact absurd (R1.oa i p q1) hpA
            · rw [if_neg ej] at q2
              exact R1.dj i j a q1 q2
        · rw [g2]
          split
          · exact nd1
          · exact R1.ld j
        · rw [g2] at q
          split at q
          · exact .inr (List.mem_singleton.mp q)
          · exact .inl (R1.oa j a q)
        · by_cases ea : a = p
          · rw [ea, upd_same] at z; cases z
          · rw [ne a ea] at z
            exact q.elim (fun q => R1.al a q z) ea
        · rcases R.sl i with z | ⟨v, q1, q2⟩
          · exact .inl z
          · exact .inr ⟨v, q1, q2.up U2⟩
        · have na : a ≠ p := fun z => by rw [z, hp0] at h0; cases h0
          rw [ne a na]
          exact R1.fr a o hn h0
        · rw [g2] at q
          split at q
          · rw [List.mem_singleton.mp q]; exact .inr hp0
          · exact R1.fo j a q
        · rw [take_ss _ _ _ _ hnp, ← np1]; exact R1.pre
        · rw [ss_length, ← np1]; exact R1.npl
        · rcases q with q | q
          · exact R1.lim a q
          · rw [q]; exact .inr hp0
      exact kk _ _ _ _ _ (.da d) R2 U2 (Rp.monoN kpN (show Rp X.K A1 H1 v1 d from E1) nd) h1
    · exact h.elim
  · exact h.elim
end
end DL
namespace DL
open PySem L2 PySem.Spec PyProof.Rows
/-! ### states of many slots, by simp -/
theorem limE_mu (m k : Nat) : limE m (.mu k) = if k < m then .mu k else .no := by
  show (bif Nat.blt k m then En.mu k else .no) = _
  by_cases h : k < m
  · have : Nat.blt k m = true := Nat.ble_eq_true_of_le h
    rw [if_pos h, this]; rfl
  · have : Nat.blt k m = false := by
      cases q : Nat.blt k m with
      | false => rfl
      | true => exact absurd (Nat.le_of_ble_eq_true q) h
    rw [if_neg h, this]; rfl
theorem limE_da (m : Nat) (d : D) : limE m (.da d) = .da d := rfl
theorem limE_no (m : Nat) : limE m .no = .no := rfl
theorem subE_mu (k j : Nat) (d : D) : subE k d (.mu j) = if j = k then .da d else .mu j := by
  show (bif Nat.beq j k then En.da d else .mu j) = _
  by_cases h : j = k
  · have : Nat.beq j k = true := by simpa using h
    rw [if_pos h, this]; rfl
  · have : Nat.beq j k = false := by
      cases q : Nat.beq j k with
      | false => rfl
      | true => exact absurd (by simpa using q) h
    rw [if_neg h, this]; rfl
theorem subE_da (k : Nat) (d e : D) : subE k d (.da e) = .da e := rfl
theorem subE_no (k : Nat) (d : D) : subE k d .no = .no := rfl
/-! ### for x in reversed(a list or a tuple) -/
section
variable {X : Cx} {e : Expr} {we : WE} {tg : Expr}
def iRev (we : WE) : WI := fun s Ks => we s fun s1 x => daI x fun d => onO (seqD d) fun ds => Ks s1 ds.reverse
theorem rev_get {ds : List D} {i : Nat} {d : D} (h : ds.reverse[i]? = some d) : i < ds.length ∧ ds[ds.length - 1 - i]? = some d := by
  have hi := (List.getElem?_eq_some_iff.mp h).1
  rw [List.length_reverse] at hi
  rw [List.getElem?_reverse hi] at h
  exact ⟨hi, h⟩
theorem wk_rev {K : PySem.W.Frag} {b : Bd} {a : Addr} {vs : List V} {ds : List D} {A : Addr → Prop} {H : Hp} (l : LsR A H a vs) (r : RpL K A H vs ds) : Wk K b (Itv K a vs.length) ds.reverse A H := by
  intro A1 H1 kp i
  have l1 : LsR A1 H1 a vs := kp _ _ l.2 l.1
  have r1 : RpL K A1 H1 vs ds := RpL.mono kp r
  have hl := r1.length
  refine ⟨fun hi => (by rw [List.length_reverse] at hi; show vs.length ≤ i; omega), fun d hd => ?_⟩
  obtain ⟨hi, hd⟩ := rev_get hd
  obtain ⟨x, hx, rx⟩ := r1.get hd
  have hx : vs[vs.length - 1 - i]? = some x := by rw [hl]; exact hx
  refine ⟨⟨by omega, vs, x, l1.sq, hx⟩, fun y H2 hy own1 σ s R => ?_⟩
  obtain ⟨rfl, hy⟩ := hy
  have := hy vs l1.sq
  rw [hx] at this
  cases this
  exact ⟨R, Up.refl, rx⟩
theorem wk_revT {K : PySem.W.Frag} {b : Bd} {a : Addr} {vs : List V} {ds : List D} {A : Addr → Prop} {H : Hp} (l : TuR K A H a vs) (r : RpL K A H vs ds) : Wk K b (RT.ItvT K a vs.length) ds.reverse A H := by
  intro A1 H1 kp i
  have l1 : TuR K A1 H1 a vs := l.elim (fun q => .inl (kp _ _ q.2 q.1)) .inr
  have r1 : RpL K A1 H1 vs ds := RpL.mono kp r
  have hl := r1.length
  refine ⟨fun hi => (by rw [List.length_reverse] at hi; show vs.length ≤ i; omega), fun d hd => ?_⟩
  obtain ⟨hi, hd⟩ := rev_get hd
  obtain ⟨x, hx, rx⟩ := r1.get hd
  have hx : vs[vs.length - 1 - i]? = some x := by rw [hl]; exact hx
  refine ⟨⟨by omega, vs, x, l1.sq, hx⟩, fun y H2 hy own1 σ s R => ?_⟩
  obtain ⟨rfl, hy⟩ := hy
  have := hy vs l1.sq
  rw [hx] at this
  cases this
  exact ⟨R, Up.refl, rx⟩
theorem di_rev {p pos : Pos} (hg : Gl X "reversed") (hm : X.mg "reversed" = none) (he : DE X e we) (hs : starEach [e] X.env = (false, eval e X.env) :: starEach [] X.env := by rfl) : DI X tg (.Call (.Name "reversed" p) [e] [] pos) (iRev we) := by
  obtain ⟨te, pe, qe⟩ := he.ex
  refine ⟨_, RT.pi_revA hg hm pe hs, fun b A own H σ s Ks Q R h k => ?_⟩
  show te σ H fun v H1 => ∃ (a : Addr) (xs : List V), v = .ref a ∧ ((SqL X.K H1 a xs ∧ Q (Itv X.K a xs.length) H1) ∨ (SqT X.K H1 a xs ∧ Q (RT.ItvT X.K a xs.length) H1))
  refine qe _ _ _ _ _ _ _ _ R h fun A1 o1 H1 v1 s1 x1 R1 U1 E1 h1 => ?_
  obtain ⟨d, rfl, h2⟩ := daI_inv h1
  obtain ⟨ds, hds, h3⟩ := onO_inv h2
  cases (show Rp X.K A1 H1 v1 d from E1) with
  | lst l r => cases hds; exact ⟨_, _, rfl, .inl ⟨l.sq, k _ _ _ _ _ _ R1 U1 (wk_rev l r) h3⟩⟩
  | tup l r => cases hds; exact ⟨_, _, rfl, .inr ⟨l.sq, k _ _ _ _ _ _ R1 U1 (wk_revT l r) h3⟩⟩
  | non => cases hds
  | bl _ => cases hds
  | int _ => cases hds
  | str _ => cases hds
  | dct _ _ _ => cases hds
end
end DL
namespace DL
open PySem L2 PySem.Spec PyProof.Rows
/-! ### text.join(a list of texts) -/
section
variable {X : Cx} {o e : Expr} {wo we : WE}
theorem rpl_strs {K : PySem.W.Frag} {A : Addr → Prop} {H : Hp} : ∀ {ys : List Str} {vs : List V}, RpL K A H vs (ys.map .str) → vs = ys.map V.str
  | [], [], _ => rfl
  | y :: ys, v :: vs, .cons r t => by
    cases (show Rp K A H v (.str y) from r)
    rw [rpl_strs t]
    rfl
def dJoin (wo we : WE) : WE := fun s Ks => wo s fun s1 x => daI x fun d => match d with
  | .str a => we s1 fun s2 y => ∃ ys : List Str, vw s2 y = some (.list (ys.map .str)) ∧ (ys.map (·.length)).sum + ys.length * a.length ≤ 16777216 ∧ Ks s2 (.da (.str (Txt.join a ys)))
  | _ => False
theorem de_join {apos pos : Pos} (ho : DE X o wo) (he : DE X e we) (hs : starEach [e] X.env = [(false, eval e X.env)] := by rfl) (hbase : attributeBase o "join" X.env (eval o X.env) = eval o X.env := by rfl) (hline : (apos.endLine == pos.line) = true := by rfl) :
    DE X (.Call (.Attribute o "join" apos) [e] [] pos) (dJoin wo we) := by
  obtain ⟨to, po, qo⟩ := ho.ex
  obtain ⟨te, pe, qe⟩ := he.ex
  refine ⟨_, pe_join po pe hs hbase hline, fun b A own H σ s Ks Q R h k => ?_⟩
  refine qo _ _ _ _ _ _ _ _ R h fun A1 o1 H1 v1 s1 x1 R1 U1 E1 h1 => ?_
  obtain ⟨d, rfl, h2⟩ := daI_inv h1
  clear h1
  split at h2
  · rename_i a
    cases (show Rp X.K A1 H1 v1 (.str a) from E1)
    refine ⟨⟨a, rfl⟩, ?_⟩
    refine qe _ _ _ _ _ _ _ _ R1 h2 fun A2 o2 H2 v2 s2 x2 R2 U2 E2 h3 => ?_
    obtain ⟨ys, hy, hz, h4⟩ := h3
    obtain ⟨p, vs, rfl, hs, r⟩ := vw_lst R2 E2 hy
    rw [rpl_strs r] at hs
    exact ⟨a, p, ys, rfl, rfl, .inl hs, hz, k.da R2 (U1.trans U2) (.str _) h4⟩
  · exact h2.elim
/-! ### list * int -/
variable {a b : Expr} {wa wb : WE} {pos : Pos}
theorem RpL.rep {K : PySem.W.Frag} {A : Addr → Prop} {H : Hp} {vs : List V} {ds : List D} (r : RpL K A H vs ds) : ∀ n : Nat, RpL K A H (List.replicate n vs).flatten (List.replicate n ds).flatten
  | 0 => .nil
  | n + 1 => by
    rw [List.replicate_succ, List.replicate_succ, List.flatten_cons, List.flatten_cons]
    exact r.append (RpL.rep r n)
def dRepL : WE → WE → WE := d2 fun s x y Ks => onO (vw s x) fun d => i1 y fun k => match d with
  | .list ds => -(2 ^ 63) ≤ k ∧ k < 2 ^ 63 ∧ ds.length * k.toNat ≤ sizeLine ∧ Ks s (.da (.list (List.replicate k.toNat ds).flatten))
  | _ => False
theorem opd_repL {K : PySem.W.Frag} : OpD K rRep (fun s x y Ks => onO (vw s x) fun d => i1 y fun k => match d with
  | .list ds => -(2 ^ 63) ≤ k ∧ k < 2 ^ 63 ∧ ds.length * k.toNat ≤ sizeLine ∧ Ks s (.da (.list (List.replicate k.toNat ds).flatten))
  | _ => False) := by
  intro b A own H σ s vx vy x y Ks Q R ex ey h k
  obtain ⟨d, hd, h⟩ := onO_inv h
  obtain ⟨i, rfl, h⟩ := i1_inv h
  cases ey
  split at h
  · obtain ⟨p, vs, rfl, q, r⟩ := vw_lstH R ex hd
    exact ⟨p, i, vs, rfl, rfl, q, h.1, h.2.1, by rw [r.length]; exact h.2.2.1, fun z hz => new_lst R k (r.rep _) hz h.2.2.2⟩
  · exact h.elim
theorem de_replist (ha : DE X a wa) (hb : DE X b wb) : DE X (.BinOp a .Mult b pos) (dRepL wa wb) := de_op op_rep opd_repL ha hb
end
end DL
namespace DL
open PySem L2 PySem.Spec PyProof.Rows
/-! ### an expression that only reads a list: it is data there, and changes again behind -/
mutual
def nL : D → Bool
  | .none => true
  | .bool _ => true
  | .int _ => true
  | .str _ => true
  | .list _ => false
  | .tuple ds => nLs ds
  | .dict _ => false
def nLs : List D → Bool
  | [] => true
  | d :: ds => nL d && nLs ds
end
theorem nLs_of : ∀ {ds : List D}, (∀ d ∈ ds, nL d = true) → nLs ds = true
  | [], _ => rfl
  | d :: ds, h => by
    rw [nLs, h d (by simp), nLs_of fun x hx => h x (by simp [hx])]
    rfl
def nLM : MO → Bool
  | .gone => true
  | .lst ds => nLs ds
  | .dct kvs => nLs (kvs.map (·.2))
  | .rnd _ => true
  | .box _ => true
  | .tab _ => true
  | .ins _ _ => false
section
variable {K : PySem.W.Frag} {A A' : Addr → Prop} {own own' : List (List Addr)} {H H' : Hp} {b : Bd} {σ : L2.St} {s : S}
mutual
theorem Rp.monoL (h : ∀ a u, ¬ A a → H a = some u → (∀ w, u ≠ .lst w) → H' a = some u ∧ ¬ A' a) : ∀ {v : V} {d : D}, Rp K A H v d → nL d = true → Rp K A' H' v d
  | _, _, .non, _ => .non
  | _, _, .bl b, _ => .bl b
  | _, _, .int i, _ => .int i
  | _, _, .str x, _ => .str x
  | _, _, .lst _ _, n => by simp [nL] at n
  | _, _, .tup l r, n => .tup (l.elim (fun q => .inl (h _ _ q.2 q.1 fun _ z => nomatch z)) .inr) (RpL.monoL h r (by simpa only [nL] using n))
  | _, _, .dct _ _ _, n => by simp [nL] at n
theorem RpL.monoL (h : ∀ a u, ¬ A a → H a = some u → (∀ w, u ≠ .lst w) → H' a = some u ∧ ¬ A' a) : ∀ {v : List V} {d : List D}, RpL K A H v d → nLs d = true → RpL K A' H' v d
  | _, _, .nil, _ => .nil
  | _, _, .cons a b, n => by
    rw [nLs, Bool.and_eq_true] at n
    exact .cons (Rp.monoL h a n.1) (RpL.monoL h b n.2)
end
theorem RKV.monoL (h : ∀ a u, ¬ A a → H a = some u → (∀ w, u ≠ .lst w) → H' a = some u ∧ ¬ A' a) : ∀ {ws : List (Key × V)} {kvs : List (Key × D)}, RKV K A H ws kvs → nLs (kvs.map (·.2)) = true → RKV K A' H' ws kvs
  | [], [], _, _ => trivial
  | _ :: _, _ :: _, ⟨e, r, t⟩, n => by
    rw [List.map_cons, nLs, Bool.and_eq_true] at n
    exact ⟨e, Rp.monoL h r n.1, RKV.monoL h t n.2⟩
theorem nLM_sub {k : Nat} {d : D} : ∀ {m : MO}, nLM m = true → subM k d m = m
  | .gone, _ => rfl
  | .lst _, _ => rfl
  | .dct _, _ => rfl
  | .rnd _, _ => rfl
  | .box _, _ => rfl
  | .tab _, _ => rfl
  | .ins _ _, h => by cases h
theorem frz_gm {k : Nat} {ds : List D} (hno : ∀ j, nLM (gm s.ms j) = true) (hk : k < s.ms.length) (j : Nat) : gm (frzS k ds s).ms j = if k = j then .gone else gm s.ms j := by
  show gm (sm (subS k (.list ds) s.ms) k .gone) j = _
  rw [gm_sm]
  by_cases e : k = j
  · rw [if_pos e, if_pos ⟨e, by rw [subS_length]; exact hk⟩]
  · rw [if_neg e, if_neg (fun z => e z.1), gm_subS, nLM_sub (hno j)]
theorem frz_len {k : Nat} {ds : List D} : (frzS k ds s).ms.length = s.ms.length := by
  show (sm (subS k (.list ds) s.ms) k .gone).length = _
  rw [sm_length, subS_length]
/-- the list changes again -/
theorem Rel.thaw {A1 : Addr → Prop} {own1 : List (List Addr)} {H1 : Hp} {s1 : S} {k : Nat} {ds : List D} {new : List MO} (R : Rel K b A own H σ s) (g : gm s.ms k = .lst ds) (hnp : s.np ≤ k) (hno : ∀ j, nLM (gm s.ms j) = true)
    (R1 : Rel K b A1 own1 H1 σ s1) (U1 : Up (fun a => A a ∧ a ∉ go own k) (so own k) H A1 own1 H1) (hms : s1.ms = (frzS k ds s).ms ++ new) (hnew : ∀ j, nLM (gm new j) = true) :
    ∃ A2 own2, Rel K b A2 own2 H1 σ ⟨s.es, s.ms ++ new, s.np⟩ ∧ Up A own H A2 own2 H1 ∧ ∀ j, k ≠ j → go own2 j = go own1 j := by
  have hk : k < s.ms.length := gm_lt (by rw [g]; intro z; cases z)
  have m0 := R.mr k
  rw [g] at m0
  obtain ⟨p, vs, e1, e2, e3⟩ := m0
  have pA : A p := R.oa k p (by rw [e1]; simp)
  have hp0 : b.H0 p = none := by
    rcases R.fo k p (by rw [e1]; simp) with ⟨j, q⟩ | q
    · rw [← R.pre, go_take] at q
      split at q
      · have := R.dj k j p (by rw [e1]; simp) q
        omega
      · cases q
    · exact q
  obtain ⟨hp1, hpA⟩ := U1.kp p (.lst vs) (fun z => z.2 (by rw [e1]; simp)) e2
  have kpL : ∀ a u, ¬ A1 a → H1 a = some u → (∀ w, u ≠ .lst w) → H1 a = some u ∧ ¬ (A1 a ∨ a = p) := fun a u n q hf => by
    have na : a ≠ p := fun z => by
      rw [z, hp1] at q
      cases q
      exact hf _ rfl
    exact ⟨q, fun z => z.elim n na⟩
  have kpA : Kp A H (fun a => A1 a ∨ a = p) H1 := fun a u n q => by
    have na : a ≠ p := fun z => n (by rw [z]; exact pA)
    obtain ⟨q1, q2⟩ := U1.kp a u (fun z => n z.1) q
    exact ⟨q1, fun z => z.elim q2 na⟩
  have hl1 : own1.length = s.ms.length + new.length := by
    rw [R1.ol, hms, List.length_append, frz_len]
  have g2 : ∀ j, go (ss own1 k [p]) j = if k = j then [p] else go own1 j := fun j => by
    rw [go_ss]
    by_cases e : k = j
    · rw [if_pos ⟨e, by omega⟩, if_pos e]
    · rw [if_neg (fun z => e z.1), if_neg e]
  have ow2 : ∀ j a r, go own j = a :: r → go (ss own1 k [p]) j = a :: r := fun j a r q => by
    rw [g2]
    by_cases e : k = j
    · rw [if_pos e, ← e1, e]; exact q
    · rw [if_neg e]
      exact U1.ow j a r (by rw [go_so, if_neg e]; exact q)
  have U2 : Up A own H (fun a => A1 a ∨ a = p) (ss own1 k [p]) H1 := ⟨kpA, ow2⟩
  have np1 : s1.np = s.np := R1.np.symm.trans R.np
  refine ⟨fun a => A1 a ∨ a = p, ss own1 k [p], ⟨⟨?_, fun j => ?_, fun i j a q1 q2 => ?_, fun j => ?_, fun j a q => ?_, fun a q z => ?_⟩, R.len, fun i => ?_, fun a q => .inl (R1.ge a q), fun a o hn h0 => ?_, fun j a q => ?_, ?_, ?_, fun a q => ?_, R.a0⟩, U2, fun j hj => by rw [g2, if_neg hj]⟩
  · rw [ss_length, hl1, List.length_append]
  · rw [g2]
    by_cases e : k = j
    · subst e
      rw [if_pos rfl, gm_app, if_pos hk, g]
      exact ⟨p, vs, rfl, hp1, RpL.mono kpA e3⟩
    · rw [if_neg e]
      have mj := R1.mr j
      have hj : gm s1.ms j = gm (s.ms ++ new) j := by
        rw [hms, gm_app, gm_app, frz_len]
        split
        · rw [frz_gm hno hk, if_neg e]
        · rfl
      rw [hj] at mj
      have nn : nLM (gm (s.ms ++ new) j) = true := by
        rw [gm_app]
        split
        · exact hno j
        · exact hnew _
      cases q : gm (s.ms ++ new) j with
      | gone => trivial
      | lst ds => rw [q] at mj nn; obtain ⟨a, vs, h1, h2, h3⟩ := mj; exact ⟨a, vs, h1, h2, RpL.monoL kpL h3 nn⟩
      | dct ds => rw [q] at mj nn; obtain ⟨a, vs, h1, h2, h3⟩ := mj; exact ⟨a, vs, h1, h2, RKV.monoL kpL h3 nn⟩
      | rnd n => rw [q] at mj; exact mj
      | box n => rw [q] at mj; exact mj
      | tab _ =>
        rw [q] at mj
        obtain ⟨P, c, h1, hc, ps, h2, h3, h4⟩ := mj
        refine ⟨P, c, h1, hc, ps, h2, h3, fun pos cv e => ?_⟩
        obtain ⟨c', e1, e2, e3⟩ := h4 pos cv e
        refine ⟨c', e1, e2, fun z => z.elim e3 fun z => ?_⟩
        rw [z, hp1] at e2
        exact nomatch Option.some.inj e2
      | ins C fs => rw [q] at nn; cases nn
  · rw [g2] at q1 q2
    by_cases ei : k = i
    · by_cases ej : k = j
      · rw [← ei, ← ej]
      · rw [if_pos ei] at q1
        rw [if_neg ej] at q2
        rw [List.mem_singleton.mp q1] at q2
        exact absurd (R1.oa j p q2) hpA
    · rw [if_neg ei] at q1
      by_cases ej : k = j
      · rw [if_pos ej] at q2
        rw [List.mem_singleton.mp q2] at q1
        exact absurd (R1.oa i p q1) hpA
      · rw [if_neg ej] at q2
        exact R1.dj i j a q1 q2
  · rw [g2]
    split
    · exact nd1
    · exact R1.ld j
  · rw [g2] at q
    split at q
    · exact .inr (List.mem_singleton.mp q)
    · exact .inl (R1.oa j a q)
  · by_cases ea : a = p
    · rw [ea, hp1] at z; cases z
    · exact q.elim (fun q => R1.al a q z) ea
  · rcases R.sl i with z | ⟨v, q1, q2⟩
    · exact .inl z
    · exact .inr ⟨v, q1, q2.up U2⟩
  · exact R1.fr a o hn h0
  · rw [g2] at q
    split at q
    · rw [List.mem_singleton.mp q]; exact .inr hp0
    · exact R1.fo j a q
  · show (ss own1 k [p]).take s.np = b.own0
    rw [take_ss _ _ _ _ hnp, ← np1]; exact R1.pre
  · show s.np ≤ (ss own1 k [p]).length
    rw [ss_length, ← np1]; exact R1.npl
  · rcases q with q | q
    · exact R1.lim a q
    · rw [q]; exact .inr hp0
end
section
variable {X : Cx} {e : Expr} {we : WE}
/-- what comes back is a number, a truth, a text or None -/
def dLkS (i : Nat) (we : WE) : WE := fun s Ks => match gt s.es i with
  | .mu k => (match gm s.ms k with
    | .lst ds => s.np ≤ k ∧ (∀ j, nLM (gm s.ms j) = true) ∧ we (frzS k ds s) fun s1 x => daI x fun d => scD d = true ∧ s1.ms = (frzS k ds s).ms ∧ Ks s (.da d)
    | _ => False)
  | _ => False
theorem de_lkS (i : Nat) (he : DE X e we) : DE X e (dLkS i we) := by
  obtain ⟨te, pe, qe⟩ := he.ex
  refine ⟨_, pe, fun b A own H σ s Ks Q R h kk => ?_⟩
  unfold dLkS at h
  split at h
  · rename_i k hgi
    split at h
    · rename_i ds g
      obtain ⟨hnp, hno, h⟩ := h
      obtain ⟨R0, k0, _⟩ := R.frz g hnp
      refine qe _ _ _ _ _ _ _ _ R0 h fun A1 own1 H1 v1 s1 x1 R1 U1 E1 h1 => ?_
      obtain ⟨d, rfl, sc, hms, h1⟩ := daI_inv h1
      obtain ⟨A2, own2, R2, U2, _⟩ := R.thaw (new := []) g hnp hno R1 U1 (by rw [List.append_nil]; exact hms) fun j => by cases j <;> rfl
      have e : (⟨s.es, s.ms ++ [], s.np⟩ : S) = s := by rw [List.append_nil]
      rw [e] at R2
      exact kk _ _ _ _ _ (.da d) R2 U2 (Rp.scal (show Rp X.K A1 H1 v1 d from E1) sc) h1
    · exact h.elim
  · exact h.elim
variable {js : List Nat} {wg : WG} {wt : WT} {pos : Pos}
/-- name = [.. for .. in a list that changes later] -/
def dLcLk (l : Nat) (vs : List Nat) (wi : WI) (wg : WG) (wt : WT) (we : WE) : WE := fun s Ks => match gt s.es l with
  | .mu k => (match gm s.ms k with
    | .lst ds => s.np ≤ k ∧ (∀ j, nLM (gm s.ms j) = true) ∧ dLcM vs wi wg wt we (frzS k ds s) fun s1 x => ∃ acc, x = .mu s.ms.length ∧ s1.ms = (frzS k ds s).ms ++ [.lst acc] ∧ nLs acc = true ∧ Ks ⟨s.es, s.ms ++ [.lst acc], s.np⟩ (.mu s.ms.length)
    | _ => False)
  | _ => False
theorem ds_setLcLk (l : Nat) {i : Nat} {y : Str} {py spos : Pos} {elt tg iter : Expr} {ifs : List Expr} {scope : Scope} (own : List (Str × Nat)) {wI : WI} (hc : X.calm = true) (hN : X.N.Nodup) (hy : X.N[i]? = some y) (hyl : X.env.scope.names.lookup y = some .local)
    (hsw : swapsWith (.ListComp elt [⟨tg, iter, ifs, 0⟩] scope pos) (some (.Name y py)) spos.line X.env = pure true) (hi : DI X tg iter wI) (ok : BlkOk X.N X.env.scope scope own) (hj : ∀ j ∈ js, j ∈ own.map (·.2))
    (hg : ∀ (s : Shared) (H : Hp) (C : Addr) (cl : List (Str × Addr)) (fp : List Addr), DG (X.blk s H scope (compEnvC scope cl C X.env) fp) tg js wg) (ht : ∀ (s : Shared) (H : Hp) (C : Addr) (cl : List (Str × Addr)) (fp : List Addr), DTs (X.blk s H scope (compEnvC scope cl C X.env) fp) ifs wt)
    (he : ∀ (s : Shared) (H : Hp) (C : Addr) (cl : List (Str × Addr)) (fp : List Addr), DE (X.blk s H scope (compEnvC scope cl C X.env) fp) elt we) (hs : ∀ x, foldedSetIterable iter X.env x = pure x := by intro _; rfl) :
    DS X (.Assign [.Name y py] (.ListComp elt [⟨tg, iter, ifs, 0⟩] scope pos) spos) (sAsg (dLcLk l (own.map (·.2)) wI wg wt we) (gN i)) := by
  obtain ⟨ti, pi, qi⟩ := hi.ex
  refine ⟨_, ps_setLc (g := canG X.K js wg) (tt := canT X.K wt) (te := canE X.K we) hc hN hy hyl hsw pi ok (fun s H C cl fp => (hg s H C cl fp).can) (fun s H C cl fp => (ht s H C cl fp).can) (fun s H C cl fp => (he s H C cl fp).can) hs, asg_run (fun b A own' H σ s Ks Q R h kk => ?_) (gN_run i)⟩
  unfold dLcLk at h
  split at h
  · rename_i k hgi
    split at h
    · rename_i ds g
      obtain ⟨hnp, hno, h⟩ := h
      obtain ⟨R0, k0, _⟩ := R.frz g hnp
      refine lc_run hj qi (fun s1 ms acc => ∃ acc' : List D, En.mu s1.ms.length = En.mu s.ms.length ∧ ms ++ [MO.lst acc] = (frzS k ds s).ms ++ [MO.lst acc'] ∧ nLs acc' = true ∧ Ks ⟨s.es, s.ms ++ [MO.lst acc'], s.np⟩ (.mu s.ms.length)) b _ _ H σ _ Q R0 h fun A1 own1 H1 s1 ms acc v R1 U1 ml E1 _ hk => ?_
      obtain ⟨acc', e1, e2, e3, hk⟩ := hk
      have e1 : s1.ms.length = s.ms.length := by injection e1
      obtain ⟨A2, own2, R2, U2, g2⟩ := R.thaw (new := [.lst acc']) g hnp hno R1 U1 e2 fun j => by
        cases j with
        | zero => exact e3
        | succ j => cases j <;> rfl
      have hkl : k < s.ms.length := gm_lt (by rw [g]; intro z; cases z)
      refine kk _ _ _ _ _ (.mu s.ms.length) R2 U2 ?_ hk
      obtain ⟨a, r, h1, h2⟩ := E1
      rw [e1] at h1
      exact ⟨a, r, by rw [g2 _ (by omega)]; exact h1, h2⟩
    · exact h.elim
  · exact h.elim
end
end DL
namespace DL
open PySem L2 PySem.Spec PyProof.Rows
/-! ### is True, is False of a bool -/
section
variable {X : L2.Cx}
theorem op_isB : OpR X (compareOp .Is) (fun x y H Q => ∃ m n, x = .bl m ∧ y = .bl n ∧ Q (.bl (decide (m = n))) H) := by
  intro pins s σ H x y v u Q I rx ry h
  obtain ⟨m, n, rfl, rfl, q⟩ := h
  cases rx; cases ry
  by_cases e : m = n
  · subst e
    exact wpAny_is_self rfl ⟨.bl true, H, I, rfl, by simpa using q⟩
  · exact wpAny_is_other rfl (fun z => e (Value.bool.inj z)) ⟨.bl false, H, I, rfl, by simpa [e] using q⟩
theorem op_isNotB : OpR X (compareOp .IsNot) (fun x y H Q => ∃ m n, x = .bl m ∧ y = .bl n ∧ Q (.bl (!decide (m = n))) H) := by
  intro pins s σ H x y v u Q I rx ry h
  obtain ⟨m, n, rfl, rfl, q⟩ := h
  cases rx; cases ry
  by_cases e : m = n
  · subst e
    exact wpAny_isNot_self rfl ⟨.bl false, H, I, rfl, by simpa using q⟩
  · exact wpAny_isNot_other rfl (fun z => e (Value.bool.inj z)) ⟨.bl true, H, I, rfl, by simpa [e] using q⟩
def rdIsB (neg : Bool) : S → En → En → (S → En → Prop) → Prop := fun s x y Ks => match x, y with | .da (.bool m), .da (.bool n) => Ks s (.da (.bool (xr neg (decide (m = n))))) | _, _ => False
theorem opd_isB {K : PySem.W.Frag} : OpD K (fun x y H Q => ∃ m n, x = .bl m ∧ y = .bl n ∧ Q (.bl (decide (m = n))) H) (rdIsB false) := by
  intro b A own H σ s vx vy x y Ks Q R ex ey h k
  unfold rdIsB at h
  split at h
  · cases ex; cases ey
    exact ⟨_, _, rfl, rfl, k.da R Up.refl (.bl _) h⟩
  · exact h.elim
theorem opd_isNotB {K : PySem.W.Frag} : OpD K (fun x y H Q => ∃ m n, x = .bl m ∧ y = .bl n ∧ Q (.bl (!decide (m = n))) H) (rdIsB true) := by
  intro b A own H σ s vx vy x y Ks Q R ex ey h k
  unfold rdIsB at h
  split at h
  · cases ex; cases ey
    exact ⟨_, _, rfl, rfl, k.da R Up.refl (.bl _) h⟩
  · exact h.elim
def dIsB : WE → WE → WE := d2 (rdIsB false)
def dNotB : WE → WE → WE := d2 (rdIsB true)
variable {a b : Expr} {wa wb : WE} {pos : Pos}
theorem de_isB (ha : DE X a wa) (hb : DE X b wb) : DE X (.Compare a [.Is] [b] pos) (dIsB wa wb) := de_cmp op_isB opd_isB ha hb (nomark _)
theorem de_notB (ha : DE X a wa) (hb : DE X b wb) : DE X (.Compare a [.IsNot] [b] pos) (dNotB wa wb) := de_cmp op_isNotB opd_isNotB ha hb (nomark _)
theorem dt_isB (ha : DE X a wa) (hb : DE X b wb) : DT X (.Compare a [.Is] [b] pos) (tT (dIsB wa wb)) := dt_cmp op_isB opd_isB ha hb (nomark _)
theorem dt_notB (ha : DE X a wa) (hb : DE X b wb) : DT X (.Compare a [.IsNot] [b] pos) (tT (dNotB wa wb)) := dt_cmp op_isNotB opd_isNotB ha hb (nomark _)
end
end DL
/-! ### sorted(xs, key=f), f of the program -/
namespace DL.KJ
open PySem PySem.Calls PyProof.Rows PySem.W
theorem get_gone {h : Heap} {c : Addr} : ({ h with objs := h.objs.setIfInBounds c ⟨.none, none, .freed, #[]⟩ } : Heap).get? c = none := by
  unfold Heap.get?
  by_cases hc : c < h.objs.size
  · simp [Array.getElem?_setIfInBounds, hc]
  · simp [Array.getElem?_setIfInBounds, hc]
theorem get_gone_ne {h : Heap} {b c : Addr} (hb : b ≠ c) : ({ h with objs := h.objs.setIfInBounds c ⟨.none, none, .freed, #[]⟩ } : Heap).get? b = h.get? b := by
  unfold Heap.get?
  simp [Array.getElem?_setIfInBounds, Ne.symm hb]
section
variable {prog : Program} {w : World} {A : Around} {E : Value → Shared → Prop} {s : Shared} {a kS : Addr} {b : Bool} {vs : List Value} {e1 : Nat} {P : PySem.Fin → Shared → Prop} {kz : List PyData} {f : Value} {J : Nat → Shared → List Value → Prop}
theorem rest (hlen : kz.length = vs.length) (hZ : vs.length ≤ sizeLine) (hal : AllAlike kz) (hsk : Sortable kz) (hu : ∀ d, d ∈ kz → A.units + d.depth < cLine) (hka : kS ≠ a)
    (j0 : J 0 s []) (nk : s.heap.get? kS = some (seqObj "list" #[] 0)) (na : s.heap.get? a = some (seqObj "list" #[] e1)) (jl : ∀ i s1 ks, J i s1 ks → ks.length = i)
    (turn : ∀ (i : Nat) (v : Value), vs[i]? = some v → ∀ (s1 : Shared) (ks : List Value) (e : Nat), J i s1 ks → s1.heap.get? kS = some (seqObj "list" ks.toArray e) → s1.heap.get? a = some (seqObj "list" #[] e1) →
      wpAny (model prog w) A (call f [v]) (fun u s2 => s2.heap.get? kS = some (seqObj "list" ks.toArray e) ∧ s2.heap.get? a = some (seqObj "list" #[] e1) ∧ ∀ h', Heap.SameBut kS s2.heap h' → J (i + 1) { s2 with heap := h' } (ks ++ [u])) (fun _ _ => False) s1)
    (reads : ∀ s1 ks, J vs.length s1 ks → EachIs (fun v k => ∃ as, Reads s1.heap v k as) ks kz)
    (h : ∀ s1 ks, J vs.length s1 ks → ∀ h' tk out c, (∀ b o, b ≠ a → b ≠ kS → s1.heap.get? b = some o → h'.get? b = some o) → h'.get? a = some (seqObj "list" (List.toArray out) c) → KeyedOut b kz vs out → P (.done (.ret .none)) { s1 with heap := h', toks := tk }) :
    wpAny (model prog w) A (ksk_rest a f b vs.toArray e1 (.ref kS)) P E s := by
  unfold ksk_rest
  refine wpAny_bind (wpAny_rule ?_)
  first
    | rw [List.forIn_toArray]
    | (rw [← Array.forIn_toList]; simp only [List.toList_toArray])
    | rw [← Array.forIn_toList]
  refine wpAny_bind (ksk_fold (fun i s' => ∃ ks e, J i s' ks ∧ s'.heap.get? kS = some (seqObj "list" ks.toArray e) ∧ s'.heap.get? a = some (seqObj "list" #[] e1)) vs 0 s ⟨[], 0, j0, nk, na⟩ ?step ?done)
  case step =>
    rintro j x s' hx ⟨ks, e, hJ, nk', na'⟩
    simp only [Nat.zero_add] at hJ ⊢
    have hj : j < vs.length := (List.getElem?_eq_some_iff.mp hx).1
    have hz : ks.toArray.size ≤ vs.length := by rw [List.size_toArray, jl _ _ _ hJ]; omega
    refine wpAny_bind (wpAny_attempt (wpAny_mono (turn j x hx s' ks e hJ nk' na') (fun v s'' he => ?_) fun _ _ hF => hF.elim))
    obtain ⟨nk2, na2, hJ2⟩ := he
    try dsimp only
    have s1 := Heap.SameBut.update s''.heap kS (Obj.mapSeq (·.push v))
    obtain ⟨c2, hc2⟩ : ∃ c2, (s''.heap.update kS (Obj.mapSeq (·.push v))).get? kS = some (seqObj "list" (ks.toArray.push v) c2) := ⟨_, get?_update_seq nk2 (·.push v)⟩
    refine wpAny_bind (listUpdate_at nk2 rfl ?_ (Nat.le_trans hz hZ) (Nat.le_trans (Nat.le_of_eq (Array.size_push ..)) (Nat.succ_le_succ (Nat.le_trans hz hZ))))
    refine wpAny_pure ⟨rfl, ks ++ [v], c2, hJ2 _ s1, ?_, (s1.2 a hka.symm).trans na2⟩
    rw [hc2]
    simp
  case done =>
    rintro s' ⟨ks, e, hJ, nk', na'⟩
    rw [Nat.zero_add] at hJ
    have hsz : ks.toArray.size = vs.length := by rw [List.size_toArray, jl _ _ _ hJ]
    have hk' := reads _ _ hJ
    try dsimp only
    refine wpAny_bind (listItems_at nk' rfl ?_)
    have kp : KeepsBut a ({ s'.heap with objs := s'.heap.objs.setIfInBounds kS ⟨.none, none, .freed, #[]⟩ } : Heap) s'.heap := fun b o hb q => by
      by_cases hbk : b = kS
      · rw [hbk, get_gone] at q; cases q
      · rw [get_gone_ne hbk] at q; exact q
    refine keyH_end (κ := dataKind s'.heap kz) kp get_gone nk' na' hka (by rw [List.toList_toArray]; exact SortsAt.data (s := s') hk' hal hsk hu) hsz hZ fun h3 tk3 c k3 n3 => ?_
    rw [List.toList_toArray] at n3
    exact h s' ks hJ h3 tk3 _ c (fun b o h1 h2 q => k3 b o h1 (by rw [get_gone_ne h2]; exact q)) n3 ⟨s'.heap, ks, hal, rfl, hk'⟩
theorem tree {n : Nat} (ho : s.heap.get? a = some (seqObj "list" vs.toArray n)) (hlen : kz.length = vs.length) (hZ : vs.length ≤ sizeLine) (hal : AllAlike kz) (hsk : Sortable kz) (hu : ∀ d, d ∈ kz → A.units + d.depth < cLine)
    (j0 : J 0 { s with heap := sortingHeap s.heap a vs } []) (jl : ∀ i s1 ks, J i s1 ks → ks.length = i)
    (turn : ∀ (i : Nat) (v : Value), vs[i]? = some v → ∀ (s1 : Shared) (ks : List Value) (e e1 : Nat), J i s1 ks → s1.heap.get? (s.heap.objs.size + 1) = some (seqObj "list" ks.toArray e) → s1.heap.get? a = some (seqObj "list" #[] e1) →
      wpAny (model prog w) A (call f [v]) (fun u s2 => s2.heap.get? (s.heap.objs.size + 1) = some (seqObj "list" ks.toArray e) ∧ s2.heap.get? a = some (seqObj "list" #[] e1) ∧ ∀ h', Heap.SameBut (s.heap.objs.size + 1) s2.heap h' → J (i + 1) { s2 with heap := h' } (ks ++ [u])) (fun _ _ => False) s1)
    (reads : ∀ s1 ks, J vs.length s1 ks → EachIs (fun v k => ∃ as, Reads s1.heap v k as) ks kz)
    (h : ∀ s1 ks, J vs.length s1 ks → ∀ h' tk out c, (∀ b o, b ≠ a → b ≠ s.heap.objs.size + 1 → s1.heap.get? b = some o → h'.get? b = some o) → h'.get? a = some (seqObj "list" (List.toArray out) c) → KeyedOut b kz vs out → P (.done (.ret .none)) { s1 with heap := h', toks := tk }) :
    wpAny (model prog w) A (ksk_tree a f b) P E s := by
  have ha : a < s.heap.objs.size := Heap.lt_size ho
  obtain ⟨e1, ho1⟩ : ∃ e1, (s.heap.update a (Obj.mapSeq fun _ => (#[] : Array Value))).get? a = some (seqObj "list" #[] e1) := ⟨_, get?_update_seq ho fun _ => #[]⟩
  have hkS : ((s.heap.update a (Obj.mapSeq fun _ => (#[] : Array Value))).push (seqObj "tuple" vs.toArray 0)).objs.size = s.heap.objs.size + 1 := by rw [size_push', Heap.size_update]
  unfold ksk_tree
  refine wpAny_bind (listItems_at ho rfl ?_)
  refine wpAny_bind (listUpdate_at ho rfl ?_ (by rw [List.size_toArray]; exact hZ) (Nat.zero_le _))
  refine wpAny_bind (seqEpoch_at ho1 rfl ?_)
  refine wpAny_bind (wpAny_newTuple ?_ (by show vs.length ≤ _; exact hZ))
  refine wpAny_bind (wpAny_newList ?_ (Nat.zero_le _))
  refine wpAny_holding ?_
  rw [← hkS] at turn h
  refine rest (J := J) (kz := kz) (s := { s with heap := sortingHeap s.heap a vs }) (kS := ((s.heap.update a (Obj.mapSeq fun _ => (#[] : Array Value))).push (seqObj "tuple" vs.toArray 0)).objs.size)
    hlen hZ hal hsk hu (by rw [hkS]; exact Nat.ne_of_gt (Nat.lt_succ_of_lt ha)) j0 (Heap.get?_push_size _ rfl) (Heap.get?_push_of_some _ (Heap.get?_push_of_some _ ho1)) jl (fun i v hv s1 ks e => turn i v hv s1 ks e e1) reads h
theorem sorted {l : Addr} {kw : List (Str × Value)} {Q : Value → Shared → Prop} (hl : s.heap.IsList l vs.toArray) (hlen : kz.length = vs.length) (hZ : vs.length ≤ sizeLine) (hal : AllAlike kz) (hsk : Sortable kz) (hu : ∀ d, d ∈ kz → A.units + 2 + d.depth < cLine)
    (ha1 : argsOk "sorted" ⟨[.ref l], kw⟩) (ha2 : ∀ x, argsOk "list.sort" ⟨[.ref x], kw⟩) (ht : ∀ x, Builtin.«list.sort» ⟨[.ref x], kw⟩ = ksk_tree x f b)
    (j0 : ∀ h', (∀ b o, s.heap.get? b = some o → h'.get? b = some o) → J 0 { s with heap := h' } []) (jl : ∀ i s1 ks, J i s1 ks → ks.length = i)
    (turn : ∀ (i : Nat) (v : Value), vs[i]? = some v → ∀ (s1 : Shared) (ks : List Value) (e e1 : Nat), J i s1 ks → s1.heap.get? (s.heap.objs.size + 3) = some (seqObj "list" ks.toArray e) → s1.heap.get? (s.heap.objs.size + 1) = some (seqObj "list" #[] e1) →
      wpAny (model prog w) A.in1.in1 (call f [v]) (fun u s2 => s2.heap.get? (s.heap.objs.size + 3) = some (seqObj "list" ks.toArray e) ∧ s2.heap.get? (s.heap.objs.size + 1) = some (seqObj "list" #[] e1) ∧ ∀ h', Heap.SameBut (s.heap.objs.size + 3) s2.heap h' → J (i + 1) { s2 with heap := h' } (ks ++ [u])) (fun _ _ => False) s1)
    (reads : ∀ s1 ks, J vs.length s1 ks → EachIs (fun v k => ∃ as, Reads s1.heap v k as) ks kz)
    (h : ∀ s1 ks, J vs.length s1 ks → ∀ h' tk out c, (∀ b o, b ≠ s.heap.objs.size + 1 → b ≠ s.heap.objs.size + 3 → s1.heap.get? b = some o → h'.get? b = some o) → h'.get? (s.heap.objs.size + 1) = some (seqObj "list" (List.toArray out) c) → KeyedOut b kz vs out → Q (.ref (s.heap.objs.size + 1)) { s1 with heap := h', toks := tk }) :
    wpAny (model prog w) A (call (.builtin "sorted") [.ref l] kw) Q E s := by
  refine sorted_of_sort hl hZ ha1 ha2 fun E' => ?_
  rw [ht]
  have hsz : (copyHeap s.heap vs).objs.size + 1 = s.heap.objs.size + 3 := by
    unfold copyHeap
    rw [size_push', Heap.size_update, size_push']
  rw [← hsz] at turn h
  refine tree (J := J) (kz := kz) (s := { s with heap := copyHeap s.heap vs }) (copyHeap_at s.heap vs) hlen hZ hal hsk (fun d hd => hu d hd) (j0 _ fun b o q => sorting_copy_old q) jl turn reads fun s1 ks hJ h' tk out c k1 k2 k3 => ⟨rfl, h s1 ks hJ h' tk out c k1 k2 k3⟩
end
end DL.KJ
namespace DL
open PySem L2 PySem.Spec PyProof.Rows
section
variable {X : L2.Cx}
theorem Inv.turned2 {pins : List (Addr × Obj)} {σ : L2.St} {H : Hp} {s : Shared} {h' : Heap} {t' : Nat} {it ju : Addr} (I : Inv X pins σ H s) (k : ∀ b o, b ≠ it → b ≠ ju → s.heap.get? b = some o → h'.get? b = some o) (f : FpOk X pins H it) (g : FpOk X pins H ju) :
    Inv X pins σ H { s with heap := h', toks := t' } := by
  obtain ⟨f1, f2, f3, f4, f5, f6⟩ := f
  obtain ⟨g1, g2, g3, g4, g5, g6⟩ := g
  have nit : ∀ b u, H b = some u → b ≠ it := fun b u e z => by rw [z, f1] at e; cases e
  have nju : ∀ b u, H b = some u → b ≠ ju := fun b u e z => by rw [z, g1] at e; cases e
  have hc2 : ∀ b : Addr, b ∉ [it, ju] → b ≠ it ∧ b ≠ ju := fun b hb => ⟨fun z => hb (by simp [z]), fun z => hb (by simp [z])⟩
  refine I.step (g' := s.gens) (d' := s.drawn) (ch := [it, ju]) (fun b hb => ?_) (fun b o _ _ hc e _ => k b o (hc2 b hc).1 (hc2 b hc).2 e) (fun b o _ _ hc e _ => ⟨o.slots, k b o (hc2 b hc).1 (hc2 b hc).2 e⟩) (fun _ _ _ _ n => n)
    (fun b o hc e => ⟨o, k b o (hc2 b hc).1 (hc2 b hc).2 e⟩) (fun _ _ e => e) (fun _ _ _ e => e) (fun b ps e => ⟨#[], by rw [e]; simp⟩) (fun m hm => ?_) (fun b u e => ?_) I.bare
  · rcases List.mem_cons.mp hb with rfl | hb
    · exact ⟨f4, f2, f5, f6⟩
    · obtain rfl := List.mem_singleton.mp hb
      exact ⟨g4, g2, g5, g6⟩
  · obtain ⟨o, es, ep, ho, r⟩ := hm
    exact ⟨o, es, ep, k _ o (Ne.symm f2) (Ne.symm g2) ho, r⟩
  · refine (I.hok b u e).stay (fun c v hc q => k c v ?_ ?_ q) (fun _ q => q) fun _ _ q => q
    · rcases hc with z | z
      · rw [z]; exact nit b u e
      · exact nit c _ z
    · rcases hc with z | z
      · rw [z]; exact nju b u e
      · exact nju c _ z
theorem FpOk.other {pins : List (Addr × Obj)} {H H' : Hp} {b : Addr} (f : FpOk X pins H b) (h : H' b = none) : FpOk X pins H' b := ⟨h, f.2⟩
/-- the keys, one call behind the other -/
def KeyRun (sp : Sp) : List V → List V → Hp → (List V → Hp → Prop) → Prop
  | [], us, H, Q => Q us H
  | x :: xs, us, H, Q => sp [x] H (fun u H' => KeyRun sp xs (us ++ [u]) H' Q) E0
def sortV (its : List V) (kz : List D) : List V := ((its.zip kz).mergeSort (PySem.W.dataLe false (·.2))).map (·.1)
def rSortKey (K : PySem.W.Frag) (f : Addr) (sp : Sp) : List V → List V → Hp → VK → Prop := fun vs zs H Q => ∃ (l : Addr) (its : List V) (kz : List D), vs = [.ref l] ∧ zs = [.ref f] ∧ SqL K H l its ∧ kz.length = its.length ∧ canSort kz ∧
  KeyRun sp its [] H fun us H' => DpAll K H' us kz ∧ ∀ p, H' p = none → Q (.ref p) (upd H' p (.lst (sortV its kz)))
theorem reads_each {h : Heap} : ∀ {ds : List D} {us : List Value} {as : List Addr}, ReadsAll h us ds as → PySem.W.EachIs (fun (u : Value) (d : D) => ∃ as, Reads h u d as) us ds
  | [], _, _, r => by cases r; exact .nil
  | d :: ds, _, _, .cons r t => .cons ⟨_, r⟩ (reads_each t)
theorem each_zip2 : ∀ {its : List V} {us : List Value} {kz : List D}, Vals its us → kz.length = its.length → PySem.W.EachIs (fun (u : Value) (z : V × D) => RelV z.1 u) us (its.zip kz)
  | [], _, _, .nil, _ => .nil
  | x :: xs, _, [], .cons r t, h => by simp at h
  | x :: xs, _, d :: ds, .cons r t, h => .cons r (each_zip2 t (by simpa using h))
theorem cr_sortKey {k : Nat} {f : Addr} {fd : FuncData} {ps : List Str} {sp : Sp} (F : FnOkG X.prog X.w X.K X.mg X.base CX0 k f fd ps sp) (hr : RoomG k X.A.in1.in1) (hu : X.A.units + 64 < cLine) (hb : Binds X.K fd ps []) (hps : ps.length = 1) :
    CallRK X (.builtin "sorted") [Str.ofString "key"] (rSortKey X.K f sp) := by
  intro pins s σ H vs zs us ws Q I r rz h
  obtain ⟨l, its, kz, rfl, rfl, hs, hlen, hc, hrun⟩ := h
  obtain rfl := Vals.ref1 r
  obtain ⟨w1, rfl, e1⟩ := vals1 rz
  obtain rfl : w1 = Value.ref f := e1
  obtain ⟨uits, rv, hl, hz⟩ := I.list hs
  have hlv := rv.length
  have size1 : s.heap.objs.size ≤ s.heap.objs.size + 1 := Nat.le_succ _
  have size3 : s.heap.objs.size ≤ s.heap.objs.size + 3 := by omega
  refine KJ.sorted (b := false) (vs := uits) (kz := kz) (f := .ref f)
    (J := fun i s1 ks => ∃ (H1 : Hp) (us1 : List V), Inv X pins σ H1 s1 ∧ FpOk X pins H1 (s.heap.objs.size + 1) ∧ FpOk X pins H1 (s.heap.objs.size + 3) ∧ Vals us1 ks ∧ us1.length = i ∧ KeyRun sp (its.drop i) us1 H1 fun us H' => DpAll X.K H' us kz ∧ ∀ p, H' p = none → Q (.ref p) (upd H' p (.lst (sortV its kz))))
    hl.isList (by rw [hlen, hlv]) (by rw [← hlv]; exact hz) hc.1 hc.2.1 (fun d hd => ?_) (ksk_s1 _ _) (fun _ => ksk_l1 _ _) (fun _ => ksk_t1 _ _) (fun h' kh => ?_) (fun i s1 ks hJ => ?_) (fun i v hv s1 ks e e1 hJ g3 g1 => ?_) (fun s1 ks hJ => ?_) fun s1 ks hJ h' tk out c kh hg ko => ?_
  · have := depth_le_all hd
    have := hc.2.2.2
    omega
  · exact ⟨H, [], I.kept (t' := s.toks) kh, I.fpOk size1 (I.hok.fresh size1), I.fpOk size3 (I.hok.fresh size3), .nil, rfl, hrun⟩
  · obtain ⟨H1, us1, _, _, _, rr, hl1, _⟩ := hJ
    rw [← rr.length]; exact hl1
  · obtain ⟨H1, us1, I1, f1, f3, rr, hl1, hk⟩ := hJ
    have hi : i < its.length := by rw [hlv]; exact (List.getElem?_eq_some_iff.mp hv).1
    have hx : its[i]? = some its[i] := List.getElem?_eq_getElem hi
    obtain ⟨v', hv', rx⟩ := rv.get hx
    rw [hv] at hv'
    obtain rfl := Option.some.inj hv'
    rw [List.drop_eq_getElem_cons hi] at hk
    have I2 : Inv X ((s.heap.objs.size + 3, seqObj "list" ks.toArray e) :: (s.heap.objs.size + 1, seqObj "list" #[] e1) :: pins) σ H1 s1 := I1.pins_of fun p hp => by
      rcases List.mem_cons.mp hp with rfl | hp
      · exact ⟨g3, f3.1, f3.2.1, f3.2.2.1, fun v z => by cases z⟩
      · rcases List.mem_cons.mp hp with rfl | hp
        · exact ⟨g1, f1.1, f1.2.1, f1.2.2.1, fun v z => by cases z⟩
        · exact I1.pin p (List.mem_append_right _ hp)
    have r1 : Vals [its[i]] [v] := .cons rx .nil
    refine wpAny_call (codeAny_mono (F.run X.A.in1.in1 X.stack s1 H1 ⟨[v], []⟩ [v] [its[i]] _ E0 hr.r hr.g I1.env0.in1.in1 (by have := hb s1 [v] I1.kIn (by rw [hps]; rfl); simpa using this) r1 hk) fun rr2 s2 hq => ?_)
    cases rr2 with
    | error er => exact False.elim hq
    | ok fl =>
      cases fl with
      | next => exact False.elim hq
      | brk => exact False.elim hq
      | cont => exact False.elim hq
      | ret u =>
        obtain ⟨vu, H2, I3, ru, hk2⟩ := I2.after hq
        have p3 := I3.pin (s.heap.objs.size + 3, seqObj "list" ks.toArray e) (List.mem_append_right _ (.head _))
        have p1 := I3.pin (s.heap.objs.size + 1, seqObj "list" #[] e1) (List.mem_append_right _ (.tail _ (.head _)))
        refine ⟨p3.1, p1.1, fun h' hsb => ?_⟩
        have I4 : Inv X pins σ H2 s2 := I3.pins_of fun p hp => I3.pin p (List.mem_append_right _ (.tail _ (.tail _ hp)))
        have F3 := FpOk.other f3 p3.2.1
        refine ⟨H2, us1 ++ [vu], I4.turned (it := s.heap.objs.size + 3) (t' := s2.toks) (fun b o hb q => (hsb.2 b hb).trans q) F3.1 F3.2.1 F3.2.2.2.1 F3.2.2.2.2.1 F3.2.2.2.2.2, FpOk.other f1 p1.2.1, F3, rr.append (.cons ru .nil), by rw [List.length_append, hl1]; rfl, hk2⟩
  · obtain ⟨H1, us1, I1, f1, f3, rr, hl1, hk⟩ := hJ
    rw [← hlv, List.drop_length] at hk
    obtain ⟨hd, _⟩ := hk
    obtain ⟨as, hr2⟩ := Dp.readsAll I1 _ _ ks hd rr
    exact reads_each hr2
  · obtain ⟨H1, us1, I1, f1, f3, rr, hl1, hk⟩ := hJ
    rw [← hlv, List.drop_length] at hk
    obtain ⟨hd, q⟩ := hk
    have I2 : Inv X pins σ H1 { s1 with heap := h', toks := tk } := Inv.turned2 I1 kh f1 f3
    have hzl : (its.zip kz).map (·.2) = kz := List.map_snd_zip (by omega)
    have eo := PySem.W.keyedOut_each (R := fun (u : Value) (z : V × D) => RelV z.1 u) (bs := its.zip kz) (·.2) (by rw [hzl]; exact ko) (each_zip2 rv hlen)
    have hol : (sortV its kz).length ≤ sizeLine := by
      unfold sortV
      rw [List.length_map, List.length_mergeSort, List.length_zip]
      omega
    exact ⟨.ref _, upd H1 (s.heap.objs.size + 1) (.lst (sortV its kz)), I2.take (t' := tk) (h' := h') (fun b ob _ e => e) f1 ⟨hol, out, c, vals_each eo, hg⟩, rfl, q _ f1.1⟩
def sortKD (key : D → D) (ds : List D) : List D := ds.mergeSort (PySem.W.dataLe false key)
theorem sortV_pairs {zs : List (V × D)} {key : D → D} : sortV (zs.map (·.1)) ((zs.map (·.2)).map key) = (zs.mergeSort (PySem.W.dataLe false fun z => key z.2)).map (·.1) := by
  unfold sortV
  have e : (zs.map (·.1)).zip ((zs.map (·.2)).map key) = zs.map fun z => (z.1, key z.2) := by
    induction zs with
    | nil => rfl
    | cons z zs ih => rw [List.map_cons, List.map_cons, List.map_cons, List.zip_cons_cons, ih]; rfl
  have m := List.map_mergeSort (r := PySem.W.dataLe false fun z : V × D => key z.2) (s := PySem.W.dataLe false fun z : V × D => z.2) (f := fun z : V × D => (z.1, key z.2)) (l := zs) fun _ _ _ _ => rfl
  rw [e, ← m, List.map_map]
  rfl
theorem sortKD_pairs {zs : List (V × D)} {key : D → D} : sortKD key (zs.map (·.2)) = (zs.mergeSort (PySem.W.dataLe false fun z => key z.2)).map (·.2) := by
  unfold sortKD
  exact (List.map_mergeSort (r := PySem.W.dataLe false fun z : V × D => key z.2) (s := PySem.W.dataLe false key) (f := fun z : V × D => z.2) (l := zs) fun _ _ _ _ => rfl).symm
def cSortKy (sp : SpD) : S → List En → (S → En → Prop) → Prop := fun s xs Ks => a1 xs fun x => ∃ (ds : List D) (key : D → D), vw s x = some (.list ds) ∧ (∀ d ∈ ds, CallV sp s [.da d] fun s' r => s' = s ∧ r = .da (key d)) ∧ canSort (ds.map key) ∧ Ks s (.da (.list (sortKD key ds)))
theorem keyRun_d {K : PySem.W.Frag} {sp : SpD} {b : Bd} {σ : L2.St} {s : S} {key : D → D} {Qe : List V → Hp → Prop} : ∀ (vs : List V) (ds : List D) (us : List V) (kds : List D) (A : Addr → Prop) (own : List (List Addr)) (H : Hp), Rel K b A own H σ s → RpL K A H vs ds → RpL K A H us kds →
    (∀ d ∈ ds, CallV sp s [.da d] fun s' r => s' = s ∧ r = .da (key d)) → (∀ A' own' H' us', Rel K b A' own' H' σ s → Up A own H A' own' H' → RpL K A' H' us' (kds ++ ds.map key) → Qe us' H') → KeyRun (spOf K 1 sp) vs us H Qe
  | _, _, us, kds, A, own, H, R, .nil, ru, _, fin => fin A own H us R Up.refl (by rw [List.map_nil, List.append_nil]; exact ru)
  | v :: vs, d :: ds, us, kds, A, own, H, R, .cons rv rt, ru, hk, fin => by
    have hd := hk d (List.mem_cons_self ..)
    show spOf K 1 sp [v] H (fun u H' => KeyRun (spOf K 1 sp) vs (us ++ [u]) H' Qe) E0
    refine callW_run (ks := []) (xs := [.da d]) hd.1 rfl R ⟨rv, trivial⟩ hd.2 fun A' own' H' v' s' x R' U' ex hks => ?_
    obtain ⟨rfl, rfl⟩ := hks
    refine keyRun_d vs ds (us ++ [v']) (kds ++ [key d]) A' own' H' R' (RpL.mono U'.kp rt) ?_ (fun d' hd' => hk d' (List.mem_cons_of_mem _ hd')) fun A2 own2 H2 us' R2 U2 r2 => fin A2 own2 H2 us' R2 (U'.trans U2) ?_
    · have : ∀ {l : List V} {m : List D}, RpL K A' H' l m → RpL K A' H' (l ++ [v']) (m ++ [key d]) := fun {l m} h => by
        induction l generalizing m with
        | nil => cases h; exact .cons ex .nil
        | cons y l ih => cases h with | cons h1 h2 => exact .cons h1 (ih h2)
      exact this (RpL.mono U'.kp ru)
    · rw [List.map_cons]
      simpa [List.append_assoc] using r2
theorem de_sortKey {k : Nat} {st : Stmt} {ps : List Str} {sp : SpD} {y : Str} {a : Expr} {wa : WE} {p pos py pk : Pos} (O : Ok X.prog X.w X.K X.mg X.base k y st ps 1 sp) (hps : ps.length = 1) (hr : RoomG (k + 1) X.A) (hg : Gl X "sorted") (hm : X.mg "sorted" = none) (hgy : Gl X y) (ha : DE X a wa)
    (hdb : (y == ("__debug__" : Str)) = false := by decide) (he : starEach (a :: []) X.env = (false, eval a X.env) :: starEach [] X.env := by rfl)
    (he2 : backTo pos (starEach (a :: []) X.env) = (false, eval a X.env) :: backTo pos (starEach [] X.env) := by rfl) (hpl : (backTo pos (starEach (a :: []) X.env)).any (·.1) = false := by rfl)
    (hall : (backToKw pos (keywordEach [⟨some "key", .Name y py, pk⟩] X.env)).all (·.1.isSome) = true := by rfl) (hnone : (backToKw pos (keywordEach [⟨some "key", .Name y py, pk⟩] X.env)).any (·.1.isNone) = false := by rfl) (hks : (backToKw pos (keywordEach [⟨some "key", .Name y py, pk⟩] X.env)).filterMap (·.1) = [Str.ofString "key"] := by rfl) :
    DE X (.Call (.Name "sorted" p) [a] [⟨some "key", .Name y py, pk⟩] pos) (dCall (cSortKy sp) (aCons wa aNil)) := by
  obtain ⟨f, fd, at', F⟩ := O.ex
  obtain ⟨ta, pa, qa⟩ := (da_cons ha da_nil he).ex
  have hr2 : RoomG k X.A.in1.in1 := ⟨⟨hr.r.hd, by have := hr.r.dp; show X.A.depth + 3 * k + 5 < _; omega, by have := hr.r.un; show X.A.units + 1 + 1 + 16 * k + 200 < _; omega⟩, hr.g⟩
  refine ⟨_, pe_callBK (cr_sortKey F hr2 (by have := hr.r.un; omega) at'.b hps) hg hm (by decide +kernel) pa (pk_cons (pe_glob hgy at'.g (v := .ref f) rfl hdb) pk_nil) (he := he2) (hpl := hpl) (hall := hall) (hnone := hnone) (hks := hks), fun b A own H σ s Ks Q R h kk => ?_⟩
  refine qa b A own H σ s _ _ R h fun A1 o1 H1 vs s1 xs R1 U1 E1 h1 => ?_
  obtain ⟨v, x, rfl, e1, ds, key, hd, hk, hc, h⟩ := a1_inv E1 h1
  show rSortKey X.K f (spOf X.K 1 sp) [v] [.ref f] H1 Q
  obtain ⟨l, us, rfl, hs, r⟩ := vw_lst R1 e1 hd
  obtain ⟨zs, rfl, rfl, hz⟩ := rpl_zip r
  refine ⟨l, zs.map (·.1), (zs.map (·.2)).map key, rfl, rfl, hs, by simp, hc, ?_⟩
  refine keyRun_d _ _ [] [] A1 o1 H1 R1 r .nil hk fun A2 o2 H2 us' R2 U2 r2 => ⟨r2.dp (by rw [List.nil_append]; exact hc.2.2.1), fun q hq => ?_⟩
  rw [sortV_pairs]
  rw [sortKD_pairs] at h
  refine new_lst R2 ((kk.up U1).up U2) ?_ hq h
  exact rpl_map fun z hm => Rp.mono U2.kp (hz z ((List.mergeSort_perm _ _).mem_iff.mp hm))
/-- the first place of a number in a list of numbers, which may be one that changes -/
def dIndexV (wa wb : WE) : WE := fun s Ks => wa s fun s1 x => (∃ ds, vw s1 x = some (.list ds)) ∧ wb s1 fun s2 y => i1 y fun v => ∃ (ns : List Int) (j : Nat), vw s2 x = some (.list (ns.map .int)) ∧ ns[j]? = some v ∧ (∀ m, m < j → ns[m]? ≠ some v) ∧ Ks s2 (.da (.int (j : Nat)))
theorem de_indexV {a b : Expr} {wa wb : WE} {apos cpos : Pos} (ho : DE X a wa) (hi : DE X b wb)
    (hbase : attributeBase a "index" X.env (eval a X.env) = eval a X.env := by rfl)
    (hfew : ((backTo cpos (starEach (b :: []) X.env)).all (fun x => !x.1) && (backToKw cpos (keywordEach [] X.env)).all (fun x => x.1.isSome)
      && decide ((b :: []).length + ([] : List Keyword).length + (if ([] : List Keyword).isEmpty then 0 else 1) < 30)) = true := by rfl)
    (hline : (apos.endLine == cpos.line) = true := by rfl) (hs : starEach (b :: []) X.env = (false, eval b X.env) :: starEach [] X.env := by rfl) (hplain : (backTo cpos (starEach [] X.env)).any (·.1) = false := by rfl) :
    DE X (.Call (.Attribute a "index" apos) [b] [] cpos) (dIndexV wa wb) := by
  obtain ⟨ta, pa, qa⟩ := ho.ex
  obtain ⟨tr, pr, qr⟩ := (da_cons hi da_nil hs).ex
  refine ⟨_, pe_bm PySem.F.plainAttrs_list PySem.F.slot_list_index PySem.F.type_list_index mt_index pa pr hbase hfew hline hs hplain, fun b A own H σ s Ks Q R h k => ?_⟩
  show ta σ H fun x H1 => tyV X.K "list" x H1 ∧ tr σ H1 fun xs H2 => rIndex X.K x xs H2 Q
  refine qa _ _ _ _ _ _ _ _ R h fun A1 o1 H1 v1 s1 x1 R1 U1 E1 h1 => ?_
  obtain ⟨⟨ds, hd⟩, h1⟩ := h1
  obtain ⟨p, us, rfl, l1, r1⟩ := vw_lst R1 E1 hd
  refine ⟨.inl ⟨rfl, _, l1⟩, ?_⟩
  refine qr _ _ _ _ _ _ (fun s2 xs => a1 xs fun y => i1 y fun v => ∃ (ns : List Int) (j : Nat), vw s2 x1 = some (.list (ns.map .int)) ∧ ns[j]? = some v ∧ (∀ m, m < j → ns[m]? ≠ some v) ∧ Ks s2 (.da (.int (j : Nat)))) _ R1 h1 fun A2 o2 H2 vs s2 xs R2 U2 E2 h2 => ?_
  obtain ⟨v, y, rfl, E3, h2⟩ := a1_inv E2 h2
  obtain ⟨z, rfl, ns, j, hv, hj, hlt, h2⟩ := i1_inv h2
  cases E3
  obtain ⟨p2, us2, e2, l2, r2⟩ := vw_lst R2 (E1.up U2) hv
  cases e2
  obtain rfl := RpL.ofInts r2
  refine ⟨p, ns.map V.int, .int z, j, .int z, rfl, rfl, l2, rfl, ?_, ?_, ?_, fun m z' hm hz => ?_, (k.up (U1.trans U2)).da R2 Up.refl (.int _) h2⟩
  · rw [List.all_map]; exact List.all_eq_true.mpr fun _ _ => rfl
  · rw [List.getElem?_map, hj]; rfl
  · show (z == z) = true
    simp
  · rw [List.getElem?_map] at hz
    cases q : ns[m]? with
    | none => rw [q] at hz; cases hz
    | some z2 =>
      rw [q] at hz
      cases hz
      show (z2 == z) = false
      have := hlt m hm
      rw [q] at this
      exact beq_eq_false_iff_ne.mpr fun e => this (by rw [e])
/-- len(set(xs)): as many as xs has, just where no two are the same -/
theorem firstMet_full (ns : List Int) : ∀ i, i ≤ ns.length → (PyProof.Rows.firstMet (fun i => ns.getD i 0) i).length = i → PyProof.Rows.firstMet (fun i => ns.getD i 0) i = ns.take i ∧ (ns.take i).Nodup
  | 0, _, _ => ⟨rfl, by rw [List.take_zero]; exact List.nodup_nil⟩
  | i + 1, hi, h => by
    have hlt : i < ns.length := hi
    have hle := PyProof.Rows.firstMet_length_le (fun i => ns.getD i 0) i
    have e1 : ns.getD i 0 = ns[i] := by rw [List.getD_eq_getElem?_getD, List.getElem?_eq_getElem hlt]; rfl
    have e2 : ns.take (i + 1) = ns.take i ++ [ns[i]] := by rw [List.take_add_one, List.getElem?_eq_getElem hlt]; rfl
    rw [PyProof.Rows.firstMet_succ] at h ⊢
    show PyProof.Rows.step_dedup _ (ns.getD i 0) = _ ∧ _
    replace h : (PyProof.Rows.step_dedup (PyProof.Rows.firstMet (fun i => ns.getD i 0) i) (ns.getD i 0)).length = i + 1 := h
    unfold PyProof.Rows.step_dedup at h ⊢
    split at h
    · omega
    · rename_i c
      rw [List.length_append] at h
      replace h : _ + 1 = i + 1 := h
      obtain ⟨f1, f2⟩ := firstMet_full ns i (Nat.le_of_lt hlt) (by omega)
      rw [f1] at c ⊢
      rw [if_neg c, e2, e1]
      refine ⟨rfl, List.nodup_append.mpr ⟨f2, by simp, fun x hx y hy e => ?_⟩⟩
      have hy : y = ns[i] := by simpa using hy
      exact c (List.any_eq_true.mpr ⟨x, hx, by rw [e, hy, e1]; exact beq_self_eq_true _⟩)
theorem firstMet_iff (ns : List Int) : (PyProof.Rows.firstMet (fun i => ns.getD i 0) ns.length).length = ns.length ↔ ns.Nodup := by
  constructor
  · intro h
    have := (firstMet_full ns ns.length (Nat.le_refl _) h).2
    rwa [List.take_length] at this
  · intro h
    rw [firstMet_nodup ns h ns.length (Nat.le_refl _), List.take_length]
def tLenSetJ (K : PySem.W.Frag) (ta : TE) : TE := fun σ H Q => ta σ H fun x H1 => ∃ (l : Addr) (ns : List Int), x = .ref l ∧ SqL K H1 l (ns.map V.int) ∧ ns.length ≤ 4000 ∧ ∀ m : Nat, m ≤ ns.length → (m = ns.length ↔ ns.Nodup) → Q (.int m) H1
theorem pe_lenSetJ {a : Expr} {ta : TE} {p p2 q : Pos} (hg : Gl X "len") (hm : X.mg "len" = none) (hg2 : Gl X "set") (hm2 : X.mg "set" = none) (ha : PE X a ta) (hc : X.calm = true)
    (na : starEach [a] X.env = (false, eval a X.env) :: starEach [] X.env := by rfl) : PE X (.Call (.Name "len" p) [.Call (.Name "set" p2) [a] [] q] [] pos) (tLenSetJ X.K ta) := by
  refine ⟨fun pins s σ H Q I h => ?_⟩
  refine Call_ (ld_blt I hg hm boot_len ?_)
  refine PyProof.Rows.callWith_builtin1 (PyProof.Rows.args_cons ?_ rfl) rfl rfl
  refine Call_ (ld_blt I hg2 hm2 PyProof.Rows.boot_set ?_)
  refine PyProof.Rows.callWith_type1 (PyProof.Rows.args_cons (thn (ha.run pins s σ H _ I h) fun v s1 ⟨x, H1, I1, r1, q1⟩ => PyProof.Rows.args_nil ?_) na) na rfl
  obtain ⟨l, ns, rfl, hq, hl, q1⟩ := q1
  cases r1
  obtain ⟨its, r, pl, hz⟩ := I1.list hq
  have hlen : its.toArray.size = ns.length := by rw [List.size_toArray, ← r.length, List.length_map]
  refine call_set_list (I1.ok.hd hc) pl.isList (by simpa using RZ.intsAre_vals r) (by rw [hlen]; unfold scanBound; omega) fun h' tk hS hk => ?_
  refine PyProof.Rows.args_nil ?_
  rw [hlen] at hS
  have hiff := firstMet_iff ns
  have hle := PyProof.Rows.firstMet_length_le (fun i => ns.getD i 0) ns.length
  obtain ⟨o, es, ep, t, ho, hex, hd, _, _, _, hf, hn⟩ := hS
  have I2 : Inv X pins σ H1 { s1 with heap := h', toks := tk } := I1.kept fun b o e => hk b o (Heap.lt_size e) e
  exact call_len_set ho hex hd hf (by rw [hn] <;> omega) ⟨.int (PyProof.Rows.firstMet (fun i => ns.getD i 0) ns.length).length, H1, I2.tok _, ⟨_, by rw [hn]⟩, q1 _ hle hiff⟩
def dLenSet (wa : WE) : WE := fun s Ks => wa s fun s1 x => ∃ ns : List Int, vw s1 x = some (.list (ns.map .int)) ∧ ns.length ≤ 4000 ∧ ∀ m : Nat, m ≤ ns.length → (m = ns.length ↔ ns.Nodup) → Ks s1 (.da (.int (m : Nat)))
theorem de_lenSet {a : Expr} {wa : WE} {p p2 q : Pos} (hc : X.calm = true) (hg : Gl X "len") (hm : X.mg "len" = none) (hg2 : Gl X "set") (hm2 : X.mg "set" = none) (ha : DE X a wa)
    (na : starEach [a] X.env = (false, eval a X.env) :: starEach [] X.env := by rfl) : DE X (.Call (.Name "len" p) [.Call (.Name "set" p2) [a] [] q] [] pos) (dLenSet wa) := by
  obtain ⟨ta, pa, qa⟩ := ha.ex
  refine ⟨_, pe_lenSetJ hg hm hg2 hm2 pa hc (na := na), fun b A own H σ s Ks Q R h k => ?_⟩
  refine qa _ _ _ _ _ _ _ _ R h fun A1 o1 H1 v1 s1 x1 R1 U1 E1 h1 => ?_
  obtain ⟨ns, hd, hl, h1⟩ := h1
  obtain ⟨l, us, rfl, l1, r1⟩ := vw_lst R1 E1 hd
  obtain rfl := RpL.ofInts r1
  exact ⟨l, ns, rfl, l1, hl, fun m hm hi => (k.up U1).da R1 Up.refl (.int _) (h1 m hm hi)⟩
end
end DL
namespace DL
open PySem L2 PySem.Spec PyProof.Rows
/-! ### sorted(set(xs)) of a list of ints -/
/-- a set just made -/
def eset (w : World) : Obj := { cls := .type "set", dict := none, data := .set #[] 0 (.fresh 0 0 (!w.params.followText "set-order")) }
section
variable {P : Program} {w : World} {A : Around} {E : Value → Shared → Prop} {s : Shared}
theorem set_of_list {l : Addr} {vs : Array Value} {ns : List Int} {Q : Value → Shared → Prop} (h0 : A.handled = none) (hl : s.heap.IsList l vs) (hv : IntsAre vs.toList ns) (hb : ns.length + 1 < scanBound)
    (k : ∀ (h' : Heap) (tk c : Nat), SetR w h' s.heap.objs.size (fun j => decide (j ∈ ns)) c → c ≤ ns.length → (∀ b o, s.heap.get? b = some o → h'.get? b = some o) → Q (.ref s.heap.objs.size) { s with heap := h', toks := tk }) :
    wpAny (model P w) A (call (.type "set") [.ref l]) Q E s := by
  have hsz : vs.size = ns.length := by rw [← Array.length_toList]; exact hv.length
  obtain ⟨c, tl, hmro⟩ := F.called_set.mro
  have m1 := F.called_set.made
  have m2 := F.called_set.sub
  refine wpAny_call (codeAny_of_tree ?_)
  show wpAny _ _ (callAny (.type "set") _) _ _ _
  refine wpAny_pure ⟨Code.quiet_builtin _ (by decide +kernel), codeAny_builtin F.entry_type_call ?_⟩
  rw [Around.under_plain (weight_type_call_type "set" [.ref l] []) rfl]
  have m3 := F.called_set.notType
  have m4 := F.called_set.canCreate
  have m5 := F.typeCall_set_1 (.ref l)
  repeat (any_goals (first | assumption | wp_step))
  refine codeAny_mono (code_set_led1 (.ref l) (E := E) (Q₁ := fun x t => x = .ref s.heap.objs.size ∧ t = { s with heap := s.heap.push (eset w) }) ⟨rfl, rfl⟩) fun r t hr => ?_
  cases r with
  | error e => exact hr
  | ok fl =>
    cases fl with
    | ret x =>
      obtain ⟨rfl, rfl⟩ := hr
      have g0 : (s.heap.push (eset w)).get? s.heap.objs.size = some (eset w) := Heap.get?_push_size _ rfl
      have gT : Shared.TypeIs { s with heap := s.heap.push (eset w) } (.ref s.heap.objs.size) "set" := ⟨_, g0, rfl⟩
      have i1 := F.called_set.init.lookup
      have i2 := F.called_set.init.bind (.ref s.heap.objs.size)
      repeat (any_goals (first | assumption | wp_step))
      refine codeAny_mono (codeAny_call_builtin (R := wants (fun r t => r = .none ∧ ∃ h' tk c, t = { s with heap := h', toks := tk } ∧ SetR w h' s.heap.objs.size (fun j => decide (j ∈ ns)) c ∧ c ≤ ns.length ∧
          (∀ b o, s.heap.get? b = some o → h'.get? b = some o)) E) F.called_set.init.plain F.entry_set_init (check_set_init_1 gT ?_)) fun r t hr => ?_
      · obtain ⟨⟨oc, od, oa, os⟩, ho, e1, nl, e2⟩ := hl
        simp only at e1 e2
        subst e1; subst e2
        have hlt : l < s.heap.objs.size := Heap.lt_size ho
        have ho2 : (s.heap.push (eset w)).get? l = some { cls := .type "list", dict := od, data := .seq vs nl, slots := os } := Heap.get?_push_of_some _ ho
        have u1 := F.sub_list_set
        have u2 := F.sub_list_frozenset
        have u3 : (Value.type "list" == Value.type "dict") = false := by decide
        have hl2 : (s.heap.push (eset w)).IsList l vs := ⟨_, ho2, rfl, nl, rfl⟩
        unfold Builtin.«set.__init__» noKeywords Builtin.Frozenset.updateFrom
        generalize hPI : pyIter = PI
        wp_walk
        subst hPI
        refine wpAny_pyIter_list hl2 ?_
        refine wpAny_bind (wpAny_runValue ?_)
        have z1 : (s.heap.push (eset w)).objs.size = s.heap.objs.size + 1 := Heap.size_push ..
        have n1 : l ≠ (s.heap.push (eset w)).objs.size := by rw [z1]; exact Nat.ne_of_lt (Nat.lt_succ_of_lt hlt)
        have n2 : s.heap.objs.size ∉ [(s.heap.push (eset w)).objs.size, l] := by
          intro z
          rcases List.mem_cons.mp z with z | z
          · exact absurd z (by rw [z1]; exact Nat.ne_of_lt (Nat.lt_succ_self _))
          · exact absurd (List.mem_singleton.mp z) (Nat.ne_of_gt hlt)
        refine set_update_ints ((Walks.list (by simp [h0]) _ l n1 vs).toS) s.heap.objs.size n2 ns hsz hb (fun i v hi => ?_) (vs.size - 0) 0 _ (by omega) (Nat.zero_le _) ⟨⟨_, Heap.get?_push_size _ rfl, rfl, rfl⟩, (hl2.push _)⟩ ?_ ?_
        · have hi2 : i < ns.length := by rw [← hsz]; exact (Array.getElem?_eq_some_iff.mp hi).1
          obtain ⟨t, e⟩ := PyProof.Rows.IntsAre.int_at hv i v (by rw [Array.getElem?_toList]; exact hi)
          exact ⟨ns[i], t, List.getElem?_eq_getElem hi2, by rw [e, List.getD_eq_getElem?_getD, List.getElem?_eq_getElem hi2]; rfl⟩
        · exact ⟨0, Nat.le_refl 0, setR_new_at (Heap.get?_push_of_some _ g0)⟩
        · rintro ⟨h', g', d', tk', os'⟩ c' hm hc hS
          have x1 : g' = s.gens := hm.gens
          have x2 : d' = s.drawn := hm.drawn
          have x3 : os' = s.os := hm.os
          subst x1; subst x2; subst x3
          show wpAny _ _ _ _ _ _
          refine wpAny_pure ?_
          show wpAny _ _ (ret Value.none) _ _ _
          refine wpAny_pure ⟨rfl, h', tk', c', rfl, hS, by rw [← hsz]; exact hc, fun b o e => ?_⟩
          have hb2 : b < s.heap.objs.size := Heap.lt_size e
          refine hm.heap b o (fun z => ?_) (Heap.get?_push_of_some _ (Heap.get?_push_of_some _ e))
          rcases List.mem_cons.mp z with z | z
          · exact absurd z (Nat.ne_of_lt hb2)
          · exact absurd (List.mem_singleton.mp z) (by rw [z1]; exact Nat.ne_of_lt (Nat.lt_succ_of_lt hb2))
      · cases r with
        | error e => exact hr
        | ok fl =>
          cases fl with
          | ret r =>
            obtain ⟨rfl, h', tk, c', rfl, y1, y2, y3⟩ := hr
            repeat (any_goals (first | assumption | wp_step))
            exact k _ _ _ y1 y2 y3
          | _ => exact hr.elim
    | _ => exact hr.elim
end
section
variable {X : L2.Cx}
def tSortSet (K : PySem.W.Frag) (ta : TE) : TE := fun σ H Q => ta σ H fun x H1 => ∃ (l : Addr) (ns : List Int), x = .ref l ∧ SqL K H1 l (ns.map V.int) ∧ ns.length < 64 ∧ ∀ (p : Addr) (out : List Int), out.Pairwise (· < ·) → (∀ k, k ∈ out ↔ k ∈ ns) → H1 p = none → Q (.ref p) (upd H1 p (.lst (out.map V.int)))
theorem pe_sortSet {a : Expr} {ta : TE} {p p2 q pos : Pos} (hc : X.calm = true) (hg : Gl X "sorted") (hm : X.mg "sorted" = none) (hg2 : Gl X "set") (hm2 : X.mg "set" = none) (ha : PE X a ta)
    (na : starEach [a] X.env = (false, eval a X.env) :: starEach [] X.env := by rfl) : PE X (.Call (.Name "sorted" p) [.Call (.Name "set" p2) [a] [] q] [] pos) (tSortSet X.K ta) := by
  refine ⟨fun pins s σ H Q I h => ?_⟩
  refine Call_ (ld_blt I hg hm (show bootBuiltins "sorted" = some (.builtin "sorted") by decide +kernel) ?_)
  refine PyProof.Rows.callWith_builtin1 (PyProof.Rows.args_cons ?_ rfl) rfl rfl
  refine Call_ (ld_blt I hg2 hm2 PyProof.Rows.boot_set ?_)
  refine PyProof.Rows.callWith_type1 (PyProof.Rows.args_cons (thn (ha.run pins s σ H _ I h) fun v s1 ⟨x, H1, I1, r1, q1⟩ => PyProof.Rows.args_nil ?_) na) na rfl
  obtain ⟨l, ns, rfl, hq, hl, q1⟩ := q1
  cases r1
  obtain ⟨its, r, pl, hz⟩ := I1.list hq
  have hlen : its.toArray.size = ns.length := by rw [List.size_toArray, ← r.length, List.length_map]
  refine set_of_list (I1.ok.hd hc) pl.isList (ns := ns) (by simpa using RZ.intsAre_vals r) (by unfold scanBound; omega) fun h' tk c R1 hcn hk => ?_
  refine PyProof.Rows.args_nil ?_
  refine sorted_set (s := { s1 with heap := h', toks := tk }) R1 (I1.ok.hd hc) (by omega) fun s' pp out cc os k1 g1 o1 hz1 hp hI hlt hmem hn => ?_
  have kall : ∀ b u, s1.heap.get? b = some u → s'.heap.get? b = some u := fun b u e => k1 b u (hk b u e)
  have hle : s1.heap.objs.size ≤ pp := Nat.le_trans (Nat.le_of_lt R1.lt) hz1
  have hlen2 : (os.map V.int).length ≤ sizeLine := by rw [List.length_map, hn, sizeLine_eq]; omega
  have hn0 : H1 pp = none := I1.hok.fresh hle
  have J : Inv X pins σ (upd H1 pp (.lst (os.map V.int))) s' := I1.call' (ch := []) o1 (Un.laid kall hle hn0) (I1.hok.laid kall hle ⟨hlen2, out.toList, cc, vals_of_ints hI, hp⟩) (by rw [g1]; exact I1.bare) (fun _ z => nomatch z)
  exact ⟨.ref pp, _, J, rfl, q1 pp os hlt (fun k => by rw [hmem k]; exact decide_eq_true_iff) hn0⟩
def dSortSet (wa : WE) : WE := fun s Ks => wa s fun s1 x => ∃ ns : List Int, vw s1 x = some (.list (ns.map .int)) ∧ ns.length < 64 ∧ ∀ out : List Int, out.Pairwise (· < ·) → (∀ k, k ∈ out ↔ k ∈ ns) → Ks s1 (.da (.list (out.map .int)))
theorem de_sortSet {a : Expr} {wa : WE} {p p2 q pos : Pos} (hc : X.calm = true) (hg : Gl X "sorted") (hm : X.mg "sorted" = none) (hg2 : Gl X "set") (hm2 : X.mg "set" = none) (ha : DE X a wa)
    (na : starEach [a] X.env = (false, eval a X.env) :: starEach [] X.env := by rfl) : DE X (.Call (.Name "sorted" p) [.Call (.Name "set" p2) [a] [] q] [] pos) (dSortSet wa) := by
  obtain ⟨ta, pa, qa⟩ := ha.ex
  refine ⟨_, pe_sortSet hc hg hm hg2 hm2 pa (na := na), fun b A own H σ s Ks Q R h k => ?_⟩
  refine qa _ _ _ _ _ _ _ _ R h fun A1 o1 H1 v1 s1 x1 R1 U1 E1 h1 => ?_
  obtain ⟨ns, hd, hl, h1⟩ := h1
  obtain ⟨l, us, rfl, l1, r1⟩ := vw_lst R1 E1 hd
  obtain rfl := RpL.ofInts r1
  refine ⟨l, ns, rfl, l1, hl, fun pp out ho hm3 hq => ?_⟩
  refine new_lst R1 (k.up U1) ?_ hq (h1 out ho hm3)
  exact RpL.ints
end
end DL
namespace DL
open PySem L2 PySem.Spec PyProof.Rows
/-! ### str(..) of data -/
section
variable {X : L2.Cx} {a : Expr} {wa : WE}
/-- str(d) -/
def strD : D → Str
  | .str x => x
  | d => d.shown
def rStrD (K : PySem.W.Frag) : List V → Hp → VK → Prop := fun vs H Q => ∃ (v : V) (d : D), vs = [v] ∧ Dp K H v d ∧ d.showable = true ∧ d.hasDict = false ∧ d.depth ≤ 40 ∧ d.shown.length ≤ sizeLine ∧ Q (.str (strD d)) H
theorem cr_strD (hu : X.A.units + 64 < cLine) (hg : X.A.guards = some []) : CallR X (.type "str") (rStrD X.K) := by
  intro pins s σ H vs us Q I r h
  obtain ⟨v, d, rfl, hd, hs, hn, hdp, hsz, q⟩ := h
  by_cases hr : ∃ l, v = .ref l
  · obtain ⟨l, rfl⟩ := hr
    have ed : strD d = d.shown := by cases hd <;> rfl
    rw [Vals.ref1 r]
    obtain ⟨as, rd⟩ := Dp.reads I d (.ref l) (.ref l) hd rfl
    exact str_of_reads (h₀ := s.heap) rd hs (fun z => by rw [hn] at z; cases z) hg (by omega) (fun _ _ e => e) (fun h' u tk hk => ⟨.str d.shown, H, I.kept (t' := tk) hk, ⟨u, rfl⟩, by rw [← ed]; exact q⟩) hsz
  · cases hd with
    | lst q1 q2 => exact absurd ⟨_, rfl⟩ hr
    | tup q1 q2 => exact absurd ⟨_, rfl⟩ hr
    | non =>
      obtain ⟨u, rfl, r1⟩ := vals1 r
      cases r1
      exact PySem.P.str_of_none ⟨.str _, H, I.tok _, ⟨_, rfl⟩, q⟩
    | bl b =>
      obtain ⟨u, rfl, r1⟩ := vals1 r
      cases r1
      exact PySem.P.str_of_bool ⟨.str _, H, I.tok _, ⟨_, rfl⟩, q⟩
    | int i =>
      obtain ⟨u, rfl, t, rfl⟩ := vals1 r
      exact PySem.P.str_of_int (by simpa [PyData.showable] using hs) ⟨.str _, H, I.tok _, ⟨_, rfl⟩, q⟩
    | str x =>
      obtain ⟨u, rfl, t, rfl⟩ := vals1 r
      exact PySem.P.str_of_str ⟨.str x, H, I, ⟨t, rfl⟩, q⟩
def cStrD : S → List En → (S → En → Prop) → Prop := fun s xs Ks => a1 xs fun x => onO (vw s x) fun d => fitD [d] ∧ d.showable = true ∧ d.hasDict = false ∧ d.shown.length ≤ sizeLine ∧ d.depth ≤ 40 ∧ Ks s (.da (.str (strD d)))
theorem cd_strD {K : PySem.W.Frag} : CallD K (rStrD K) cStrD := by
  intro b A own H σ s vs xs Ks Q R E h k
  obtain ⟨v, x, rfl, e1, h⟩ := a1_inv E h
  obtain ⟨d, hd, hf, hs, hn, hz, hdp, h⟩ := onO_inv h
  have dp := vw_dp R e1 hd (by have := hf.1; rw [PyData.canLayAll0, Bool.and_eq_true] at this; exact this.1)
  exact ⟨_, _, rfl, dp, hs, hn, hdp, hz, k.da R Up.refl (.str _) h⟩
theorem de_strD {k : Nat} {p pos : Pos} (hr : RoomG k X.A) (hg : Gl X "str") (hm : X.mg "str" = none) (ha : DE X a wa) (he : starEach (a :: []) X.env = (false, eval a X.env) :: starEach [] X.env := by rfl) : DE X (.Call (.Name "str" p) [a] [] pos) (dCall cStrD (aCons wa aNil)) :=
  de_callTy (cr_strD (hu64 hr) hr.g) cd_strD hg hm (by decide +kernel) (da_cons ha da_nil he) (he := he)
end
/-! ### a slice of a list or of a tuple -/
section
variable {X : L2.Cx} {e : Expr} {we : WE} {pos : Pos}
def rdSlA : S → En → Option Int → Option Int → (S → En → Prop) → Prop := fun s x l u Ks => match x with | .da (.list ds) => Ks s (.da (.list (cutD ds l u))) | .da (.tuple ds) => Ks s (.da (.tuple (cutD ds l u))) | _ => False
theorem de_slA {lo hi : Option Expr} {wl wh : WO} {p2 : Pos} (he : DE X e we) (hl : DO X lo wl) (hh : DO X hi wh) : DE X (.Subscript e (.Slice lo hi none p2) pos) (dSl rdSlA we wl wh) :=
  de_slice (SlR.or sl_list sl_tupA) (fun b A own H σ s v x l u Ks Q R E h k => by
    unfold rdSlA at h
    split at h
    · rename_i ds
      obtain ⟨a, vs, rfl, q, r⟩ := vw_lst R E rfl
      exact .inl ⟨a, vs, rfl, q, fun p hp => new_lst R k (r.cut l u) hp h⟩
    · rename_i ds
      obtain ⟨a, vs, rfl, q, r⟩ := vw_tup R E rfl
      refine .inr ⟨a, vs, rfl, q, fun z => ?_, fun _ p hp => new_tup R k (r.cut l u) hp h⟩
      rw [r.length] at z
      rw [cutD_all _ z.1 z.2] at h
      exact k.da R Up.refl E h
    · exact h.elim) he hl hh
end
/-- all signs are signs -/
def TxOk (x : Str) : Prop := ∀ c ∈ x.cps.toList, c < 0x110000
theorem chr_lt (c : Char) : c.toNat < 0x110000 := by
  have h := c.valid
  show c.val.toNat < _
  rcases h with h | h
  · exact Nat.lt_trans h (by decide)
  · exact h.2
theorem TxOk.of (s : String) : TxOk (Str.ofString s) := fun c hc => by
  have hc : c ∈ (Str.ofString s).cps.toList := hc
  have e : (Str.ofString s).cps.toList = s.toList.map Char.toNat := by rw [Str.ofString_eq_toList]
  rw [e] at hc
  obtain ⟨a, _, rfl⟩ := List.mem_map.mp hc
  exact chr_lt a
theorem TxOk.app {x y : Str} (hx : TxOk x) (hy : TxOk y) : TxOk (x ++ y) := fun c hc => by
  have e : (x ++ y).cps = x.cps ++ y.cps := rfl
  rw [e, Array.toList_append] at hc
  rcases List.mem_append.mp hc with h | h
  · exact hx c h
  · exact hy c h
theorem TxOk.join {ts : List Str} (h : ∀ t ∈ ts, TxOk t) : TxOk (Str.join ", " ts) := fun c hc => by
  rcases (PyProof.Rows.mem_join ", " c ts).mp hc with ⟨t, ht, hm⟩ | ⟨_, hm⟩
  · exact h t ht c hm
  · exact TxOk.of ", " c hm
theorem reprChar_ok {q c : Nat} (hc : c < 0x110000) : ∀ e ∈ Builtin.Str.reprChar q c, e < 0x110000 := by
  intro e he
  unfold Builtin.Str.reprChar at he
  have hx : ∀ w, e ∈ List.replicate w 48 ++ (Nat.toDigits 16 c).map Char.toNat → e < 0x110000 := fun w h => by
    rcases List.mem_append.mp h with h | h
    · rw [(List.mem_replicate.mp h).2]; decide
    · obtain ⟨a, _, rfl⟩ := List.mem_map.mp h
      exact chr_lt a
  have h2 : ∀ (a b : Nat), a < 0x110000 → b < 0x110000 → e ∈ [a, b] → e < 0x110000 := fun a b ha hb h => by
    rcases List.mem_cons.mp h with rfl | h
    · exact ha
    · rw [List.mem_singleton.mp h]; exact hb
  simp only at he
  split at he
  · exact h2 _ _ (by decide) hc he
  split at he
  · exact h2 _ _ (by decide) (by decide) he
  split at he
  · exact h2 _ _ (by decide) (by decide) he
  split at he
  · exact h2 _ _ (by decide) (by decide) he
  split at he
  · rw [List.mem_singleton.mp he]; exact hc
  split at he
  · rcases List.mem_append.mp he with h | h
    · exact h2 _ _ (by decide) (by decide) h
    · exact hx _ h
  split at he
  · rcases List.mem_append.mp he with h | h
    · exact h2 _ _ (by decide) (by decide) h
    · exact hx _ h
  · rcases List.mem_append.mp he with h | h
    · exact h2 _ _ (by decide) (by decide) h
    · exact hx _ h
theorem foldl_ok {q : Nat} : ∀ (l : List Nat) (acc : Array Nat), (∀ c ∈ l, c < 0x110000) → (∀ c ∈ acc.toList, c < 0x110000) → ∀ c ∈ (l.foldl (fun out c => out ++ (Builtin.Str.reprChar q c).toArray) acc).toList, c < 0x110000
  | [], _, _, h => h
  | c :: l, acc, hl, h => by
    refine foldl_ok l _ (fun d hd => hl d (List.mem_cons_of_mem _ hd)) fun d hd => ?_
    rw [Array.toList_append] at hd
    rcases List.mem_append.mp hd with hd | hd
    · exact h d hd
    · exact reprChar_ok (hl c (List.mem_cons_self ..)) d hd
theorem TxOk.repr {x : Str} (h : TxOk x) : TxOk (reprText x) := fun c hc => by
  have hq : reprQuote x < 0x110000 := by
    unfold reprQuote
    split <;> decide
  have e : (reprText x).cps = (x.cps.foldl (fun out c => out ++ (Builtin.Str.reprChar (reprQuote x) c).toArray) #[reprQuote x]).push (reprQuote x) := rfl
  rw [e, Array.toList_push, ← Array.foldl_toList] at hc
  rcases List.mem_append.mp hc with hc | hc
  · exact foldl_ok x.cps.toList _ h (fun d hd => by rw [List.mem_singleton.mp hd]; exact hq) c hc
  · rw [List.mem_singleton.mp hc]; exact hq
theorem strOk_iff {x : Str} : PyData.strOk x = true ↔ TxOk x := by
  unfold PyData.strOk TxOk
  rw [Array.all_eq_true_iff_forall_mem]
  constructor
  · intro h c hc
    have := h c (Array.mem_toList_iff.mp hc)
    simpa using this
  · intro h c hc
    exact decide_eq_true (h c (Array.mem_toList_iff.mpr hc))
mutual
theorem shown_ok : ∀ d : D, d.canLay0 = true → TxOk d.shown
  | .none, _ => by simp only [PyData.shown]; exact TxOk.of _
  | .bool b, _ => by cases b <;> simp only [PyData.shown] <;> exact TxOk.of _
  | .int i, _ => by simp only [PyData.shown]; exact TxOk.of _
  | .str x, h => by
    simp only [PyData.shown]
    exact (strOk_iff.mp (by simpa [PyData.canLay0] using h)).repr
  | .list xs, h => by
    rw [PyData.shown_list]
    exact ((TxOk.of _).app (TxOk.join (shownAll_ok xs (by simpa [PyData.canLay0] using h)))).app (TxOk.of _)
  | .tuple xs, h => by
    rw [PyData.shown_tuple]
    exact ((TxOk.of _).app (TxOk.join (shownAll_ok xs (by simpa [PyData.canLay0] using h)))).app (TxOk.of _)
  | .dict _, h => by simp [PyData.canLay0] at h
theorem shownAll_ok : ∀ xs : List D, PyData.canLayAll0 xs = true → ∀ t ∈ PyData.shownAll xs, TxOk t
  | [], _, t, ht => by rw [PyData.shownAll] at ht; cases ht
  | x :: xs, h, t, ht => by
    have h' : x.canLay0 = true ∧ PyData.canLayAll0 xs = true := by simpa [PyData.canLayAll0] using h
    rw [PyData.shownAll] at ht
    rcases List.mem_cons.mp ht with rfl | ht
    · exact shown_ok x h'.1
    · exact shownAll_ok xs h'.2 t ht
end
/-- the text of d has at most n signs -/
structure ShT (n : Nat) (d : D) : Prop where
  s : d.showable = true
  h : d.hasDict = false
  l : d.shown.length ≤ n
theorem ShT.mono {n m : Nat} {d : D} (h : ShT n d) (hm : n ≤ m) : ShT m d := ⟨h.s, h.h, Nat.le_trans h.l hm⟩
theorem ShT.none : ShT 4 .none := ⟨rfl, rfl, by show ((("None" : String) : Str)).length ≤ 4; decide⟩
theorem ShT.bool (b : Bool) : ShT 5 (.bool b) := ⟨rfl, rfl, by cases b <;> decide⟩
theorem ShT.int {k : Nat} {i : Int} (h : i.natAbs < 2 ^ k) (hk : 0 < k) (hk2 : k ≤ 1900) : ShT (k + 1) (.int i) := by
  have hl : i.natAbs.log2 < k := by
    rcases Nat.eq_zero_or_pos i.natAbs with z | z
    · rw [z]; simpa using hk
    · exact (Nat.log2_lt (by omega)).mpr h
  refine ⟨by simp only [PyData.showable]; exact decide_eq_true (by omega), rfl, ?_⟩
  simp only [PyData.shown]
  rw [PySem.ofString_length]
  exact int_text_length_le hk hl
theorem ShT.str {x : Str} (h : ∀ c ∈ x.cps.toList, c < 16 ^ 8) : ShT (10 * x.length + 2) (.str x) := ⟨rfl, rfl, by simp only [PyData.shown]; exact StrLaws.reprText_len x h⟩
theorem piled_le {n : Nat} : ∀ {ds : List D}, (∀ d ∈ ds, ShT n d) → piled (PyData.shownAll ds) ≤ ds.length * (n + 2)
  | [], _ => Nat.zero_le _
  | d :: ds, h => by
    rw [PyData.shownAll, piled_cons, List.length_cons, Nat.succ_mul]
    have := (h d (List.mem_cons_self ..)).l
    have := piled_le (ds := ds) fun x hx => h x (List.mem_cons_of_mem _ hx)
    omega
theorem showAll {n : Nat} : ∀ {ds : List D}, (∀ d ∈ ds, ShT n d) → PyData.showableAll ds = true ∧ PyData.hasDictAll ds = false
  | [], _ => ⟨rfl, rfl⟩
  | d :: ds, h => by
    have a := h d (List.mem_cons_self ..)
    have b := showAll (ds := ds) fun x hx => h x (List.mem_cons_of_mem _ hx)
    rw [PyData.showableAll, PyData.hasDictAll, a.s, a.h, b.1, b.2]
    exact ⟨rfl, rfl⟩
theorem listText_le (ts : List Str) : (listText ts).length ≤ piled ts + 2 := by
  cases ts with
  | nil => decide
  | cons t r =>
    have h := textFrom_length_pos r 1 (("[" : Str) ++ (if (0 : Nat) > 0 then ", " else "" : String) ++ t) (Nat.succ_pos 0)
    have e : ((("[" : Str) ++ (if (0 : Nat) > 0 then ", " else "" : String) ++ t)).length = 1 + t.length := by
      rw [strLen_append, strLen_append]; rfl
    have hX : (listText (t :: r)).length = (textFrom 0 "[" (t :: r)).length + 1 := by
      show (textFrom 0 "[" (t :: r) ++ "]").length = _
      rw [strLen_append]; rfl
    have hY : (textFrom 0 "[" (t :: r)).length = (textFrom 1 (("[" : Str) ++ (if (0 : Nat) > 0 then ", " else "" : String) ++ t) r).length := rfl
    rw [piled_cons]
    omega
theorem tupleText_le (ts : List Str) : (tupleText ts).length ≤ piled ts + 3 := by
  unfold tupleText
  rw [strLen_append, strLen_append]
  have e1 : ((("(" : String) : Str)).length = 1 := rfl
  have e3 : (((if ts.length == 1 then ",)" else ")" : String) : Str)).length ≤ 2 := by split <;> decide
  rw [e1]
  by_cases h : ts = []
  · subst h
    have : (Str.join ", " ([] : List Str)).length = 0 := rfl
    omega
  · have := join_length_add ts h
    omega
theorem ShT.list {n : Nat} {ds : List D} (h : ∀ d ∈ ds, ShT n d) : ShT (ds.length * (n + 2) + 2) (.list ds) := by
  have a := showAll h
  refine ⟨by simp only [PyData.showable]; exact a.1, by simp only [PyData.hasDict]; exact a.2, ?_⟩
  simp only [PyData.shown]
  have := listText_le (PyData.shownAll ds)
  have := piled_le h
  omega
theorem ShT.tuple {n : Nat} {ds : List D} (h : ∀ d ∈ ds, ShT n d) : ShT (ds.length * (n + 2) + 3) (.tuple ds) := by
  have a := showAll h
  refine ⟨by simp only [PyData.showable]; exact a.1, by simp only [PyData.hasDict]; exact a.2, ?_⟩
  simp only [PyData.shown]
  have := tupleText_le (PyData.shownAll ds)
  have := piled_le h
  omega
/-- the same, with room: its depth, its form -/
structure Shw (n p : Nat) (d : D) : Prop where
  t : ShT n d
  p : d.depth ≤ p
  o : okS true d = true
theorem Shw.mono {n m p q : Nat} {d : D} (h : Shw n p d) (hm : n ≤ m) (hp : p ≤ q) : Shw m q d := ⟨h.t.mono hm, Nat.le_trans h.p hp, h.o⟩
theorem Shw.none : Shw 4 0 .none := ⟨ShT.none, by simp [PyData.depth], rfl⟩
theorem Shw.bool (b : Bool) : Shw 5 0 (.bool b) := ⟨ShT.bool b, by simp [PyData.depth], rfl⟩
theorem Shw.int {k : Nat} {i : Int} (h : i.natAbs < 2 ^ k) (hk : 0 < k) (hk2 : k ≤ 1900) : Shw (k + 1) 0 (.int i) := ⟨ShT.int h hk hk2, by simp [PyData.depth], rfl⟩
theorem Shw.str {x : Str} (h : ∀ c ∈ x.cps.toList, c < 16 ^ 8) (ho : PyData.canLay0 (.str x) = true) : Shw (10 * x.length + 2) 0 (.str x) := ⟨ShT.str h, by simp [PyData.depth], ho⟩
theorem Shw.text {x : Str} (h : TxOk x) : Shw (10 * x.length + 2) 0 (.str x) := Shw.str (fun c hc => Nat.lt_trans (h c hc) (by decide)) (by simpa [PyData.canLay0] using strOk_iff.mpr h)
theorem Shw.txt (s : String) : Shw (10 * (Str.ofString s).length + 2) 0 (.str s) := Shw.text (TxOk.of s)
theorem Shw.list {n p : Nat} {ds : List D} (h : ∀ d ∈ ds, Shw n p d) (hl : ds.length ≤ sizeLine) : Shw (ds.length * (n + 2) + 2) (p + 1) (.list ds) := by
  refine ⟨ShT.list fun d hd => (h d hd).t, ?_, ?_⟩
  · simp only [PyData.depth]
    have := depth_of (n := p) fun d hd => (h d hd).p
    omega
  · rw [okS, Bool.and_eq_true]
    exact ⟨okSs_of fun d hd => (h d hd).o, decide_eq_true hl⟩
theorem Shw.tuple {n p : Nat} {ds : List D} (h : ∀ d ∈ ds, Shw n p d) (hl : ds.length ≤ sizeLine) : Shw (ds.length * (n + 2) + 3) (p + 1) (.tuple ds) := by
  refine ⟨ShT.tuple fun d hd => (h d hd).t, ?_, ?_⟩
  · simp only [PyData.depth]
    have := depth_of (n := p) fun d hd => (h d hd).p
    omega
  · rw [okS, Bool.and_eq_true]
    exact ⟨okSs_of fun d hd => (h d hd).o, decide_eq_true hl⟩
theorem Shw.t1 {n p : Nat} {a : D} (ha : Shw n p a) : Shw (n + 5) (p + 1) (.tuple [a]) :=
  (Shw.tuple (ds := [a]) (fun d hd => by rw [List.mem_singleton.mp hd]; exact ha) (by show 1 ≤ sizeLine; decide)).mono (by show 1 * (n + 2) + 3 ≤ _; omega) (Nat.le_refl _)
theorem Shw.t2 {n p : Nat} {a b : D} (ha : Shw n p a) (hb : Shw n p b) : Shw (2 * n + 7) (p + 1) (.tuple [a, b]) :=
  (Shw.tuple (ds := [a, b]) (fun d hd => by rcases List.mem_cons.mp hd with rfl | hd; exact ha; rw [List.mem_singleton.mp hd]; exact hb) (by show 2 ≤ sizeLine; decide)).mono (by show 2 * (n + 2) + 3 ≤ _; omega) (Nat.le_refl _)
theorem Shw.t3 {n p : Nat} {a b c : D} (ha : Shw n p a) (hb : Shw n p b) (hc : Shw n p c) : Shw (3 * n + 9) (p + 1) (.tuple [a, b, c]) :=
  (Shw.tuple (ds := [a, b, c]) (fun d hd => by
    rcases List.mem_cons.mp hd with rfl | hd
    · exact ha
    · rcases List.mem_cons.mp hd with rfl | hd
      · exact hb
      · rw [List.mem_singleton.mp hd]; exact hc) (by show 3 ≤ sizeLine; decide)).mono (by show 3 * (n + 2) + 3 ≤ _; omega) (Nat.le_refl _)
theorem Shw.fit {n p : Nat} {d : D} (h : Shw n p d) (hp : p ≤ 60) : fitD [d] := ⟨by rw [PyData.canLayAll0, okS_lay h.o]; rfl, by simp only [PyData.depthAll]; have := h.p; omega⟩
theorem Shw.lay {n p : Nat} {d : D} (h : Shw n p d) : d.canLay0 = true := okS_lay h.o
theorem Shw.txo {n p : Nat} {x : Str} (h : Shw n p (.str x)) : TxOk x := strOk_iff.mp (by simpa [PyData.canLay0] using h.lay)
theorem Shw.shn {n p : Nat} {d : D} (h : Shw n p d) : TxOk (strD d) := by
  cases d with
  | str x => exact h.txo
  | none => exact shown_ok _ h.lay
  | bool _ => exact shown_ok _ h.lay
  | int _ => exact shown_ok _ h.lay
  | list _ => exact shown_ok _ h.lay
  | tuple _ => exact shown_ok _ h.lay
  | dict _ => exact shown_ok _ h.lay
theorem reprText_le (x : Str) : x.length ≤ (reprText x).length := by
  have h : ∀ (q : Nat) (l : List Nat) (acc : Array Nat), acc.size + l.length ≤ (l.foldl (fun out c => out ++ (Builtin.Str.reprChar q c).toArray) acc).size := by
    intro q l
    induction l with
    | nil => intro acc; exact Nat.le_refl _
    | cons c r ih =>
      intro acc
      have h1 := ih (acc ++ (Builtin.Str.reprChar q c).toArray)
      rw [Array.size_append] at h1
      have h2 : 1 ≤ (Builtin.Str.reprChar q c).toArray.size := by
        show 1 ≤ (Builtin.Str.reprChar q c).length
        unfold Builtin.Str.reprChar
        simp only
        repeat' split
        all_goals simp
      rw [List.length_cons, List.foldl_cons]
      omega
  have e : (reprText x).cps = (x.cps.foldl (fun out c => out ++ (Builtin.Str.reprChar (reprQuote x) c).toArray) #[reprQuote x]).push (reprQuote x) := rfl
  show x.cps.size ≤ (reprText x).cps.size
  rw [e, Array.size_push, ← Array.foldl_toList]
  have := h (reprQuote x) x.cps.toList #[reprQuote x]
  have e2 : x.cps.toList.length = x.cps.size := Array.length_toList
  omega
/-- str(d) as data -/
theorem Shw.strd {n p : Nat} {d : D} (h : Shw n p d) : Shw (10 * n + 2) 0 (.str (strD d)) := by
  refine (Shw.text h.shn).mono ?_ (Nat.le_refl _)
  have hl := h.t.l
  have : (strD d).length ≤ d.shown.length := by
    cases d with
    | str x => exact reprText_le x
    | none => exact Nat.le_refl _
    | bool _ => exact Nat.le_refl _
    | int _ => exact Nat.le_refl _
    | list _ => exact Nat.le_refl _
    | tuple _ => exact Nat.le_refl _
    | dict _ => exact Nat.le_refl _
  omega
theorem Shw.all {n p : Nat} {ds : List D} {x : D} (h : Shw n p x) (e : seqD x = some ds) : ∀ d ∈ ds, Shw n p d := by
  have key : ∀ (ts : List Str) (t : Str), t ∈ ts → t.length + 2 ≤ piled ts := by
    intro ts
    induction ts with
    | nil => intro t ht; cases ht
    | cons a r ih =>
      intro t ht
      rw [piled_cons]
      rcases List.mem_cons.mp ht with rfl | ht
      · omega
      · have := ih t ht; omega
  have mem : ∀ (l : List D) (d : D), d ∈ l → d.shown ∈ PyData.shownAll l := by
    intro l
    induction l with
    | nil => intro d hd; cases hd
    | cons a r ih =>
      intro d hd
      rw [PyData.shownAll]
      rcases List.mem_cons.mp hd with rfl | hd
      · exact List.mem_cons_self ..
      · exact List.mem_cons_of_mem _ (ih d hd)
  have sh : ∀ (l : List D) (d : D), d ∈ l → PyData.showableAll l = true → d.showable = true := by
    intro l
    induction l with
    | nil => intro d hd; cases hd
    | cons a r ih =>
      intro d hd h
      rw [PyData.showableAll, Bool.and_eq_true] at h
      rcases List.mem_cons.mp hd with rfl | hd
      · exact h.1
      · exact ih d hd h.2
  have hd' : ∀ (l : List D) (d : D), d ∈ l → PyData.hasDictAll l = false → d.hasDict = false := by
    intro l
    induction l with
    | nil => intro d hd; cases hd
    | cons a r ih =>
      intro d hd h
      rw [PyData.hasDictAll, Bool.or_eq_false_iff] at h
      rcases List.mem_cons.mp hd with rfl | hd
      · exact h.1
      · exact ih d hd h.2
  have dp : ∀ (l : List D) (d : D), d ∈ l → d.depth ≤ PyData.depthAll l := by
    intro l d hd
    obtain ⟨i, hi⟩ := List.getElem?_of_mem hd
    exact depth_get hi
  have ok : ∀ (l : List D) (d : D), d ∈ l → okSs true l = true → okS true d = true := by
    intro l d hd h
    obtain ⟨i, hi⟩ := List.getElem?_of_mem hd
    exact okSs_get h hi
  intro d hd
  have hs := h.t.s
  have hh := h.t.h
  have hl := h.t.l
  have hp := h.p
  have ho := h.o
  cases x with
  | list l =>
    obtain rfl : l = ds := Option.some.inj e
    simp only [PyData.showable] at hs
    simp only [PyData.hasDict] at hh
    simp only [PyData.shown] at hl
    simp only [PyData.depth] at hp
    rw [okS, Bool.and_eq_true] at ho
    have h1 := key _ _ (mem l d hd)
    have h2 := piled_le_listText (PyData.shownAll l)
    have h3 := dp l d hd
    exact ⟨⟨sh l d hd hs, hd' l d hd hh, by omega⟩, by omega, ok l d hd ho.1⟩
  | tuple l =>
    obtain rfl : l = ds := Option.some.inj e
    simp only [PyData.showable] at hs
    simp only [PyData.hasDict] at hh
    simp only [PyData.shown] at hl
    simp only [PyData.depth] at hp
    rw [okS, Bool.and_eq_true] at ho
    have h1 := key _ _ (mem l d hd)
    have h2 := piled_le_tupleText (PyData.shownAll l)
    have h3 := dp l d hd
    exact ⟨⟨sh l d hd hs, hd' l d hd hh, by omega⟩, by omega, ok l d hd ho.1⟩
  | none => cases e
  | bool _ => cases e
  | int _ => cases e
  | str _ => cases e
  | dict _ => cases e
theorem Shw.len {n p : Nat} {ds : List D} {x : D} (h : Shw n p x) (e : seqD x = some ds) : 2 * ds.length ≤ n ∧ ds.length ≤ sizeLine := by
  have key : ∀ (l : List D), 2 * l.length ≤ piled (PyData.shownAll l) := by
    intro l
    induction l with
    | nil => exact Nat.zero_le _
    | cons a r ih => rw [PyData.shownAll, piled_cons, List.length_cons]; omega
  have hl := h.t.l
  have ho := h.o
  cases x with
  | list l =>
    obtain rfl : l = ds := Option.some.inj e
    simp only [PyData.shown] at hl
    rw [okS, Bool.and_eq_true] at ho
    have h2 := piled_le_listText (PyData.shownAll l)
    have h3 := key l
    exact ⟨by omega, of_decide_eq_true ho.2⟩
  | tuple l =>
    obtain rfl : l = ds := Option.some.inj e
    simp only [PyData.shown] at hl
    rw [okS, Bool.and_eq_true] at ho
    have h2 := piled_le_tupleText (PyData.shownAll l)
    have h3 := key l
    exact ⟨by omega, of_decide_eq_true ho.2⟩
  | none => cases e
  | bool _ => cases e
  | int _ => cases e
  | str _ => cases e
  | dict _ => cases e
theorem str_go {n p : Nat} {d : D} {C : Prop} (h : Shw n p d) (hn : n ≤ 10 ^ 7) (hp : p ≤ 40) (c : C) : fitD [d] ∧ d.showable = true ∧ d.hasDict = false ∧ d.shown.length ≤ sizeLine ∧ d.depth ≤ 40 ∧ C :=
  ⟨h.fit (by omega), h.t.s, h.t.h, by have := h.t.l; rw [sizeLine_eq]; omega, Nat.le_trans h.p hp, c⟩
theorem Ok.noneL {P : Program} {w : World} {K : PySem.W.Frag} {mg : Str → Option Value} {base : Heap} {x : Str} {st : Stmt} {ps : List Str} {n L : Nat} {sp : SpD} (hF : ∃ f fd, At K mg x st ps f fd) (h : ∀ xs ms Ks, ¬ sp xs ms Ks) : Ok P w K mg base L x st ps n sp := by
  obtain ⟨f, fd, a⟩ := hF
  refine ⟨f, fd, a, ⟨fun vs H Q E q => ?_, fun A outer s H args us vs Q E hr _ he hb hv hs => ?_⟩⟩
  · obtain ⟨_, _, _, _, _, _, _, _, q, _⟩ := q
    exact (h _ _ _ q).elim
  · obtain ⟨_, _, _, _, _, _, _, _, q, _⟩ := hs
    exact (h _ _ _ q).elim
/-- a cut at which the state is known -/
theorem cut_eq {kl : List Nat} {m : Nat} {w u : WS} {s S0 : S} {D : Dn} (hw : w s { D with nx := fun s1 => s1.np ≤ m ∧ clS kl m s1 = S0 }) (hu : u S0 D) : sCut kl m w u s D := ⟨fun s => s = S0, hw, fun _ e => by rw [e]; exact hu⟩
/-! ### truths among numbers: x + i, x - i, -x -/
theorem gives_add_bi (b : Bool) (i : Int) (t : Tok) : Gives (Builtin.«int.__add__» ⟨[.bool b, .int i t], []⟩) (.int ((if b = true then (1 : Int) else 0) + i)) :=
  .of_wp fun M A E s Q h => by obtain ⟨hp, g, d, tk, os⟩ := s; wp_walk; exact ⟨_, rfl, h⟩
theorem gives_sub_bi (b : Bool) (i : Int) (t : Tok) : Gives (Builtin.«int.__sub__» ⟨[.bool b, .int i t], []⟩) (.int ((if b = true then (1 : Int) else 0) - i)) :=
  .of_wp fun M A E s Q h => by obtain ⟨hp, g, d, tk, os⟩ := s; wp_walk; exact ⟨_, rfl, h⟩
theorem gives_neg_b (b : Bool) : Gives (Builtin.«int.__neg__» ⟨[.bool b], []⟩) (.int (-(if b = true then (1 : Int) else 0))) :=
  .of_wp fun M A E s Q h => by obtain ⟨hp, g, d, tk, os⟩ := s; wp_walk; exact ⟨_, rfl, h⟩
section
variable {prog : Program} {w : World} {A : Around} {E : Value → Shared → Prop} {s : Shared} {b : Bool} {i : Int} {t : Tok} {Q : Value → Shared → Prop}
theorem add_bi (h : Q (.int ((if b = true then (1 : Int) else 0) + i) s.toks) { s with toks := s.toks + 1 }) : wpAny (model prog w) A (binaryOp .Add (.bool b) (.int i t)) Q E s :=
  binaryOp_left_gives (op := .Add) (T := "bool") (U := "int") (by decide) rfl (fun s' => typeIs_int s' i t) F.fills_bool_add F.fills_int_add F.sub_int_bool F.slot_bool_add F.slot_int_radd F.entry_int_add (F.args_int_add_2 _ _) (gives_add_bi b i t) trivial h
theorem sub_bi (h : Q (.int ((if b = true then (1 : Int) else 0) - i) s.toks) { s with toks := s.toks + 1 }) : wpAny (model prog w) A (binaryOp .Sub (.bool b) (.int i t)) Q E s :=
  binaryOp_left_gives (op := .Sub) (T := "bool") (U := "int") (by decide) rfl (fun s' => typeIs_int s' i t) F.fills_bool_sub F.fills_int_sub F.sub_int_bool F.slot_bool_sub F.slot_int_rsub F.entry_int_sub (F.args_int_sub_2 _ _) (gives_sub_bi b i t) trivial h
theorem neg_b (h : Q (.int (-(if b = true then (1 : Int) else 0)) s.toks) { s with toks := s.toks + 1 }) : wpAny (model prog w) A (unaryOp .USub (.bool b)) Q E s :=
  unaryOp_gives (op := .USub) (T := "bool") rfl rfl F.slot_bool_neg F.entry_int_neg (F.args_int_neg_1 _) (gives_neg_b b) h
end
section
variable {X : L2.Cx} {a c : Expr} {wa wc : WE} {pos : Pos}
def nbD : D → Option Int
  | .int i => some i
  | .bool b => some (if b = true then 1 else 0)
  | _ => none
def rNb (f : Int → Int → Int) : R2 := fun x y H Q => ∃ j, y = .int j ∧ ((∃ i, x = .int i ∧ Q (.int (f i j)) H) ∨ ∃ b : Bool, x = .bl b ∧ Q (.int (f (if b = true then 1 else 0) j)) H)
theorem op_addNb : OpR X (binaryOp .Add) (rNb fun i j => i + j) := by
  intro pins s σ H x y v u Q I rx ry h
  obtain ⟨j, rfl, ⟨i, rfl, q⟩ | ⟨b, rfl, q⟩⟩ := h
  · exact op_add pins s σ H _ _ v u Q I rx ry ⟨i, j, rfl, rfl, q⟩
  · obtain ⟨t, rfl⟩ := ry
    cases rx
    exact add_bi ⟨.int _, H, I.tok _, ⟨_, rfl⟩, q⟩
theorem op_subNb : OpR X (binaryOp .Sub) (rNb fun i j => i - j) := by
  intro pins s σ H x y v u Q I rx ry h
  obtain ⟨j, rfl, ⟨i, rfl, q⟩ | ⟨b, rfl, q⟩⟩ := h
  · exact op_sub pins s σ H _ _ v u Q I rx ry ⟨i, j, rfl, rfl, q⟩
  · obtain ⟨t, rfl⟩ := ry
    cases rx
    exact sub_bi ⟨.int _, H, I.tok _, ⟨_, rfl⟩, q⟩
theorem un_negNb : UnR X (unaryOp .USub) (fun x H Q => (∃ i, x = .int i ∧ Q (.int (-i)) H) ∨ ∃ b : Bool, x = .bl b ∧ Q (.int (-(if b = true then 1 else 0))) H) := by
  intro pins s σ H x v Q I rx h
  rcases h with ⟨i, rfl, q⟩ | ⟨b, rfl, q⟩
  · exact un_neg pins s σ H _ v Q I rx ⟨i, rfl, q⟩
  · cases rx
    exact neg_b ⟨.int _, H, I.tok _, ⟨_, rfl⟩, q⟩
def rdNb (f : Int → Int → Int) : S → En → En → (S → En → Prop) → Prop := fun s x y Ks => daI x fun d => i1 y fun j => onO (nbD d) fun i => Ks s (.da (.int (f i j)))
theorem opd_nb {K : PySem.W.Frag} {f : Int → Int → Int} : OpD K (rNb f) (rdNb f) := by
  intro b A own H σ s vx vy x y Ks Q R ex ey h k
  obtain ⟨d, rfl, h⟩ := daI_inv h
  obtain ⟨j, rfl, h⟩ := i1_inv h
  obtain ⟨i, hi, h⟩ := onO_inv h
  cases ey
  cases d with
  | int z =>
    cases ex
    obtain rfl : z = i := Option.some.inj hi
    exact ⟨j, rfl, .inl ⟨z, rfl, k.da R Up.refl (.int _) h⟩⟩
  | bool z =>
    cases ex
    obtain rfl : (if z = true then (1 : Int) else 0) = i := Option.some.inj hi
    exact ⟨j, rfl, .inr ⟨z, rfl, k.da R Up.refl (.int _) h⟩⟩
  | none => cases hi
  | str _ => cases hi
  | list _ => cases hi
  | tuple _ => cases hi
  | dict _ => cases hi
theorem de_addNb (ha : DE X a wa) (hb : DE X c wc) : DE X (.BinOp a .Add c pos) (d2 (rdNb fun i j => i + j) wa wc) := de_op op_addNb opd_nb ha hb
theorem de_subNb (ha : DE X a wa) (hb : DE X c wc) : DE X (.BinOp a .Sub c pos) (d2 (rdNb fun i j => i - j) wa wc) := de_op op_subNb opd_nb ha hb
def dNegNb (wa : WE) : WE := fun s Ks => wa s fun s1 x => daI x fun d => onO (nbD d) fun i => Ks s1 (.da (.int (-i)))
theorem de_negNb (ha : DE X a wa) : DE X (.UnaryOp .USub a pos) (dNegNb wa) := by
  obtain ⟨ta, pa, qa⟩ := ha.ex
  refine ⟨_, pe_un un_negNb pa, fun b A own H σ s Ks Q R h k => ?_⟩
  refine qa _ _ _ _ _ _ _ _ R h fun A1 o1 H1 v1 s1 x1 R1 U1 E1 h1 => ?_
  obtain ⟨d, rfl, h1⟩ := daI_inv h1
  obtain ⟨i, hi, h2⟩ := onO_inv h1
  cases d with
  | int z =>
    cases E1
    obtain rfl : z = i := Option.some.inj hi
    exact .inl ⟨z, rfl, k.da R1 U1 (.int _) h2⟩
  | bool z =>
    cases E1
    obtain rfl : (if z = true then (1 : Int) else 0) = i := Option.some.inj hi
    exact .inr ⟨z, rfl, k.da R1 U1 (.int _) h2⟩
  | none => cases hi
  | str _ => cases hi
  | list _ => cases hi
  | tuple _ => cases hi
  | dict _ => cases hi
end
/-! ### lemmas for walks that tell either -/
mutual
theorem eqv_eq : ∀ (d e : D), okS false d = true → okS false e = true → PyData.eqv d e = true → d = e
  | .none, .none, _, _, _ => rfl
  | .int i, .int j, _, _, h => by
    have : i = j := by simpa [PyData.eqv] using h
    rw [this]
  | .str x, .str y, _, _, h => by
    have : x = y := by simpa [PyData.eqv] using h
    rw [this]
  | .list l, .list m, h1, h2, h => by
    rw [okS, Bool.and_eq_true] at h1 h2
    rw [eqvs_eq l m h1.1 h2.1 (by simpa [PyData.eqv] using h)]
  | .tuple l, .tuple m, h1, h2, h => by
    rw [okS, Bool.and_eq_true] at h1 h2
    rw [eqvs_eq l m h1.1 h2.1 (by simpa [PyData.eqv] using h)]
  | .bool _, _, h, _, _ => by cases h
  | _, .bool _, _, h, _ => by cases h
  | .dict _, _, h, _, _ => by cases h
  | _, .dict _, _, h, _ => by cases h
  | .none, .int _, _, _, h => by simp [PyData.eqv] at h
  | .none, .str _, _, _, h => by simp [PyData.eqv] at h
  | .none, .list _, _, _, h => by simp [PyData.eqv] at h
  | .none, .tuple _, _, _, h => by simp [PyData.eqv] at h
  | .int _, .none, _, _, h => by simp [PyData.eqv] at h
  | .int _, .str _, _, _, h => by simp [PyData.eqv] at h
  | .int _, .list _, _, _, h => by simp [PyData.eqv] at h
  | .int _, .tuple _, _, _, h => by simp [PyData.eqv] at h
  | .str _, .none, _, _, h => by simp [PyData.eqv] at h
  | .str _, .int _, _, _, h => by simp [PyData.eqv] at h
  | .str _, .list _, _, _, h => by simp [PyData.eqv] at h
  | .str _, .tuple _, _, _, h => by simp [PyData.eqv] at h
  | .list _, .none, _, _, h => by simp [PyData.eqv] at h
  | .list _, .int _, _, _, h => by simp [PyData.eqv] at h
  | .list _, .str _, _, _, h => by simp [PyData.eqv] at h
  | .list _, .tuple _, _, _, h => by simp [PyData.eqv] at h
  | .tuple _, .none, _, _, h => by simp [PyData.eqv] at h
  | .tuple _, .int _, _, _, h => by simp [PyData.eqv] at h
  | .tuple _, .str _, _, _, h => by simp [PyData.eqv] at h
  | .tuple _, .list _, _, _, h => by simp [PyData.eqv] at h
theorem eqvs_eq : ∀ (l m : List D), okSs false l = true → okSs false m = true → PyData.eqvAll l m = true → l = m
  | [], [], _, _, _ => rfl
  | [], _ :: _, _, _, h => by simp [PyData.eqvAll] at h
  | _ :: _, [], _, _, h => by simp [PyData.eqvAll] at h
  | d :: l, e :: m, h1, h2, h => by
    rw [okSs, Bool.and_eq_true] at h1 h2
    rw [PyData.eqvAll, Bool.and_eq_true] at h
    rw [eqv_eq d e h1.1 h2.1 h.1, eqvs_eq l m h1.2 h2.2 h.2]
end
theorem eqv_iff {d e : D} (h1 : okS false d = true) (h2 : okS false e = true) : PyData.eqv d e = true ↔ d = e :=
  ⟨eqv_eq d e h1 h2, fun h => by rw [h]; exact SeqAt.eqv_refl _ (okS_lay h2)⟩
theorem snocB {α : Type} {f : α → Bool} {ds : List α} {i : Nat} {e : α} (hi : ds[i]? = some e) {b : Bool} (hb : b = f e) : ((ds.take i).map f).map PyData.bool ++ [PyData.bool b] = ((ds.take (i + 1)).map f).map PyData.bool := by
  rw [List.take_add_one, hi, hb]
  simp
theorem snocN {g : Nat → Bool} {i : Nat} {b : Bool} (hb : b = g i) : ((List.range i).map g).map PyData.bool ++ [PyData.bool b] = ((List.range (i + 1)).map g).map PyData.bool := by
  rw [List.range_succ, hb]
  simp
theorem all_mapB {α : Type} {f : α → Bool} {l : List α} : (l.map f).all id = l.all f := by
  rw [List.all_map]
  rfl
noncomputable def cd (p : Prop) : Bool := @decide p (Classical.propDecidable p)
theorem cd_iff {p : Prop} : cd p = true ↔ p := @decide_eq_true_iff p (Classical.propDecidable p)
theorem cd_not {p : Prop} (h : cd p = false) : ¬ p := fun q => by rw [cd_iff.mpr q] at h; cases h
theorem range_all {g : Nat → Bool} {n : Nat} (h : (List.range n).all g = true) {k : Nat} (hk : k < n) : g k = true := List.all_eq_true.mp h k (List.mem_range.mpr hk)
theorem range_not {g : Nat → Bool} {n : Nat} (h : (List.range n).all g = false) : ∃ k, k < n ∧ g k = false := by
  rw [List.all_eq_false] at h
  obtain ⟨k, hk, e⟩ := h
  exact ⟨k, List.mem_range.mp hk, by simpa using e⟩
theorem lenD_seq {x : D} {ds : List D} {k : Nat → Prop} (h : seqD x = some ds) (q : k ds.length) : lenD x k := by
  cases x with
  | list l => obtain rfl : l = ds := Option.some.inj h; exact q
  | tuple l => obtain rfl : l = ds := Option.some.inj h; exact q
  | none => cases h
  | bool _ => cases h
  | int _ => cases h
  | str _ => cases h
  | dict _ => cases h
end DL
namespace DL
open PySem L2 PySem.Spec PyProof.Rows
/-! ### lists and tuples of things that change -/
def sq (x : En) : Str × En := (Str.empty, x)
section
variable {K : PySem.W.Frag} {b : Bd} {A : Addr → Prop} {own : List (List Addr)} {H : Hp} {σ : L2.St} {s : S} {Ks : S → En → Prop} {Q : VK} {p : Addr}
theorem rke_of : ∀ {vs : List V} {xs : List En}, ERL K A own H vs xs → RKE K A own H (vs.map fun v => (Str.empty, v)) (xs.map sq)
  | [], [], _ => trivial
  | _ :: _, _ :: _, ⟨h, t⟩ => ⟨rfl, h, rke_of t⟩
  | [], _ :: _, h => h.elim
  | _ :: _, [], h => h.elim
theorem RKE.len : ∀ {ws : List (Str × V)} {fs : List (Str × En)}, RKE K A own H ws fs → ws.length = fs.length
  | [], [], _ => rfl
  | _ :: _, _ :: _, ⟨_, _, t⟩ => congrArg (· + 1) (RKE.len t)
  | [], _ :: _, h => h.elim
  | _ :: _, [], h => h.elim
theorem RKE.get : ∀ {ws : List (Str × V)} {fs : List (Str × En)} {i : Nat} {f : Str × En}, RKE K A own H ws fs → fs[i]? = some f → ∃ w, ws[i]? = some w ∧ ER K A own H w.2 f.2
  | [], [], _, _, _, h => by cases h
  | w :: _, _ :: _, 0, _, ⟨_, h, _⟩, e => ⟨w, rfl, by cases e; exact h⟩
  | _ :: _, _ :: _, i + 1, _, ⟨_, _, t⟩, e => RKE.get (i := i) t e
  | [], _ :: _, _, _, h, _ => h.elim
  | _ :: _, [], _, _, h, _ => h.elim
theorem RKE.snoc : ∀ {ws : List (Str × V)} {fs : List (Str × En)} {v : V} {x : En}, RKE K A own H ws fs → ER K A own H v x → RKE K A own H (ws ++ [(Str.empty, v)]) (fs ++ [sq x])
  | [], [], _, _, _, h => ⟨rfl, h, trivial⟩
  | _ :: _, _ :: _, _, _, ⟨h1, h2, t⟩, h => ⟨h1, h2, RKE.snoc t h⟩
  | [], _ :: _, _, _, h, _ => h.elim
  | _ :: _, [], _, _, h, _ => h.elim
theorem snd_map (vs : List V) : (vs.map fun v => ((Str.empty, v) : Str × V)).map (·.2) = vs := by
  rw [List.map_map]
  exact List.map_id _
theorem new_sqT {vs : List V} {xs : List En} (R : Rel K b A own H σ s) (k : PostE K b A own H σ Ks Q) (E : ERL K A own H vs xs) (hp : H p = none) (h : Ks (s.aM (.ins .tup (xs.map sq))) (.mu s.ms.length)) : Q (.ref p) (upd H p (.tup vs)) := by
  obtain ⟨R1, U1, g⟩ := R.newMu (o := .tup vs) hp (.ins .tup (xs.map sq)) fun A' own' u => ⟨p, [], _, rfl, ⟨rfl, by rw [snd_map, upd_same]⟩, (rke_of E).up u⟩
  exact k _ _ _ _ _ (.mu s.ms.length) R1 U1 ⟨p, [], g, rfl⟩ h
theorem new_sqL {vs : List V} {xs : List En} (R : Rel K b A own H σ s) (k : PostE K b A own H σ Ks Q) (E : ERL K A own H vs xs) (hp : H p = none) (h : Ks (s.aM (.ins .lst (xs.map sq))) (.mu s.ms.length)) : Q (.ref p) (upd H p (.lst vs)) := by
  obtain ⟨R1, U1, g⟩ := R.newMu (o := .lst vs) hp (.ins .lst (xs.map sq)) fun A' own' u => ⟨p, [], _, rfl, ⟨rfl, by rw [snd_map, upd_same]⟩, (rke_of E).up u⟩
  exact k _ _ _ _ _ (.mu s.ms.length) R1 U1 ⟨p, [], g, rfl⟩ h
end
section
variable {X : L2.Cx} {a c e : Expr} {es : List Expr} {wa wc we : WE} {wr : WA} {pos : Pos}
def dTupS (wr : WA) : WE := fun s Ks => wr s fun s1 xs => Ks (s1.aM (.ins .tup (xs.map sq))) (.mu s1.ms.length)
def dLstS (wr : WA) : WE := fun s Ks => wr s fun s1 xs => Ks (s1.aM (.ins .lst (xs.map sq))) (.mu s1.ms.length)
theorem de_tupS {n : Nat} {x1} (h : DAn X es n wr) (hn : n ≤ 1000 := by decide) : DE X (.Tuple es x1 pos) (dTupS wr) := by
  obtain ⟨ta, pa, qa⟩ := h.ex
  refine ⟨_, pe_tup pa, fun b A own H σ s Ks Q R h k => ?_⟩
  refine qa _ _ _ _ _ _ _ _ R h fun A1 o1 H1 vs s1 xs R1 U1 E1 h1 => ?_
  obtain ⟨hl, h1⟩ := h1
  refine ⟨?_, fun p hp => new_sqT R1 (k.up U1) E1 hp h1⟩
  rw [E1.len, hl]
  exact Nat.le_trans hn (by decide)
theorem de_lstS {n : Nat} (h : DAn X es n wr) (hn : n ≤ 1000 := by decide) : DE X (.List es pos) (dLstS wr) := by
  obtain ⟨ta, pa, qa⟩ := h.ex
  refine ⟨_, pe_lst pa, fun b A own H σ s Ks Q R h k => ?_⟩
  refine qa _ _ _ _ _ _ _ _ R h fun A1 o1 H1 vs s1 xs R1 U1 E1 h1 => ?_
  obtain ⟨hl, h1⟩ := h1
  refine ⟨?_, fun p hp => new_sqL R1 (k.up U1) E1 hp h1⟩
  rw [E1.len, hl]
  exact Nat.le_trans hn (by decide)
/-- what a thing that changes holds at a place -/
def insAt (s : S) (x : En) (k : List (Str × En) → Prop) : Prop := match x with
  | .mu j => (match gm s.ms j with | .ins .lst fs => k fs | .ins .tup fs => k fs | _ => False)
  | _ => False
theorem insAt_inv {s : S} {x : En} {k : List (Str × En) → Prop} (h : insAt s x k) : ∃ j fs sh, x = .mu j ∧ gm s.ms j = .ins sh fs ∧ (sh = .lst ∨ sh = .tup) ∧ k fs := by
  unfold insAt at h
  split at h
  · rename_i j
    split at h
    · rename_i fs g; exact ⟨j, fs, .lst, rfl, g, .inl rfl, h⟩
    · rename_i fs g; exact ⟨j, fs, .tup, rfl, g, .inr rfl, h⟩
    · exact h.elim
  · exact h.elim
def rdIxS : S → En → En → (S → En → Prop) → Prop := fun s x y Ks => insAt s x fun fs => i1 y fun i => ∃ f, L2.atI fs i = some f ∧ Ks s f.2
theorem opd_ixS {K : PySem.W.Frag} : OpD K (rIx K) rdIxS := by
  intro b A own H σ s vx vy x y Ks Q R ex ey h k
  obtain ⟨j, fs, sh, rfl, g, hsh, h⟩ := insAt_inv h
  obtain ⟨i, rfl, f, hf, h⟩ := i1_inv h
  cases ey
  have m := R.mr j
  rw [g] at m
  obtain ⟨p, r, ws, e1, e2, e3⟩ := m
  obtain ⟨p', r', e4, rfl⟩ := ex
  rw [e1] at e4
  cases e4
  obtain ⟨w, hw, ew⟩ : ∃ w, L2.atI (ws.map (·.2)) i = some w ∧ ER K A own H w f.2 := by
    unfold L2.atI at hf ⊢
    rw [List.length_map, e3.len]
    cases q : ixN fs.length i with
    | none => rw [q] at hf; cases hf
    | some n =>
      rw [q] at hf
      obtain ⟨w, h1, h2⟩ := e3.get hf
      exact ⟨w.2, by show (ws.map (·.2))[n]? = _; rw [List.getElem?_map, h1]; rfl, h2⟩
  have fin : Q w H := k _ _ _ _ _ f.2 R Up.refl ew h
  rcases hsh with rfl | rfl
  · exact .inl ⟨p, _, i, w, rfl, rfl, .inl (.inl e2.2), hw, fin⟩
  · exact .inr (.inl ⟨p, _, i, w, rfl, rfl, .inl (.inl e2.2), hw, fin⟩)
def dIxS : WE → WE → WE := d2 rdIxS
theorem de_ixS (ha : DE X a wa) (hb : DE X c wc) (hs : PlainIx c := by exact fun _ _ => rfl) : DE X (.Subscript a c pos) (dIxS wa wc) := by
  obtain ⟨ta, pa, qa⟩ := ha.ex
  obtain ⟨tb, pb, qb⟩ := hb.ex
  exact ⟨_, pe_ix ix_seq pa pb hs, d2_run opd_ixS qa qb⟩
def isLstS (s : S) (x : En) (k : Nat → List (Str × En) → Prop) : Prop := match x with
  | .mu j => (match gm s.ms j with | .ins .lst fs => k j fs | _ => False)
  | _ => False
theorem isLstS_inv {s : S} {x : En} {k : Nat → List (Str × En) → Prop} (h : isLstS s x k) : ∃ j fs, x = .mu j ∧ gm s.ms j = .ins .lst fs ∧ k j fs := by
  unfold isLstS at h
  split at h
  · rename_i j
    split at h
    · rename_i fs g; exact ⟨j, fs, rfl, g, h⟩
    · exact h.elim
  · exact h.elim
def dAppS (wa wc : WE) : WE := fun s Ks => wa s fun s1 o => isLstS s1 o fun _ _ => wc s1 fun s2 x => isLstS s2 o fun j fs => fs.length < sizeLine ∧ Ks (s2.sM j (.ins .lst (fs ++ [sq x]))) (.da .none)
theorem ins_at {K : PySem.W.Frag} {b : Bd} {A : Addr → Prop} {own : List (List Addr)} {H : Hp} {σ : L2.St} {s : S} (R : Rel K b A own H σ s) {v : V} {j : Nat} {fs : List (Str × En)} (E : ER K A own H v (.mu j)) (g : gm s.ms j = .ins .lst fs) :
    ∃ p ws, v = .ref p ∧ H p = some (.lst (ws.map (·.2))) ∧ RKE K A own H ws fs ∧ ∀ (ws' : List (Str × V)) fs', RKE K A own H ws' fs' → Rel K b A own (upd H p (.lst (ws'.map (·.2)))) σ (s.sM j (.ins .lst fs')) ∧ Up A own H A own (upd H p (.lst (ws'.map (·.2)))) := by
  have m := R.mr j
  rw [g] at m
  obtain ⟨p, r, ws, e1, ⟨rfl, e2⟩, e3⟩ := m
  obtain ⟨p', r, e4, rfl⟩ := E
  rw [e1] at e4
  cases e4
  refine ⟨p, ws, rfl, e2, e3, fun vs' ds' r' => ?_⟩
  refine R.chg j (.ins .lst ds') (fun a o n h => ?_) (fun a h => ?_) (fun u => ?_) (gm_lt (by rw [g]; intro z; cases z))
  · rw [upd_ne]; exact h
    intro z; subst z; exact n (by rw [e1]; simp)
  · rw [e1] at h
    cases List.mem_singleton.mp h
    rw [upd_same]; intro z; cases z
  · rw [e1]; exact ⟨p, [], vs', rfl, ⟨rfl, upd_same⟩, r'.up u⟩
theorem de_appS {apos cpos : Pos} (ho : DE X a wa) (hi : DE X c wc)
    (hbase : attributeBase a "append" X.env (eval a X.env) = eval a X.env := by rfl)
    (hfew : ((backTo cpos (starEach (c :: []) X.env)).all (fun x => !x.1) && (backToKw cpos (keywordEach [] X.env)).all (fun x => x.1.isSome)
      && decide ((c :: []).length + ([] : List Keyword).length + (if ([] : List Keyword).isEmpty then 0 else 1) < 30)) = true := by rfl)
    (hline : (apos.endLine == cpos.line) = true := by rfl) (hs : starEach (c :: []) X.env = (false, eval c X.env) :: starEach [] X.env := by rfl) (hplain : (backTo cpos (starEach [] X.env)).any (·.1) = false := by rfl) :
    DE X (.Call (.Attribute a "append" apos) [c] [] cpos) (dAppS wa wc) := by
  obtain ⟨ta, pa, qa⟩ := ho.ex
  obtain ⟨tr, pr, qr⟩ := (da_cons hi da_nil hs).ex
  refine ⟨_, pe_bm PySem.F.plainAttrs_list PySem.F.slot_list_append PySem.F.type_list_append mt_append pa pr hbase hfew hline hs hplain, fun b A own H σ s Ks Q R h k => ?_⟩
  show ta σ H fun x H1 => tyV X.K "list" x H1 ∧ tr σ H1 fun xs H2 => rAppend x xs H2 Q
  refine qa _ _ _ _ _ _ _ _ R h fun A1 o1 H1 v1 s1 x1 R1 U1 E1 h1 => ?_
  obtain ⟨j, fs, rfl, g, h1⟩ := isLstS_inv h1
  obtain ⟨p, ws, rfl, e2, e3, _⟩ := ins_at R1 E1 g
  refine ⟨.inl ⟨rfl, _, .inl (.inl e2)⟩, ?_⟩
  have h1' : aCons wc aNil s1 (fun s2 xs => a1 xs fun x => isLstS s2 (.mu j) fun j fs => fs.length < sizeLine ∧ Ks (s2.sM j (.ins .lst (fs ++ [sq x]))) (.da .none)) := h1
  refine qr _ _ _ _ _ _ _ _ R1 h1' fun A2 o2 H2 vs s2 xs R2 U2 E2 h2 => ?_
  obtain ⟨v, x, rfl, E3, h2⟩ := a1_inv E2 h2
  obtain ⟨j', fs', ej, g', hl, h2⟩ := isLstS_inv h2
  cases ej
  obtain ⟨p', ws', ep, f2, f3, up⟩ := ins_at R2 (E1.up U2) g'
  cases ep
  obtain ⟨R3, U3⟩ := up _ _ (f3.snoc E3)
  rw [List.map_append] at R3 U3
  exact ⟨p, _, v, rfl, rfl, f2, by rw [List.length_map, f3.len]; exact hl, k.da R3 ((U1.trans U2).trans U3) .non h2⟩
end
end DL
namespace DL
open PySem L2 PySem.Spec PyProof.Rows
/-! ### a comprehension whose list holds things that change -/
section
variable {X : Cx} {a b c e : Expr} {we : WE} {wt : WT} {wg : WG} {pos : Pos} {js : List Nat}
def lcTurnsS (vs : List Nat) (wg : WG) (wt : WT) (we : WE) (s1 : S) (ds : List D) (Kf : List MO → Prop) : Prop := ∃ I : Nat → List MO → Prop, I 0 (s1.ms ++ [.ins .lst []]) ∧
  (∀ i d ms, ds[i]? = some d → I i ms → wg (.da d) ⟨killL vs s1.es, ms, s1.np⟩ fun s2 => wt s2 fun s3 c =>
    (c = true → we s3 fun s4 x => isLstS s4 (.mu s1.ms.length) fun _ fs => fs.length < sizeLine ∧ I (i + 1) (sm s4.ms s1.ms.length (.ins .lst (fs ++ [sq x])))) ∧
    (c = false → I (i + 1) s3.ms)) ∧
  (∀ ms, I ds.length ms → Kf ms)
def dLcS (vs : List Nat) (wi : WI) (wg : WG) (wt : WT) (we : WE) : WE := fun s Ks => wi s fun s1 ds => lcTurnsS vs wg wt we s1 ds fun ms => Ks ⟨s1.es, ms, s1.np⟩ (.mu s1.ms.length)
theorem lc_runS {K : PySem.W.Frag} {wi : TI} {wI : WI} {vs : List Nat} (hj : ∀ j ∈ js, j ∈ vs)
    (qi : ∀ (b : Bd) (A : Addr → Prop) (own : List (List Addr)) (H : Hp) (σ : L2.St) (s : S) (Ks : S → List D → Prop) (Q : It → Hp → Prop), Rel K b A own H σ s → wI s Ks → PostI K b A own H σ Ks Q → wi σ H Q)
    (Kf : S → List MO → Prop) (b : Bd) (A : Addr → Prop) (own : List (List Addr)) (H : Hp) (σ : L2.St) (s : S) (Q : VK) (R : Rel K b A own H σ s)
    (h : wI s fun s1 ds => lcTurnsS vs wg wt we s1 ds (Kf s1))
    (k : ∀ (A' : Addr → Prop) (own' : List (List Addr)) (H' : Hp) (s1 : S) (ms : List MO) (v : V), Rel K b A' own' H' σ ⟨s1.es, ms, s1.np⟩ → Up A own H A' own' H' → ER K A' own' H' v (.mu s1.ms.length) → Kf s1 ms → Q v H') :
    tLc wi (canG K js wg) (canT K wt) (canE K we) vs σ H Q := by
  show wi σ H fun J H1 => ∀ D, H1 D = none → ∃ W : Nat → Nat → Hp → Prop, (∃ m, W 0 m (upd H1 D (.lst []))) ∧ ∀ i m H, W i m H →
    (J.stop i H ∧ Q (.ref D) H) ∨ (J.go i H ∧ ∃ Nx : Hp → Prop, (∀ H', Nx H' → ∃ m', m' < m ∧ W (i + 1) m' H') ∧ ∀ x H', J.yld i H x H' → canG K js wg x (wipe σ vs) H' fun σ2 H2 => wipe σ2 vs = wipe σ vs ∧ canT K wt σ2 H2 fun b H3 =>
      if b = true then canE K we σ2 H3 fun y H4 => ∃ acc, H4 D = some (.lst acc) ∧ acc.length < sizeLine ∧ Nx (upd H4 D (.lst (acc ++ [y]))) else Nx H3)
  refine qi _ _ _ _ _ _ _ _ R h fun A1 o1 H1 s1 ds J R1 U1 wk h1 => ?_
  obtain ⟨I, h0, hs, hd⟩ := h1
  intro D hD
  obtain ⟨R0, U0, g0⟩ := R1.newMu (o := .lst []) hD (.ins .lst []) fun A' own' u => ⟨D, [], [], rfl, ⟨rfl, by rw [upd_same]; rfl⟩, trivial⟩
  refine ⟨fun i n H2 => n = ds.length - i ∧ i ≤ ds.length ∧ ∃ (A2 : Addr → Prop) (o2 : List (List Addr)) (ms : List MO), Rel K b A2 o2 H2 σ ⟨s1.es, ms, s1.np⟩ ∧ Up A1 o1 H1 A2 o2 H2 ∧ go o2 s1.ms.length = [D] ∧ I i ms,
    ⟨_, rfl, Nat.zero_le _, _, _, _, R0, U0, g0, h0⟩, ?_⟩
  rintro i n H2 ⟨rfl, hi, A2, o2, ms, R2, U2, g2, hI⟩
  obtain ⟨wstop, wgo⟩ := wk A2 H2 U2.kp i
  by_cases hlt : i < ds.length
  · obtain ⟨hgo, hy⟩ := wgo ds[i] (List.getElem?_eq_getElem hlt)
    refine .inr ⟨hgo, fun H' => ∃ (A3 : Addr → Prop) (o3 : List (List Addr)) (ms3 : List MO), Rel K b A3 o3 H' σ ⟨s1.es, ms3, s1.np⟩ ∧ Up A1 o1 H1 A3 o3 H' ∧ go o3 s1.ms.length = [D] ∧ I (i + 1) ms3,
      fun H' ⟨A3, o3, ms3, r3, u3, g3, i3⟩ => ⟨ds.length - (i + 1), by omega, rfl, hlt, A3, o3, ms3, r3, u3, g3, i3⟩, fun x H3 hx => ?_⟩
    obtain ⟨R3, U3, rx⟩ := hy x H3 hx o2 σ _ R2
    have R3w := R3.wiped vs
    have back : ∀ (A5 : Addr → Prop) (o5 : List (List Addr)) (H5 : Hp) (σ4 : L2.St) (s5 : S), Rel K b A5 o5 H5 σ4 s5 → Up A2 o2 H3 A5 o5 H5 → Rel K b A5 o5 H5 σ ⟨s1.es, s5.ms, s1.np⟩ ∧ Up A1 o1 H1 A5 o5 H5 ∧ go o5 s1.ms.length = [D] := by
      intro A5 o5 H5 σ4 s5 R5 U5
      have npe : s5.np = s1.np := R5.np.symm.trans R1.np
      have u : Up A1 o1 H1 A5 o5 H5 := ⟨(U2.kp.trans U3.kp).trans U5.kp, fun k a r e => U5.ow _ _ _ (U2.ow _ _ _ e)⟩
      have r := R5.slots (σ' := σ) (es' := s1.es) R1.len fun j => (R1.sl j).imp id fun ⟨v, e, q⟩ => ⟨v, e, q.up u⟩
      refine ⟨?_, u, U5.ow _ _ _ g2⟩
      have e : ({ s5 with es := s1.es } : S) = ⟨s1.es, s5.ms, s1.np⟩ := by rw [← npe]
      rw [e] at r
      exact r
    refine ⟨b, A2, o2, ⟨killL vs s1.es, ms, s1.np⟩, .da ds[i], _, R3w, rx, hs i _ ms (List.getElem?_eq_getElem hlt) hI, fun A4 o4 H4 σ2 s2 R4 U4 S4 h4 => ⟨wipe_sto S4 hj, b, A4, o4, s2, _, R4, h4, fun A5 o5 H5 s3 c R5 U5 h5 => ?_⟩⟩
    cases c with
    | false =>
      rw [if_neg (by decide)]
      have i5 := h5.2 rfl
      obtain ⟨r, u, g⟩ := back A5 o5 H5 σ2 s3 R5 (U4.trans U5)
      exact ⟨_, _, _, r, u, g, i5⟩
    | true =>
      rw [if_pos rfl]
      refine ⟨b, A5, o5, s3, _, R5, h5.1 rfl, fun A6 o6 H6 v s4 x R6 U6 E6 h6 => ?_⟩
      obtain ⟨j, fs, ej, g6, hl, i6⟩ := isLstS_inv h6
      cases ej
      have go6 : go o6 s1.ms.length = [D] := ((U4.trans U5).trans U6).ow _ _ _ g2
      obtain ⟨p, ws, ep, e2, e3, up⟩ := ins_at R6 (v := .ref D) ⟨D, [], go6, rfl⟩ g6
      cases ep
      obtain ⟨R7, U7⟩ := up _ _ (e3.snoc E6)
      rw [List.map_append] at R7 U7
      refine ⟨ws.map (·.2), e2, by rw [List.length_map, e3.len]; exact hl, ?_⟩
      obtain ⟨r, u, g⟩ := back A6 o6 _ σ2 _ R7 (((U4.trans U5).trans U6).trans U7)
      exact ⟨_, _, _, r, u, g, i6⟩
  · have e : i = ds.length := by omega
    subst e
    exact .inl ⟨wstop (Nat.le_refl _), k _ _ _ s1 ms _ R2 (U1.trans U2) ⟨D, [], g2, rfl⟩ (hd ms hI)⟩
theorem ds_setLcS {i : Nat} {y : Str} {py spos : Pos} {elt tg iter : Expr} {ifs : List Expr} {scope : Scope} (own : List (Str × Nat)) {wI : WI} (hc : X.calm = true) (hN : X.N.Nodup) (hy : X.N[i]? = some y) (hyl : X.env.scope.names.lookup y = some .local)
    (hsw : swapsWith (.ListComp elt [⟨tg, iter, ifs, 0⟩] scope pos) (some (.Name y py)) spos.line X.env = pure true) (hi : DI X tg iter wI) (ok : BlkOk X.N X.env.scope scope own) (hj : ∀ j ∈ js, j ∈ own.map (·.2))
    (hg : ∀ (s : Shared) (H : Hp) (C : Addr) (cl : List (Str × Addr)) (fp : List Addr), DG (X.blk s H scope (compEnvC scope cl C X.env) fp) tg js wg) (ht : ∀ (s : Shared) (H : Hp) (C : Addr) (cl : List (Str × Addr)) (fp : List Addr), DTs (X.blk s H scope (compEnvC scope cl C X.env) fp) ifs wt)
    (he : ∀ (s : Shared) (H : Hp) (C : Addr) (cl : List (Str × Addr)) (fp : List Addr), DE (X.blk s H scope (compEnvC scope cl C X.env) fp) elt we) (hs : ∀ x, foldedSetIterable iter X.env x = pure x := by intro _; rfl) :
    DS X (.Assign [.Name y py] (.ListComp elt [⟨tg, iter, ifs, 0⟩] scope pos) spos) (sAsg (dLcS (own.map (·.2)) wI wg wt we) (gN i)) := by
  obtain ⟨ti, pi, qi⟩ := hi.ex
  refine ⟨_, ps_setLc (g := canG X.K js wg) (tt := canT X.K wt) (te := canE X.K we) hc hN hy hyl hsw pi ok (fun s H C cl fp => (hg s H C cl fp).can) (fun s H C cl fp => (ht s H C cl fp).can) (fun s H C cl fp => (he s H C cl fp).can) hs, asg_run (fun b A own' H σ s Ks Q R h k => ?_) (gN_run i)⟩
  exact lc_runS hj qi (fun s1 ms => Ks ⟨s1.es, ms, s1.np⟩ (.mu s1.ms.length)) b A own' H σ s Q R h fun A' own' H' s1 ms v R1 U1 E1 hk => k _ _ _ _ _ (.mu s1.ms.length) R1 U1 E1 hk
end
/-! ### states told otherwise -/
structure Adj (s s' : S) : Prop where
  ex : ∀ {K : PySem.W.Frag} {b : Bd} {A : Addr → Prop} {own : List (List Addr)} {H : Hp} {σ : L2.St}, Rel K b A own H σ s → ∃ (A' : Addr → Prop) (own' : List (List Addr)), Rel K b A' own' H σ s' ∧ Kp A H A' H
theorem Adj.refl {s : S} : Adj s s := ⟨fun R => ⟨_, _, R, Kp.refl⟩⟩
theorem Adj.trans {s t u : S} (h : Adj s t) (g : Adj t u) : Adj s u := ⟨fun R => by
  obtain ⟨_, _, R1, k1⟩ := h.ex R
  obtain ⟨_, _, R2, k2⟩ := g.ex R1
  exact ⟨_, _, R2, k1.trans k2⟩⟩
theorem Adj.frz {s : S} (k : Nat) {ds : List D} (g : gm s.ms k = .lst ds) (hk : s.np ≤ k) : Adj s (frzS k ds s) := ⟨fun R => by
  obtain ⟨R1, k1, _⟩ := R.frz g hk
  exact ⟨_, _, R1, k1⟩⟩
theorem rke_da {K : PySem.W.Frag} {A : Addr → Prop} {own : List (List Addr)} {H : Hp} : ∀ {ws : List (Str × V)} {ds : List D}, RKE K A own H ws (ds.map fun d => sq (.da d)) → RpL K A H (ws.map (·.2)) ds
  | [], [], _ => .nil
  | _ :: _, _ :: _, ⟨_, h, t⟩ => .cons h (rke_da t)
  | [], _ :: _, h => h.elim
  | _ :: _, [], h => h.elim
/-- all it holds is data: a list of data -/
theorem Adj.ripe {s : S} (j : Nat) (ds : List D) (g : gm s.ms j = .ins .lst (ds.map fun d => sq (.da d))) : Adj s (s.sM j (.lst ds)) := ⟨fun {K b A own H σ} R => by
  have m := R.mr j
  rw [g] at m
  obtain ⟨p, r, ws, e1, ⟨rfl, e2⟩, e3⟩ := m
  have := R.chg (H' := H) j (.lst ds) (fun a o n h => h) (fun a h => by
    rw [e1] at h
    cases List.mem_singleton.mp h
    rw [e2]; intro z; cases z) (fun u => ⟨p, _, e1, e2, rke_da e3⟩) (gm_lt (by rw [g]; intro z; cases z))
  exact ⟨_, _, this.1, Kp.refl⟩⟩
section
variable {X : Cx}
def sAdj (w : WS) : WS := fun s D => ∃ s', Adj s s' ∧ w s' D
theorem dss_adj {sts : List Stmt} {w : WS} (h : DSs X sts w) : DSs X sts (sAdj w) := by
  obtain ⟨t, p, q⟩ := h.ex
  refine ⟨t, p, fun b A own H σ s D E R h m => ?_⟩
  obtain ⟨s', a, h⟩ := h
  obtain ⟨_, _, R1, k1⟩ := a.ex R
  exact q _ _ _ _ _ _ _ _ R1 h (m.up k1)
end
end DL
namespace DL
open PySem L2 PySem.Spec PyProof.Rows
/-! ### a call to which the draws' state goes as it is, lists that change are lent as data; what comes back is a number, a truth, a text or None -/
def rnM : MO → Bool
  | .rnd _ => true
  | _ => false
def allR : List MO → Bool
  | [] => true
  | m :: ms => rnM m && allR ms
theorem allR_gm : ∀ (ms : List MO) (i : Nat), allR ms = true → i < ms.length → ∃ n, gm ms i = .rnd n
  | m :: ms, 0, h, _ => by
    have h := (Bool.and_eq_true_iff.mp h).1
    cases m with
    | rnd n => exact ⟨n, rfl⟩
    | box _ => cases h
    | tab _ => cases h
    | gone => cases h
    | lst _ => cases h
    | dct _ => cases h
    | ins _ _ => cases h
  | m :: ms, i + 1, h, l => allR_gm ms i (Bool.and_eq_true_iff.mp h).2 (by simpa using l)
/-- the places of the draws' states -/
def rnks (s : S) : List En → List Nat
  | [] => []
  | .mu k :: r => if rnM (gm s.ms k) = true then k :: rnks s r else rnks s r
  | _ :: r => rnks s r
def mixE (ks : List Nat) (s : S) : En → Option En
  | .no => some .no
  | .da d => some (.da d)
  | .mu j => match posOf ks j with
    | some i => some (.mu i)
    | none => match vw s (.mu j) with | some d => some (.da d) | none => none
def mixL (ks : List Nat) (s : S) : List En → Option (List En)
  | [] => some []
  | x :: xs => match mixE ks s x with | some y => (match mixL ks s xs with | some ys => some (y :: ys) | none => none) | none => none
def CallM0 (sp : SpD) (ks : List Nat) : S → List En → (S → En → Prop) → Prop := fun s xs Ks => onO (mixL ks s xs) fun ys => allR (pick ks s.ms) = true ∧ sp ys (pick ks s.ms) fun ms' r => ms'.length = ks.length ∧ allR ms' = true ∧ daI r fun d => scD d = true ∧ Ks (s.cM ks ms') (.da d)
def CallM (sp : SpD) : S → List En → (S → En → Prop) → Prop := fun s xs Ks => (rnks s xs).Nodup ∧ CallM0 sp (rnks s xs) s xs Ks
theorem MR.rnd_any {K : PySem.W.Frag} {A A' : Addr → Prop} {own own' : List (List Addr)} {H : Hp} {l : List Addr} {n : Nat} (h : MR K A own H l (.rnd n)) : MR K A' own' H l (.rnd n) := h
theorem mix_er {K : PySem.W.Frag} {b : Bd} {A A0 : Addr → Prop} {own : List (List Addr)} {H : Hp} {σ : L2.St} {s : S} {ks : List Nat} (R : Rel K b A own H σ s) (h0 : ∀ a, A0 a → ∃ j, j ∈ ks ∧ a ∈ go own j) : ∀ {vs : List V} {xs ys : List En}, ERL K A own H vs xs → mixL ks s xs = some ys → ERL K A0 (pickO ks own) H vs ys
  | [], [], _, _, e => by cases e; trivial
  | v :: vs, x :: xs, ys, ⟨h, t⟩, e => by
    have kp : Kp A H A0 H := fun a u n q => ⟨q, fun z => by obtain ⟨j, _, hj⟩ := h0 a z; exact n (R.oa j a hj)⟩
    unfold mixL at e
    cases q : mixE ks s x with
    | none => rw [q] at e; cases e
    | some y =>
      rw [q] at e
      simp only at e
      cases q2 : mixL ks s xs with
      | none => rw [q2] at e; cases e
      | some zs =>
        rw [q2] at e
        cases e
        refine ⟨?_, mix_er R h0 t q2⟩
        cases x with
        | no => cases q; trivial
        | da d => cases q; exact Rp.mono kp h
        | mu j =>
          unfold mixE at q
          simp only at q
          cases q3 : posOf ks j with
          | some i =>
            rw [q3] at q
            cases q
            obtain ⟨a, r, h1, h2⟩ := h
            exact ⟨a, r, by rw [go_pickO ks own i j (posOf_some q3)]; exact h1, h2⟩
          | none =>
            rw [q3] at q
            simp only at q
            have hj : j ∉ ks := fun hm => by
              have : ∀ (ks : List Nat), j ∈ ks → posOf ks j ≠ none := by
                intro ks
                induction ks with
                | nil => intro h; cases h
                | cons k ks ih =>
                  intro h
                  unfold posOf
                  split
                  · intro z; cases z
                  · rename_i ne
                    rcases List.mem_cons.mp h with z | z
                    · exact absurd z.symm ne
                    · intro y
                      rw [Option.map_eq_none_iff] at y
                      exact ih z y
              exact this ks hm q3
            obtain ⟨a, r, g, rfl⟩ := h
            have m := R.mr j
            unfold vw at q
            simp only at q
            cases q4 : gm s.ms j with
            | lst ds =>
              rw [q4] at q m
              cases q
              obtain ⟨a', vs', e1, e2, e3⟩ := m
              rw [e1] at g
              cases g
              exact .lst ⟨e2, fun z => by
                obtain ⟨i, hi, hh⟩ := h0 a z
                have := R.dj i j a hh (by rw [e1]; simp)
                exact hj (this ▸ hi)⟩ (RpL.mono kp e3)
            | gone => rw [q4] at q; cases q
            | dct _ => rw [q4] at q; cases q
            | rnd _ => rw [q4] at q; cases q
            | box _ => rw [q4] at q; cases q
            | tab _ => rw [q4] at q; cases q
            | ins _ _ => rw [q4] at q; cases q
theorem callM_run {K : PySem.W.Frag} {sp : SpD} {ks : List Nat} {n : Nat} (nd : ks.Nodup) {b : Bd} {A : Addr → Prop} {own : List (List Addr)} {H : Hp} {σ : L2.St} {s : S} {vs : List V} {xs : List En} {Ks : S → En → Prop} {Q : VK} {E : XK}
    (hn : vs.length = n) (R : Rel K b A own H σ s) (e : ERL K A own H vs xs) (h : CallM0 sp ks s xs Ks) (k : PostE K b A own H σ Ks Q) : spOf K n sp vs H Q E := by
  obtain ⟨ys, hr, hp, h⟩ := onO_inv h
  have rn : ∀ i, i < ks.length → ∃ m, gm s.ms (nthN ks i) = .rnd m := fun i hi => by
    obtain ⟨m, q⟩ := allR_gm _ i hp (by rw [pick_length]; exact hi)
    rw [gm_pick ks s.ms i _ (nthN_get ks i hi)] at q
    exact ⟨m, q⟩
  have kl : ∀ i j, ks[i]? = some j → j < s.ms.length := fun i j q => gm_lt fun z => by
    have hi := (List.getElem?_eq_some_iff.mp q).1
    obtain ⟨m, q2⟩ := rn i hi
    have e1 : nthN ks i = j := by have := nthN_get ks i hi; rw [q] at this; exact (Option.some.inj this).symm
    rw [e1, z] at q2
    cases q2
  have ndx : ∀ i i' j, ks[i]? = some j → ks[i']? = some j → i = i' := fun i i' j q q' => nd_ix nd q q'
  have pk : ∀ i a, a ∈ go (pickO ks own) i → i < ks.length ∧ a ∈ go own (nthN ks i) := fun i a h => by
    by_cases hi : i < ks.length
    · rw [go_pickO ks own i _ (nthN_get ks i hi)] at h
      exact ⟨hi, h⟩
    · rw [go_ge _ _ (by rw [pickO_length]; omega)] at h; cases h
  have hA0 : ∀ a, (∃ i, a ∈ go (pickO ks own) i) → ∃ j, j ∈ ks ∧ a ∈ go own j := fun a ⟨i, hi⟩ => by
    obtain ⟨h1, h2⟩ := pk i a hi
    exact ⟨_, List.mem_of_getElem? (nthN_get ks i h1), h2⟩
  refine ⟨fun a => ∃ i, a ∈ go (pickO ks own) i, pickO ks own, ys, pick ks s.ms, _, hn, mix_er R hA0 e hr, ⟨by rw [pickO_length, pick_length], fun i => ?_, fun i i' a h1 h2 => ?_, fun i => ?_, fun i a h1 => ⟨i, h1⟩, fun a ⟨i, hi⟩ => R.al a (R.oa _ a (pk i a hi).2)⟩, h, fun A' own' H' v ms' x O ot ge li fr fo ex hk => ?_⟩
  · by_cases hi : i < ks.length
    · have q := nthN_get ks i hi
      rw [go_pickO ks own i _ q, gm_pick ks s.ms i _ q]
      obtain ⟨m, q2⟩ := rn i hi
      have m0 := R.mr (nthN ks i)
      rw [q2] at m0 ⊢
      exact m0.rnd_any
    · rw [gm_ge _ _ (by rw [pick_length]; omega)]; trivial
  · obtain ⟨l1, h1⟩ := pk i a h1
    obtain ⟨l2, h2⟩ := pk i' a h2
    have := R.dj _ _ a h1 h2
    exact ndx i i' _ (nthN_get ks i l1) (by rw [nthN_get ks i' l2, this])
  · by_cases hi : i < ks.length
    · rw [go_pickO ks own i _ (nthN_get ks i hi)]; exact R.ld _
    · rw [go_ge _ _ (by rw [pickO_length]; omega)]; exact List.nodup_nil
  · obtain ⟨ml, hap, hk⟩ := hk
    obtain ⟨d, rfl, sc, hk⟩ := daI_inv hk
    have ol : own'.length = ks.length := by rw [O.ol, ml]
    have eo : own' = pickO ks own := by rw [← ot, pickO_length, List.take_of_length_le (by omega)]
    subst eo
    have fr2 : ∀ a o, (∀ j, j ∈ ks → a ∉ go own j) → H a = some o → H' a = some o := fun a o n q => fr a o (fun i hi => by
      obtain ⟨h1, h2⟩ := pk i a hi
      exact n _ (List.mem_of_getElem? (nthN_get ks i h1)) h2) q
    have u : Up A own H A own H' := ⟨fun a o n q => ⟨fr2 a o (fun j _ hj => n (R.oa j a hj)) q, n⟩, fun _ _ _ h => h⟩
    have dr : ms'.drop ks.length = [] := List.drop_eq_nil_of_le (by omega)
    refine k A own H' v (s.cM ks ms') (.da d) ⟨⟨?_, fun j => ?_, R.dj, R.ld, R.oa, fun a hA => ?_⟩, R.len, fun i => (R.sl i).imp id fun ⟨v, q, r⟩ => ⟨v, q, r.up u⟩, R.ge, fun a o q h0 => ?_, R.fo, R.pre, R.npl, R.lim, R.a0⟩ u (Rp.scal (show Rp K A' H' v d from ex) sc) hk
    · show own.length = (putM ks ms' s.ms ++ ms'.drop ks.length).length
      rw [dr, List.append_nil, putM_length, R.ol]
    · show MR K A own H' (go own j) (gm (putM ks ms' s.ms ++ ms'.drop ks.length) j)
      rw [dr, List.append_nil]
      by_cases hm : j ∈ ks
      · obtain ⟨i, hi⟩ := List.getElem?_of_mem hm
        have hil := (List.getElem?_eq_some_iff.mp hi).1
        have e1 : nthN ks i = j := by have := nthN_get ks i hil; rw [hi] at this; exact (Option.some.inj this).symm
        rw [gm_putM ks ms' s.ms i j nd hi (by omega) (kl i j hi)]
        have m0 := O.mr i
        obtain ⟨m, q2⟩ := allR_gm _ i hap (by omega)
        rw [q2] at m0 ⊢
        rw [go_pickO ks own i _ hi] at m0
        exact m0.rnd_any
      · rw [gm_putM_not ks ms' s.ms j hm]
        exact (R.mr j).up u fun a o ha q => fr2 a o (fun i hi hh => hm (by rw [R.dj j i a ha hh]; exact hi)) q
    · intro z
      cases q : H a with
      | none => exact R.al a hA q
      | some o =>
        by_cases hk : ∃ j, j ∈ ks ∧ a ∈ go own j
        · obtain ⟨j, hj, hh⟩ := hk
          obtain ⟨i, hi⟩ := List.getElem?_of_mem hj
          exact O.al a (O.oa i a (by rw [go_pickO ks own i _ hi]; exact hh)) z
        · rw [fr2 a o (fun j hj hh => hk ⟨j, hj, hh⟩) q] at z
          cases z
    · refine fr2 a o (fun j hj hh => ?_) (R.fr a o q h0)
      rcases R.fo j a hh with ⟨j', q'⟩ | q'
      · exact q j' q'
      · rw [h0] at q'; cases q'
section
variable {X : Cx} {e : Expr} {es : List Expr} {wr : WA}
theorem de_callM {k : Nat} {st : Stmt} {ps : List Str} {sp : SpD} {x : Str} {p pos : Pos} {n : Nat} (O : Ok X.prog X.w X.K X.mg X.base k x st ps n sp) (hr : RoomG k X.A) (hg : Gl X x)
    (ha : DAn X (e :: es) n wr) (hdb : (x == ("__debug__" : Str)) = false := by decide) (he : starEach (e :: es) X.env = (false, eval e X.env) :: starEach es X.env := by rfl) (hpl : (backTo pos (starEach es X.env)).any (·.1) = false := by rfl) :
    DE X (.Call (.Name x p) (e :: es) [] pos) (dCall (CallM sp) wr) := by
  obtain ⟨f, fd, a, F⟩ := O.ex
  obtain ⟨ta, pa, qa⟩ := ha.ex
  refine ⟨_, pe_callG F hr.r hr.g hg a.g a.kp a.b .nil (pass0 (X := X)) pa hdb he hpl, fun b A own H σ s Ks Q R h kk => ?_⟩
  show ta σ H fun vs H1 => spOf X.K n sp (vs ++ []) H1 Q E0
  refine qa _ _ _ _ _ _ _ _ R h fun A1 o1 H1 vs s1 xs R1 U1 E1 h1 => ?_
  rw [List.append_nil]
  exact callM_run h1.2.1 (E1.len.trans h1.1) R1 E1 h1.2.2 (kk.up U1)
/-- a list just made is data at once -/
def dFrzE (we : WE) : WE := fun s Ks => we s fun s1 x => match x with
  | .mu k => (match gm s1.ms k with
    | .lst ds => s1.np ≤ k ∧ s.ms.length ≤ k ∧ Ks (frzS k ds s1) (.da (.list ds))
    | _ => False)
  | x => Ks s1 x
theorem de_frzE {a : Expr} {wa : WE} (he : DE X a wa) : DE X a (dFrzE wa) := by
  obtain ⟨te, pe, qe⟩ := he.ex
  refine ⟨_, pe, fun b A own H σ s Ks Q R h kk => ?_⟩
  refine qe _ _ _ _ _ _ _ _ R h fun A1 o1 H1 v1 s1 x1 R1 U1 E1 h1 => ?_
  cases x1 with
  | no => exact kk _ _ _ _ _ .no R1 U1 E1 h1
  | da d => exact kk _ _ _ _ _ (.da d) R1 U1 E1 h1
  | mu k =>
    cases g : gm s1.ms k with
    | lst ds =>
      simp only [g] at h1
      obtain ⟨hnp, hk, h1⟩ := h1
      obtain ⟨R2, k2, e2⟩ := R1.frz g hnp
      refine kk _ _ _ _ _ (.da (.list ds)) R2 ⟨U1.kp.trans k2, fun j a r q => ?_⟩ (e2 v1 E1) h1
      have hj : j < own.length := Nat.lt_of_not_le fun z => by rw [go_ge _ _ z] at q; cases q
      have := R.ol
      rw [go_so, if_neg (by omega)]
      exact U1.ow j a r q
    | gone => simp only [g] at h1
    | dct _ => simp only [g] at h1
    | rnd _ => simp only [g] at h1
    | box _ => simp only [g] at h1
    | tab _ => simp only [g] at h1
    | ins _ _ => simp only [g] at h1
end
end DL
namespace DL
open PySem L2 PySem.Spec PyProof.Rows
/-! ### the same as CallM, and tuples of things that change are lent as data, too -/
def viF (s : S) : List (Str × En) → Option (List D)
  | [] => some []
  | f :: r => match vw s f.2 with | some d => (match viF s r with | some ds => some (d :: ds) | none => none) | none => none
def vwS (s : S) (x : En) : Option D := match x with
  | .mu j => (match gm s.ms j with
    | .ins .tup fs => (match viF s fs with | some ds => some (.tuple ds) | none => none)
    | _ => vw s (.mu j))
  | x => vw s x
def mixE2 (ks : List Nat) (s : S) : En → Option En
  | .no => some .no
  | .da d => some (.da d)
  | .mu j => match posOf ks j with
    | some i => some (.mu i)
    | none => match vwS s (.mu j) with | some d => some (.da d) | none => none
def mixL2 (ks : List Nat) (s : S) : List En → Option (List En)
  | [] => some []
  | x :: xs => match mixE2 ks s x with | some y => (match mixL2 ks s xs with | some ys => some (y :: ys) | none => none) | none => none
def CallN0 (sp : SpD) (ks : List Nat) : S → List En → (S → En → Prop) → Prop := fun s xs Ks => onO (mixL2 ks s xs) fun ys => allR (pick ks s.ms) = true ∧ sp ys (pick ks s.ms) fun ms' r => ms'.length = ks.length ∧ allR ms' = true ∧ daI r fun d => scD d = true ∧ Ks (s.cM ks ms') (.da d)
def CallN (sp : SpD) : S → List En → (S → En → Prop) → Prop := fun s xs Ks => (rnks s xs).Nodup ∧ CallN0 sp (rnks s xs) s xs Ks
theorem mix_er2 {K : PySem.W.Frag} {b : Bd} {A A0 : Addr → Prop} {own : List (List Addr)} {H : Hp} {σ : L2.St} {s : S} {ks : List Nat} (R : Rel K b A own H σ s) (h0 : ∀ a, A0 a → ∃ j, j ∈ ks ∧ a ∈ go own j) (hrn : ∀ j, j ∈ ks → ∃ n, gm s.ms j = .rnd n) : ∀ {vs : List V} {xs ys : List En}, ERL K A own H vs xs → mixL2 ks s xs = some ys → ERL K A0 (pickO ks own) H vs ys
  | [], [], _, _, e => by cases e; trivial
  | v :: vs, x :: xs, ys, ⟨h, t⟩, e => by
    have kp : Kp A H A0 H := fun a u n q => ⟨q, fun z => by obtain ⟨j, _, hj⟩ := h0 a z; exact n (R.oa j a hj)⟩
    unfold mixL2 at e
    cases q : mixE2 ks s x with
    | none => rw [q] at e; cases e
    | some y =>
      rw [q] at e
      simp only at e
      cases q2 : mixL2 ks s xs with
      | none => rw [q2] at e; cases e
      | some zs =>
        rw [q2] at e
        cases e
        refine ⟨?_, mix_er2 R h0 hrn t q2⟩
        cases x with
        | no => cases q; trivial
        | da d => cases q; exact Rp.mono kp h
        | mu j =>
          unfold mixE2 at q
          simp only at q
          cases q3 : posOf ks j with
          | some i =>
            rw [q3] at q
            cases q
            obtain ⟨a, r, h1, h2⟩ := h
            exact ⟨a, r, by rw [go_pickO ks own i j (posOf_some q3)]; exact h1, h2⟩
          | none =>
            rw [q3] at q
            simp only at q
            have hj : j ∉ ks := fun hm => by
              have : ∀ (ks : List Nat), j ∈ ks → posOf ks j ≠ none := by
                intro ks
                induction ks with
                | nil => intro h; cases h
                | cons k ks ih =>
                  intro h
                  unfold posOf
                  split
                  · intro z; cases z
                  · rename_i ne
                    rcases List.mem_cons.mp h with z | z
                    · exact absurd z.symm ne
                    · intro y
                      rw [Option.map_eq_none_iff] at y
                      exact ih z y
              exact this ks hm q3
            obtain ⟨a, r, g, rfl⟩ := h
            have m := R.mr j
            unfold vwS at q
            simp only at q
            have one : ∀ (i : Nat) (v : V) (d : D), i ∉ ks → ER K A own H v (.mu i) → vw s (.mu i) = some d → Rp K A0 H v d := fun i v d hi h e => by
              obtain ⟨a, r, g, rfl⟩ := h
              have m := R.mr i
              unfold vw at e
              simp only at e
              cases q4 : gm s.ms i with
              | lst ds =>
                rw [q4] at e m
                cases e
                obtain ⟨a', vs', e1, e2, e3⟩ := m
                rw [e1] at g
                cases g
                exact .lst ⟨e2, fun z => by
                  obtain ⟨i', hi', hh⟩ := h0 a z
                  have := R.dj i' i a hh (by rw [e1]; simp)
                  exact hi (this ▸ hi')⟩ (RpL.mono kp e3)
              | gone => rw [q4] at e; cases e
              | dct _ => rw [q4] at e; cases e
              | rnd _ => rw [q4] at e; cases e
              | box _ => rw [q4] at e; cases e
              | tab _ => rw [q4] at e; cases e
              | ins _ _ => rw [q4] at e; cases e
            have oth : ((match vw s (.mu j) with | some d => some (En.da d) | none => none) = some y) → ER K A0 (pickO ks own) H (.ref a) y := fun qq => by
              cases hv : vw s (.mu j) with
              | none => rw [hv] at qq; cases qq
              | some d => rw [hv] at qq; cases qq; exact one j _ _ hj ⟨a, r, g, rfl⟩ hv
            cases q4 : gm s.ms j with
            | ins C fs =>
              rw [q4] at q m
              cases C with
              | tup =>
                simp only at q
                cases q5 : viF s fs with
                | none => rw [q5] at q; cases q
                | some ds =>
                  rw [q5] at q
                  cases q
                  obtain ⟨a', r', ws, e1, ⟨rfl, e2⟩, e3⟩ := m
                  rw [e1] at g
                  cases g
                  have all : ∀ (ws : List (Str × V)) (fs : List (Str × En)) (ds : List D), RKE K A own H ws fs → viF s fs = some ds → RpL K A0 H (ws.map (·.2)) ds := by
                    intro ws
                    induction ws with
                    | nil => intro fs ds h e; cases fs with
                      | nil => cases e; exact .nil
                      | cons _ _ => exact h.elim
                    | cons w ws ih => intro fs ds h e; cases fs with
                      | nil => exact h.elim
                      | cons f fs =>
                        obtain ⟨_, h1, h2⟩ := h
                        unfold viF at e
                        cases q6 : vw s f.2 with
                        | none => rw [q6] at e; cases e
                        | some d =>
                          rw [q6] at e
                          simp only at e
                          cases q7 : viF s fs with
                          | none => rw [q7] at e; cases e
                          | some ds' =>
                            rw [q7] at e
                            cases e
                            refine .cons ?_ (ih fs ds' h2 q7)
                            cases hf : f.2 with
                            | no => rw [hf] at q6; cases q6
                            | da d' => rw [hf] at q6 h1; cases q6; exact Rp.mono kp h1
                            | mu i =>
                              rw [hf] at q6 h1
                              refine one i _ _ (fun hi => ?_) h1 q6
                              obtain ⟨m, hm⟩ := hrn i hi
                              unfold vw at q6
                              simp only at q6
                              rw [hm] at q6
                              cases q6
                  exact .tup (.inl ⟨e2, fun z => by
                    obtain ⟨i', hi', hh⟩ := h0 a z
                    have := R.dj i' j a hh (by rw [e1]; simp)
                    exact hj (this ▸ hi')⟩) (all ws fs ds e3 q5)
              | lst => exact oth q
              | obj _ => exact oth q
              | dct => exact oth q
            | lst ds => rw [q4] at q; exact oth q
            | gone => rw [q4] at q; exact oth q
            | dct _ => rw [q4] at q; exact oth q
            | rnd _ => rw [q4] at q; exact oth q
            | box _ => rw [q4] at q; exact oth q
            | tab _ => rw [q4] at q; exact oth q
theorem callN_run {K : PySem.W.Frag} {sp : SpD} {ks : List Nat} {n : Nat} (nd : ks.Nodup) {b : Bd} {A : Addr → Prop} {own : List (List Addr)} {H : Hp} {σ : L2.St} {s : S} {vs : List V} {xs : List En} {Ks : S → En → Prop} {Q : VK} {E : XK}
    (hn : vs.length = n) (R : Rel K b A own H σ s) (e : ERL K A own H vs xs) (h : CallN0 sp ks s xs Ks) (k : PostE K b A own H σ Ks Q) : spOf K n sp vs H Q E := by
  obtain ⟨ys, hr, hp, h⟩ := onO_inv h
  have rn : ∀ i, i < ks.length → ∃ m, gm s.ms (nthN ks i) = .rnd m := fun i hi => by
    obtain ⟨m, q⟩ := allR_gm _ i hp (by rw [pick_length]; exact hi)
    rw [gm_pick ks s.ms i _ (nthN_get ks i hi)] at q
    exact ⟨m, q⟩
  have kl : ∀ i j, ks[i]? = some j → j < s.ms.length := fun i j q => gm_lt fun z => by
    have hi := (List.getElem?_eq_some_iff.mp q).1
    obtain ⟨m, q2⟩ := rn i hi
    have e1 : nthN ks i = j := by have := nthN_get ks i hi; rw [q] at this; exact (Option.some.inj this).symm
    rw [e1, z] at q2
    cases q2
  have ndx : ∀ i i' j, ks[i]? = some j → ks[i']? = some j → i = i' := fun i i' j q q' => nd_ix nd q q'
  have pk : ∀ i a, a ∈ go (pickO ks own) i → i < ks.length ∧ a ∈ go own (nthN ks i) := fun i a h => by
    by_cases hi : i < ks.length
    · rw [go_pickO ks own i _ (nthN_get ks i hi)] at h
      exact ⟨hi, h⟩
    · rw [go_ge _ _ (by rw [pickO_length]; omega)] at h; cases h
  have hA0 : ∀ a, (∃ i, a ∈ go (pickO ks own) i) → ∃ j, j ∈ ks ∧ a ∈ go own j := fun a ⟨i, hi⟩ => by
    obtain ⟨h1, h2⟩ := pk i a hi
    exact ⟨_, List.mem_of_getElem? (nthN_get ks i h1), h2⟩
  refine ⟨fun a => ∃ i, a ∈ go (pickO ks own) i, pickO ks own, ys, pick ks s.ms, _, hn, mix_er2 R hA0 (fun j hj => by obtain ⟨i, hi⟩ := List.getElem?_of_mem hj; have hl := (List.getElem?_eq_some_iff.mp hi).1; have e1 : nthN ks i = j := by { have := nthN_get ks i hl; rw [hi] at this; exact (Option.some.inj this).symm }; rw [← e1]; exact rn i hl) e hr, ⟨by rw [pickO_length, pick_length], fun i => ?_, fun i i' a h1 h2 => ?_, fun i => ?_, fun i a h1 => ⟨i, h1⟩, fun a ⟨i, hi⟩ => R.al a (R.oa _ a (pk i a hi).2)⟩, h, fun A' own' H' v ms' x O ot ge li fr fo ex hk => ?_⟩
  · by_cases hi : i < ks.length
    · have q := nthN_get ks i hi
      rw [go_pickO ks own i _ q, gm_pick ks s.ms i _ q]
      obtain ⟨m, q2⟩ := rn i hi
      have m0 := R.mr (nthN ks i)
      rw [q2] at m0 ⊢
      exact m0.rnd_any
    · rw [gm_ge _ _ (by rw [pick_length]; omega)]; trivial
  · obtain ⟨l1, h1⟩ := pk i a h1
    obtain ⟨l2, h2⟩ := pk i' a h2
    have := R.dj _ _ a h1 h2
    exact ndx i i' _ (nthN_get ks i l1) (by rw [nthN_get ks i' l2, this])
  · by_cases hi : i < ks.length
    · rw [go_pickO ks own i _ (nthN_get ks i hi)]; exact R.ld _
    · rw [go_ge _ _ (by rw [pickO_length]; omega)]; exact List.nodup_nil
  · obtain ⟨ml, hap, hk⟩ := hk
    obtain ⟨d, rfl, sc, hk⟩ := daI_inv hk
    have ol : own'.length = ks.length := by rw [O.ol, ml]
    have eo : own' = pickO ks own := by rw [← ot, pickO_length, List.take_of_length_le (by omega)]
    subst eo
    have fr2 : ∀ a o, (∀ j, j ∈ ks → a ∉ go own j) → H a = some o → H' a = some o := fun a o n q => fr a o (fun i hi => by
      obtain ⟨h1, h2⟩ := pk i a hi
      exact n _ (List.mem_of_getElem? (nthN_get ks i h1)) h2) q
    have u : Up A own H A own H' := ⟨fun a o n q => ⟨fr2 a o (fun j _ hj => n (R.oa j a hj)) q, n⟩, fun _ _ _ h => h⟩
    have dr : ms'.drop ks.length = [] := List.drop_eq_nil_of_le (by omega)
    refine k A own H' v (s.cM ks ms') (.da d) ⟨⟨?_, fun j => ?_, R.dj, R.ld, R.oa, fun a hA => ?_⟩, R.len, fun i => (R.sl i).imp id fun ⟨v, q, r⟩ => ⟨v, q, r.up u⟩, R.ge, fun a o q h0 => ?_, R.fo, R.pre, R.npl, R.lim, R.a0⟩ u (Rp.scal (show Rp K A' H' v d from ex) sc) hk
    · show own.length = (putM ks ms' s.ms ++ ms'.drop ks.length).length
      rw [dr, List.append_nil, putM_length, R.ol]
    · show MR K A own H' (go own j) (gm (putM ks ms' s.ms ++ ms'.drop ks.length) j)
      rw [dr, List.append_nil]
      by_cases hm : j ∈ ks
      · obtain ⟨i, hi⟩ := List.getElem?_of_mem hm
        have hil := (List.getElem?_eq_some_iff.mp hi).1
        have e1 : nthN ks i = j := by have := nthN_get ks i hil; rw [hi] at this; exact (Option.some.inj this).symm
        rw [gm_putM ks ms' s.ms i j nd hi (by omega) (kl i j hi)]
        have m0 := O.mr i
        obtain ⟨m, q2⟩ := allR_gm _ i hap (by omega)
        rw [q2] at m0 ⊢
        rw [go_pickO ks own i _ hi] at m0
        exact m0.rnd_any
      · rw [gm_putM_not ks ms' s.ms j hm]
        exact (R.mr j).up u fun a o ha q => fr2 a o (fun i hi hh => hm (by rw [R.dj j i a ha hh]; exact hi)) q
    · intro z
      cases q : H a with
      | none => exact R.al a hA q
      | some o =>
        by_cases hk : ∃ j, j ∈ ks ∧ a ∈ go own j
        · obtain ⟨j, hj, hh⟩ := hk
          obtain ⟨i, hi⟩ := List.getElem?_of_mem hj
          exact O.al a (O.oa i a (by rw [go_pickO ks own i _ hi]; exact hh)) z
        · rw [fr2 a o (fun j hj hh => hk ⟨j, hj, hh⟩) q] at z
          cases z
    · refine fr2 a o (fun j hj hh => ?_) (R.fr a o q h0)
      rcases R.fo j a hh with ⟨j', q'⟩ | q'
      · exact q j' q'
      · rw [h0] at q'; cases q'
section
variable {X : Cx} {e : Expr} {es : List Expr} {wr : WA}
theorem de_callN {k : Nat} {st : Stmt} {ps : List Str} {sp : SpD} {x : Str} {p pos : Pos} {n : Nat} (O : Ok X.prog X.w X.K X.mg X.base k x st ps n sp) (hr : RoomG k X.A) (hg : Gl X x)
    (ha : DAn X (e :: es) n wr) (hdb : (x == ("__debug__" : Str)) = false := by decide) (he : starEach (e :: es) X.env = (false, eval e X.env) :: starEach es X.env := by rfl) (hpl : (backTo pos (starEach es X.env)).any (·.1) = false := by rfl) :
    DE X (.Call (.Name x p) (e :: es) [] pos) (dCall (CallN sp) wr) := by
  obtain ⟨f, fd, a, F⟩ := O.ex
  obtain ⟨ta, pa, qa⟩ := ha.ex
  refine ⟨_, pe_callG F hr.r hr.g hg a.g a.kp a.b .nil (pass0 (X := X)) pa hdb he hpl, fun b A own H σ s Ks Q R h kk => ?_⟩
  show ta σ H fun vs H1 => spOf X.K n sp (vs ++ []) H1 Q E0
  refine qa _ _ _ _ _ _ _ _ R h fun A1 o1 H1 vs s1 xs R1 U1 E1 h1 => ?_
  rw [List.append_nil]
  exact callN_run h1.2.1 (E1.len.trans h1.1) R1 E1 h1.2.2 (kk.up U1)
end
end DL
namespace DL
open PySem L2 PySem.Spec PyProof.Rows
/-! ### things of own classes: their fields -/
def getT {α : Type} (fs : List (Str × α)) (f : Str) : Option α := (fs.find? fun q => decide (q.1 = f)).map (·.2)
theorem getT_lookup {α : Type} {f : Str} : ∀ fs : List (Str × α), fs.lookup f = getT fs f
  | [] => rfl
  | (g, x) :: r => by
    unfold getT
    rw [List.lookup_cons, List.find?_cons]
    by_cases h : g = f
    · subst h; simp
    · rw [show (f == g) = false from beq_eq_false_iff_ne.mpr (Ne.symm h), show decide ((g, x).1 = f) = false from decide_eq_false h]
      exact getT_lookup r
def putE {α : Type} (f : Str) (y : α) : List (Str × α) → List (Str × α)
  | [] => [(f, y)]
  | (g, z) :: r => if g = f then (g, y) :: r else (g, z) :: putE f y r
section
variable {K : PySem.W.Frag} {b : Bd} {A : Addr → Prop} {own : List (List Addr)} {H : Hp} {σ : L2.St} {s : S}
theorem RKE.look {f : Str} : ∀ {ws : List (Str × V)} {fs : List (Str × En)} {y : En}, RKE K A own H ws fs → fs.lookup f = some y → ∃ v, ws.lookup f = some v ∧ ER K A own H v y
  | [], [], _, _, e => by cases e
  | (g, w) :: ws, (g', x) :: fs, y, ⟨e0, h, t⟩, e => by
    obtain rfl : g = g' := e0
    rw [List.lookup_cons] at e ⊢
    cases q : f == g with
    | true => rw [q] at e; cases e; exact ⟨w, rfl, h⟩
    | false => rw [q] at e; exact RKE.look t e
  | [], _ :: _, _, h, _ => h.elim
  | _ :: _, [], _, h, _ => h.elim
theorem RKE.put {f : Str} {v : V} {y : En} (hv : ER K A own H v y) : ∀ {ws : List (Str × V)} {fs : List (Str × En)}, RKE K A own H ws fs → RKE K A own H (putF f v ws) (putE f y fs)
  | [], [], _ => ⟨rfl, hv, trivial⟩
  | (g, w) :: ws, (g', x) :: fs, ⟨e0, h, t⟩ => by
    obtain rfl : g = g' := e0
    unfold putF putE
    by_cases q : g = f
    · rw [if_pos q, if_pos q]; exact ⟨rfl, hv, t⟩
    · rw [if_neg q, if_neg q]; exact ⟨rfl, h, RKE.put hv t⟩
  | [], _ :: _, h => h.elim
  | _ :: _, [], h => h.elim
/-- an own class's object: read, and written -/
theorem obj_at (R : Rel K b A own H σ s) {v : V} {j : Nat} {c : Str} {fs : List (Str × En)} (E : ER K A own H v (.mu j)) (g : gm s.ms j = .ins (.obj c) fs) :
    ∃ p C dx ws, v = .ref p ∧ PySem.W.nsIn K mainGlobals c = some (some (.ref C)) ∧ H p = some (.ins C dx ws) ∧ RKE K A own H ws fs ∧
      ∀ (ws' : List (Str × V)) fs', RKE K A own H ws' fs' → Rel K b A own (upd H p (.ins C dx ws')) σ (s.sM j (.ins (.obj c) fs')) ∧ Up A own H A own (upd H p (.ins C dx ws')) := by
  have m := R.mr j
  rw [g] at m
  obtain ⟨p, r, ws, e1, ⟨C, dx, e0, rfl, e2, e2'⟩, e3⟩ := m
  obtain ⟨p', r, e4, rfl⟩ := E
  rw [e1] at e4
  cases e4
  have ne : dx ≠ p := fun z => by
    have := R.ld j
    rw [e1, z] at this
    simp at this
  refine ⟨p, C, dx, ws, rfl, e0, e2, e3, fun vs' ds' r' => ?_⟩
  refine R.chg j (.ins (.obj c) ds') (fun a o n h => ?_) (fun a h => ?_) (fun u => ?_) (gm_lt (by rw [g]; intro z; cases z))
  · rw [upd_ne]; exact h
    intro z; subst z; exact n (by rw [e1]; simp)
  · rw [e1] at h
    by_cases q : a = p
    · subst q; rw [upd_same]; intro z; cases z
    · rw [upd_ne q]
      rcases List.mem_cons.mp h with z | z
      · exact absurd z q
      · cases List.mem_singleton.mp z; rw [e2']; intro z; cases z
  · rw [e1]; exact ⟨p, [dx], vs', rfl, ⟨C, dx, e0, rfl, upd_same, by rw [upd_ne ne]; exact e2'⟩, r'.up u⟩
end
/-- what own classes must be for e.f -/
def FOk (K : PySem.W.Frag) (cs : List Str) (f : Str) : Prop := ∀ c ∈ cs, ∀ C, PySem.W.nsIn K mainGlobals c = some (some (.ref C)) → Cls K C ∧ NoAttr K C f
section
variable {X : L2.Cx} {a c e : Expr} {es : List Expr} {wa wc we : WE} {wr : WA} {pos : Pos}
def fldW (cs : List Str) (s : S) (x : En) (k : Nat → Str → List (Str × En) → Prop) : Prop := ∃ j c fs, x = .mu j ∧ gm s.ms j = .ins (.obj c) fs ∧ c ∈ cs ∧ k j c fs
def dFld (cs : List Str) (f : Str) (wa : WE) : WE := fun s Ks => wa s fun s1 x => fldW cs s1 x fun _ _ fs => ∃ y, getT fs f = some y ∧ Ks s1 y
theorem de_fld {cs : List Str} {f : Str} (F : FOk X.K cs f) (he : DE X e we) (hb : attributeBase e f X.env (eval e X.env) = eval e X.env := by rfl) : DE X (.Attribute e f pos) (dFld cs f we) := by
  obtain ⟨te, pe, qe⟩ := he.ex
  refine ⟨_, pe_fld pe hb, fun b A own H σ s Ks Q R h k => ?_⟩
  show te σ H fun x H1 => ∃ a C dx fs v, x = .ref a ∧ H1 a = some (.ins C dx fs) ∧ Cls X.K C ∧ NoAttr X.K C f ∧ fs.lookup f = some v ∧ Q v H1
  refine qe _ _ _ _ _ _ _ _ R h fun A1 o1 H1 v1 s1 x1 R1 U1 E1 h1 => ?_
  obtain ⟨j, c, fs, rfl, g, hc, y, hy, h1⟩ := h1
  obtain ⟨p, C, dx, ws, rfl, n, hp, r, _⟩ := obj_at R1 E1 g
  obtain ⟨v, hv, ev⟩ := r.look ((getT_lookup fs).trans hy)
  exact ⟨p, C, dx, ws, v, rfl, hp, (F c hc C n).1, (F c hc C n).2, hv, k _ _ _ _ _ y R1 U1 ev h1⟩
def sFldSet (cs : List Str) (f : Str) (wa wv : WE) : WS := fun s D => wv s fun s1 y => wa s1 fun s2 x => fldW cs s2 x fun j c fs => fs.length < 1000 ∧ D.nx (s2.sM j (.ins (.obj c) (putE f y fs)))
theorem ds_fld {cs : List Str} {f : Str} {pos' : Pos} (F : FOk X.K cs f) (ha : DE X a wa) (hv : DE X e we) (hs : swapsWith e (some (.Attribute a f pos')) pos.line X.env = pure false := by rfl) : DS X (.Assign [.Attribute a f pos'] e pos) (sFldSet cs f wa we) := by
  obtain ⟨ta, pa, qa⟩ := ha.ex
  obtain ⟨te, pe, qe⟩ := hv.ex
  refine ⟨_, ps_fld pa pe hs, fun b A own H σ s D E R h m => ?_⟩
  show te σ H fun y H1 => ta σ H1 fun x H2 => ∃ a C dx fs, x = .ref a ∧ H2 a = some (.ins C dx fs) ∧ Cls X.K C ∧ NoAttr X.K C f ∧ fs.length < 1000 ∧ E.nx σ (upd H2 a (.ins C dx (putF f y fs)))
  refine qe _ _ _ _ _ _ _ _ R h fun A1 o1 H1 v1 s1 x1 R1 U1 E1 h1 => ?_
  refine qa _ _ _ _ _ _ _ _ R1 h1 fun A2 o2 H2 v2 s2 x2 R2 U2 E2 h2 => ?_
  obtain ⟨j, c, fs, rfl, g, hc, hl, h2⟩ := h2
  obtain ⟨p, C, dx, ws, rfl, n, hp, r, up⟩ := obj_at R2 E2 g
  obtain ⟨R3, U3⟩ := up _ _ (r.put (f := f) (E1.up U2))
  exact ⟨p, C, dx, ws, rfl, hp, (F c hc C n).1, (F c hc C n).2, by rw [r.len]; exact hl, m.nx _ _ _ _ _ R3 ((U1.trans U2).trans U3).kp h2⟩
def sFldAug (cs : List Str) (f : Str) (g : Int → Int → Int) (wa wv : WE) : WS := fun s D => wa s fun s1 x => fldW cs s1 x fun j c fs => ∃ i, getT fs f = some (.da (.int i)) ∧ wv s1 fun s2 y => i1 y fun z => ∃ fs', gm s2.ms j = .ins (.obj c) fs' ∧ fs'.length < 1000 ∧ D.nx (s2.sM j (.ins (.obj c) (putE f (.da (.int (g i z))) fs')))
theorem ds_fldAug {cs : List Str} {f : Str} {tpos : Pos} {op : Operator} {g : Int → Int → Int} (hop : InOp X op (fun x y H Q => ∃ i j, x = .int i ∧ y = .int j ∧ Q (.int (g i j)) H)) (F : FOk X.K cs f) (ha : DE X a wa) (hv : DE X e we) : DS X (.AugAssign (.Attribute a f tpos) op e pos) (sFldAug cs f g wa we) := by
  obtain ⟨ta, pa, qa⟩ := ha.ex
  obtain ⟨te, pe, qe⟩ := hv.ex
  refine ⟨_, ps_fldaug pa pe hop, fun b A own H σ s D E R h m => ?_⟩
  show ta σ H fun x H1 => ∃ a C dx fs v, x = .ref a ∧ H1 a = some (.ins C dx fs) ∧ Cls X.K C ∧ NoAttr X.K C f ∧ fs.lookup f = some v ∧
    te σ H1 fun y H2 => (fun x y H Q => ∃ i j, x = .int i ∧ y = .int j ∧ Q (.int (g i j)) H) v y H2 fun z H3 => ∃ dx' fs', H3 a = some (.ins C dx' fs') ∧ fs'.length < 1000 ∧ E.nx σ (upd H3 a (.ins C dx' (putF f z fs')))
  refine qa _ _ _ _ _ _ _ _ R h fun A1 o1 H1 v1 s1 x1 R1 U1 E1 h1 => ?_
  obtain ⟨j, c, fs, rfl, gj, hc, i, hi, h1⟩ := h1
  obtain ⟨p, C, dx, ws, rfl, n, hp, r, _⟩ := obj_at R1 E1 gj
  obtain ⟨v, hv, ev⟩ := r.look ((getT_lookup fs).trans hi)
  cases ev
  refine ⟨p, C, dx, ws, _, rfl, hp, (F c hc C n).1, (F c hc C n).2, hv, ?_⟩
  refine qe _ _ _ _ _ _ _ _ R1 h1 fun A2 o2 H2 v2 s2 x2 R2 U2 E2 h2 => ?_
  obtain ⟨z, rfl, h2⟩ := i1_inv h2
  obtain ⟨fs', gj', hl, h2⟩ := h2
  cases E2
  obtain ⟨p', C', dx', ws', ep, n', hp', r', up⟩ := obj_at R2 (E1.up U2) gj'
  cases ep
  obtain ⟨R3, U3⟩ := up _ _ (r'.put (f := f) (v := .int (g i z)) (y := .da (.int (g i z))) (.int _))
  have eC : C' = C := by
    rw [n] at n'
    cases n'
    rfl
  subst eC
  exact ⟨i, z, rfl, rfl, dx', ws', hp', by rw [r'.len]; exact hl, m.nx _ _ _ _ _ R3 ((U1.trans U2).trans U3).kp h2⟩
end
/-! ### calls to which all that changes goes as it is -/
def CallT (sp : SpD) : S → List En → (S → En → Prop) → Prop := fun s xs Ks => sp xs s.ms fun ms' r => Ks ⟨s.es, ms', s.np⟩ r
theorem callT_run {K : PySem.W.Frag} {sp : SpD} {n : Nat} {b : Bd} {A : Addr → Prop} {own : List (List Addr)} {H : Hp} {σ : L2.St} {s : S} {vs : List V} {xs : List En} {Ks : S → En → Prop} {Q : VK} {E : XK}
    (hn : vs.length = n) (R : Rel K b A own H σ s) (e : ERL K A own H vs xs) (h : CallT sp s xs Ks) (k : PostE K b A own H σ Ks Q) : spOf K n sp vs H Q E := by
  refine ⟨A, own, xs, s.ms, _, hn, e, R.toOwn, h, fun A' own' H' v ms' x O ot ge li fr fo ex hk => ?_⟩
  have notOwn : ∀ a, ¬ A a → ∀ j, a ∉ go own j := fun a n j hj => n (R.oa j a hj)
  have u : Up A own H A' own' H' := ⟨fun a o n q => ⟨fr a o (notOwn a n) q, fun z => by
      rcases li a z with z | z
      · exact n z
      · rw [z] at q; cases q⟩, fun k a r q => by
      rw [← ot, go_take] at q
      split at q
      · exact q
      · cases q⟩
  refine k A' own' H' v ⟨s.es, ms', s.np⟩ x ⟨O, R.len, fun i => (R.sl i).imp id fun ⟨v, q, r⟩ => ⟨v, q, r.up u⟩, fun a q => ge a (R.ge a q), fun a o n q => ?_, fun i a h1 => ?_, ?_, ?_, fun a q => ?_, R.a0⟩ u ex hk
  · refine fr a o (fun i hi => ?_) (R.fr a o n q)
    rcases R.fo _ a hi with ⟨j, z⟩ | z
    · exact n j z
    · rw [z] at q; cases q
  · rcases fo i a h1 with ⟨j, z⟩ | z
    · exact R.fo j a z
    · exact .inr (R.fresh0 z)
  · have := R.pre
    rw [← ot, List.take_take, Nat.min_eq_left R.npl] at this
    exact this
  · have := congrArg List.length ot
    rw [List.length_take] at this
    have := R.npl
    show s.np ≤ _
    omega
  · rcases li a q with z | z
    · exact R.lim a z
    · exact .inr (R.fresh0 z)
section
variable {X : L2.Cx} {k : Nat} {f C : Addr} {fd : FuncData} {ps : List Str} {sp : L2.Sp} {CX : CXT} {E : XK} {x m : Str} {p pos apos : Pos} {e o : Expr} {es : List Expr} {t : TA} {ta : TE}
theorem run_fnG {pins : List (Addr × Obj)} {σ : L2.St} {H : Hp} {s : Shared} {Q : VK} {us : List Value} {vs : List V} (F : FnOkG X.prog X.w X.K X.mg X.base CX k f fd ps sp) (hr : RoomG k X.A) (hb : Binds X.K fd ps []) (hx : Passes CX X E)
    (I : Inv X pins σ H s) (r : Vals vs us) (h : sp vs H Q E) : wpAny (model X.prog X.w) X.A (PySem.call (.ref f) us) (EP X pins σ Q) X.xe s := by
  have hl : us.length = ps.length := by rw [← r.length]; exact F.len _ _ _ _ h
  have hb' := hb s us I.kIn (by rw [List.append_nil]; exact hl)
  rw [List.append_nil] at hb'
  refine wpAny_call (codeAny_mono (F.run X.A X.stack s H ⟨us, []⟩ us vs Q E hr.r hr.g I.env0 hb' r h) fun r s' hq => ?_)
  cases r with
  | error e => exact hx pins σ H s e s' I hq
  | ok fl =>
    cases fl with
    | ret u => exact I.after hq
    | next => exact False.elim hq
    | brk => exact False.elim hq
    | cont => exact False.elim hq
theorem pe_methT {pl : Sem Bool} (he : PE X o ta) (c : Cls X.K C) (hm : Meth X.K C m f) (F : FnOkG X.prog X.w X.K X.mg X.base CX k f fd ps sp) (hr : RoomG k X.A) (hb : Binds X.K fd ps []) (hx : Passes CX X E) (ha : PA X (e :: es) t)
    (hst : starEach (e :: es) X.env = (false, eval e X.env) :: starEach es X.env := by rfl) (hpl : (backTo pos (starEach es X.env)).any (·.1) = false := by rfl)
    (ht : eval (.Call (.Attribute o m apos) (e :: es) [] pos) X.env = (do
      let ov ← eval o X.env
      standAt apos.atName
      let (f, first) ← holding [ov] (getMethod ov m pl)
      callWith pos f first (backTo pos (starEach (e :: es) X.env)) (backToKw pos (keywordEach [] X.env))) := by rfl) :
    PE X (.Call (.Attribute o m apos) (e :: es) [] pos) (tMeth C m sp [] E ta t) := by
  refine ⟨fun pins s σ H Q I h => ?_⟩
  refine PySem.W.methodCall_KW (pl := pl) (thn (he.run pins s σ H _ I h) fun u s1 ⟨x, H1, I1, rx, a, dx, fs, ex, ea, l, q⟩ => ?_) ht
  subst ex
  obtain rfl : u = Value.ref a := rx
  refine getmeth_ok I1 ea c hm l ?_
  refine PySem.W.callWith_K (first := [.ref a]) (h₀ := X.base) I.ok.mod.kin hm.kp (thn (ha.run pos pins s1 σ H1 _ I1 q) fun us s2 ⟨vs, H2, I2, r, q2⟩ => ⟨I2.kIn, ?_⟩) hst hpl
  have q2 : sp (V.ref a :: (vs ++ [])) H2 Q E := q2
  rw [List.append_nil] at q2
  exact run_fnG (us := .ref a :: us) (vs := .ref a :: vs) F hr hb hx I2 (.cons rfl r) q2
theorem pe_methT0 {pl : Sem Bool} (he : PE X o ta) (c : Cls X.K C) (hm : Meth X.K C m f) (F : FnOkG X.prog X.w X.K X.mg X.base CX k f fd ps sp) (hr : RoomG k X.A) (hb : Binds X.K fd ps []) (hx : Passes CX X E)
    (ht : eval (.Call (.Attribute o m apos) [] [] pos) X.env = (do
      let ov ← eval o X.env
      standAt apos.atName
      let (f, first) ← holding [ov] (getMethod ov m pl)
      callWith pos f first (backTo pos (starEach [] X.env)) (backToKw pos (keywordEach [] X.env))) := by rfl) :
    PE X (.Call (.Attribute o m apos) [] [] pos) (tMeth C m sp [] E ta tNil) := by
  refine ⟨fun pins s σ H Q I h => ?_⟩
  refine PySem.W.methodCall_KW (pl := pl) (thn (he.run pins s σ H _ I h) fun u s1 ⟨x, H1, I1, rx, a, dx, fs, ex, ea, l, q⟩ => ?_) ht
  subst ex
  obtain rfl : u = Value.ref a := rx
  refine getmeth_ok I1 ea c hm l ?_
  exact PySem.W.callWith_K0 (first := [.ref a]) I1.kIn hm.kp (run_fnG (us := [.ref a]) (vs := [.ref a]) F hr hb hx I1 (.cons rfl .nil) q)
theorem RoomG.make {A : Around} (r : RoomG (k + 1) A) (C : Addr) (us : List Value) (kw : List (Str × Value)) : RoomG k (A.under (.builtin "type.__call__" ⟨.ref C :: us, kw⟩)) :=
  ⟨r.r.make C us kw, by
    have := r.g
    rw [← this]
    rfl⟩
theorem run_makeT {pins : List (Addr × Obj)} {σ : L2.St} {H : Hp} {s : Shared} {Q : VK} {us : List Value} {vs : List V} (M : Mk X.K C f) (F : FnOkG X.prog X.w X.K X.mg X.base CX k f fd ps sp) (hr : RoomG (k + 1) X.A) (hb : Binds X.K fd ps [])
    (hx : Passes CX X E) (I : Inv X pins σ H s) (r : Vals vs us)
    (h : ∀ x dx, H x = none → H dx = none → dx ≠ x → sp (.ref x :: vs) (upd (upd H dx (.own x)) x (.ins C dx [])) (fun v H2 => v = .non ∧ Q (.ref x) H2) E) :
    wpAny (model X.prog X.w) X.A (PySem.call (.ref C) us) (EP X pins σ Q) X.xe s := by
  have hq := h (s.heap.objs.size + 1) s.heap.objs.size (I.hok.fresh (Nat.le_succ _)) (I.hok.fresh (Nat.le_refl _)) (Nat.ne_of_lt (Nat.lt_succ_self _))
  have I2 := Inv.made (C := C) I
  have r2 : Vals (V.ref (s.heap.objs.size + 1) :: vs) (Value.ref (s.heap.objs.size + 1) :: us) := .cons rfl r
  have hl : (Value.ref (s.heap.objs.size + 1) :: us).length = ps.length := by
    have e := r2.length
    rw [F.len _ _ _ _ hq] at e
    exact e.symm
  have hb' := hb _ (Value.ref (s.heap.objs.size + 1) :: us) I2.kIn (by rw [List.append_nil]; exact hl)
  rw [List.append_nil] at hb'
  refine wpAny_call (make_map (f := f) I.kIn M.makes M.init (beq_iff_eq.mp M.fn) (codeAny_mono (F.run _ X.stack _ _ ⟨Value.ref (s.heap.objs.size + 1) :: us, []⟩ (Value.ref (s.heap.objs.size + 1) :: us) _ _ E (hr.make C us []).r (hr.make C us []).g
    (I2.env0.make C us []) hb' r2 hq) fun r s' hq' => ?_))
  cases r with
  | error e => exact hx pins σ _ _ e s' I2 hq'
  | ok fl =>
    cases fl with
    | ret u =>
      obtain ⟨v, H', I3, rv, ev, q3⟩ := I2.after hq'
      subst ev
      exact ⟨rv, ⟨V.ref (s.heap.objs.size + 1), H', I3, rfl, q3⟩⟩
    | next => exact False.elim hq'
    | brk => exact False.elim hq'
    | cont => exact False.elim hq'
theorem pe_makeT (M : Mk X.K C f) (F : FnOkG X.prog X.w X.K X.mg X.base CX k f fd ps sp) (hr : RoomG (k + 1) X.A) (hg : Gl X x) (hm : X.mg x = some (.ref C)) (hb : Binds X.K fd ps []) (hx : Passes CX X E)
    (ha : PA X (e :: es) t) (hdb : (x == ("__debug__" : Str)) = false := by decide) (he : starEach (e :: es) X.env = (false, eval e X.env) :: starEach es X.env := by rfl) (hpl : (backTo pos (starEach es X.env)).any (·.1) = false := by rfl) :
    PE X (.Call (.Name x p) (e :: es) [] pos) (tMake C sp [] E t) := by
  refine ⟨fun pins s σ H Q I h => ?_⟩
  refine wpAny_Call_Name_kw (ld_glob I hg hm ?_ hdb)
  refine PySem.W.callWith_K (h₀ := X.base) I.ok.mod.kin M.kp (thn (ha.run pos pins s σ H _ I h) fun us s1 ⟨vs, H1, I1, r, q⟩ => ⟨I1.kIn, ?_⟩) he hpl
  exact run_makeT M F hr hb hx I1 r fun x dx h1 h2 h3 => by have := q x dx h1 h2 h3; rw [List.append_nil] at this; exact this
end
/-! ### facts of defs, methods, makers -/
structure AtM (K : PySem.W.Frag) (c m q : Str) (st : Stmt) (ps : List Str) (C f : Addr) (fd : FuncData) : Prop where
  n : PySem.W.nsIn K mainGlobals c = some (some (.ref C))
  cl : Cls K C
  me : Meth K C m f
  F : Fun K m q st f fd
  b : Binds K fd ps []
structure OkM (P : Program) (w : World) (K : PySem.W.Frag) (mg : Str → Option Value) (base : Heap) (k : Nat) (c m q : Str) (st : Stmt) (ps : List Str) (n : Nat) (sp : SpD) : Prop where
  ex : ∃ C f fd, AtM K c m q st ps C f fd ∧ FnOkG P w K mg base CX0 k f fd ps (spOf K n sp)
structure AtI (K : PySem.W.Frag) (mg : Str → Option Value) (c q : Str) (st : Stmt) (ps : List Str) (C f : Addr) (fd : FuncData) : Prop where
  n : PySem.W.nsIn K mainGlobals c = some (some (.ref C))
  g : mg c = some (.ref C)
  mke : Mk K C f
  F : Fun K "__init__" q st f fd
  b : Binds K fd ps []
structure OkI (P : Program) (w : World) (K : PySem.W.Frag) (mg : Str → Option Value) (base : Heap) (k : Nat) (c q : Str) (st : Stmt) (ps : List Str) (n : Nat) (sp : SpD) : Prop where
  ex : ∃ C f fd, AtI K mg c q st ps C f fd ∧ FnOkG P w K mg base CX0 k f fd ps (spOf K n sp)
section
variable {X : L2.Cx} {a e o : Expr} {es : List Expr} {wa we : WE} {wr : WA}
theorem de_callT {k : Nat} {st : Stmt} {ps : List Str} {sp : SpD} {x : Str} {p pos : Pos} {n : Nat} (O : Ok X.prog X.w X.K X.mg X.base k x st ps n sp) (hr : RoomG k X.A) (hg : Gl X x)
    (ha : DAn X (e :: es) n wr) (hdb : (x == ("__debug__" : Str)) = false := by decide) (he : starEach (e :: es) X.env = (false, eval e X.env) :: starEach es X.env := by rfl) (hpl : (backTo pos (starEach es X.env)).any (·.1) = false := by rfl) :
    DE X (.Call (.Name x p) (e :: es) [] pos) (dCall (CallT sp) wr) := by
  obtain ⟨f, fd, a, F⟩ := O.ex
  obtain ⟨ta, pa, qa⟩ := ha.ex
  refine ⟨_, pe_callG F hr.r hr.g hg a.g a.kp a.b .nil (pass0 (X := X)) pa hdb he hpl, fun b A own H σ s Ks Q R h kk => ?_⟩
  show ta σ H fun vs H1 => spOf X.K n sp (vs ++ []) H1 Q E0
  refine qa _ _ _ _ _ _ _ _ R h fun A1 o1 H1 vs s1 xs R1 U1 E1 h1 => ?_
  rw [List.append_nil]
  exact callT_run (E1.len.trans h1.1) R1 E1 h1.2 (kk.up U1)
def dMeth (c m : Str) (sp : SpD) (wo : WE) (wr : WA) : WE := fun s Ks => wo s fun s1 x => fldW [c] s1 x fun _ _ fs => getT fs m = none ∧ wr s1 fun s2 xs => CallT sp s2 (x :: xs) Ks
theorem RKE.lookN {K : PySem.W.Frag} {A : Addr → Prop} {own : List (List Addr)} {H : Hp} {f : Str} : ∀ {ws : List (Str × V)} {fs : List (Str × En)}, RKE K A own H ws fs → fs.lookup f = none → ws.lookup f = none
  | [], [], _, _ => rfl
  | (g, w) :: ws, (g', x) :: fs, ⟨e0, h, t⟩, e => by
    obtain rfl : g = g' := e0
    rw [List.lookup_cons] at e ⊢
    cases q : f == g with
    | true => rw [q] at e; cases e
    | false => rw [q] at e; exact RKE.lookN t e
  | [], _ :: _, h, _ => h.elim
  | _ :: _, [], h, _ => h.elim
theorem de_meth {k : Nat} {st : Stmt} {ps : List Str} {sp : SpD} {c m q : Str} {apos pos : Pos} {n : Nat} (O : OkM X.prog X.w X.K X.mg X.base k c m q st ps (n + 1) sp) (hr : RoomG k X.A) {pl : Sem Bool} (ho : DE X o we)
    (ha : DAn X (e :: es) n wr) (hst : starEach (e :: es) X.env = (false, eval e X.env) :: starEach es X.env := by rfl) (hpl : (backTo pos (starEach es X.env)).any (·.1) = false := by rfl)
    (ht : eval (.Call (.Attribute o m apos) (e :: es) [] pos) X.env = (do
      let ov ← eval o X.env
      standAt apos.atName
      let (f, first) ← holding [ov] (getMethod ov m pl)
      callWith pos f first (backTo pos (starEach (e :: es) X.env)) (backToKw pos (keywordEach [] X.env))) := by rfl) :
    DE X (.Call (.Attribute o m apos) (e :: es) [] pos) (dMeth c m sp we wr) := by
  obtain ⟨C, f, fd, a, F⟩ := O.ex
  obtain ⟨to, po, qo⟩ := ho.ex
  obtain ⟨ta, pa, qa⟩ := ha.ex
  refine ⟨_, pe_methT po a.cl a.me F hr a.b (pass0 (X := X)) pa hst hpl ht, fun b A own H σ s Ks Q R h kk => ?_⟩
  show to σ H fun x H1 => ∃ a dx fs, x = .ref a ∧ H1 a = some (.ins C dx fs) ∧ fs.lookup m = none ∧ ta σ H1 fun vs H2 => spOf X.K (n + 1) sp (x :: (vs ++ [])) H2 Q E0
  refine qo _ _ _ _ _ _ _ _ R h fun A1 o1 H1 v1 s1 x1 R1 U1 E1 h1 => ?_
  obtain ⟨j, c', fs, rfl, g, hc, hl, h1⟩ := h1
  cases List.mem_singleton.mp hc
  obtain ⟨p, C', dx, ws, rfl, n', hp, r, _⟩ := obj_at R1 E1 g
  rw [a.n] at n'
  cases n'
  refine ⟨p, dx, ws, rfl, hp, r.lookN ((getT_lookup fs).trans hl), ?_⟩
  refine qa _ _ _ _ _ _ _ _ R1 h1 fun A2 o2 H2 vs s2 xs R2 U2 E2 h2 => ?_
  rw [List.append_nil]
  exact callT_run (xs := .mu j :: xs) (congrArg (· + 1) (E2.len.trans h2.1)) R2 ⟨E1.up U2, E2⟩ h2.2 (kk.up (U1.trans U2))
theorem de_meth0 {k : Nat} {st : Stmt} {ps : List Str} {sp : SpD} {c m q : Str} {apos pos : Pos} (O : OkM X.prog X.w X.K X.mg X.base k c m q st ps 1 sp) (hr : RoomG k X.A) {pl : Sem Bool} (ho : DE X o we)
    (ht : eval (.Call (.Attribute o m apos) [] [] pos) X.env = (do
      let ov ← eval o X.env
      standAt apos.atName
      let (f, first) ← holding [ov] (getMethod ov m pl)
      callWith pos f first (backTo pos (starEach [] X.env)) (backToKw pos (keywordEach [] X.env))) := by rfl) :
    DE X (.Call (.Attribute o m apos) [] [] pos) (dMeth c m sp we aNil) := by
  obtain ⟨C, f, fd, a, F⟩ := O.ex
  obtain ⟨to, po, qo⟩ := ho.ex
  refine ⟨_, pe_methT0 po a.cl a.me F hr a.b (pass0 (X := X)) ht, fun b A own H σ s Ks Q R h kk => ?_⟩
  show to σ H fun x H1 => ∃ a dx fs, x = .ref a ∧ H1 a = some (.ins C dx fs) ∧ fs.lookup m = none ∧ spOf X.K 1 sp (x :: ([] ++ [])) H1 Q E0
  refine qo _ _ _ _ _ _ _ _ R h fun A1 o1 H1 v1 s1 x1 R1 U1 E1 h1 => ?_
  obtain ⟨j, c', fs, rfl, g, hc, hl, h1⟩ := h1
  cases List.mem_singleton.mp hc
  obtain ⟨p, C', dx, ws, rfl, n', hp, r, _⟩ := obj_at R1 E1 g
  rw [a.n] at n'
  cases n'
  exact ⟨p, dx, ws, rfl, hp, r.lookN ((getT_lookup fs).trans hl), callT_run (xs := [.mu j]) rfl R1 ⟨E1, trivial⟩ h1 (kk.up U1)⟩
end
/-! ### a new object at more than one place -/
theorem Rel.newMuL {K : PySem.W.Frag} {b : Bd} {A : Addr → Prop} {own : List (List Addr)} {H H' : Hp} {σ : L2.St} {s : S} (r : Rel K b A own H σ s) (l : List Addr) (hp : ∀ p ∈ l, H p = none) (hnd : l.Nodup) (hx : ∀ a u, H a = some u → H' a = some u) (hn : ∀ p ∈ l, H' p ≠ none) (m : MO)
    (hm : ∀ (A' : Addr → Prop) (own' : List (List Addr)), Up A own H A' own' H' → MR K A' own' H' l m) :
    Rel K b (fun a => A a ∨ a ∈ l) (own ++ [l]) H' σ { s with ms := s.ms ++ [m] } ∧ Up A own H (fun a => A a ∨ a ∈ l) (own ++ [l]) H' ∧ go (own ++ [l]) s.ms.length = l := by
  have gl : ∀ k, go (own ++ [l]) k = if k < own.length then go own k else if k = own.length then l else [] := fun k => by
    rw [go_app]
    by_cases h : k < own.length
    · rw [if_pos h, if_pos h]
    · rw [if_neg h, if_neg h]
      by_cases h2 : k = own.length
      · subst h2; rw [Nat.sub_self, if_pos rfl]; rfl
      · rw [if_neg h2]; exact go_ge _ _ (by simp; omega)
  have gml : ∀ k, gm (s.ms ++ [m]) k = if k < own.length then gm s.ms k else if k = own.length then m else .gone := fun k => by
    rw [gm_app, ← r.ol]
    by_cases h : k < own.length
    · rw [if_pos h, if_pos h]
    · rw [if_neg h, if_neg h]
      by_cases h2 : k = own.length
      · subst h2; rw [Nat.sub_self, if_pos rfl]; rfl
      · rw [if_neg h2]; exact gm_ge _ _ (by simp; omega)
  have u : Up A own H (fun a => A a ∨ a ∈ l) (own ++ [l]) H' := ⟨fun a o n h => ⟨hx _ _ h, fun z => by
      rcases z with z | z
      · exact n z
      · rw [hp a z] at h; cases h⟩, fun k a q h => by
      rw [gl]
      by_cases h1 : k < own.length
      · rw [if_pos h1]; exact h
      · rw [go_ge _ _ (by omega)] at h; cases h⟩
  have np : ∀ k p, p ∈ l → p ∉ go own k := fun k p hl h => r.al p (r.oa k p h) (hp p hl)
  refine ⟨⟨⟨by simp [r.ol], fun k => ?_, fun k j a h1 h2 => ?_, fun k => ?_, fun k a h => ?_, fun a h => ?_⟩, r.len, fun i => (r.sl i).imp id fun ⟨v, e, h⟩ => ⟨v, e, h.up u⟩, fun a h => .inl (r.ge a h), fun a o n h => hx _ _ (r.fr a o n h), fun k a h => ?_, ?_, ?_, fun a h => ?_, r.a0⟩, u, ?_⟩
  · rw [gl, gml]
    by_cases h1 : k < own.length
    · rw [if_pos h1, if_pos h1]; exact (r.mr k).up u fun a o _ h => hx a o h
    · rw [if_neg h1, if_neg h1]
      by_cases h2 : k = own.length
      · rw [if_pos h2, if_pos h2]; exact hm _ _ u
      · rw [if_neg h2, if_neg h2]; trivial
  · rw [gl] at h1 h2
    by_cases k1 : k < own.length
    · rw [if_pos k1] at h1
      by_cases j1 : j < own.length
      · rw [if_pos j1] at h2; exact r.dj k j a h1 h2
      · rw [if_neg j1] at h2
        by_cases j2 : j = own.length
        · rw [if_pos j2] at h2; exact (np _ _ h2 h1).elim
        · rw [if_neg j2] at h2; cases h2
    · rw [if_neg k1] at h1
      by_cases k2 : k = own.length
      · rw [if_pos k2] at h1
        by_cases j1 : j < own.length
        · rw [if_pos j1] at h2; exact (np _ _ h1 h2).elim
        · rw [if_neg j1] at h2
          by_cases j2 : j = own.length
          · omega
          · rw [if_neg j2] at h2; cases h2
      · rw [if_neg k2] at h1; cases h1
  · rw [gl]
    split
    · exact r.ld k
    · split
      · exact hnd
      · exact List.nodup_nil
  · rw [gl] at h
    split at h
    · exact .inl (r.oa k a h)
    · split at h
      · exact .inr h
      · cases h
  · rcases h with h | h
    · intro z
      cases q : H a with
      | none => exact r.al a h q
      | some o => rw [hx a o q] at z; cases z
    · exact hn a h
  · rw [gl] at h
    split at h
    · exact r.fo k a h
    · split at h
      · exact .inr (r.fresh0 (hp a h))
      · cases h
  · rw [List.take_append_of_le_length r.npl]; exact r.pre
  · rw [List.length_append]; have := r.npl; show s.np ≤ _; omega
  · rcases h with h | h
    · exact r.lim a h
    · exact .inr (r.fresh0 (hp a h))
  · rw [gl, ← r.ol, if_neg (Nat.lt_irrefl _), if_pos rfl]
section
variable {X : L2.Cx} {a e o : Expr} {es : List Expr} {wa we : WE} {wr : WA}
def dMake (c : Str) (sp : SpD) (wr : WA) : WE := fun s Ks => wr s fun s1 xs => sp (.mu s1.ms.length :: xs) (s1.ms ++ [.ins (.obj c) []]) fun ms' r => r = .da .none ∧ Ks ⟨s1.es, ms', s1.np⟩ (.mu s1.ms.length)
theorem de_make {k : Nat} {st : Stmt} {ps : List Str} {sp : SpD} {c q : Str} {p pos : Pos} {n : Nat} (O : OkI X.prog X.w X.K X.mg X.base k c q st ps (n + 1) sp) (hr : RoomG (k + 1) X.A) (hg : Gl X c)
    (ha : DAn X (e :: es) n wr) (hdb : (c == ("__debug__" : Str)) = false := by decide) (he : starEach (e :: es) X.env = (false, eval e X.env) :: starEach es X.env := by rfl) (hpl : (backTo pos (starEach es X.env)).any (·.1) = false := by rfl) :
    DE X (.Call (.Name c p) (e :: es) [] pos) (dMake c sp wr) := by
  obtain ⟨C, f, fd, a, F⟩ := O.ex
  obtain ⟨ta, pa, qa⟩ := ha.ex
  refine ⟨_, pe_makeT a.mke F hr hg a.g a.b (pass0 (X := X)) pa hdb he hpl, fun b A own H σ s Ks Q R h kk => ?_⟩
  show ta σ H fun vs H1 => ∀ x dx, H1 x = none → H1 dx = none → dx ≠ x → spOf X.K (n + 1) sp (.ref x :: (vs ++ [])) (upd (upd H1 dx (.own x)) x (.ins C dx [])) (fun v H2 => v = .non ∧ Q (.ref x) H2) E0
  refine qa _ _ _ _ _ _ _ _ R h fun A1 o1 H1 vs s1 xs R1 U1 E1 h1 => ?_
  intro x dx hx hdx ne
  rw [List.append_nil]
  obtain ⟨R2, U2, g2⟩ := R1.newMuL (H' := upd (upd H1 dx (.own x)) x (.ins C dx [])) [x, dx] (fun p hp => by
    rcases List.mem_cons.mp hp with rfl | hp
    · exact hx
    · cases List.mem_singleton.mp hp; exact hdx) (List.nodup_cons.mpr ⟨fun z => ne (List.mem_singleton.mp z).symm, by simp⟩) (fun a u h => by
    rw [upd_ne (ne_of_none h hx), upd_ne (ne_of_none h hdx)]; exact h) (fun p hp => by
    rcases List.mem_cons.mp hp with rfl | hp
    · rw [upd_same]; intro z; cases z
    · cases List.mem_singleton.mp hp; rw [upd_ne ne, upd_same]; intro z; cases z) (.ins (.obj c) []) (fun A' own' u => ⟨x, [dx], [], rfl, ⟨C, dx, a.n, rfl, upd_same, by rw [upd_ne ne, upd_same]⟩, trivial⟩)
  refine callT_run (s := { s1 with ms := s1.ms ++ [.ins (.obj c) []] }) (xs := .mu s1.ms.length :: xs) (Ks := fun s' r => r = .da .none ∧ Ks s' (.mu s1.ms.length)) (congrArg (· + 1) (E1.len.trans h1.1)) R2 ⟨⟨x, [dx], g2, rfl⟩, E1.up U2⟩ h1.2 ?_
  intro A3 o3 H3 v3 s3 x3 R3 U3 E3 h3
  obtain ⟨rfl, h3⟩ := h3
  cases E3
  exact ⟨rfl, kk _ _ _ _ _ (.mu s1.ms.length) R3 ((U1.trans U2).trans U3) ⟨x, [dx], U3.ow _ _ _ g2, rfl⟩ h3⟩
end
/-! ### loops and cuts that keep all that changes -/
def clA (kl : List Nat) (s : S) : S := ⟨killL kl s.es, s.ms, s.np⟩
theorem Rel.clA {K : PySem.W.Frag} {b : Bd} {A : Addr → Prop} {own : List (List Addr)} {H : Hp} {σ : L2.St} {s : S} (r : Rel K b A own H σ s) (kl : List Nat) : Rel K b A own H σ (clA kl s) := by
  refine r.slots (by rw [killL_length]; exact r.len) fun i => ?_
  rcases gt_killL kl s.es i with q | ⟨_, q⟩
  · exact .inl q
  · rw [q]; exact r.sl i
section
variable {X : L2.Cx} {a b c e : Expr} {wa wb we : WE} {wt : WT} {w u : WS} {sts : List Stmt} {tg : Expr} {pos : Pos}
def sCutA (kl : List Nat) (w u : WS) : WS := fun s D => ∃ M : S → Prop, w s { D with nx := fun s1 => M (clA kl s1) } ∧ ∀ s1, M s1 → u s1 D
theorem dss_cutA {st : Stmt} (kl : List Nat) (h1 : DS X st w) (h2 : DSs X sts u) : DSs X (st :: sts) (sCutA kl w u) := by
  obtain ⟨t1, p1, q1⟩ := h1.ex
  obtain ⟨t2, p2, q2⟩ := h2.ex
  refine ⟨_, pss_cons p1 p2, fun b A own H σ s D E R h mt => ?_⟩
  obtain ⟨M, h1, h2⟩ := h
  show t1 { E with nx := t2 E } σ H
  exact q1 _ _ _ _ _ _ _ _ R h1 ⟨fun A' o' H' σ' s' R' k h' => q2 _ _ _ _ _ _ _ _ (R'.clA kl) (h2 _ h') (mt.up k), mt.rt, mt.bk, mt.ct⟩
def sForA (kl : List Nat) (wi : WI) (wg : WG) (wb : WS) : WS := fun s D => wi s fun s1 ds => ∃ I : Nat → S → Prop, I 0 (clA kl s1) ∧
  (∀ i d s2, ds[i]? = some d → I i s2 → wg (.da d) s2 fun s3 => wb s3 { D with nx := fun s4 => I (i + 1) (clA kl s4), ct := fun s4 => I (i + 1) (clA kl s4), bk := D.nx }) ∧
  (∀ s2, I ds.length s2 → D.nx s2)
theorem ds_forA (kl : List Nat) {wi : WI} {js : List Nat} {wg : WG} {it : Expr} (hp : PassesOwn (model X.prog X.w) X.A X.env X.xe) (hc : X.calm = true) (hi : DI X tg it wi) (hg : DG X tg js wg) (hb : DSs X sts w)
    (hs : ∀ x, foldedSetIterable it X.env x = pure x := by intro _; rfl) : DS X (.For tg it sts [] pos) (sForA kl wi wg w) := by
  obtain ⟨ti, pi, qi⟩ := hi.ex
  obtain ⟨g, pg, qg⟩ := hg.ex
  obtain ⟨tb, pb, qb⟩ := hb.ex
  refine ⟨_, ps_for hp hc pi pg pb hs, fun b A own H σ s D E R h mt => ?_⟩
  show ti σ H fun J H1 => ∃ W : Nat → Nat → L2.St → Hp → Prop, (∃ m, W 0 m σ H1) ∧ ∀ i m σ H, W i m σ H →
    (J.stop i H ∧ E.nx σ H) ∨ (J.go i H ∧ ∃ N : L2.St → Hp → Prop, (∀ σ' H', N σ' H' → ∃ m', m' < m ∧ W (i + 1) m' σ' H') ∧ ∀ x H', J.yld i H x H' → g x σ H' fun σ2 H2 => tb { E with nx := N, ct := N, bk := E.nx } σ2 H2)
  refine qi _ _ _ _ _ _ _ _ R h fun A1 o1 H1 s1 ds J R1 U1 wk h1 => ?_
  obtain ⟨I, h0, hs, hd⟩ := h1
  refine ⟨fun i k σ2 H2 => k = ds.length - i ∧ i ≤ ds.length ∧ ∃ (A2 : Addr → Prop) (o2 : List (List Addr)) (s2 : S), Rel X.K b A2 o2 H2 σ2 s2 ∧ Kp A1 H1 A2 H2 ∧ I i s2, ⟨_, rfl, Nat.zero_le _, A1, _, _, R1.clA kl, Kp.refl, h0⟩, ?_⟩
  rintro i k σ2 H2 ⟨rfl, hi, A2, o2, s2, R2, kp, hI⟩
  obtain ⟨wstop, wgo⟩ := wk A2 H2 kp i
  by_cases hlt : i < ds.length
  · obtain ⟨hgo, hy⟩ := wgo ds[i] (List.getElem?_eq_getElem hlt)
    refine .inr ⟨hgo, fun σ' H' => ∃ (A3 : Addr → Prop) (o3 : List (List Addr)) (s3 : S), Rel X.K b A3 o3 H' σ' s3 ∧ Kp A1 H1 A3 H' ∧ I (i + 1) s3, fun σ' H' ⟨A3, o3, s3, r3, k3, i3⟩ => ⟨ds.length - (i + 1), by omega, rfl, hlt, A3, o3, s3, r3, k3, i3⟩, fun x H3 hx => ?_⟩
    obtain ⟨R3, U3, rx⟩ := hy x H3 hx o2 σ2 s2 R2
    refine qg _ _ _ _ _ _ _ _ _ _ R3 (show ER X.K A2 o2 H3 x (.da ds[i]) from rx) (hs i _ s2 (List.getElem?_eq_getElem hlt) hI) fun A4 o4 H4 σ4 s4 R4 U4 _ h4 => ?_
    have kp4 : Kp A1 H1 A4 H4 := (kp.trans U3.kp).trans U4.kp
    exact qb _ _ _ _ _ _ _ _ R4 h4 ⟨fun A5 o5 H5 σ5 s5 R5 k5 h5 => ⟨A5, _, _, R5.clA kl, kp4.trans k5, h5⟩, fun A5 o5 H5 σ5 s5 v x R5 k5 e5 h5 => mt.rt _ _ _ _ _ _ _ R5 ((U1.kp.trans kp4).trans k5) e5 h5,
      fun A5 o5 H5 σ5 s5 R5 k5 h5 => mt.nx _ _ _ _ _ R5 ((U1.kp.trans kp4).trans k5) h5, fun A5 o5 H5 σ5 s5 R5 k5 h5 => ⟨A5, _, _, R5.clA kl, kp4.trans k5, h5⟩⟩
  · have e : i = ds.length := by omega
    subst e
    exact .inl ⟨wstop (Nat.le_refl _), mt.nx _ _ _ _ _ R2 (U1.kp.trans kp) (hd _ hI)⟩
def sWhileA (kl : List Nat) (wt : WT) (wb : WS) : WS := fun s D => ∃ (I : S → Prop) (μ : S → Nat), I (clA kl s) ∧
  ∀ s2, I s2 → wt s2 fun s3 c => (c = true → wb s3 { D with nx := fun s4 => I (clA kl s4) ∧ μ (clA kl s4) < μ s2, ct := fun s4 => I (clA kl s4) ∧ μ (clA kl s4) < μ s2, bk := D.nx }) ∧ (c = false → D.nx s3)
theorem ds_whileA (kl : List Nat) (hp : PassesOwn (model X.prog X.w) X.A X.env X.xe) (hc : DT X c wt) (hb : DSs X sts w) : DS X (.While c sts [] pos) (sWhileA kl wt w) := by
  obtain ⟨tc, pc, qc⟩ := hc.ex
  obtain ⟨tb, pb, qb⟩ := hb.ex
  refine ⟨_, ps_while hp pc pb, fun b A own H σ s D E R h mt => ?_⟩
  show ∃ W : Nat → L2.St → Hp → Prop, (∃ m, W m σ H) ∧ ∀ m σ H, W m σ H →
    tc σ H fun b H1 => if b = true then ∃ N : L2.St → Hp → Prop, (∀ σ' H', N σ' H' → ∃ m', m' < m ∧ W m' σ' H') ∧ tb { E with nx := N, ct := N, bk := E.nx } σ H1 else E.nx σ H1
  obtain ⟨I, μ, h0, hs⟩ := h
  refine ⟨fun k σ2 H2 => ∃ (A2 : Addr → Prop) (o2 : List (List Addr)) (s2 : S), k = μ s2 ∧ Rel X.K b A2 o2 H2 σ2 s2 ∧ Kp A H A2 H2 ∧ I s2, ⟨_, A, _, _, rfl, R.clA kl, Kp.refl, h0⟩, ?_⟩
  rintro k σ2 H2 ⟨A2, o2, s2, rfl, R2, kp, hI⟩
  refine qc _ _ _ _ _ _ _ _ R2 (hs s2 hI) fun A3 o3 H3 s3 c R3 U3 h3 => ?_
  have kp3 := kp.trans U3.kp
  cases c with
  | true =>
    rw [if_pos rfl]
    refine ⟨fun σ' H' => ∃ (A4 : Addr → Prop) (o4 : List (List Addr)) (s4 : S), Rel X.K b A4 o4 H' σ' s4 ∧ Kp A H A4 H' ∧ I s4 ∧ μ s4 < μ s2, fun σ' H' ⟨A4, o4, s4, r4, k4, i4, l4⟩ => ⟨_, l4, A4, o4, s4, rfl, r4, k4, i4⟩, ?_⟩
    exact qb _ _ _ _ _ _ _ _ R3 (h3.1 rfl) ⟨fun A5 o5 H5 σ5 s5 R5 k5 h5 => ⟨A5, _, _, R5.clA kl, kp3.trans k5, h5.1, h5.2⟩, fun A5 o5 H5 σ5 s5 v x R5 k5 e5 h5 => mt.rt _ _ _ _ _ _ _ R5 (kp3.trans k5) e5 h5,
      fun A5 o5 H5 σ5 s5 R5 k5 h5 => mt.nx _ _ _ _ _ R5 (kp3.trans k5) h5, fun A5 o5 H5 σ5 s5 R5 k5 h5 => ⟨A5, _, _, R5.clA kl, kp3.trans k5, h5.1, h5.2⟩⟩
  | false => rw [if_neg (by decide)]; exact mt.nx _ _ _ _ _ R3 kp3 (h3.2 rfl)
end
/-! ### defs whose ends keep all that changes -/
def endT (Ks : List MO → En → Prop) : Dn where
  nx := fun s => Ks s.ms (.da .none)
  rt := fun s x => onE x (Ks s.ms)
  bk := fun _ => False
  ct := fun _ => False
section
variable {P : Program} {w : World} {K : PySem.W.Frag} {mg : Str → Option Value} {base : Heap}
theorem fn_dataT {x qual : Str} {st : Stmt} {f : Addr} {fd : FuncData} {N ps : List Str} {k : Nat} {sp : SpD} (F : Fun K x qual st f fd) (Sc : FnScope N ps (defScope st)) (W : WS)
    (hb : ∀ (cdv : Value) (A : Around) (outer : List Env) (s : Shared) (H : Hp) (E : XK), RoomG k (A.deeper (PyProof.Rows.envOfC qual (defScope st) s.heap.objs.size f cdv)) → DSs (cxOf CX0 P w K mg base N qual (defScope st) f cdv A outer s H E).nox (defBody st) W)
    (hsp : ∀ xs ms Ks, sp xs ms Ks → xs.length = ps.length → W ⟨xs ++ nos (N.length - ps.length), ms, ms.length⟩ (endT Ks)) : FnOkG P w K mg base CX0 (k + 1) f fd ps (spOf K ps.length sp) := by
  refine fun_okG F Sc (fun vs H Q E h => ?_) (fun cdv A outer s H vs Q E hr h => ?_)
  · obtain ⟨_, _, _, _, _, hn, _⟩ := h
    exact hn
  · obtain ⟨Av, own, xs, ms, Ks, hn, he, ho, hs, k1⟩ := h
    obtain ⟨t, pt, qt⟩ := (hb cdv A outer s H E hr).ex
    have hxl : xs.length = ps.length := he.len.symm.trans hn
    have hN : ps.length ≤ N.length := by
      have := congrArg List.length Sc.pre
      rw [List.length_take] at this
      omega
    refine ⟨t, pt, ?_⟩
    have R : Rel K ⟨H, own, Av⟩ Av own H (start N vs) ⟨xs ++ nos (N.length - ps.length), ms, ms.length⟩ := by
      refine ⟨ho, ?_, fun i => ?_, fun a h => h, fun a o n h => h, fun k a h => .inl ⟨k, h⟩, ?_, ?_, fun a h => .inl h, ho.al⟩
      · show (vs.map some ++ List.replicate (N.length - vs.length) none).length = _
        simp [nos_length, hn, hxl]
      · show gt (xs ++ nos (N.length - ps.length)) i = .no ∨ ∃ v, (vs.map some ++ List.replicate (N.length - vs.length) none)[i]? = some (some v) ∧ _
        rw [hn]
        exact start_at N he _ i
      · show own.take ms.length = own
        rw [← ho.ol]; exact List.take_length
      · show ms.length ≤ own.length
        rw [ho.ol]; exact Nat.le_refl _
    have fin : ∀ (A' : Addr → Prop) (own' : List (List Addr)) (H' : Hp) (σ' : L2.St) (s' : S) (v : V) (x : En), Rel K ⟨H, own, Av⟩ A' own' H' σ' s' → ER K A' own' H' v x → Ks s'.ms x → Q v H' := by
      intro A' own' H' σ' s' v x R' ex hx
      have np : own.length = s'.np := R'.np
      have hpre : own'.take own.length = own := by rw [np]; exact R'.pre
      exact k1 A' own' H' v s'.ms x R'.toOwn hpre R'.ge R'.lim (fun a o n h => R'.fr a o n h) R'.fo ex hx
    refine qt _ _ _ _ _ _ (endT Ks) _ R (hsp xs ms Ks hs hxl) ⟨fun A' own' H' σ' s' R' _ h => fin A' own' H' σ' s' .non (.da .none) R' .non h, fun A' own' H' σ' s' v x R' _ ex h => fin A' own' H' σ' s' v x R' ex (onE_inv h).2, fun _ _ _ _ _ _ _ h => h.elim, fun _ _ _ _ _ _ _ h => h.elim⟩
theorem ok_dataT {x : Str} {st : Stmt} {N ps : List Str} {k n n0 : Nat} {sp : SpD} (hF : ∃ f fd, At K mg x st ps f fd) (Sc : FnScope N ps (defScope st)) (W : WS)
    (hb : ∀ (f : Addr) (cdv : Value) (A : Around) (outer : List Env) (s : Shared) (H : Hp) (E : XK), RoomG k (A.deeper (PyProof.Rows.envOfC x (defScope st) s.heap.objs.size f cdv)) → DSs (cxOf CX0 P w K mg base N x (defScope st) f cdv A outer s H E).nox (defBody st) W)
    (hsp : ∀ xs ms Ks, sp xs ms Ks → xs.length = n → W (st0 xs n0 ms ms.length) (endT Ks)) (hn : ps.length = n := by rfl) (hn0 : N.length - ps.length = n0 := by rfl) : Ok P w K mg base (k + 1) x st ps n sp := by
  obtain ⟨f, fd, a⟩ := hF
  subst hn
  subst hn0
  exact ⟨f, fd, a, fn_dataT a.F Sc W (hb f) hsp⟩
theorem ok_dataM {c m q : Str} {st : Stmt} {N ps : List Str} {k n n0 : Nat} {sp : SpD} (hF : ∃ C f fd, AtM K c m q st ps C f fd) (Sc : FnScope N ps (defScope st)) (W : WS)
    (hb : ∀ (f : Addr) (cdv : Value) (A : Around) (outer : List Env) (s : Shared) (H : Hp) (E : XK), RoomG k (A.deeper (PyProof.Rows.envOfC q (defScope st) s.heap.objs.size f cdv)) → DSs (cxOf CX0 P w K mg base N q (defScope st) f cdv A outer s H E).nox (defBody st) W)
    (hsp : ∀ xs ms Ks, sp xs ms Ks → xs.length = n → W (st0 xs n0 ms ms.length) (endT Ks)) (hn : ps.length = n := by rfl) (hn0 : N.length - ps.length = n0 := by rfl) : OkM P w K mg base (k + 1) c m q st ps n sp := by
  obtain ⟨C, f, fd, a⟩ := hF
  subst hn
  subst hn0
  exact ⟨C, f, fd, a, fn_dataT a.F Sc W (hb f) hsp⟩
theorem ok_dataI {c q : Str} {st : Stmt} {N ps : List Str} {k n n0 : Nat} {sp : SpD} (hF : ∃ C f fd, AtI K mg c q st ps C f fd) (Sc : FnScope N ps (defScope st)) (W : WS)
    (hb : ∀ (f : Addr) (cdv : Value) (A : Around) (outer : List Env) (s : Shared) (H : Hp) (E : XK), RoomG k (A.deeper (PyProof.Rows.envOfC q (defScope st) s.heap.objs.size f cdv)) → DSs (cxOf CX0 P w K mg base N q (defScope st) f cdv A outer s H E).nox (defBody st) W)
    (hsp : ∀ xs ms Ks, sp xs ms Ks → xs.length = n → W (st0 xs n0 ms ms.length) (endT Ks)) (hn : ps.length = n := by rfl) (hn0 : N.length - ps.length = n0 := by rfl) : OkI P w K mg base (k + 1) c q st ps n sp := by
  obtain ⟨C, f, fd, a⟩ := hF
  subst hn
  subst hn0
  exact ⟨C, f, fd, a, fn_dataT a.F Sc W (hb f) hsp⟩
end
/-! ### what changes is closed: no thing leads beyond -/
def Clo (ms : List MO) : Prop := takM ms.length ms.length ms = ms
theorem RKE.lt {K : PySem.W.Frag} {A : Addr → Prop} {own : List (List Addr)} {H : Hp} {n : Nat} (hn : own.length = n) : ∀ {ws : List (Str × V)} {fs : List (Str × En)}, RKE K A own H ws fs → limF n fs = fs
  | [], [], _ => rfl
  | _ :: _, (f, x) :: fs, ⟨_, h, t⟩ => by
    show (f, limE n x) :: limF n fs = _
    rw [RKE.lt hn t]
    cases x with
    | no => rfl
    | da d => rfl
    | mu k =>
      obtain ⟨a, r, g, _⟩ := h
      have : k < own.length := Nat.lt_of_not_le fun z => by rw [go_ge _ _ z] at g; cases g
      show (f, bif Nat.blt k n then En.mu k else .no) :: fs = _
      rw [show Nat.blt k n = true from by rw [← hn]; simpa using this]
      rfl
  | [], _ :: _, h => h.elim
  | _ :: _, [], h => h.elim
theorem takM_id (m : Nat) : ∀ (n : Nat) (l : List MO), l.length ≤ n → (∀ k, limM m (gm l k) = gm l k) → takM m n l = l
  | 0, [], _, _ => rfl
  | 0, _ :: _, h, _ => by simp at h
  | n + 1, [], _, _ => rfl
  | n + 1, x :: r, h, q => by
    show limM m x :: takM m n r = _
    rw [show limM m x = x from q 0, takM_id m n r (by simpa using h) fun k => q (k + 1)]
theorem Rel.clo {K : PySem.W.Frag} {b : Bd} {A : Addr → Prop} {own : List (List Addr)} {H : Hp} {σ : L2.St} {s : S} (R : Rel K b A own H σ s) : Clo s.ms := by
  refine takM_id _ _ _ (Nat.le_refl _) fun k => ?_
  have m := R.mr k
  cases q : gm s.ms k with
  | gone => rfl
  | lst _ => rfl
  | dct _ => rfl
  | rnd _ => rfl
  | box _ => rfl
  | tab _ => rfl
  | ins C fs =>
    rw [q] at m
    obtain ⟨a, r, ws, _, _, e⟩ := m
    show MO.ins C (limF s.ms.length fs) = _
    rw [RKE.lt R.ol e]
theorem Clo.app {ms r : List MO} (h : Clo ms) : takM ms.length ms.length (ms ++ r) = ms := by
  rw [takM_app _ _ _ rfl]; exact h
section
variable {X : L2.Cx} {tg e : Expr} {wi : WI} {sts : List Stmt} {w : WS}
theorem di_cl (h : DI X tg e wi) : DI X tg e (fun s Ks => wi s fun s1 ds => Clo s1.ms → Ks s1 ds) := by
  obtain ⟨t, p, q⟩ := h.ex
  exact ⟨t, p, fun b A own H σ s Ks Q R h k => q _ _ _ _ _ _ _ _ R h fun A' own' H' s' ds J R' U' wk h' => k _ _ _ _ _ _ R' U' wk (h' R'.clo)⟩
def sClo (w : WS) : WS := fun s D => Clo s.ms → w s D
theorem dss_clo (h : DSs X sts w) : DSs X sts (sClo w) := by
  obtain ⟨t, p, q⟩ := h.ex
  exact ⟨t, p, fun b A own H σ s D E R h m => q _ _ _ _ _ _ _ _ R (h R.clo) m⟩
end
/-! ### dicts, of data or of things that change -/
def putT {α : Type} (fs : List (Str × α)) (f : Str) (x : α) : List (Str × α) := if (fs.any fun q => decide (q.1 = f)) = true then fs.map (fun q => if q.1 = f then (q.1, x) else q) else fs ++ [(f, x)]
def mergeT {α : Type} (fs more : List (Str × α)) : List (Str × α) := more.foldl (fun acc q => putT acc q.1 q.2) fs
def keyed (ws : List (Str × V)) : List (Key × V) := ws.map fun p => (.inr p.1, p.2)
/-- the value behind a key; none: no dict -/
def dvl (ms : List MO) (j : Nat) (key : Key) : Option (Option En) := match gm ms j with
  | .dct kvs => some ((findD kvs key).map En.da)
  | .ins .dct fs => some (match key with | .inr f => getT fs f | .inl _ => none)
  | _ => none
section
variable {K : PySem.W.Frag} {b : Bd} {A : Addr → Prop} {own : List (List Addr)} {H : Hp} {σ : L2.St} {s : S}
theorem rke_find {f : Str} : ∀ {ws : List (Str × V)} {fs : List (Str × En)}, RKE K A own H ws fs → (getT fs f = none ∧ valV (keyed ws) (.inr f) = none) ∨ ∃ y v, getT fs f = some y ∧ valV (keyed ws) (.inr f) = some v ∧ ER K A own H v y
  | [], [], _ => .inl ⟨rfl, rfl⟩
  | p :: ws, q :: fs, ⟨e, r, t⟩ => by
    unfold getT
    rw [List.find?_cons]
    show _ ∨ ∃ y v, _ ∧ valV ((.inr p.1, p.2) :: keyed ws) (.inr f) = some v ∧ _
    by_cases h : q.1 = f
    · rw [decide_eq_true h, valV_pos (show (Sum.inr p.1 : Key) = .inr f from congrArg Sum.inr (e.trans h))]; exact .inr ⟨_, _, rfl, rfl, r⟩
    · rw [decide_eq_false h]
      have hk : ¬ (Sum.inr p.1 : Key) = .inr f := fun z => h (e.symm.trans (Sum.inr.inj z))
      rcases rke_find (f := f) t with ⟨q1, q2⟩ | ⟨y, v, q1, q2, q3⟩
      · exact .inl ⟨q1, (valV_neg hk).trans q2⟩
      · exact .inr ⟨y, v, q1, (valV_neg hk).trans q2, q3⟩
  | [], _ :: _, h => h.elim
  | _ :: _, [], h => h.elim
theorem rke_inl {i : Int} : ∀ (ws : List (Str × V)), valV (keyed ws) (.inl i) = none
  | [] => rfl
  | p :: ws => (valV_neg (show ¬ (Sum.inr p.1 : Key) = .inl i from fun z => nomatch z)).trans (rke_inl ws)
theorem rke_any {f : Str} : ∀ {ws : List (Str × V)} {fs : List (Str × En)}, RKE K A own H ws fs → ((keyed ws).any fun kv => decide (kv.1 = (Sum.inr f : Key))) = (fs.any fun q => decide (q.1 = f))
  | [], [], _ => rfl
  | p :: ws, q :: fs, ⟨e, _, t⟩ => by
    show (decide ((Sum.inr p.1 : Key) = .inr f) || (keyed ws).any _) = _
    rw [List.any_cons, rke_any t, show decide ((Sum.inr p.1 : Key) = .inr f) = decide (q.1 = f) from by rw [show p.1 = q.1 from e]; by_cases h : q.1 = f <;> simp [h]]
  | [], _ :: _, h => h.elim
  | _ :: _, [], h => h.elim
theorem rke_map {f : Str} {v : V} {x : En} (r : ER K A own H v x) : ∀ {ws : List (Str × V)} {fs : List (Str × En)}, RKE K A own H ws fs →
    ∃ ws', (keyed ws).map (fun kv => if kv.1 = (Sum.inr f : Key) then (kv.1, v) else kv) = keyed ws' ∧ RKE K A own H ws' (fs.map (fun q => if q.1 = f then (q.1, x) else q))
  | [], [], _ => ⟨[], rfl, trivial⟩
  | p :: ws, q :: fs, ⟨e, r', t⟩ => by
    obtain ⟨ws', h1, h2⟩ := rke_map (f := f) r t
    show ∃ ws'', (if (Sum.inr p.1 : Key) = .inr f then ((Sum.inr p.1 : Key), v) else (.inr p.1, p.2)) :: (keyed ws).map _ = keyed ws'' ∧ _
    rw [List.map_cons]
    by_cases h : q.1 = f
    · rw [if_pos h, if_pos (congrArg Sum.inr (e.trans h))]
      exact ⟨(p.1, v) :: ws', by rw [h1]; rfl, e, r, h2⟩
    · rw [if_neg h, if_neg fun z => h (e.symm.trans (Sum.inr.inj z))]
      exact ⟨p :: ws', by rw [h1]; rfl, e, r', h2⟩
  | [], _ :: _, h => h.elim
  | _ :: _, [], h => h.elim
theorem rke_snoc {f : Str} {v : V} {x : En} (r : ER K A own H v x) : ∀ {ws : List (Str × V)} {fs : List (Str × En)}, RKE K A own H ws fs → RKE K A own H (ws ++ [(f, v)]) (fs ++ [(f, x)])
  | [], [], _ => ⟨rfl, r, trivial⟩
  | _ :: _, _ :: _, ⟨e, r', t⟩ => ⟨e, r', rke_snoc r t⟩
  | [], _ :: _, h => h.elim
  | _ :: _, [], h => h.elim
theorem rke_put {f : Str} {v : V} {x : En} (r : ER K A own H v x) {ws : List (Str × V)} {fs : List (Str × En)} (h : RKE K A own H ws fs) : ∃ ws', putK (keyed ws) (.inr f) v = keyed ws' ∧ RKE K A own H ws' (putT fs f x) := by
  unfold putK putT
  rw [rke_any h]
  split
  · exact rke_map r h
  · exact ⟨ws ++ [(f, v)], by simp [keyed], rke_snoc r h⟩
theorem rke_merge : ∀ {ms : List (Str × V)} {more : List (Str × En)} {ws : List (Str × V)} {fs : List (Str × En)}, RKE K A own H ms more → RKE K A own H ws fs → ∃ ws', mergeK (keyed ws) (keyed ms) = keyed ws' ∧ RKE K A own H ws' (mergeT fs more)
  | [], [], ws, _, _, h => ⟨ws, rfl, h⟩
  | p :: ms, q :: more, ws, fs, ⟨e, r, t⟩, h => by
    obtain ⟨ws', h1, h2⟩ := rke_put (f := q.1) r h
    obtain ⟨ws'', h3, h4⟩ := rke_merge t h2
    refine ⟨ws'', ?_, h4⟩
    show mergeK (putK (keyed ws) (.inr p.1) p.2) (keyed ms) = _
    rw [show p.1 = q.1 from e, h1, h3]
  | [], _ :: _, _, _, h, _ => h.elim
  | _ :: _, [], _, _, h, _ => h.elim
theorem keyed_len (ws : List (Str × V)) : (keyed ws).length = ws.length := by simp [keyed]
/-- a dict of things that change: read, and written -/
theorem dsn_at (R : Rel K b A own H σ s) {v : V} {j : Nat} {fs : List (Str × En)} (E : ER K A own H v (.mu j)) (g : gm s.ms j = .ins .dct fs) :
    ∃ p ws, v = .ref p ∧ H p = some (.dK (keyed ws)) ∧ RKE K A own H ws fs ∧ ∀ (ws' : List (Str × V)) fs', RKE K A own H ws' fs' → Rel K b A own (upd H p (.dK (keyed ws'))) σ (s.sM j (.ins .dct fs')) ∧ Up A own H A own (upd H p (.dK (keyed ws'))) := by
  have m := R.mr j
  rw [g] at m
  obtain ⟨p, r, ws, e1, ⟨rfl, e2⟩, e3⟩ := m
  obtain ⟨p', r, e4, rfl⟩ := E
  rw [e1] at e4
  cases e4
  refine ⟨p, ws, rfl, e2, e3, fun vs' ds' r' => ?_⟩
  refine R.chg j (.ins .dct ds') (fun a o n h => ?_) (fun a h => ?_) (fun u => ?_) (gm_lt (by rw [g]; intro z; cases z))
  · rw [upd_ne]; exact h
    intro z; subst z; exact n (by rw [e1]; simp)
  · rw [e1] at h
    cases List.mem_singleton.mp h
    rw [upd_same]; intro z; cases z
  · rw [e1]; exact ⟨p, [], vs', rfl, ⟨rfl, upd_same⟩, r'.up u⟩
/-- what a dict has behind a key -/
theorem dvl_at (R : Rel K b A own H σ s) {v : V} {j : Nat} {key : Key} {o : Option En} (E : ER K A own H v (.mu j)) (g : dvl s.ms j key = some o) :
    ∃ p ws, v = .ref p ∧ H p = some (.dK ws) ∧ ((o = none ∧ valV ws key = none) ∨ ∃ y u, o = some y ∧ valV ws key = some u ∧ ER K A own H u y) := by
  unfold dvl at g
  split at g
  · rename_i kvs g0
    cases g
    obtain ⟨p, vs, rfl, e2, e3, _, _⟩ := mud_at R E g0
    refine ⟨p, vs, rfl, e2, ?_⟩
    rcases e3.find (k := key) with ⟨q1, q2⟩ | ⟨d, u, q1, q2, q3⟩
    · exact .inl ⟨by rw [q1]; rfl, q2⟩
    · exact .inr ⟨.da d, u, by rw [q1]; rfl, q2, q3⟩
  · rename_i fs g0
    cases g
    obtain ⟨p, ws, rfl, e2, e3, _⟩ := dsn_at R E g0
    refine ⟨p, _, rfl, e2, ?_⟩
    cases key with
    | inl i => exact .inl ⟨rfl, rke_inl ws⟩
    | inr f => exact rke_find e3
  · cases g
end
section
variable {X : L2.Cx} {a c e f : Expr} {es : List Expr} {wa wc we wf : WE} {wr : WA} {pos : Pos}
def dky (x : En) (k : Key → Prop) : Prop := daI x fun kd => onO (keyD kd) k
theorem dky_inv {K : PySem.W.Frag} {A : Addr → Prop} {own : List (List Addr)} {H : Hp} {v : V} {x : En} {k : Key → Prop} (E : ER K A own H v x) (h : dky x k) : ∃ key, v = kV key ∧ k key := by
  obtain ⟨kd, rfl, h⟩ := daI_inv h
  obtain ⟨key, hk, h⟩ := onO_inv h
  exact ⟨key, keyD_rp E hk, h⟩
def dGetG (wd wk : WE) : WE := fun s Ks => wd s fun s1 o => wk s1 fun s2 i => dky i fun key => ∃ j y, o = .mu j ∧ dvl s2.ms j key = some (some y) ∧ Ks s2 y
theorem de_dgetG (hu : X.A.units + 1 < cLine) (ho : DE X a wa) (hi : DE X c wc) (hs : NoSl c := by exact fun _ _ => rfl) : DE X (.Subscript a c pos) (dGetG wa wc) := by
  obtain ⟨ta, pa, qa⟩ := ho.ex
  obtain ⟨tb, pb, qb⟩ := hi.ex
  refine ⟨_, pe_dget hu pa pb hs, fun b A own H σ s Ks Q R h k => ?_⟩
  show ta σ H fun x H1 => tb σ H1 fun y H2 => ∃ a v, x = .ref a ∧ DGet H2 a y (some v) ∧ Q v H2
  refine qa _ _ _ _ _ _ _ _ R h fun A1 o1 H1 v1 s1 x1 R1 U1 E1 h1 => ?_
  refine qb _ _ _ _ _ _ _ _ R1 h1 fun A2 o2 H2 v2 s2 x2 R2 U2 E2 h2 => ?_
  obtain ⟨key, rfl, j, y, rfl, g, h2⟩ := dky_inv E2 h2
  obtain ⟨p, ws, rfl, hp, q⟩ := dvl_at R2 (E1.up U2) g
  rcases q with ⟨q, _⟩ | ⟨y', u, q1, q2, q3⟩
  · cases q
  · cases q1
    exact ⟨p, u, rfl, by rw [← q2]; exact DGet.k hp, k _ _ _ _ _ y R2 (U1.trans U2) q3 h2⟩
def dInG (neg : Bool) (wk wd : WE) : WE := fun s Ks => wk s fun s1 i => wd s1 fun s2 o => dky i fun key => ∃ j r, o = .mu j ∧ dvl s2.ms j key = some r ∧ Ks s2 (.da (.bool (xr neg r.isSome)))
theorem inG_run {neg : Bool} {ta tb : TE} (qa : ∀ (b : Bd) (A : Addr → Prop) (own : List (List Addr)) (H : Hp) (σ : L2.St) (s : S) (Ks : S → En → Prop) (Q : VK), Rel X.K b A own H σ s → wa s Ks → PostE X.K b A own H σ Ks Q → ta σ H Q)
    (qb : ∀ (b : Bd) (A : Addr → Prop) (own : List (List Addr)) (H : Hp) (σ : L2.St) (s : S) (Ks : S → En → Prop) (Q : VK), Rel X.K b A own H σ s → wc s Ks → PostE X.K b A own H σ Ks Q → tb σ H Q)
    (b : Bd) (A : Addr → Prop) (own : List (List Addr)) (H : Hp) (σ : L2.St) (s : S) (Ks : S → En → Prop) (Q : VK) (R : Rel X.K b A own H σ s) (h : dInG neg wc wa s Ks) (k : PostE X.K b A own H σ Ks Q) :
    tb σ H fun y H1 => ta σ H1 fun x H2 => ∃ a o, x = .ref a ∧ DGet H2 a y o ∧ Q (.bl (xr neg o.isSome)) H2 := by
  refine qb _ _ _ _ _ _ _ _ R h fun A1 o1 H1 v1 s1 x1 R1 U1 E1 h1 => ?_
  refine qa _ _ _ _ _ _ _ _ R1 h1 fun A2 o2 H2 v2 s2 x2 R2 U2 E2 h2 => ?_
  obtain ⟨key, rfl, j, r, rfl, g, h2⟩ := dky_inv (E1.up U2) h2
  obtain ⟨p, ws, rfl, hp, q⟩ := dvl_at R2 E2 g
  refine ⟨p, _, rfl, DGet.k hp, ?_⟩
  rcases q with ⟨q, q2⟩ | ⟨y', u, q1, q2, q3⟩
  · rw [q2]; rw [q] at h2; exact (k.up (U1.trans U2)).da R2 Up.refl (.bl _) h2
  · rw [q2]; rw [q1] at h2; exact (k.up (U1.trans U2)).da R2 Up.refl (.bl _) h2
theorem de_dinG (hu : X.A.units + 1 < cLine) (hi : DE X c wc) (ho : DE X a wa) (hm : behindInMarks .In a = false := by rfl) : DE X (.Compare c [.In] [a] pos) (dInG false wc wa) := by
  obtain ⟨ta, pa, qa⟩ := ho.ex
  obtain ⟨tb, pb, qb⟩ := hi.ex
  exact ⟨_, pe_cmp (pc_din hu pb pa) hm, fun b A own H σ s Ks Q R h k => inG_run (neg := false) qa qb b A own H σ s Ks Q R h k⟩
theorem de_dnotinG (hu : X.A.units + 1 < cLine) (hi : DE X c wc) (ho : DE X a wa) (hm : behindInMarks .NotIn a = false := by rfl) : DE X (.Compare c [.NotIn] [a] pos) (dInG true wc wa) := by
  obtain ⟨ta, pa, qa⟩ := ho.ex
  obtain ⟨tb, pb, qb⟩ := hi.ex
  exact ⟨_, pe_cmp (pc_dnotin hu pb pa) hm, fun b A own H σ s Ks Q R h k => inG_run (neg := true) qa qb b A own H σ s Ks Q R h k⟩
theorem dt_dinG (hu : X.A.units + 1 < cLine) (hi : DE X c wc) (ho : DE X a wa) (hm : behindInMarks .In a = false := by rfl) : DT X (.Compare c [.In] [a] pos) (tT (dInG false wc wa)) := by
  obtain ⟨ta, pa, qa⟩ := ho.ex
  obtain ⟨tb, pb, qb⟩ := hi.ex
  exact ⟨_, pt_cmp (pc_din hu pb pa) hm, tT_run fun b A own H σ s Ks Q R h k => inG_run (neg := false) qa qb b A own H σ s Ks Q R h k⟩
theorem dt_dnotinG (hu : X.A.units + 1 < cLine) (hi : DE X c wc) (ho : DE X a wa) (hm : behindInMarks .NotIn a = false := by rfl) : DT X (.Compare c [.NotIn] [a] pos) (tT (dInG true wc wa)) := by
  obtain ⟨ta, pa, qa⟩ := ho.ex
  obtain ⟨tb, pb, qb⟩ := hi.ex
  exact ⟨_, pt_cmp (pc_dnotin hu pb pa) hm, tT_run fun b A own H σ s Ks Q R h k => inG_run (neg := true) qa qb b A own H σ s Ks Q R h k⟩
def orE (r : Option En) (x : En) : En := match r with | some y => y | none => x
def dGet2G (wd wk wx : WE) : WE := fun s Ks => wd s fun s1 o => (∃ j r, o = .mu j ∧ dvl s1.ms j (.inl 0) = some r) ∧ wk s1 fun s2 i => wx s2 fun s3 x => dky i fun key => ∃ j r, o = .mu j ∧ dvl s3.ms j key = some r ∧ Ks s3 (orE r x)
theorem de_get2G {apos cpos : Pos} (hu : X.A.units + 1 < cLine) (ho : DE X a wa) (hi : DE X c wc) (hx : DE X f wf) (m : M2 X a "get" apos c f cpos := by exact ⟨rfl, rfl, rfl, rfl⟩) : DE X (.Call (.Attribute a "get" apos) [c, f] [] cpos) (dGet2G wa wc wf) := by
  obtain ⟨ta, pa, qa⟩ := ho.ex
  obtain ⟨tb, pb, qb⟩ := hi.ex
  obtain ⟨tc, pc, qc⟩ := hx.ex
  refine ⟨_, pe_dget2 hu pa pb pc m, fun b A own H σ s Ks Q R h k => ?_⟩
  show ta σ H fun x H1 => ∃ a, x = .ref a ∧ IsD H1 a ∧ tb σ H1 fun y H2 => tc σ H2 fun z H3 => ∃ o, DGet H3 a y o ∧ Q (o.getD z) H3
  refine qa _ _ _ _ _ _ _ _ R h fun A1 o1 H1 v1 s1 x1 R1 U1 E1 h1 => ?_
  obtain ⟨⟨j, r, rfl, g⟩, h1⟩ := h1
  obtain ⟨p, ws, rfl, hp, _⟩ := dvl_at R1 E1 g
  refine ⟨p, rfl, .inl ⟨_, .inl hp⟩, ?_⟩
  refine qb _ _ _ _ _ _ _ _ R1 h1 fun A2 o2 H2 v2 s2 x2 R2 U2 E2 h2 => ?_
  refine qc _ _ _ _ _ _ _ _ R2 h2 fun A3 o3 H3 v3 s3 x3 R3 U3 E3 h3 => ?_
  obtain ⟨key, rfl, j', r', ej, g', h3⟩ := dky_inv (E2.up U3) h3
  cases ej
  obtain ⟨p', ws', ep, hp', q⟩ := dvl_at R3 (E1.up (U2.trans U3)) g'
  cases ep
  refine ⟨_, DGet.k hp', ?_⟩
  rcases q with ⟨q, q2⟩ | ⟨y', u, q1, q2, q3⟩
  · rw [q2]; rw [q] at h3; exact k _ _ _ _ _ x3 R3 ((U1.trans U2).trans U3) E3 h3
  · rw [q2]; rw [q1] at h3; exact k _ _ _ _ _ y' R3 ((U1.trans U2).trans U3) q3 h3
def dputW (ms : List MO) (j : Nat) (key : Key) (x : En) (k : List MO → Prop) : Prop :=
  (∃ kvs d, gm ms j = .dct kvs ∧ x = .da d ∧ kvs.length < sizeLine ∧ k (sm ms j (.dct (putD kvs key d)))) ∨ (∃ fs f, gm ms j = .ins .dct fs ∧ key = .inr f ∧ fs.length < sizeLine ∧ k (sm ms j (.ins .dct (putT fs f x))))
def gSetG (wo wi : WE) : WG := fun x s Ks => wo s fun s1 o => wi s1 fun s2 i => dky i fun key => ∃ j, o = .mu j ∧ dputW s2.ms j key x fun ms => Ks ⟨s2.es, ms, s2.np⟩
theorem dput_run {K : PySem.W.Frag} {b : Bd} {A : Addr → Prop} {own : List (List Addr)} {H : Hp} {σ : L2.St} {s : S} (R : Rel K b A own H σ s) {v u : V} {j : Nat} {key : Key} {x : En} (E : ER K A own H v (.mu j)) (Eu : ER K A own H u x) {k : List MO → Prop} (h : dputW s.ms j key x k) :
    ∃ p H', v = .ref p ∧ DPut H p (kV key) u H' ∧ ∃ ms, Rel K b A own H' σ ⟨s.es, ms, s.np⟩ ∧ Up A own H A own H' ∧ k ms := by
  rcases h with ⟨kvs, d, g, rfl, hl, h⟩ | ⟨fs, f, g, rfl, hl, h⟩
  · obtain ⟨p, vs, rfl, e2, e3, _, up⟩ := mud_at R E g
    obtain ⟨R3, U3⟩ := up _ _ (e3.put (k := key) Eu)
    exact ⟨p, _, rfl, DPut.k e2 (by rw [e3.len]; exact hl), _, R3, U3, h⟩
  · obtain ⟨p, ws, rfl, e2, e3, up⟩ := dsn_at R E g
    obtain ⟨ws', e4, e5⟩ := rke_put (f := f) Eu e3
    obtain ⟨R3, U3⟩ := up _ _ e5
    refine ⟨p, _, rfl, DPut.k (k := .inr f) e2 (by rw [keyed_len, e3.len]; exact hl), _, ?_, ?_, h⟩
    · rw [e4]; exact R3
    · rw [e4]; exact U3
theorem dg_setG (hu : X.A.units + 1 < cLine) (ho : DE X a wa) (hi : DE X c wc) (hh : ∀ v, assign (.Subscript a c pos) X.env v = (do
      let ov ← holding [v] (eval a X.env)
      let iv ← holding [v, ov] (eval c X.env)
      standAt pos
      holding [v, ov, iv] (setItem ov iv v)
      release [v, ov, iv] []) := by intro _; rfl) : DG X (.Subscript a c pos) [] (gSetG wa wc) := by
  obtain ⟨ta, pa, qa⟩ := ho.ex
  obtain ⟨tb, pb, qb⟩ := hi.ex
  refine ⟨_, pg_sub pa pb (set_dict hu) hh, fun b A own H σ s v x Ks Q R E h k => ?_⟩
  show ta σ H fun o H1 => tb σ H1 fun i H2 => rSetD o i v H2 fun H3 => Q σ H3
  refine qa _ _ _ _ _ _ _ _ R h fun A1 o1 H1 v1 s1 x1 R1 U1 E1 h1 => ?_
  refine qb _ _ _ _ _ _ _ _ R1 h1 fun A2 o2 H2 v2 s2 x2 R2 U2 E2 h2 => ?_
  obtain ⟨key, rfl, j, rfl, hq⟩ := dky_inv E2 h2
  obtain ⟨p, H', rfl, hd, ms, R3, U3, h3⟩ := dput_run R2 (E1.up U2) (E.up (U1.trans U2)) hq
  exact ⟨p, H', rfl, hd, k _ _ _ _ _ R3 ((U1.trans U2).trans U3) Sto.refl h3⟩
end
/-! ### d.update(other), d.pop(k), displays, sorted(d) -/
section
variable {X : L2.Cx} {o e : Expr} {apos cpos : Pos} {td ty : TE}
def tDUpd (td ty : TE) : TE := fun σ H Q => td σ H fun x H1 => ∃ a, x = .ref a ∧ IsD H1 a ∧ ty σ H1 fun y H2 => ∃ kvs b more, y = .ref b ∧ a ≠ b ∧ H2 a = some (.dK kvs) ∧ H2 b = some (.dK more) ∧ kvs.length + more.length ≤ sizeLine ∧ Q .non (upd H2 a (.dK (mergeK kvs more)))
theorem pe_dupd (ho : PE X o td) (he : PE X e ty) (m : M1 X o "update" apos e cpos) : PE X (.Call (.Attribute o "update" apos) [e] [] cpos) (tDUpd td ty) := by
  refine ⟨fun pins s σ H Q I h => ?_⟩
  refine wpAny_Call_method m.base m.few m.line PySem.F.plainAttrs_dict PySem.F.slot_dict_update PySem.F.type_dict_update (thn (ho.run pins s σ H _ I h) fun u s1 ⟨x, H1, I1, rx, a, ex, d, q1⟩ => ?_)
  subst ex
  obtain rfl : u = Value.ref a := rx
  obtain ⟨t1, t2, _⟩ := isD_at I1 d
  refine ⟨t1, t2, ?_⟩
  rw [m.trees]
  refine Calls.callWith_builtin rfl (Calls.evalArgs_plain (Calls.spliced_cons (thn (he.run pins s1 σ H1 _ I1 q1) fun iv s2 ⟨y, H2, I2, ry, kvs, b, more, ey, ne, ea, eb, hl, q2⟩ => Calls.spliced_nil ?_)))
  subst ey
  obtain rfl : iv = Value.ref b := ry
  obtain ⟨z, hd, vs, rel, dd⟩ := dk_of I2.hok ea
  obtain ⟨z2, hd2, vs2, rel2, dd2⟩ := dk_of I2.hok eb
  refine call_meetsIn PySem.F.slot_dict_update dd.typeIs PySem.F.entry_dict_update (PySem.F.args_dict_update_2 _ _) (meets_dict_update (mixKind X.prog X.w) a b ne hd2) ⟨vs, vs2, dd, dd2, by rw [← rel.length, ← rel2.length]; exact hl, fun h' dd' _ hs => ⟨.non, _, d_write I2 (by rw [ea]; exact True.intro) hs (let ⟨q, _, _, hq, _⟩ := dd'; ⟨q, hq⟩) (dk_new (Nat.le_trans (length_mergeK _ _) hl) hd (KV.merge rel2 rel) dd'), rfl, q2⟩⟩
end
section
variable {X : L2.Cx} {a c e f : Expr} {es : List Expr} {wa wc we wf : WE} {wr : WA} {pos : Pos}
def dUpdG (wd wo : WE) : WE := fun s Ks => wd s fun s1 x => (∃ j fs, x = .mu j ∧ gm s1.ms j = .ins .dct fs) ∧ wo s1 fun s2 y => ∃ j i fs gs, x = .mu j ∧ y = .mu i ∧ i ≠ j ∧ gm s2.ms j = .ins .dct fs ∧ gm s2.ms i = .ins .dct gs ∧ fs.length + gs.length ≤ sizeLine ∧ Ks (s2.sM j (.ins .dct (mergeT fs gs))) (.da .none)
theorem de_updG {apos cpos : Pos} (ho : DE X a wa) (hi : DE X c wc) (m : M1 X a "update" apos c cpos := by exact ⟨rfl, rfl, rfl, rfl⟩) : DE X (.Call (.Attribute a "update" apos) [c] [] cpos) (dUpdG wa wc) := by
  obtain ⟨ta, pa, qa⟩ := ho.ex
  obtain ⟨tb, pb, qb⟩ := hi.ex
  refine ⟨_, pe_dupd pa pb m, fun b A own H σ s Ks Q R h k => ?_⟩
  show ta σ H fun x H1 => ∃ a, x = .ref a ∧ IsD H1 a ∧ tb σ H1 fun y H2 => ∃ kvs b more, y = .ref b ∧ a ≠ b ∧ H2 a = some (.dK kvs) ∧ H2 b = some (.dK more) ∧ kvs.length + more.length ≤ sizeLine ∧ Q .non (upd H2 a (.dK (mergeK kvs more)))
  refine qa _ _ _ _ _ _ _ _ R h fun A1 o1 H1 v1 s1 x1 R1 U1 E1 h1 => ?_
  obtain ⟨⟨j, fs, rfl, g⟩, h1⟩ := h1
  obtain ⟨p, ws, rfl, hp, _⟩ := dsn_at R1 E1 g
  refine ⟨p, rfl, .inl ⟨_, .inl hp⟩, ?_⟩
  refine qb _ _ _ _ _ _ _ _ R1 h1 fun A2 o2 H2 v2 s2 x2 R2 U2 E2 h2 => ?_
  obtain ⟨j', i, fs', gs, ej, rfl, ne, g', g2, hl, h3⟩ := h2
  cases ej
  obtain ⟨p', ws', ep, hp', r', up⟩ := dsn_at R2 (E1.up U2) g'
  cases ep
  obtain ⟨p2, ws2, rfl, hp2, r2, _⟩ := dsn_at R2 E2 g2
  obtain ⟨ws3, e3, r3⟩ := rke_merge r2 r'
  obtain ⟨R3, U3⟩ := up _ _ r3
  refine ⟨_, p2, _, rfl, fun z => ne ?_, hp', hp2, by rw [keyed_len, keyed_len, r'.len, r2.len]; exact hl, ?_⟩
  · obtain ⟨a1, r1, g1, ea⟩ := E2
    obtain ⟨a2, r2', g2', ea2⟩ := E1.up U2
    cases ea; cases ea2
    exact R2.dj i j p (by rw [g1, z]; simp) (by rw [g2']; simp)
  · rw [e3]
    exact k.da R3 ((U1.trans U2).trans U3) .non h3
def dropD (kvs : List (Key × D)) (k : Key) : List (Key × D) := kvs.filter fun kv => decide (kv.1 ≠ k)
theorem RKV.drop {K : PySem.W.Frag} {A : Addr → Prop} {H : Hp} {k : Key} : ∀ {ws : List (Key × V)} {kvs : List (Key × D)}, RKV K A H ws kvs → RKV K A H (dropK ws k) (dropD kvs k)
  | [], [], _ => trivial
  | p :: ws, q :: kvs, ⟨e, r, t⟩ => by
    unfold dropK dropD
    rw [List.filter_cons, List.filter_cons]
    by_cases h : q.1 = k
    · rw [if_neg (by simp [e.trans h]), if_neg (by simp [h])]; exact RKV.drop t
    · rw [if_pos (by simp; exact fun z => h (e.symm.trans z)), if_pos (by simp; exact h)]; exact ⟨e, r, RKV.drop t⟩
def dPopG (wd wk : WE) : WE := fun s Ks => wd s fun s1 x => (∃ j kvs, x = .mu j ∧ gm s1.ms j = .dct kvs) ∧ wk s1 fun s2 i => dky i fun key => ∃ j kvs d, x = .mu j ∧ gm s2.ms j = .dct kvs ∧ findD kvs key = some d ∧ Ks (s2.sM j (.dct (dropD kvs key))) (.da d)
theorem de_popG {apos cpos : Pos} (ho : DE X a wa) (hi : DE X c wc) (m : M1 X a "pop" apos c cpos := by exact ⟨rfl, rfl, rfl, rfl⟩) : DE X (.Call (.Attribute a "pop" apos) [c] [] cpos) (dPopG wa wc) := by
  obtain ⟨ta, pa, qa⟩ := ho.ex
  obtain ⟨tb, pb, qb⟩ := hi.ex
  refine ⟨_, pe_dpop1 pa pb m, fun b A own H σ s Ks Q R h k => ?_⟩
  show ta σ H fun x H1 => ∃ a, x = .ref a ∧ IsD H1 a ∧ tb σ H1 fun y H2 => ∃ kvs k v, H2 a = some (.dK kvs) ∧ y = kV k ∧ valV kvs k = some v ∧ Q v (upd H2 a (.dK (dropK kvs k)))
  refine qa _ _ _ _ _ _ _ _ R h fun A1 o1 H1 v1 s1 x1 R1 U1 E1 h1 => ?_
  obtain ⟨⟨j, kvs, rfl, g⟩, h1⟩ := h1
  obtain ⟨p, ws, rfl, hp, _⟩ := mud_at R1 E1 g
  refine ⟨p, rfl, .inl ⟨_, .inl hp⟩, ?_⟩
  refine qb _ _ _ _ _ _ _ _ R1 h1 fun A2 o2 H2 v2 s2 x2 R2 U2 E2 h2 => ?_
  obtain ⟨key, rfl, j', kvs', d, ej, g', hd, h3⟩ := dky_inv E2 h2
  cases ej
  obtain ⟨p', ws', ep, hp', r', _, up⟩ := mud_at R2 (E1.up U2) g'
  cases ep
  rcases r'.find (k := key) with ⟨q1, q2⟩ | ⟨d', v', q1, q2, q3⟩
  · rw [q1] at hd; cases hd
  · rw [q1] at hd; cases hd
    obtain ⟨R3, U3⟩ := up _ _ (r'.drop (k := key))
    exact ⟨ws', key, v', hp', rfl, q2, k.da R3 ((U1.trans U2).trans U3) (Rp.mono U3.kp q3) h3⟩
/-- the pairs of a display with texts as keys -/
structure DPs (X : L2.Cx) (pos : Pos) (keys : List (Option Expr)) (values : List Expr) (ks : List Str) (w : WA) : Prop where
  ex : ∃ trs, PPs X pos keys values trs ∧ ∀ (b : Bd) (A : Addr → Prop) (own : List (List Addr)) (H : Hp) (σ : L2.St) (s : S) (Ks : S → List En → Prop) (Q : List (V × V) → Hp → Prop), Rel X.K b A own H σ s → w s Ks →
    (∀ (A' : Addr → Prop) (own' : List (List Addr)) (H' : Hp) (s' : S) (xs : List En) (ws : List (Str × V)), Rel X.K b A' own' H' σ s' → Up A own H A' own' H' → RKE X.K A' own' H' ws (ks.zip xs) → ks.length = xs.length → Ks s' xs → Q (ws.map fun p => (V.str p.1, p.2)) H') → tPairs trs σ H Q
theorem dps_nil : DPs X pos [] [] [] aNil := ⟨_, pps_nil, fun b A own H σ s Ks Q R h k => k A own H s [] [] R Up.refl trivial rfl h⟩
theorem dps_cons {keys : List (Option Expr)} {values : List Expr} {ks : List Str} {x : Str} {i : Nat} {p1 : Pos} (hv : DE X e we) (hr : DPs X pos keys values ks wr) : DPs X pos (some (.Constant (.str x) i p1) :: keys) (e :: values) (x :: ks) (aCons we wr) := by
  obtain ⟨te, pe, qe⟩ := hv.ex
  obtain ⟨trs, pr, qr⟩ := hr.ex
  refine ⟨_, pps_cons pe_str pe pr, fun b A own H σ s Ks Q R h k => ?_⟩
  show te σ H fun y H2 => tPairs trs σ H2 fun ps H3 => Q ((.str x, y) :: ps) H3
  refine qe _ _ _ _ _ _ _ _ R h fun A1 o1 H1 v1 s1 x1 R1 U1 E1 h1 => ?_
  refine qr _ _ _ _ _ _ _ _ R1 h1 fun A2 o2 H2 s2 xs ws R2 U2 E2 hl h2 => ?_
  exact k A2 o2 H2 s2 (x1 :: xs) ((x, v1) :: ws) R2 (U1.trans U2) ⟨rfl, E1.up U2, E2⟩ (congrArg (· + 1) hl) h2
def dDisp (ks : List Str) (wr : WA) : WE := fun s Ks => wr (s.aM (.ins .dct [])) fun s1 xs => gm s1.ms s.ms.length = .ins .dct [] ∧ Ks (s1.sM s.ms.length (.ins .dct (mergeT [] (ks.zip xs)))) (.mu s.ms.length)
theorem de_disp {keys : List (Option Expr)} {values : List Expr} {ks : List Str} (h : DPs X pos keys values ks wr) (hall : keys.all (·.isSome) = true := by rfl) (hl : keys.length = values.length := by rfl) (h0 : keys ≠ [] := by exact fun z => nomatch z) (h15 : keys.length ≤ 15 := by decide) (hks : ks.length ≤ 15 := by decide) : DE X (.Dict keys values pos) (dDisp ks wr) := by
  obtain ⟨trs, p, q⟩ := h.ex
  refine ⟨_, pe_disp p hall hl h0 h15, fun b A own H σ s Ks Q R h k => ?_⟩
  show ∀ p, H p = none → tPairs trs σ (upd H p (.dK [])) fun ps H2 => H2 p = some (.dK []) ∧ ∃ kvs : List (Key × V), ps = kvs.map (fun kv => (kV kv.1, kv.2)) ∧ kvs.length ≤ 15 ∧ Q (.ref p) (upd H2 p (.dK (mergeK [] kvs)))
  intro p hp
  obtain ⟨R1, U1, g1⟩ := R.newMu (o := .dK []) hp (.ins .dct []) fun A' own' u => ⟨p, [], [], rfl, ⟨rfl, upd_same⟩, trivial⟩
  refine q _ _ _ _ _ _ _ _ R1 h fun A2 o2 H2 s2 xs ws R2 U2 E2 hlx h2 => ?_
  have E1 : ER X.K A2 o2 H2 (.ref p) (.mu s.ms.length) := ⟨p, [], U2.ow _ _ _ g1, rfl⟩
  obtain ⟨p', ws', ep, hp', r', up⟩ := dsn_at R2 E1 h2.1
  cases ep
  have w0 : ws' = [] := by
    cases ws' with
    | nil => rfl
    | cons _ _ => exact r'.elim
  subst w0
  obtain ⟨ws3, e3, r3⟩ := rke_merge E2 r'
  obtain ⟨R3, U3⟩ := up _ _ r3
  have hlen : ws.length ≤ 15 := by
    rw [E2.len, List.length_zip]
    omega
  refine ⟨hp', keyed ws, by simp [keyed, kV], by rw [keyed_len]; exact hlen, ?_⟩
  have e3 : mergeK [] (keyed ws) = keyed ws3 := e3
  rw [e3]
  exact k _ _ _ _ _ (.mu s.ms.length) R3 ((U1.trans U2).trans U3) (E1.up U3) h2.2
/-- sorted(d), the keys texts -/
def kTxt : List (Key × D) → Option (List Str)
  | [] => some []
  | (.inr x, _) :: r => match kTxt r with | some xs => some (x :: xs) | none => none
  | _ :: _ => none
def dkeysT (ms : List MO) (j : Nat) : Option (List Str) := match gm ms j with
  | .dct kvs => kTxt kvs
  | .ins .dct fs => some (fs.map (·.1))
  | _ => none
theorem kTxt_map : ∀ {kvs : List (Key × D)} {is : List Str}, kTxt kvs = some is → kvs.map (·.1) = is.map Sum.inr
  | [], _, h => by cases h; rfl
  | (.inr i, d) :: r, _, h => by
    unfold kTxt at h
    split at h
    · rename_i is q
      cases h
      rw [List.map_cons, List.map_cons, kTxt_map q]
    · cases h
  | (.inl x, d) :: r, _, h => by cases h
def cSortT : S → List En → (S → En → Prop) → Prop := fun s xs Ks => a1 xs fun o => ∃ j is, o = .mu j ∧ dkeysT s.ms j = some is ∧ is.length < 64 ∧ ∀ is' : List Str, is'.Perm is → sortedS is' = true → Ks s (.da (.list (is'.map .str)))
theorem rke_keys {K : PySem.W.Frag} {A : Addr → Prop} {own : List (List Addr)} {H : Hp} : ∀ {ws : List (Str × V)} {fs : List (Str × En)}, RKE K A own H ws fs → (keyed ws).map (·.1) = (fs.map (·.1)).map Sum.inr
  | [], [], _ => rfl
  | p :: ws, q :: fs, ⟨e, _, t⟩ => by
    show (Sum.inr p.1 : Key) :: (keyed ws).map (·.1) = _
    rw [rke_keys t, show p.1 = q.1 from e]; rfl
  | [], _ :: _, h => h.elim
  | _ :: _, [], h => h.elim
theorem cd_sortT {K : PySem.W.Frag} : CallD K (fun xs H Q => ∃ (a : Addr) (kvs : List (Key × V)) (ks : List Str), xs = [.ref a] ∧ Rd H a (.dK kvs) ∧ kvs.map (·.1) = ks.map Sum.inr ∧ ks.length < 64 ∧
    ∀ ys p, ys.Perm ks → sortedS ys = true → H p = none → Q (.ref p) (upd H p (.lst (ys.map V.str)))) cSortT := by
  intro b A own H σ s vs xs Ks Q R E h k
  obtain ⟨v, x, rfl, e1, j, is, rfl, g, hl, h⟩ := a1_inv E h
  unfold dkeysT at g
  split at g
  · rename_i kvs g0
    obtain ⟨d, vs, rfl, e2, e3, e4, _⟩ := mud_at R e1 g0
    exact ⟨d, vs, is, rfl, .inl e2, e3.keys.trans (kTxt_map g), hl, fun ys p h1 h2 hp => new_lst R k RpL.strs hp (h ys h1 h2)⟩
  · rename_i fs g0
    cases g
    obtain ⟨d, ws, rfl, e2, e3, _⟩ := dsn_at R e1 g0
    exact ⟨d, _, _, rfl, .inl e2, rke_keys e3, hl, fun ys p h1 h2 hp => new_lst R k RpL.strs hp (h ys h1 h2)⟩
  · cases g
theorem de_sortT {p : Pos} (hc : X.calm = true) (hg : Gl X "sorted") (hm : X.mg "sorted" = none) (ha : DE X a wa) (he : starEach (a :: []) X.env = (false, eval a X.env) :: starEach [] X.env := by rfl) : DE X (.Call (.Name "sorted" p) [a] [] pos) (dCall cSortT (aCons wa aNil)) := de_callB (call_sortedD hc) cd_sortT hg hm (by decide +kernel) (da_cons ha da_nil he) (he := he)
/-- {} for things that change -/
def dNewS : WE := fun s Ks => Ks (s.aM (.ins .dct [])) (.mu s.ms.length)
theorem de_newS : DE X (.Dict [] [] pos) dNewS := ⟨_, pe_dnewK, fun b A own H σ s Ks Q R h k => by
  intro p hp
  obtain ⟨R1, U1, g⟩ := R.newMu (o := .dK []) hp (.ins .dct []) fun A' own' u => ⟨p, [], [], rfl, ⟨rfl, upd_same⟩, trivial⟩
  exact k _ _ _ _ _ (.mu s.ms.length) R1 U1 ⟨p, [], g, rfl⟩ h⟩
end
end DL
namespace DL
open PySem L2 PySem.Spec PyProof.Rows
/-! ### trees of things that change -/
inductive Tr where
  | da (d : D)
  | lst (ds : List D)
  | dct (kvs : List (Key × D))
  | nd (sh : Sh) (fs : List (Str × Tr))
mutual
inductive Tre (ms : List MO) : En → Tr → List Nat → Prop
  | da (d : D) : Tre ms (.da d) (.da d) []
  | lst {k : Nat} {ds : List D} : gm ms k = .lst ds → Tre ms (.mu k) (.lst ds) [k]
  | dct {k : Nat} {kvs : List (Key × D)} : gm ms k = .dct kvs → Tre ms (.mu k) (.dct kvs) [k]
  | nd {k : Nat} {sh : Sh} {es : List (Str × En)} {fs : List (Str × Tr)} {js : List Nat} : gm ms k = .ins sh es → TreL ms es fs js → Tre ms (.mu k) (.nd sh fs) (k :: js)
inductive TreL (ms : List MO) : List (Str × En) → List (Str × Tr) → List Nat → Prop
  | nil : TreL ms [] [] []
  | cons {f : Str} {x : En} {t : Tr} {es : List (Str × En)} {fs : List (Str × Tr)} {js ks : List Nat} : Tre ms x t js → TreL ms es fs ks → TreL ms ((f, x) :: es) ((f, t) :: fs) (js ++ ks)
end
/-- behind: what stood off js is as it was; js' is of js, or new -/
structure Fr (ms : List MO) (js : List Nat) (ms' : List MO) (js' : List Nat) : Prop where
  len : ms.length ≤ ms'.length
  eq : ∀ i, i < ms.length → i ∉ js → gm ms' i = gm ms i
  new : ∀ i ∈ js', i ∈ js ∨ ms.length ≤ i
theorem Fr.refl {ms : List MO} {js : List Nat} : Fr ms js ms js := ⟨Nat.le_refl _, fun _ _ _ => rfl, fun _ h => .inl h⟩
theorem Fr.trans {ms ms' ms'' : List MO} {js js' js'' : List Nat} (h : Fr ms js ms' js') (g : Fr ms' js' ms'' js'') : Fr ms js ms'' js'' :=
  ⟨Nat.le_trans h.len g.len, fun i hi hn => (g.eq i (Nat.lt_of_lt_of_le hi h.len) fun z => (h.new i z).elim hn fun q => by omega).trans (h.eq i hi hn), fun i hi => by
    have := h.len
    rcases g.new i hi with z | z
    · exact h.new i z
    · exact .inr (by omega)⟩
mutual
theorem Tre.lt {ms : List MO} : ∀ {x : En} {t : Tr} {js : List Nat}, Tre ms x t js → ∀ i ∈ js, i < ms.length
  | _, _, _, .da _, _, h => by cases h
  | _, _, _, .lst g, i, h => by
    cases List.mem_singleton.mp h
    exact gm_lt (by rw [g]; intro z; cases z)
  | _, _, _, .dct g, i, h => by
    cases List.mem_singleton.mp h
    exact gm_lt (by rw [g]; intro z; cases z)
  | _, _, _, .nd g l, i, h => by
    rcases List.mem_cons.mp h with rfl | h
    · exact gm_lt (by rw [g]; intro z; cases z)
    · exact TreL.lt l i h
theorem TreL.lt {ms : List MO} : ∀ {es : List (Str × En)} {fs : List (Str × Tr)} {js : List Nat}, TreL ms es fs js → ∀ i ∈ js, i < ms.length
  | _, _, _, .nil, _, h => by cases h
  | _, _, _, .cons a b, i, h => by
    rcases List.mem_append.mp h with h | h
    · exact Tre.lt a i h
    · exact TreL.lt b i h
end
mutual
theorem Tre.eq {ms ms' : List MO} : ∀ {x : En} {t : Tr} {js : List Nat}, Tre ms x t js → (∀ i ∈ js, gm ms' i = gm ms i) → Tre ms' x t js
  | _, _, _, .da d, _ => .da d
  | _, _, _, .lst g, h => .lst ((h _ (List.mem_singleton.mpr rfl)).trans g)
  | _, _, _, .dct g, h => .dct ((h _ (List.mem_singleton.mpr rfl)).trans g)
  | _, _, _, .nd g l, h => .nd ((h _ List.mem_cons_self).trans g) (TreL.eq l fun i hi => h i (List.mem_cons_of_mem _ hi))
theorem TreL.eq {ms ms' : List MO} : ∀ {es : List (Str × En)} {fs : List (Str × Tr)} {js : List Nat}, TreL ms es fs js → (∀ i ∈ js, gm ms' i = gm ms i) → TreL ms' es fs js
  | _, _, _, .nil, _ => .nil
  | _, _, _, .cons a b, h => .cons (Tre.eq a fun i hi => h i (List.mem_append_left _ hi)) (TreL.eq b fun i hi => h i (List.mem_append_right _ hi))
end
theorem gm_app_lt {ms r : List MO} {i : Nat} (h : i < ms.length) : gm (ms ++ r) i = gm ms i := by rw [gm_app, if_pos h]
theorem Tre.app {ms r : List MO} {x : En} {t : Tr} {js : List Nat} (h : Tre ms x t js) : Tre (ms ++ r) x t js := h.eq fun i hi => gm_app_lt (h.lt i hi)
theorem Fr.app {ms r : List MO} {js : List Nat} : Fr ms js (ms ++ r) js := ⟨by simp, fun i hi _ => gm_app_lt hi, fun _ h => .inl h⟩
theorem Fr.appR {ms ms' r : List MO} {js js' : List Nat} (h : Fr ms js ms' js') : Fr ms js (ms' ++ r) js' := h.trans Fr.app
/-- another tree is as it was -/
theorem Tre.fr {ms ms' : List MO} {x : En} {t : Tr} {js js' ks : List Nat} (h : Tre ms x t ks) (f : Fr ms js ms' js') (d : ∀ i ∈ ks, i ∉ js) : Tre ms' x t ks ∧ ∀ i ∈ ks, i ∉ js' :=
  ⟨h.eq fun i hi => f.eq i (h.lt i hi) (d i hi), fun i hi z => (f.new i z).elim (d i hi) fun q => by have := h.lt i hi; omega⟩
inductive Stp where
  | f (ok : Sh → Bool) (s : Str)
  | i (n : Nat)
def isO (cs : List Str) : Sh → Bool | .obj c => decide (c ∈ cs) | _ => false
def isDc : Sh → Bool | .dct => true | _ => false
/-- .f of an own class; [f] of a dict -/
abbrev Stp.a (cs : List Str) (f : Str) : Stp := .f (isO cs) f
abbrev Stp.k (f : Str) : Stp := .f isDc f
def rd1 (ms : List MO) (x : En) (s : Stp) : Option En := match x with
  | .mu k => (match gm ms k with
    | .ins sh es => (match s with
      | .f ok f => (match ok sh with | true => getT es f | false => none)
      | .i n => (es[n]?).map (·.2))
    | _ => none)
  | _ => none
def rd (ms : List MO) : En → List Stp → Option En
  | x, [] => some x
  | x, s :: p => match rd1 ms x s with | some y => rd ms y p | none => none
def tget1 (t : Tr) (s : Stp) : Option Tr := match t with
  | .nd sh fs => (match s with
    | .f ok f => (match ok sh with | true => getT fs f | false => none)
    | .i n => (fs[n]?).map (·.2))
  | _ => none
def tget : Tr → List Stp → Option Tr
  | t, [] => some t
  | t, s :: p => match tget1 t s with | some u => tget u p | none => none
def tset1 (t : Tr) (s : Stp) (u : Tr) : Tr := match t with
  | .nd sh fs => (match s with
    | .f _ f => .nd sh (putE f u fs)
    | .i n => (match fs[n]? with | some q => .nd sh (fs.set n (q.1, u)) | none => .nd sh fs))
  | t => t
def tput : Tr → List Stp → Tr → Tr
  | _, [], u => u
  | t, s :: p, u => match tget1 t s with | some v => tset1 t s (tput v p u) | none => t
theorem getT_cons {α : Type} {f g : Str} {x : α} {r : List (Str × α)} : getT ((g, x) :: r) f = if g = f then some x else getT r f := by
  unfold getT
  rw [List.find?_cons]
  by_cases h : g = f
  · rw [if_pos h, show decide ((g, x).1 = f) = true from decide_eq_true h]; rfl
  · rw [if_neg h, show decide ((g, x).1 = f) = false from decide_eq_false h]
theorem TreL.look {ms : List MO} {s : Str} : ∀ {es : List (Str × En)} {fs : List (Str × Tr)} {js : List Nat} {t : Tr}, TreL ms es fs js → getT fs s = some t →
    ∃ x A j B, getT es s = some x ∧ Tre ms x t j ∧ js = A ++ j ++ B ∧ ∀ ms' u j', Tre ms' x u j' → (∀ i ∈ A, gm ms' i = gm ms i) → (∀ i ∈ B, gm ms' i = gm ms i) → TreL ms' es (putE s u fs) (A ++ j' ++ B)
  | _, _, _, t, .nil, e => by cases e
  | _, _, _, t, .cons (f := f) (x := x) (t := t0) (es := es) (fs := fs) (js := j0) (ks := ks) a b, e => by
    rw [getT_cons] at e
    by_cases h : f = s
    · rw [if_pos h] at e
      cases e
      refine ⟨x, [], j0, ks, by rw [getT_cons, if_pos h], a, rfl, fun ms' u j' hu _ hB => ?_⟩
      unfold putE
      rw [if_pos h]
      exact .cons hu (b.eq hB)
    · rw [if_neg h] at e
      obtain ⟨y, A, j, B, h1, h2, h3, h4⟩ := TreL.look b e
      refine ⟨y, j0 ++ A, j, B, by rw [getT_cons, if_neg h]; exact h1, h2, by rw [h3]; simp, fun ms' u j' hu hA hB => ?_⟩
      unfold putE
      rw [if_neg h]
      have := TreL.cons (f := f) (a.eq fun i hi => hA i (List.mem_append_left _ hi)) (h4 ms' u j' hu (fun i hi => hA i (List.mem_append_right _ hi)) hB)
      simpa using this
theorem TreL.item {ms : List MO} : ∀ {n : Nat} {es : List (Str × En)} {fs : List (Str × Tr)} {js : List Nat} {q : Str × Tr}, TreL ms es fs js → fs[n]? = some q →
    ∃ x A j B, es[n]? = some (q.1, x) ∧ Tre ms x q.2 j ∧ js = A ++ j ++ B ∧ ∀ ms' u j', Tre ms' x u j' → (∀ i ∈ A, gm ms' i = gm ms i) → (∀ i ∈ B, gm ms' i = gm ms i) → TreL ms' es (fs.set n (q.1, u)) (A ++ j' ++ B)
  | _, _, _, _, t, .nil, e => by simp at e
  | 0, _, _, _, t, .cons (f := f) (x := x) (t := t0) (es := es) (fs := fs) (js := j0) (ks := ks) a b, e => by
    simp at e
    subst e
    exact ⟨x, [], j0, ks, rfl, a, rfl, fun ms' u j' hu _ hB => .cons hu (b.eq hB)⟩
  | n + 1, _, _, _, t, .cons (f := f) (x := x) (t := t0) (es := es) (fs := fs) (js := j0) (ks := ks) a b, e => by
    obtain ⟨y, A, j, B, h1, h2, h3, h4⟩ := TreL.item (n := n) b (by simpa using e)
    refine ⟨y, j0 ++ A, j, B, by simpa using h1, h2, by rw [h3]; simp, fun ms' u j' hu hA hB => ?_⟩
    have := TreL.cons (f := f) (a.eq fun i hi => hA i (List.mem_append_left _ hi)) (h4 ms' u j' hu (fun i hi => hA i (List.mem_append_right _ hi)) hB)
    simpa using this
/-- one step in -/
theorem Tre.at1 {ms : List MO} {x : En} {t u : Tr} {s : Stp} {js : List Nat} (h : Tre ms x t js) (e : tget1 t s = some u) : ∃ k sh es fs ks y A j B, x = .mu k ∧ t = .nd sh fs ∧ js = k :: ks ∧ gm ms k = .ins sh es ∧ rd1 ms x s = some y ∧ Tre ms y u j ∧ ks = A ++ j ++ B ∧
    ∀ ms' u' j', Tre ms' y u' j' → gm ms' k = gm ms k → (∀ i ∈ A, gm ms' i = gm ms i) → (∀ i ∈ B, gm ms' i = gm ms i) → Tre ms' x (tset1 t s u') (k :: (A ++ j' ++ B)) := by
  cases h with
  | da d => cases e
  | lst g => cases e
  | dct g => cases e
  | @nd k sh es fs ks g l =>
    cases s with
    | f ok f =>
      unfold tget1 at e
      simp only at e
      cases hok : ok sh with
      | false => rw [hok] at e; cases e
      | true =>
        rw [hok] at e
        obtain ⟨y, A, j, B, h1, h2, h3, h4⟩ := l.look e
        refine ⟨k, sh, es, fs, ks, y, A, j, B, rfl, rfl, rfl, g, ?_, h2, h3, fun ms' u' j' hu hk hA hB => ?_⟩
        · unfold rd1
          simp only
          rw [g]
          simp only [hok]
          exact h1
        · exact .nd (hk.trans g) (h4 ms' u' j' hu hA hB)
    | i n =>
      unfold tget1 at e
      simp only at e
      cases q : fs[n]? with
      | none => rw [q] at e; cases e
      | some z =>
        rw [q] at e
        cases e
        obtain ⟨y, A, j, B, h1, h2, h3, h4⟩ := l.item q
        refine ⟨k, sh, es, fs, ks, y, A, j, B, rfl, rfl, rfl, g, ?_, h2, h3, fun ms' u' j' hu hk hA hB => ?_⟩
        · unfold rd1
          simp only
          rw [g]
          simp only
          rw [h1]; rfl
        · unfold tset1
          simp only
          rw [q]
          exact .nd (hk.trans g) (h4 ms' u' j' hu hA hB)
/-- at a path: what stands there, and how the whole is when it is otherwise there -/
theorem Tre.at {ms : List MO} : ∀ {p : List Stp} {x : En} {t u : Tr} {js : List Nat}, Tre ms x t js → js.Nodup → tget t p = some u →
    ∃ y ks, rd ms x p = some y ∧ Tre ms y u ks ∧ ks.Nodup ∧ (∀ i ∈ ks, i ∈ js) ∧ ∀ ms' u' ks', Tre ms' y u' ks' → ks'.Nodup → Fr ms ks ms' ks' → ∃ js', Tre ms' x (tput t p u') js' ∧ js'.Nodup ∧ Fr ms js ms' js'
  | [], x, t, u, js, h, hnd, e => by
    cases e
    exact ⟨x, js, rfl, h, hnd, fun _ z => z, fun ms' u' ks' h' nd' f => ⟨ks', h', nd', f⟩⟩
  | s :: p, x, t, u, js, h, hnd, e => by
    unfold tget at e
    cases q : tget1 t s with
    | none => rw [q] at e; cases e
    | some t1 =>
      rw [q] at e
      obtain ⟨k, sh, es, fs, ks0, x1, A, j, B, rfl, rfl, rfl, g, h1, h2, rfl, h4⟩ := h.at1 q
      have hl : ∀ i ∈ k :: (A ++ j ++ B), i < ms.length := h.lt
      obtain ⟨nk, nd1⟩ := List.nodup_cons.mp hnd
      have nd2 : (A ++ j).Nodup := (List.nodup_append.mp nd1).1
      have ndj : j.Nodup := (List.nodup_append.mp nd2).2.1
      obtain ⟨y, ks, r1, r2, r3, r4, r5⟩ := Tre.at h2 ndj e
      refine ⟨y, ks, by unfold rd; rw [h1]; exact r1, r2, r3, fun i hi => List.mem_cons_of_mem _ (List.mem_append_left _ (List.mem_append_right _ (r4 i hi))), fun ms' u' ks' h' nd' f => ?_⟩
      obtain ⟨j', f1, f2, f3⟩ := r5 ms' u' ks' h' nd' f
      have dA : ∀ i ∈ A, i ∉ j := fun i hi z => (List.nodup_append.mp nd2).2.2 i hi i z rfl
      have dB : ∀ i ∈ B, i ∉ j := fun i hi z => (List.nodup_append.mp nd1).2.2 i (List.mem_append_right _ z) i hi rfl
      have dAB : ∀ i ∈ A, i ∉ B := fun i hi z => (List.nodup_append.mp nd1).2.2 i (List.mem_append_left _ hi) i z rfl
      have dk : k ∉ j := fun z => nk (List.mem_append_left _ (List.mem_append_right _ z))
      have lA : ∀ i ∈ A, i < ms.length := fun i hi => hl i (List.mem_cons_of_mem _ (List.mem_append_left _ (List.mem_append_left _ hi)))
      have lB : ∀ i ∈ B, i < ms.length := fun i hi => hl i (List.mem_cons_of_mem _ (List.mem_append_right _ hi))
      have lk : k < ms.length := hl k List.mem_cons_self
      have nj : ∀ i, i < ms.length → i ∉ j → i ∉ j' := fun i hi hn z => (f3.new i z).elim hn fun q => by omega
      refine ⟨k :: (A ++ j' ++ B), ?_, ?_, f3.len, fun i hi hn => ?_, fun i hi => ?_⟩
      · unfold tput
        rw [q]
        exact h4 ms' _ j' f1 (f3.eq k lk dk) (fun i hi => f3.eq i (lA i hi) (dA i hi)) fun i hi => f3.eq i (lB i hi) (dB i hi)
      · refine List.nodup_cons.mpr ⟨fun z => ?_, List.nodup_append.mpr ⟨List.nodup_append.mpr ⟨(List.nodup_append.mp nd2).1, f2, fun a ha b hb e => ?_⟩, (List.nodup_append.mp nd1).2.1, fun a ha b hb e => ?_⟩⟩
        · rcases List.mem_append.mp z with z | z
          · rcases List.mem_append.mp z with z | z
            · exact nk (List.mem_append_left _ (List.mem_append_left _ z))
            · exact nj k lk dk z
          · exact nk (List.mem_append_right _ z)
        · subst e; exact nj a (lA a ha) (dA a ha) hb
        · subst e
          rcases List.mem_append.mp ha with ha | ha
          · exact dAB a ha hb
          · exact nj a (lB a hb) (dB a hb) ha
      · exact f3.eq i hi fun z => hn (List.mem_cons_of_mem _ (List.mem_append_left _ (List.mem_append_right _ z)))
      · rcases List.mem_cons.mp hi with rfl | hi
        · exact .inl List.mem_cons_self
        · rcases List.mem_append.mp hi with hi | hi
          · rcases List.mem_append.mp hi with hi | hi
            · exact .inl (List.mem_cons_of_mem _ (List.mem_append_left _ (List.mem_append_left _ hi)))
            · rcases f3.new i hi with z | z
              · exact .inl (List.mem_cons_of_mem _ (List.mem_append_left _ (List.mem_append_right _ z)))
              · exact .inr z
          · exact .inl (List.mem_cons_of_mem _ (List.mem_append_right _ hi))
theorem rd_split {ms : List MO} {x y : En} {s : Stp} {p : List Stp} (h : rd ms x (s :: p) = some y) : ∃ z, rd ms x [s] = some z ∧ rd ms z p = some y := by
  unfold rd at h
  cases q : rd1 ms x s with
  | none => rw [q] at h; cases h
  | some z => rw [q] at h; exact ⟨z, by unfold rd; rw [q]; rfl, h⟩
theorem rd_f {ms : List MO} {x y : En} {ok : Sh → Bool} {f : Str} (h : rd ms x [.f ok f] = some y) : ∃ k sh es, x = .mu k ∧ gm ms k = .ins sh es ∧ ok sh = true ∧ getT es f = some y := by
  unfold rd at h
  cases q : rd1 ms x (.f ok f) with
  | none => rw [q] at h; cases h
  | some z =>
    rw [q] at h
    cases h
    unfold rd1 at q
    cases x with
    | no => cases q
    | da d => cases q
    | mu k =>
      simp only at q
      cases g : gm ms k with
      | ins sh es =>
        rw [g] at q
        simp only at q
        cases hok : ok sh with
        | false => rw [hok] at q; cases q
        | true => rw [hok] at q; exact ⟨k, sh, es, rfl, g, hok, q⟩
      | _ => rw [g] at q; cases q
theorem rd_fld {s : S} {cs : List Str} {f : Str} {x y : En} {K : En → Prop} (h : rd s.ms x [.a cs f] = some y) (k : K y) : fldW cs s x fun _ _ fs => ∃ z, getT fs f = some z ∧ K z := by
  obtain ⟨j, sh, es, rfl, g, ho, q⟩ := rd_f h
  cases sh with
  | obj c => exact ⟨j, c, es, rfl, g, of_decide_eq_true ho, y, q, k⟩
  | _ => cases ho
theorem rd_key {s : S} {f : Str} {x y : En} {K : En → Prop} (h : rd s.ms x [.k f] = some y) (k : K y) : ∃ j z, x = .mu j ∧ dvl s.ms j (.inr f) = some (some z) ∧ K z := by
  obtain ⟨j, sh, es, rfl, g, ho, q⟩ := rd_f h
  cases sh with
  | dct => exact ⟨j, y, rfl, by unfold dvl; rw [g]; simp only [q], k⟩
  | _ => cases ho
/-- x.f -/
theorem rd_of1 {s : S} {cs : List Str} {f : Str} {x y : En} {K : En → Prop} (h : rd s.ms x [.a cs f] = some y) (k : K y) : fldW cs s x fun _ _ fs => ∃ z, getT fs f = some z ∧ K z := rd_fld h k
/-! what stands in a tree -/
theorem Tre.das {ms : List MO} {x : En} {d : D} {js : List Nat} (h : Tre ms x (.da d) js) : x = .da d ∧ js = [] := by cases h; exact ⟨rfl, rfl⟩
theorem Tre.lsts {ms : List MO} {x : En} {ds : List D} {js : List Nat} (h : Tre ms x (.lst ds) js) : ∃ k, x = .mu k ∧ gm ms k = .lst ds ∧ js = [k] := by cases h; exact ⟨_, rfl, by assumption, rfl⟩
theorem Tre.dcts {ms : List MO} {x : En} {ds : List (Key × D)} {js : List Nat} (h : Tre ms x (.dct ds) js) : ∃ k, x = .mu k ∧ gm ms k = .dct ds ∧ js = [k] := by cases h; exact ⟨_, rfl, by assumption, rfl⟩
theorem Tre.nds {ms : List MO} {x : En} {sh : Sh} {fs : List (Str × Tr)} {js : List Nat} (h : Tre ms x (.nd sh fs) js) : ∃ k es ks, x = .mu k ∧ gm ms k = .ins sh es ∧ TreL ms es fs ks ∧ js = k :: ks := by cases h; exact ⟨_, _, _, rfl, by assumption, by assumption, rfl⟩
theorem Tre.rdD {ms : List MO} {x : En} {t : Tr} {p : List Stp} {d : D} {js : List Nat} (h : Tre ms x t js) (hn : js.Nodup) (e : tget t p = some (.da d)) : rd ms x p = some (.da d) := by
  obtain ⟨y, ks, r1, r2, _⟩ := h.at hn e
  rw [r1, r2.das.1]
/-! writing at a place -/
theorem Fr.one {ms : List MO} {k : Nat} {m : MO} : Fr ms [k] (sm ms k m) [k] := ⟨by rw [sm_length]; exact Nat.le_refl _, fun i hi hn => by rw [gm_sm, if_neg fun z => hn (by simp [z.1])], fun i h => .inl h⟩
theorem gm_sm_self {ms : List MO} {k : Nat} {m : MO} (h : k < ms.length) : gm (sm ms k m) k = m := by rw [gm_sm, if_pos ⟨rfl, h⟩]
theorem gm_sm_ne {ms : List MO} {k i : Nat} {m : MO} (h : k ≠ i) : gm (sm ms k m) i = gm ms i := by rw [gm_sm, if_neg fun z => h z.1]
theorem gm_lt' {ms : List MO} {j : Nat} {m : MO} (g : gm ms j = m) (h : m ≠ .gone) : j < ms.length := gm_lt (by rw [g]; exact h)
theorem Tre.setL {ms : List MO} {k : Nat} {ds ds' : List D} (g : gm ms k = .lst ds) : Tre (sm ms k (.lst ds')) (.mu k) (.lst ds') [k] := .lst (gm_sm_self (gm_lt' g (fun z => nomatch z)))
theorem Tre.setD {ms : List MO} {k : Nat} {ds ds' : List (Key × D)} (g : gm ms k = .dct ds) : Tre (sm ms k (.dct ds')) (.mu k) (.dct ds') [k] := .dct (gm_sm_self (gm_lt' g (fun z => nomatch z)))
theorem nd_one {k : Nat} : [k].Nodup := List.nodup_cons.mpr ⟨List.not_mem_nil, List.nodup_nil⟩
theorem TreL.putE {ms : List MO} {f : Str} {y : En} {u : Tr} {jy : List Nat} (hy : Tre ms y u jy) : ∀ {es : List (Str × En)} {fs : List (Str × Tr)} {js : List Nat}, TreL ms es fs js →
    ∃ js', TreL ms (putE f y es) (DL.putE f u fs) js' ∧ (∀ i ∈ js', i ∈ js ∨ i ∈ jy) ∧ (js.Nodup → jy.Nodup → (∀ i ∈ jy, i ∉ js) → js'.Nodup)
  | _, _, _, .nil => ⟨jy ++ [], .cons hy .nil, fun i h => by simpa using h, fun _ h _ => by simpa using h⟩
  | _, _, _, .cons (f := g) (x := x) (t := t) (es := es) (fs := fs) (js := j0) (ks := ks) a b => by
    unfold DL.putE
    by_cases h : g = f
    · rw [if_pos h, if_pos h]
      refine ⟨jy ++ ks, .cons hy b, fun i hi => ?_, fun h1 h2 h3 => List.nodup_append.mpr ⟨h2, (List.nodup_append.mp h1).2.1, fun p hp q hq e => h3 p hp (by rw [e]; exact List.mem_append_right _ hq)⟩⟩
      rcases List.mem_append.mp hi with z | z
      · exact .inr z
      · exact .inl (List.mem_append_right _ z)
    · rw [if_neg h, if_neg h]
      obtain ⟨js', h1, h2, h3⟩ := TreL.putE hy b
      refine ⟨j0 ++ js', .cons a h1, fun i hi => ?_, fun n1 n2 n3 => List.nodup_append.mpr ⟨(List.nodup_append.mp n1).1, h3 (List.nodup_append.mp n1).2.1 n2 fun i hi z => n3 i hi (List.mem_append_right _ z), fun p hp q hq e => ?_⟩⟩
      · rcases List.mem_append.mp hi with z | z
        · exact .inl (List.mem_append_left _ z)
        · exact (h2 i z).imp (List.mem_append_right _) id
      · subst e
        rcases h2 p hq with z | z
        · exact (List.nodup_append.mp n1).2.2 p hp p z rfl
        · exact n3 p z (List.mem_append_left _ hp)
theorem TreL.any {ms : List MO} {f : Str} : ∀ {es : List (Str × En)} {fs : List (Str × Tr)} {js : List Nat}, TreL ms es fs js → (es.any fun q => decide (q.1 = f)) = (fs.any fun q => decide (q.1 = f))
  | _, _, _, .nil => rfl
  | _, _, _, .cons a b => by rw [List.any_cons, List.any_cons, TreL.any b]
theorem TreL.keys {ms : List MO} : ∀ {es : List (Str × En)} {fs : List (Str × Tr)} {js : List Nat}, TreL ms es fs js → es.map (·.1) = fs.map (·.1)
  | _, _, _, .nil => rfl
  | _, _, _, .cons a b => by rw [List.map_cons, List.map_cons, TreL.keys b]
theorem TreL.getN {ms : List MO} {f : Str} : ∀ {es : List (Str × En)} {fs : List (Str × Tr)} {js : List Nat}, TreL ms es fs js → getT fs f = none → getT es f = none
  | _, _, _, .nil, _ => rfl
  | _, _, _, .cons (f := g) a b, e => by
    rw [getT_cons] at e ⊢
    by_cases h : g = f
    · rw [if_pos h] at e; cases e
    · rw [if_neg h] at e ⊢; exact TreL.getN b e
theorem TreL.snoc {ms : List MO} {f : Str} {y : En} {u : Tr} {jy : List Nat} (hy : Tre ms y u jy) : ∀ {es : List (Str × En)} {fs : List (Str × Tr)} {js : List Nat}, TreL ms es fs js → TreL ms (es ++ [(f, y)]) (fs ++ [(f, u)]) (js ++ jy)
  | _, _, _, .nil => by simpa using TreL.cons (f := f) hy .nil
  | _, _, _, .cons (f := g) a b => by
    have := TreL.cons (f := g) a (TreL.snoc (f := f) hy b)
    simpa using this
/-- data under a key -/
theorem TreL.mapD {ms : List MO} {f : Str} {d : D} : ∀ {es : List (Str × En)} {fs : List (Str × Tr)} {js : List Nat}, TreL ms es fs js →
    ∃ js', TreL ms (es.map fun q => if q.1 = f then (q.1, .da d) else q) (fs.map fun q => if q.1 = f then (q.1, .da d) else q) js' ∧ js'.Sublist js
  | _, _, _, .nil => ⟨[], .nil, List.Sublist.refl _⟩
  | _, _, _, .cons (f := g) (js := j0) a b => by
    obtain ⟨js', h1, h2⟩ := TreL.mapD (f := f) (d := d) b
    rw [List.map_cons, List.map_cons]
    by_cases h : g = f
    · rw [if_pos h, if_pos h]
      exact ⟨[] ++ js', .cons (.da d) h1, h2.trans (List.sublist_append_right _ _)⟩
    · rw [if_neg h, if_neg h]
      exact ⟨j0 ++ js', .cons a h1, List.Sublist.append (List.Sublist.refl _) h2⟩
/-- what comes of a node when its children are others -/
theorem Tre.renew {ms : List MO} {k : Nat} {sh : Sh} {es : List (Str × En)} {fs : List (Str × Tr)} {js' : List Nat} (hk : k < ms.length) (hn : k ∉ js') (l : TreL ms es fs js') : Tre (sm ms k (.ins sh es)) (.mu k) (.nd sh fs) (k :: js') :=
  .nd (gm_sm_self hk) (l.eq fun i hi => gm_sm_ne fun z => hn (z ▸ hi))
theorem Fr.sm {ms : List MO} {k : Nat} {m : MO} {js js' : List Nat} (hk : k ∈ js) (h : ∀ i ∈ js', i ∈ js ∨ ms.length ≤ i) : Fr ms js (sm ms k m) js' := ⟨by rw [sm_length]; exact Nat.le_refl _, fun i hi hn => gm_sm_ne fun z => hn (z ▸ hk), h⟩
/-- an object's field, or a dict's key, is data from here on -/
theorem Tre.fldD {ms : List MO} {x : En} {sh : Sh} {fs : List (Str × Tr)} {js : List Nat} (h : Tre ms x (.nd sh fs) js) (hn : js.Nodup) (f : Str) (d : D) :
    ∃ k es js', x = .mu k ∧ gm ms k = .ins sh es ∧ Tre (sm ms k (.ins sh (putE f (.da d) es))) x (.nd sh (putE f (.da d) fs)) js' ∧ js'.Nodup ∧ Fr ms js (sm ms k (.ins sh (putE f (.da d) es))) js' := by
  obtain ⟨k, es, ks, rfl, g, l, rfl⟩ := h.nds
  obtain ⟨hk, hks⟩ := List.nodup_cons.mp hn
  obtain ⟨js', h1, h2, h3⟩ := l.putE (f := f) (Tre.da d)
  have h2' : ∀ i ∈ js', i ∈ ks := fun i hi => (h2 i hi).elim id fun z => by cases z
  exact ⟨k, es, k :: js', rfl, g, .renew (gm_lt' g (fun z => nomatch z)) (fun z => hk (h2' _ z)) h1, List.nodup_cons.mpr ⟨fun z => hk (h2' _ z), h3 hks List.nodup_nil fun _ z => by cases z⟩, .sm List.mem_cons_self fun i hi => by
    rcases List.mem_cons.mp hi with rfl | hi
    · exact .inl List.mem_cons_self
    · exact .inl (List.mem_cons_of_mem _ (h2' i hi))⟩
theorem Tre.keyD {ms : List MO} {x : En} {sh : Sh} {fs : List (Str × Tr)} {js : List Nat} (h : Tre ms x (.nd sh fs) js) (hn : js.Nodup) (f : Str) (d : D) :
    ∃ k es js', x = .mu k ∧ gm ms k = .ins sh es ∧ es.length = fs.length ∧ Tre (sm ms k (.ins sh (putT es f (.da d)))) x (.nd sh (putT fs f (.da d))) js' ∧ js'.Nodup ∧ Fr ms js (sm ms k (.ins sh (putT es f (.da d)))) js' := by
  obtain ⟨k, es, ks, rfl, g, l, rfl⟩ := h.nds
  obtain ⟨hk, hks⟩ := List.nodup_cons.mp hn
  obtain ⟨js', h1, h2⟩ : ∃ js', TreL ms (putT es f (.da d)) (putT fs f (.da d)) js' ∧ js'.Sublist ks := by
    unfold putT
    rw [l.any]
    split
    · exact l.mapD
    · exact ⟨ks ++ [], l.snoc (.da d), by simp⟩
  exact ⟨k, es, k :: js', rfl, g, by have := congrArg List.length l.keys; simpa using this, .renew (gm_lt' g (fun z => nomatch z)) (fun z => hk (h2.subset z)) h1, List.nodup_cons.mpr ⟨fun z => hk (h2.subset z), h2.nodup hks⟩, .sm List.mem_cons_self fun i hi => by
    rcases List.mem_cons.mp hi with rfl | hi
    · exact .inl List.mem_cons_self
    · exact .inl (List.mem_cons_of_mem _ (h2.subset hi))⟩
/-- a new thing in an object's field -/
theorem Tre.fldN {ms : List MO} {x y : En} {sh : Sh} {fs : List (Str × Tr)} {js jy : List Nat} {u : Tr} (h : Tre ms x (.nd sh fs) js) (hn : js.Nodup) (f : Str) (hy : Tre ms y u jy) (hny : jy.Nodup) (hd : ∀ i ∈ jy, i ∉ js) :
    ∃ k es js', x = .mu k ∧ gm ms k = .ins sh es ∧ es.length = fs.length ∧ Tre (sm ms k (.ins sh (putE f y es))) x (.nd sh (putE f u fs)) js' ∧ js'.Nodup ∧ (∀ i ∈ js', i ∈ js ∨ i ∈ jy) ∧ k ∈ js := by
  obtain ⟨k, es, ks, rfl, g, l, rfl⟩ := h.nds
  obtain ⟨hk, hks⟩ := List.nodup_cons.mp hn
  obtain ⟨js', h1, h2, h3⟩ := l.putE (f := f) hy
  have hk' : k ∉ js' := fun z => (h2 k z).elim hk fun q => hd k q List.mem_cons_self
  exact ⟨k, es, k :: js', rfl, g, by have := congrArg List.length l.keys; simpa using this, .renew (gm_lt' g (fun z => nomatch z)) hk' h1, List.nodup_cons.mpr ⟨hk', h3 hks hny fun i hi z => hd i hi (List.mem_cons_of_mem _ z)⟩, fun i hi => by
    rcases List.mem_cons.mp hi with rfl | hi
    · exact .inl List.mem_cons_self
    · exact (h2 i hi).imp (List.mem_cons_of_mem _) id, List.mem_cons_self⟩
/-- a new thing behind a new key -/
theorem Tre.keyN {ms : List MO} {x y : En} {sh : Sh} {fs : List (Str × Tr)} {js jy : List Nat} {u : Tr} (h : Tre ms x (.nd sh fs) js) (hn : js.Nodup) (f : Str) (hf : getT fs f = none) (hy : Tre ms y u jy) (hny : jy.Nodup) (hd : ∀ i ∈ jy, i ∉ js) :
    ∃ k es js', x = .mu k ∧ gm ms k = .ins sh es ∧ es.length = fs.length ∧ Tre (sm ms k (.ins sh (putT es f y))) x (.nd sh (fs ++ [(f, u)])) js' ∧ js'.Nodup ∧ (∀ i ∈ js', i ∈ js ∨ i ∈ jy) ∧ k ∈ js := by
  obtain ⟨k, es, ks, rfl, g, l, rfl⟩ := h.nds
  obtain ⟨hk, hks⟩ := List.nodup_cons.mp hn
  have he : putT es f y = es ++ [(f, y)] := by
    unfold putT
    rw [if_neg]
    intro z
    have := l.getN hf
    unfold getT at this
    rw [Option.map_eq_none_iff, List.find?_eq_none] at this
    obtain ⟨q, h1, h2⟩ := List.any_eq_true.mp z
    exact this q h1 h2
  have hk' : k ∉ ks ++ jy := fun z => (List.mem_append.mp z).elim hk fun q => hd k q List.mem_cons_self
  exact ⟨k, es, k :: (ks ++ jy), rfl, g, by have := congrArg List.length l.keys; simpa using this, by rw [he]; exact .renew (gm_lt' g (fun z => nomatch z)) hk' (l.snoc hy), List.nodup_cons.mpr ⟨hk', List.nodup_append.mpr ⟨hks, hny, fun p hp q hq e => hd q hq (List.mem_cons_of_mem _ (e ▸ hp))⟩⟩, fun i hi => by
    rcases List.mem_cons.mp hi with rfl | hi
    · exact .inl List.mem_cons_self
    · exact (List.mem_append.mp hi).imp (List.mem_cons_of_mem _) id, List.mem_cons_self⟩
end DL
namespace DL
open PySem L2 PySem.Spec PyProof.Rows LamX NdefX
/-! ### lambdas with parameters and captured names, as sort keys -/
structure LF where
  qual : Str
  params : Arguments
  body : Expr
  scope : Scope
  cl : List (Str × Addr)
  c : Addr
abbrev LF.nf (F : LF) : NF := ⟨"<lambda>", F.qual, F.params, [], F.scope, F.cl, F.c⟩
abbrev LF.ob (F : LF) (pm ctv : Value) : Obj := PySem.W.kla_obj "<lambda>" F.qual F.params F.body F.scope F.cl pm F.c ctv
def LmO (f : Addr) (F : LF) : HO := .ext fun h => ∃ pm ctv : Value, h.get? f = some (F.ob pm ctv)
section
variable {X : Cx} {pins : List (Addr × Obj)} {σ : L2.St} {H : Hp} {s : Shared}
theorem inv_lm {F : LF} {t' : Nat} {pm ctv : Value} (I : Inv X pins σ H s) : Inv X pins σ (upd H s.heap.objs.size (LmO s.heap.objs.size F)) { s with heap := s.heap.push (F.ob pm ctv), toks := t' } := by
  have e : (s.heap.push (F.ob pm ctv)).get? s.heap.objs.size = some (F.ob pm ctv) := Heap.get?_push_size _ rfl
  exact I.laid (a := s.heap.objs.size) (fun b u q => Heap.get?_push_of_some _ q) (Nat.le_refl _) ⟨⟨pm, ctv, e⟩, ⟨_, e⟩, fun h1 h2 ⟨p, t, z⟩ st => ⟨p, t, st _ z⟩⟩
/-- what the table tells, of the name q -/
def TOk (H : Hp) (q : Str) (ps : Array Value) : Prop := TriplesOk ps.toList ∧ ∀ (p : Pos) (cv : Value), codeAmong p ps.toList = some cv → ∃ c, cv = .ref c ∧ H c = some (CodeO c q)
theorem lm_make {c P : Addr} {ps : Array Value} {params : Arguments} {body : Expr} {scope : Scope} {pos : Pos} {E : Value → Shared → Prop} {Q : Value → Shared → Prop} (I : Inv X pins σ H s) (TB : TabB X.base X.mg c P) (hcode : X.env.code = .ref c)
    (hP : H P = some (.tbl ps)) (hT : TOk H (X.env.qual ++ "<lambda>") ps) (hdef : defaultsOf params X.env = ([], [])) (hfree : ∀ y ∈ scope.names, y.2 = .free → ∃ c, X.env.cells.lookup y.1 = some c)
    (h : ∀ (f c' : Addr) (ps' : Array Value) (H1 : Hp) (s' : Shared), (∀ b o, b ≠ P → H b = some o → H1 b = some o) → H1 P = some (.tbl ps') → TOk H1 (X.env.qual ++ "<lambda>") ps' → (∀ p cv, codeAmong p ps'.toList = some cv → ∃ c, cv = .ref c ∧ (H c = none ∨ codeAmong p ps.toList = some cv)) →
      H1 f = none → H1 c' = some (CodeO c' (X.env.qual ++ "<lambda>")) → Inv X pins σ (upd H1 f (LmO f ⟨X.env.qual ++ "<lambda>", params, body, scope, cloFrom X.env.cells scope.names [], c'⟩)) s' → Q (.ref f) s') :
    wpAny (model X.prog X.w) X.A (eval (.Lambda params body scope pos) X.env) Q E s := by
  obtain ⟨ht, ha⟩ := hT
  refine PySem.W.kla_eval hdef ?_
  have hP0 := I.hok P _ hP
  have hb := TB.bm.keeps I.bk
  rcases hq : codeAmong pos ps.toList with _ | cv
  · refine PySem.W.kla_makeFunction (P := P) (ps := ps) (closure_ok hfree) I.ok.glob (I.mod.glob.keeps I.bk) hcode (TB.code.keeps I.bk) hP0 ht hq TB.gP hb fun c' ctv h' tk hx hge hlt hrec htb => ?_
    obtain ⟨cc, oc, vs, t, ecc, hoc, hd, hv⟩ := hrec
    cases ecc
    have nC := I.hok.fresh hge
    have nPc := ne_of_none hP nC
    have I1 := inv_table (t' := tk) (h' := h') I hP (fun b o n e => hx b o n e) htb hge ⟨oc, vs, t, hoc, hd, hv⟩
    have stay : ∀ b o, b ≠ P → H b = some o → upd (upd H P (.tbl (ps ++ #[rawInt pos.line, rawInt pos.col, .ref c']))) c' (CodeO c' (X.env.qual ++ "<lambda>")) b = some o := fun b o n e => by
      rw [upd_ne (ne_of_none e nC), upd_ne n]; exact e
    have eL : (ps ++ #[rawInt pos.line, rawInt pos.col, .ref c']).toList = ps.toList ++ [rawInt pos.line, rawInt pos.col, .ref c'] := by simp
    have atP : ∀ p cv, codeAmong p (ps ++ #[rawInt pos.line, rawInt pos.col, .ref c']).toList = some cv → codeAmong p ps.toList = some cv ∨ cv = .ref c' := fun p cv e => by
      rw [eL] at e
      exact among_app _ ht e
    refine h h'.objs.size c' _ _ _ stay (by rw [upd_ne nPc, upd_same]) ⟨by rw [eL]; exact TriplesOk_snoc _ _ _ _ ht, fun p cv e => ?_⟩ (fun p cv e => ?_) (I1.hok.fresh (Nat.le_refl _)) upd_same (inv_lm I1)
    · rcases atP p cv e with z | rfl
      · obtain ⟨c0, e1, e2⟩ := ha p cv z
        exact ⟨c0, e1, stay _ _ (fun y => by rw [y, hP] at e2; exact codeO_ne ps (Option.some.inj e2).symm) e2⟩
      · exact ⟨_, rfl, upd_same⟩
    · rcases atP p cv e with z | rfl
      · obtain ⟨c0, e1, _⟩ := ha p cv z
        exact ⟨c0, e1, .inr z⟩
      · exact ⟨_, rfl, .inl nC⟩
  · obtain ⟨c', rfl, hco⟩ := ha pos cv hq
    refine PySem.W.kla_makeFunctionHit (P := P) (ps := ps) (closure_ok hfree) I.ok.glob (I.mod.glob.keeps I.bk) hcode (TB.code.keeps I.bk) hP0 ht hq hb fun ctv h' tk hx hsz => ?_
    have I1 : Inv X pins σ H { s with heap := h', toks := tk } := I.kept hx
    refine h h'.objs.size c' ps H _ (fun _ _ _ e => e) hP ⟨ht, ha⟩ (fun p cv e => ?_) (I1.hok.fresh (Nat.le_refl _)) hco (inv_lm I1)
    obtain ⟨c0, e1, _⟩ := ha p cv e
    exact ⟨c0, e1, .inr e⟩
end
/-- the lambda's call -/
theorem lm_call {P : Program} {w : World} {K : PySem.W.Frag} {mg : Str → Option Value} {base : Heap} {k : Nat} {f : Addr} {F : LF} {N ps fr : List Str} {A : Around} {outer : List Env} {s : Shared} {H : Hp} {us : List Value} {vs : List V} {ws : List (Option V)} {te : TE} {Q : VK} {E : XK}
    (S : NScope N ps fr F.scope) (hb : ∀ pm ctv, bindArgs (PySem.W.kla_fn "<lambda>" F.qual F.params F.body F.scope F.cl pm (.ref F.c) ctv) ⟨us, []⟩ = pure (ps.zip us)) (hr : Room (k + 1) A) (e0 : Env0 P w K mg base A outer s H)
    (hf : H f = some (LmO f F)) (hc : H F.c = some (CodeO F.c F.qual)) (C : CellsAt F.cl fr ws s.heap H) (r : Vals vs us) (hl : vs.length = ps.length)
    (pe : PE (ncx CX0 P w K mg base N F.nf f A outer s H E) F.body te) (q : te (startF N vs ws) H Q) : codeAny (model P w) A (.call (.ref f) ⟨us, []⟩) (CR CX0 outer P w H s Q E) s := by
  obtain ⟨⟨pm, ctv, ho⟩, _, _⟩ := e0.hok f _ hf
  have lim : s.heap.NoLimit := e0.mod.nolimit.keeps fun b o e => (e0.bs b o e).1
  refine PySem.W.kla_callFunE hr.depth ho rfl S.co S.gen rfl (codeO_at e0.hok hc) ?_
  rw [hb]
  refine wpAny_pure (wpAny_newFunctionEnv S.nocell (fun ⟨n, _⟩ hy => S.par n (List.of_mem_zip hy).1) (fun h₁ hns hsb => ⟨lim.fresh _ hsb, ?_⟩) S.kind)
  have kp : ∀ b o, s.heap.get? b = some o → h₁.get? b = some o := fun b o e => hsb.extBut b o (Nat.ne_of_lt (Heap.lt_size e)) (Heap.get?_push_of_some _ e)
  have I : Inv (ncx CX0 P w K mg base N F.nf f A outer s H E) [] (startF N vs ws) H { s with heap := h₁, toks := s.toks + (ps.zip us).length } := inv_startN S hr.hd e0 hl r C hns kp
  show codeAny _ _ (.expr F.body (envF F.nf f s.heap.objs.size)) _ _
  refine PySem.W.kla_codeExpr (wpAny_mono (pe.run [] _ _ H Q I q) (fun v s' ⟨w', H', J, rv, hq⟩ => ⟨w', H', J.os, J.bare, J.base, J.hok, rv, hq⟩) fun e s' hq => hq)
/-! ### sorted(xs, key=lambda ..) -/
/-- what the captured names hold, as data -/
structure WR (K : PySem.W.Frag) (A : Addr → Prop) (H : Hp) (ws : List (Option V)) (cs : List En) : Prop where
  len : ws.length = cs.length
  at_ : ∀ i, gt cs i = .no ∨ ∃ v d, ws[i]? = some (some v) ∧ gt cs i = .da d ∧ Rp K A H v d
def spLm (K : PySem.W.Frag) (f : Addr) (F : LF) (wb : WE) (key : D → D) (n : Nat) (ws : List (Option V)) : Sp := fun vs H Q _ => H f = some (LmO f F) ∧ H F.c = some (CodeO F.c F.qual) ∧ ∃ (v : V) (d : D) (A : Addr → Prop) (cs : List En), vs = [v] ∧ Rp K A H v d ∧ WR K A H ws cs ∧ (∀ a, A a → H a ≠ none) ∧
  wb ⟨.da d :: (cs ++ nos n), [], 0⟩ (fun _ r => r = .da (key d)) ∧ ∀ (A' : Addr → Prop) (H' : Hp) (v' : V), (∀ a o, H a = some o → H' a = some o) → (∀ a, A a → A' a) → Rp K A' H' v' (key d) → Q v' H'
theorem gt_app_lt : ∀ (l r : List En) (i : Nat), i < l.length → gt (l ++ r) i = gt l i
  | x :: l, r, 0, _ => rfl
  | x :: l, r, i + 1, h => gt_app_lt l r i (by simpa using h)
theorem gt_app_ge : ∀ (l r : List En) (i : Nat), l.length ≤ i → gt (l ++ r) i = gt r (i - l.length)
  | [], r, i, _ => by simp
  | x :: l, r, 0, h => by simp at h
  | x :: l, r, i + 1, h => by
    rw [List.length_cons, Nat.add_sub_add_right]
    exact gt_app_ge l r i (by simpa using h)
theorem lm_run {P : Program} {w : World} {K : PySem.W.Frag} {mg : Str → Option Value} {base : Heap} {k : Nat} {f : Addr} {F : LF} {N fr : List Str} {x : Str} {A : Around} {outer : List Env} {s : Shared} {H : Hp} {u : Value} {v : V} {ws : List (Option V)} {wb : WE} {key : D → D} {n : Nat} {Q : VK} {E : XK}
    (S : NScope N [x] fr F.scope) (hn : N.length = 1 + fr.length + n) (hb : ∀ pm ctv, bindArgs (PySem.W.kla_fn "<lambda>" F.qual F.params F.body F.scope F.cl pm (.ref F.c) ctv) ⟨[u], []⟩ = pure [(x, u)]) (hr : RoomG (k + 1) A) (e0 : Env0 P w K mg base A outer s H)
    (C : CellsAt F.cl fr ws s.heap H) (r : RelV v u) (hbody : ∀ (A : Around) (outer : List Env) (s : Shared) (H : Hp) (E : XK), RoomG k (A.deeper (envF F.nf f s.heap.objs.size)) → DE (ncx CX0 P w K mg base N F.nf f A outer s H E) F.body wb) (q : spLm K f F wb key n ws [v] H Q E) :
    codeAny (model P w) A (.call (.ref f) ⟨[u], []⟩) (CR CX0 outer P w H s Q E) s := by
  obtain ⟨hf, hc, v', d, Av, cs, ev, rd, W, al, hw, hk⟩ := q
  cases ev
  obtain ⟨te, pe, qe⟩ := (hbody A outer s H E ⟨hr.r.deeper _, hr.g⟩).ex
  refine lm_call (us := [u]) (vs := [v]) (ps := [x]) S hb hr.r e0 hf hc C (.cons r .nil) rfl pe ?_
  have hw1 : ws.length = fr.length := C.len
  have hcs : cs.length = fr.length := W.len.symm.trans hw1
  refine qe ⟨H, [], Av⟩ Av [] H _ ⟨.da d :: (cs ++ nos n), [], 0⟩ _ Q ⟨⟨rfl, fun _ => trivial, fun _ _ _ h => (by cases h), fun _ => List.nodup_nil, fun _ _ h => (by cases h), al⟩, ?_, fun i => ?_, fun _ h => h, fun _ _ _ h => h, fun _ _ h => (by cases h), rfl, Nat.le_refl _, fun _ h => .inl h, al⟩ hw ?_
  · show ([v].map some ++ (ws ++ List.replicate (N.length - [v].length - ws.length) none)).length = (.da d :: (cs ++ nos n) : List En).length
    simp [nos_length]
    omega
  · show gt (.da d :: (cs ++ nos n)) i = .no ∨ ∃ v', (some v :: (ws ++ List.replicate (N.length - 1 - ws.length) none))[i]? = some (some v') ∧ ER K Av [] H v' (gt (.da d :: (cs ++ nos n)) i)
    match i with
    | 0 => exact .inr ⟨v, rfl, rd⟩
    | i + 1 =>
      show gt (cs ++ nos n) i = .no ∨ ∃ v', (ws ++ List.replicate (N.length - 1 - ws.length) none)[i]? = some (some v') ∧ ER K Av [] H v' (gt (cs ++ nos n) i)
      by_cases hi : i < cs.length
      · rw [gt_app_lt _ _ _ hi]
        rcases W.at_ i with z | ⟨v1, d1, z1, z2, z3⟩
        · exact .inl z
        · exact .inr ⟨v1, by rw [List.getElem?_append_left (by rw [W.len]; exact hi)]; exact z1, by rw [z2]; exact z3⟩
      · rw [gt_app_ge _ _ _ (by omega)]; exact .inl (gt_nos _ _)
  · intro A' own' H' v' s' y R' U' ey hy
    subst hy
    exact hk A' H' v' (fun a o h => R'.fr a o (fun _ z => by cases z) h) R'.ge ey
/-- the lambda as a value -/
def tLm (P : Addr) (q : Str) (mk : Addr → LF) : TE := fun _ H Q => ∃ ps, H P = some (.tbl ps) ∧ TOk H q ps ∧ ∀ (f c' : Addr) (ps' : Array Value) (H1 : Hp), (∀ b o, b ≠ P → H b = some o → H1 b = some o) → H1 P = some (.tbl ps') → TOk H1 q ps' →
  (∀ p cv, codeAmong p ps'.toList = some cv → ∃ c, cv = .ref c ∧ (H c = none ∨ codeAmong p ps.toList = some cv)) → H1 f = none → H1 c' = some (CodeO c' q) → Q (.ref f) (upd H1 f (LmO f (mk c')))
theorem pe_lm {X : L2.Cx} {c P : Addr} {params : Arguments} {body : Expr} {scope : Scope} {pos : Pos} (TB : TabB X.base X.mg c P) (hcode : X.env.code = .ref c) (hdef : defaultsOf params X.env = ([], [])) (hfree : X.Ok → ∀ y ∈ scope.names, y.2 = .free → ∃ c, X.env.cells.lookup y.1 = some c) :
    PE X (.Lambda params body scope pos) (tLm P (X.env.qual ++ "<lambda>") fun c' => ⟨X.env.qual ++ "<lambda>", params, body, scope, cloFrom X.env.cells scope.names [], c'⟩) := by
  refine ⟨fun pins s σ H Q I h => ?_⟩
  obtain ⟨ps, hP, hT, h⟩ := h
  exact lm_make I TB hcode hP hT hdef (hfree I.ok) fun f c' ps' H1 s' e1 e2 e3 e4 e5 e6 I1 => ⟨.ref f, _, I1, rfl, h f c' ps' H1 e1 e2 e3 e4 e5 e6⟩
/-- calls of a built-in with keywords, the reading told of the names, too -/
theorem pe_callKs {X : L2.Cx} {x : Str} {id : String} {ks : List Str} {r : L2.St → List V → List V → Hp → VK → Prop} {e : Expr} {es : List Expr} {kws : List Keyword} {t tk : TA} {p pos : Pos}
    (hc : ∀ (pins : List (Addr × Obj)) (s : Shared) (σ : L2.St) (H : Hp) (xs zs : List V) (us ws : List Value) (Q : VK), Inv X pins σ H s → Vals xs us → Vals zs ws → r σ xs zs H Q → wpAny (model X.prog X.w) X.A (PySem.call (.builtin id) us (ks.zip ws)) (EP X pins σ Q) X.xe s)
    (hg : Gl X x) (hm : X.mg x = none) (hv : bootBuiltins x = some (.builtin id)) (ha : PA X (e :: es) t) (hk : PK X kws tk) (hn : x ≠ "__name__" := by decide) (hdb : (x == ("__debug__" : Str)) = false := by decide)
    (he : backTo pos (starEach (e :: es) X.env) = (false, eval e X.env) :: backTo pos (starEach es X.env) := by rfl) (hpl : (backTo pos (starEach (e :: es) X.env)).any (·.1) = false := by rfl)
    (hall : (backToKw pos (keywordEach kws X.env)).all (·.1.isSome) = true := by rfl) (hnone : (backToKw pos (keywordEach kws X.env)).any (·.1.isNone) = false := by rfl) (hks : (backToKw pos (keywordEach kws X.env)).filterMap (·.1) = ks := by rfl) :
    PE X (.Call (.Name x p) (e :: es) kws pos) (fun σ H Q => t σ H fun vs H1 => tk σ H1 fun zs H2 => r σ vs zs H2 Q) := by
  refine ⟨fun pins s σ H Q I h => wpAny_Call_Name_kw (ld_blt I hg hm hv ?_ hn hdb)⟩
  refine PyProof.Rows.callWith_kw (thn (ha.run pos pins s σ H _ I h) fun us s1 ⟨vs, H1, I1, r1, q1⟩ => thn (hk.run pos pins s1 σ H1 _ I1 q1) fun ws s2 ⟨zs, H2, I2, r2, q2⟩ => ?_) he hpl hall hnone
  rw [hks]
  exact hc pins s2 σ H2 vs zs us ws Q I2 r1 r2 q2
def rSortL (K : PySem.W.Frag) (mk : Addr → LF) (wb : WE) (n : Nat) (js : List Nat) : L2.St → List V → List V → Hp → VK → Prop := fun σ vs zs H Q => ∃ (key : D → D) (l f c' : Addr) (its : List V) (kz : List D), vs = [.ref l] ∧ zs = [.ref f] ∧ SqL K H l its ∧ kz.length = its.length ∧ canSort kz ∧
  KeyRun (spLm K f (mk c') wb key n (js.map (slotAt σ))) its [] H fun us H' => DpAll K H' us kz ∧ ∀ p, H' p = none → Q (.ref p) (upd H' p (.lst (sortV its kz)))
section
variable {X : L2.Cx}
theorem sortL_run {k n : Nat} {mk : Addr → LF} {wb : WE} {N fr : List Str} {x : Str} {js : List Nat} (S : ∀ c', NScope N [x] fr (mk c').scope) (hn : N.length = 1 + fr.length + n)
    (hb : ∀ c' pm ctv u, bindArgs (PySem.W.kla_fn "<lambda>" (mk c').qual (mk c').params (mk c').body (mk c').scope (mk c').cl pm (.ref (mk c').c) ctv) ⟨[u], []⟩ = pure [(x, u)]) (hr : RoomG (k + 1) X.A.in1.in1) (hu : X.A.units + 64 < cLine)
    (cp : ∀ c', X.Ok → Caps X (mk c').cl fr js)
    (hbody : ∀ (f c' : Addr) (A : Around) (outer : List Env) (s : Shared) (H : Hp) (E : XK), RoomG k (A.deeper (envF (mk c').nf f s.heap.objs.size)) → DE (ncx CX0 X.prog X.w X.K X.mg X.base N (mk c').nf f A outer s H E) (mk c').body wb)
    (pins : List (Addr × Obj)) (s : Shared) (σ : L2.St) (H : Hp) (vs zs : List V) (us ws : List Value) (Q : VK) (I : Inv X pins σ H s) (r : Vals vs us) (rz : Vals zs ws) (h : rSortL X.K mk wb n js σ vs zs H Q) :
    wpAny (model X.prog X.w) X.A (PySem.call (.builtin "sorted") us ([Str.ofString "key"].zip ws)) (EP X pins σ Q) X.xe s := by
  obtain ⟨key, l, f, c', its, kz, rfl, rfl, hs, hlen, hc, hrun⟩ := h
  obtain rfl := Vals.ref1 r
  obtain ⟨w1, rfl, e1⟩ := vals1 rz
  obtain rfl : w1 = Value.ref f := e1
  obtain ⟨uits, rv, hl, hz⟩ := I.list hs
  have hlv := rv.length
  have size1 : s.heap.objs.size ≤ s.heap.objs.size + 1 := Nat.le_succ _
  have size3 : s.heap.objs.size ≤ s.heap.objs.size + 3 := by omega
  refine KJ.sorted (b := false) (vs := uits) (kz := kz) (f := .ref f)
    (J := fun i s1 ks => ∃ (H1 : Hp) (us1 : List V), Inv X pins σ H1 s1 ∧ FpOk X pins H1 (s.heap.objs.size + 1) ∧ FpOk X pins H1 (s.heap.objs.size + 3) ∧ Vals us1 ks ∧ us1.length = i ∧ KeyRun (spLm X.K f (mk c') wb key n (js.map (slotAt σ))) (its.drop i) us1 H1 fun us H' => DpAll X.K H' us kz ∧ ∀ p, H' p = none → Q (.ref p) (upd H' p (.lst (sortV its kz))))
    hl.isList (by rw [hlen, hlv]) (by rw [← hlv]; exact hz) hc.1 hc.2.1 (fun d hd => ?_) (ksk_s1 _ _) (fun _ => ksk_l1 _ _) (fun _ => ksk_t1 _ _) (fun h' kh => ?_) (fun i s1 ks hJ => ?_) (fun i v hv s1 ks e e1 hJ g3 g1 => ?_) (fun s1 ks hJ => ?_) fun s1 ks hJ h' tk out c kh hg ko => ?_
  · have := depth_le_all hd
    have := hc.2.2.2
    omega
  · exact ⟨H, [], I.kept (t' := s.toks) kh, I.fpOk size1 (I.hok.fresh size1), I.fpOk size3 (I.hok.fresh size3), .nil, rfl, hrun⟩
  · obtain ⟨H1, us1, _, _, _, rr, hl1, _⟩ := hJ
    rw [← rr.length]; exact hl1
  · obtain ⟨H1, us1, I1, f1, f3, rr, hl1, hk⟩ := hJ
    have hi : i < its.length := by rw [hlv]; exact (List.getElem?_eq_some_iff.mp hv).1
    have hx : its[i]? = some its[i] := List.getElem?_eq_getElem hi
    obtain ⟨v', hv', rx⟩ := rv.get hx
    rw [hv] at hv'
    obtain rfl := Option.some.inj hv'
    rw [List.drop_eq_getElem_cons hi] at hk
    have I2 : Inv X ((s.heap.objs.size + 3, seqObj "list" ks.toArray e) :: (s.heap.objs.size + 1, seqObj "list" #[] e1) :: pins) σ H1 s1 := I1.pins_of fun p hp => by
      rcases List.mem_cons.mp hp with rfl | hp
      · exact ⟨g3, f3.1, f3.2.1, f3.2.2.1, fun v z => by cases z⟩
      · rcases List.mem_cons.mp hp with rfl | hp
        · exact ⟨g1, f1.1, f1.2.1, f1.2.2.1, fun v z => by cases z⟩
        · exact I1.pin p (List.mem_append_right _ hp)
    refine wpAny_call (codeAny_mono (lm_run (S c') hn (fun pm ctv => hb c' pm ctv v) hr I1.env0.in1.in1 (cells_of I1 (cp c' I1.ok)) rx (hbody f c') hk) fun rr2 s2 hq => ?_)
    cases rr2 with
    | error er => exact False.elim hq
    | ok fl =>
      cases fl with
      | next => exact False.elim hq
      | brk => exact False.elim hq
      | cont => exact False.elim hq
      | ret u =>
        obtain ⟨vu, H2, I3, ru, hk2⟩ := I2.after hq
        have p3 := I3.pin (s.heap.objs.size + 3, seqObj "list" ks.toArray e) (List.mem_append_right _ (.head _))
        have p1 := I3.pin (s.heap.objs.size + 1, seqObj "list" #[] e1) (List.mem_append_right _ (.tail _ (.head _)))
        refine ⟨p3.1, p1.1, fun h' hsb => ?_⟩
        have I4 : Inv X pins σ H2 s2 := I3.pins_of fun p hp => I3.pin p (List.mem_append_right _ (.tail _ (.tail _ hp)))
        have F3 := FpOk.other f3 p3.2.1
        refine ⟨H2, us1 ++ [vu], I4.turned (it := s.heap.objs.size + 3) (t' := s2.toks) (fun b o hb q => (hsb.2 b hb).trans q) F3.1 F3.2.1 F3.2.2.2.1 F3.2.2.2.2.1 F3.2.2.2.2.2, FpOk.other f1 p1.2.1, F3, rr.append (.cons ru .nil), by rw [List.length_append, hl1]; rfl, hk2⟩
  · obtain ⟨H1, us1, I1, f1, f3, rr, hl1, hk⟩ := hJ
    rw [← hlv, List.drop_length] at hk
    obtain ⟨hd, _⟩ := hk
    obtain ⟨as, hr2⟩ := Dp.readsAll I1 _ _ ks hd rr
    exact reads_each hr2
  · obtain ⟨H1, us1, I1, f1, f3, rr, hl1, hk⟩ := hJ
    rw [← hlv, List.drop_length] at hk
    obtain ⟨hd, q⟩ := hk
    have I2 : Inv X pins σ H1 { s1 with heap := h', toks := tk } := Inv.turned2 I1 kh f1 f3
    have hzl : (its.zip kz).map (·.2) = kz := List.map_snd_zip (by omega)
    have eo := PySem.W.keyedOut_each (R := fun (u : Value) (z : V × D) => RelV z.1 u) (bs := its.zip kz) (·.2) (by rw [hzl]; exact ko) (each_zip2 rv hlen)
    have hol : (sortV its kz).length ≤ sizeLine := by
      unfold sortV
      rw [List.length_map, List.length_mergeSort, List.length_zip]
      omega
    exact ⟨.ref _, upd H1 (s.heap.objs.size + 1) (.lst (sortV its kz)), I2.take (t' := tk) (h' := h') (fun b ob _ e => e) f1 ⟨hol, out, c, vals_each eo, hg⟩, rfl, q _ f1.1⟩
end
def capE : En → En | .da d => .da d | _ => .no
theorem keyRunL {K : PySem.W.Frag} {f : Addr} {F : LF} {wb : WE} {key : D → D} {n : Nat} {js : List Nat} {b : Bd} {σ : L2.St} {s : S} {Qe : List V → Hp → Prop} : ∀ (vs : List V) (ds : List D) (us : List V) (kds : List D) (A : Addr → Prop) (own : List (List Addr)) (H : Hp), Rel K b A own H σ s → H f = some (LmO f F) → H F.c = some (CodeO F.c F.qual) → RpL K A H vs ds → RpL K A H us kds →
    (∀ d ∈ ds, wb ⟨.da d :: (js.map (fun j => capE (gt s.es j)) ++ nos n), [], 0⟩ fun _ r => r = .da (key d)) → (∀ H' us', Rel K b A own H' σ s → Up A own H A own H' → RpL K A H' us' (kds ++ ds.map key) → Qe us' H') → KeyRun (spLm K f F wb key n (js.map (slotAt σ))) vs us H Qe
  | _, _, us, kds, A, own, H, R, hf, hc, .nil, ru, _, fin => fin H us R Up.refl (by rw [List.map_nil, List.append_nil]; exact ru)
  | v :: vs, d :: ds, us, kds, A, own, H, R, hf, hc, .cons rv rt, ru, hk, fin => by
    refine ⟨hf, hc, v, d, A, _, rfl, rv, ⟨by rw [List.length_map, List.length_map], fun i => ?_⟩, R.al, hk d (List.mem_cons_self ..), fun A' H' v' hx hA rx => ?_⟩
    · by_cases hi : i < js.length
      · have e : gt (js.map fun j => capE (gt s.es j)) i = capE (gt s.es js[i]) := by
          clear hk fin
          induction js generalizing i with
          | nil => simp at hi
          | cons j js ih =>
            match i, hi with
            | 0, _ => rfl
            | i + 1, hi => exact ih i (by simpa using hi)
        rw [e]
        cases q : gt s.es js[i] with
        | no => exact .inl rfl
        | mu k => exact .inl rfl
        | da d' =>
          rcases R.sl js[i] with z | ⟨w', z1, z2⟩
          · rw [q] at z; cases z
          · rw [q] at z2
            exact .inr ⟨w', d', by rw [List.getElem?_map, List.getElem?_eq_getElem hi]; exact congrArg some (slotAt_of z1), rfl, z2⟩
      · exact .inl (gt_ge _ _ (by rw [List.length_map]; omega))
    · obtain ⟨R', U'⟩ := R.ext hx
      have kp : Kp A' H' A H' := fun a u n q => ⟨q, fun z => n (hA a z)⟩
      refine keyRunL vs ds (us ++ [v']) (kds ++ [key d]) A own H' R' (hx _ _ hf) (hx _ _ hc) (RpL.mono U'.kp rt) ((RpL.mono U'.kp ru).append (.cons (Rp.mono kp rx) .nil)) (fun d' hd' => hk d' (List.mem_cons_of_mem _ hd')) fun H2 us' R2 U2 r2 => fin H2 us' R2 (U'.trans U2) ?_
      rw [List.map_cons]
      simpa [List.append_assoc] using r2
theorem sm_same : ∀ (l : List MO) (k : Nat), k < l.length → sm l k (gm l k) = l
  | x :: r, 0, _ => rfl
  | x :: r, k + 1, h => congrArg (x :: ·) (sm_same r k (by simpa using h))
section
variable {X : L2.Cx} {a : Expr} {wa wb : WE}
def dSortLm (q : Str) (n : Nat) (js : List Nat) (wb wa : WE) : WE := fun s Ks => wa s fun s1 x => ∃ (ds : List D) (key : D → D) (j : Nat), vw s1 x = some (.list ds) ∧ gm s1.ms j = .tab q ∧ (∀ d ∈ ds, wb ⟨.da d :: (js.map (fun j => capE (gt s1.es j)) ++ nos n), [], 0⟩ fun _ r => r = .da (key d)) ∧ canSort (ds.map key) ∧ Ks s1 (.da (.list (sortKD key ds)))
theorem codeHd_inj {K : PySem.W.Frag} {c P P' : Addr} (h : PySem.W.codeHdIn K c P = true) (h' : PySem.W.codeHdIn K c P' = true) : P = P' := by
  unfold PySem.W.codeHdIn at h h'
  split at h
  · rename_i vs _ hk
    rw [hk] at h'
    simp only [Bool.and_eq_true] at h h'
    obtain ⟨⟨⟨⟨⟨e1, _⟩, _⟩, _⟩, _⟩, _⟩ := h
    obtain ⟨⟨⟨⟨⟨e2, _⟩, _⟩, _⟩, _⟩, _⟩ := h'
    split at e1
    · rename_i P1 h11
      rw [h11] at e2
      simp only at e2
      exact (beq_iff_eq.mp e1).symm.trans (beq_iff_eq.mp e2)
    · cases e1
  · cases h
theorem TabC.inj {K : PySem.W.Frag} {q : Str} {c P c' P' : Addr} (h : TabC K q c P) (h' : TabC K q c' P') : c = c' ∧ P = P' := by
  obtain ⟨f, oc, od, fd, osl, n, l, e, hd⟩ := h
  obtain ⟨f', oc', od', fd', osl', n', l', e', hd'⟩ := h'
  rw [n] at n'; cases n'
  rw [l] at l'; cases l'
  rw [e] at e'; cases e'
  exact ⟨rfl, codeHd_inj hd hd'⟩
theorem de_sortLm {k n : Nat} {q x : Str} {N fr : List Str} (js : List Nat) {params : Arguments} {body : Expr} {scope : Scope} {p lp pos pk : Pos} {c P : Addr} (hC : TabC X.K q c P) (hTB : TabB X.base X.mg c P) (hcd : X.env.code = .ref c) (hq : X.env.qual = q ++ ".<locals>.")
    (Sc : NScope N [x] fr scope) (hn : N.length = 1 + fr.length + n) (hb : ∀ c' pm ctv u, bindArgs (PySem.W.kla_fn "<lambda>" (q ++ ".<locals>." ++ "<lambda>") params body scope (cloFrom X.env.cells scope.names []) pm (.ref c') ctv) ⟨[u], []⟩ = pure [(x, u)])
    (hfree : ∀ y ∈ scope.names, y.2 = .free → X.env.scope.names.lookup y.1 = some .cell ∨ X.env.scope.names.lookup y.1 = some .free) (hfr : ∀ y ∈ fr, (y, NameKind.free) ∈ scope.names) (hjs : js.map (fun j => X.N[j]?) = fr.map some)
    (hr : RoomG (k + 2) X.A) (hg : Gl X "sorted") (hm : X.mg "sorted" = none) (ha : DE X a wa)
    (hbody : ∀ (f c' : Addr) (A : Around) (outer : List Env) (s : Shared) (H : Hp) (E : XK), RoomG k (A.deeper (envF (LF.nf ⟨q ++ ".<locals>." ++ "<lambda>", params, body, scope, cloFrom X.env.cells scope.names [], c'⟩) f s.heap.objs.size)) → DE (ncx CX0 X.prog X.w X.K X.mg X.base N (LF.nf ⟨q ++ ".<locals>." ++ "<lambda>", params, body, scope, cloFrom X.env.cells scope.names [], c'⟩) f A outer s H E) body wb)
    (hdef : defaultsOf params X.env = ([], []) := by rfl) (he : starEach (a :: []) X.env = (false, eval a X.env) :: starEach [] X.env := by rfl)
    (he2 : backTo pos (starEach (a :: []) X.env) = (false, eval a X.env) :: backTo pos (starEach [] X.env) := by rfl) (hpl : (backTo pos (starEach (a :: []) X.env)).any (·.1) = false := by rfl)
    (hall : (backToKw pos (keywordEach [⟨some "key", .Lambda params body scope lp, pk⟩] X.env)).all (·.1.isSome) = true := by rfl) (hnone : (backToKw pos (keywordEach [⟨some "key", .Lambda params body scope lp, pk⟩] X.env)).any (·.1.isNone) = false := by rfl) (hks : (backToKw pos (keywordEach [⟨some "key", .Lambda params body scope lp, pk⟩] X.env)).filterMap (·.1) = [Str.ofString "key"] := by rfl) :
    DE X (.Call (.Name "sorted" p) [a] [⟨some "key", .Lambda params body scope lp, pk⟩] pos) (dSortLm q n js wb wa) := by
  obtain ⟨ta, pa, qa⟩ := (da_cons ha da_nil he).ex
  have hr2 : RoomG (k + 1) X.A.in1.in1 := ⟨⟨hr.r.hd, by have := hr.r.dp; show X.A.depth + 3 * (k + 1) + 5 < _; omega, by have := hr.r.un; show X.A.units + 1 + 1 + 16 * (k + 1) + 200 < _; omega⟩, hr.g⟩
  have hf0 : X.Ok → ∀ y ∈ scope.names, y.2 = .free → ∃ c, X.env.cells.lookup y.1 = some c := fun ok y hy e => (hfree y hy e).elim (fun z => ok.has _ (.inl z)) fun z => ok.has _ (.inr z)
  have pl := pe_lm (params := params) (body := body) (scope := scope) (pos := lp) hTB hcd hdef hf0
  rw [hq] at pl
  refine ⟨_, pe_callKs (sortL_run (mk := fun c' => ⟨q ++ ".<locals>." ++ "<lambda>", params, body, scope, cloFrom X.env.cells scope.names [], c'⟩) (fun _ => Sc) hn hb hr2 (by have := hr.r.un; omega) (fun c' ok => Caps.made ok hfree hfr hjs) hbody) hg hm (by decide +kernel) pa (pk_cons pl pk_nil) (he := he2) (hpl := hpl) (hall := hall) (hnone := hnone) (hks := hks), fun b A own H σ s Ks Q R h kk => ?_⟩
  refine qa b A own H σ s (fun s1 xs => a1 xs fun x => ∃ (ds : List D) (key : D → D) (j : Nat), vw s1 x = some (.list ds) ∧ gm s1.ms j = .tab q ∧ (∀ d ∈ ds, wb ⟨.da d :: (js.map (fun j => capE (gt s1.es j)) ++ nos n), [], 0⟩ fun _ r => r = .da (key d)) ∧ canSort (ds.map key) ∧ Ks s1 (.da (.list (sortKD key ds)))) _ R h fun A1 o1 H1 vs s1 xs R1 U1 E1 h1 => ?_
  obtain ⟨v, x, rfl, e1, ds, key, j, hd, gj, hk, hc, h⟩ := a1_inv E1 h1
  obtain ⟨l, us, rfl, hs, r⟩ := vw_lst R1 e1 hd
  have m := R1.mr j
  rw [gj] at m
  obtain ⟨P', c', ej, hC', ps, hP, ht, ha⟩ := m
  obtain ⟨rfl, rfl⟩ := hC.inj hC'
  refine ⟨ps, hP, ⟨ht, fun p cv e => let ⟨c0, e0, e2, _⟩ := ha p cv e; ⟨c0, e0, e2⟩⟩, fun f cc ps' H2 hx hP2 hT2 hnew hf hcc => ?_⟩
  have nPf : P ≠ f := fun z => by rw [← z, hP2] at hf; cases hf
  have hx2 : ∀ b o, b ≠ P → H1 b = some o → upd H2 f (LmO f ⟨q ++ ".<locals>." ++ "<lambda>", params, body, scope, cloFrom X.env.cells scope.names [], cc⟩) b = some o := fun b o n e => by
    have e2 := hx b o n e
    rw [upd_ne (ne_of_none e2 hf)]; exact e2
  obtain ⟨R2, U2⟩ := R1.chg (H' := upd H2 f (LmO f ⟨q ++ ".<locals>." ++ "<lambda>", params, body, scope, cloFrom X.env.cells scope.names [], cc⟩)) j (.tab q) (fun a o n e => hx2 a o (fun z => n (by rw [ej, z]; simp)) e) (fun a h => by
    rw [ej] at h
    cases List.mem_singleton.mp h
    rw [upd_ne nPf, hP2]; intro z; cases z) (fun u => by
    refine ⟨P, c, ej, hC, ps', by rw [upd_ne nPf]; exact hP2, hT2.1, fun p cv e => ?_⟩
    obtain ⟨c0, e0, e2⟩ := hT2.2 p cv e
    refine ⟨c0, e0, by rw [upd_ne (ne_of_none e2 hf)]; exact e2, ?_⟩
    obtain ⟨c1, e3, e4⟩ := hnew p cv e
    obtain rfl : c0 = c1 := by rw [e0] at e3; cases e3; rfl
    rcases e4 with z | z
    · exact fun y => R1.al _ y z
    · obtain ⟨c2, e5, _, e6⟩ := ha p cv z
      obtain rfl : c0 = c2 := by rw [e0] at e5; cases e5; rfl
      exact e6) (gm_lt (by rw [gj]; intro z; cases z))
  have es : ({ s1 with ms := sm s1.ms j (.tab q) } : S) = s1 := by
    have := sm_same s1.ms j (gm_lt (by rw [gj]; intro z; cases z))
    rw [gj] at this
    rw [this]
  rw [es] at R2
  show rSortL X.K _ wb n js σ [.ref l] [.ref f] _ Q
  obtain ⟨l', us', ep, hs2, r2⟩ := vw_lst R2 (e1.up U2) hd
  cases ep
  obtain ⟨zs, rfl, rfl, hz⟩ := rpl_zip r2
  refine ⟨key, l, f, cc, zs.map (·.1), (zs.map (·.2)).map key, rfl, rfl, hs2, by simp, hc, ?_⟩
  refine keyRunL _ _ [] [] A1 o1 _ R2 upd_same (by rw [upd_ne (ne_of_none hcc hf)]; exact hcc) r2 .nil hk fun H3 us' R3 U3 r3 => ⟨r3.dp (by rw [List.nil_append]; exact hc.2.2.1), fun q' hq' => ?_⟩
  rw [sortV_pairs]
  rw [sortKD_pairs] at h
  refine new_lst R3 ((kk.up (U1.trans U2)).up U3) ?_ hq' h
  exact rpl_map fun z hm => Rp.mono U3.kp (hz z ((List.mergeSort_perm _ _).mem_iff.mp hm))
end
end DL
namespace DL
open PySem L2 PySem.Spec PyProof.Rows LamX NdefX
/-! ### the law's call, with tables of code objects, and the script's bits -/
/-- the tables that a law comes by: each def's name, its code object, its table -/
structure TabsIn (K : PySem.W.Frag) (mg : Str → Option Value) (h : Heap) (ts : List (Str × Addr × Addr)) : Prop where
  at_ : ∀ t ∈ ts, h.get? t.2.2 = some { cls := .none, data := .fields #[] }
  no : ∀ t ∈ ts, K.lookup t.2.2 = none
  tc : ∀ t ∈ ts, TabC K t.1 t.2.1 t.2.2
  nd : (ts.map (·.2.2)).Nodup
def tabH (ts : List (Str × Addr × Addr)) (H : Hp) : Hp := fun b => if b ∈ ts.map (·.2.2) then some (.tbl #[]) else H b
/-- what a law's body is asked for -/
def spLawT (K : PySem.W.Frag) (ts : List (Str × Addr × Addr)) : Sp := fun vs H Q _ => ∃ (a : Addr) (ns : List Int), vs = [.ref a] ∧ SqL K H a (ns.map V.int) ∧ ns.length ≤ 63 ∧ (∀ n ∈ ns, Builtin.Int.intBits n ≤ 1048576) ∧ (∀ t ∈ ts, H t.2.2 = some (.tbl #[])) ∧ ∀ H', Q (.bl true) H'
section
variable {P : Program} {w : World} {K : PySem.W.Frag} {mg mb : Str → Option Value} {s : Shared} {ts : List (Str × Addr × Addr)} {a : Addr} {vs : List Value} {is : List Int}
theorem dict_ne {h : Heap} {b : Addr} {o : Obj} {es : Array DictEntry} {ep : Nat} (e : h.get? b = some o) (d : o.data = .dict es ep) {q : Obj} (e' : h.get? b = some q) (z : ∀ es ep, q.data ≠ .dict es ep) : False := by
  rw [e] at e'
  cases e'
  exact z _ _ d
theorem law_coreT {k : Nat} {fa : Addr} {fd : FuncData} {x : Str} {H : Hp}
    (kin : K.In s.heap) (ng : s.heap.Ns mainGlobals mg) (nb : s.heap.Ns builtinsNs mb) (hbb : ∀ x : Str, x ≠ "__name__" → mb x = bootBuiltins x) (nol : s.heap.NoLimit) (hg : s.gens = #[])
    (hT : TabsIn K mg s.heap ts) (hbm : ∃ (bm : Addr) (ob : Obj), mg "__builtins__" = some (.ref bm) ∧ bm ≠ builtinsNs ∧ s.heap.get? bm = some ob ∧ ob.cls = .type "module" ∧ ob.dict = some builtinsNs ∧ ob.data = .plain)
    (ha : s.heap.get? a = some { cls := .type "list", data := .seq vs.toArray }) (hr : Room k callerA)
    (F : ∀ base : Heap, K.In base → base.Ns mainGlobals mg → (∀ t ∈ ts, TabB base mg t.2.1 t.2.2) → FnOkG P w K mg base CX0 k fa fd [x] (spLawT K ts)) (hbi : ∀ (s : Shared) (u : Value), BindsTo s fd ⟨[u], []⟩ [(x, u)])
    (hO : ∀ b, H b = none ∨ (b = a ∧ ∃ o xs, H b = some (.frz o (.lst xs)))) (hS : SqL K (tabH ts H) a (is.map V.int)) (hl : is.length ≤ 63) (hbits : ∀ n ∈ is, Builtin.Int.intBits n ≤ 1048576) (hok : HOk P w (tabH ts H) s.heap) (hK : H a ≠ none → K.lookup a = none) :
    codeAny (model P w) callerA (.call (.ref fa) ⟨[.ref a], []⟩) (fun r s' => r = .ok (.ret (.bool true)) ∧ OldK s.heap s'.heap ∧ s'.os = s.os ∧ AllBare s'.gens) s := by
  have isT : ∀ b, b ∈ ts.map (·.2.2) → s.heap.get? b = some { cls := .none, data := .fields #[] } := fun b hb => by
    obtain ⟨t, ht, rfl⟩ := List.mem_map.mp hb
    exact hT.at_ t ht
  have isA : ∀ b, tabH ts H b ≠ none → b ∉ ts.map (·.2.2) → b = a := fun b hb n => by
    rcases hO b with z | z
    · exact (hb (by unfold tabH; rw [if_neg n]; exact z)).elim
    · exact z.1
  -- what is no list and no table is not tracked
  have free : ∀ {b : Addr} {o : Obj}, s.heap.get? b = some o → (∀ q n, o.data ≠ .seq q n) → o.data ≠ .fields #[] → tabH ts H b = none := fun {b o} e h1 h2 => Classical.byContradiction fun z => by
    by_cases hb : b ∈ ts.map (·.2.2)
    · rw [isT b hb] at e; cases e; exact h2 rfl
    · rw [isA b z hb, ha] at e; cases e; exact h1 _ _ rfl
  have freeD : ∀ {b : Addr} {o : Obj} {es : Array DictEntry} {ep : Nat}, s.heap.get? b = some o → o.data = .dict es ep → tabH ts H b = none := fun e d => free e (fun _ _ z => nomatch d.symm.trans z) fun z => nomatch d.symm.trans z
  have ns : ∀ {b : Addr} {m : Str → Option Value}, s.heap.Ns b m → (hidT s.heap (tabH ts H)).Ns b m := fun {b m} ⟨o, es, ep, e, d, r⟩ => ⟨o, es, ep, hidT_get e (freeD e d), d, r⟩
  have kb : K.In (hidT s.heap (tabH ts H)) := fun b o e => hidT_get (kin b o e) (Classical.byContradiction fun z => by
    by_cases hb : b ∈ ts.map (·.2.2)
    · obtain ⟨t, ht, rfl⟩ := List.mem_map.mp hb
      rw [hT.no t ht] at e; cases e
    · have e2 := isA b z hb
      subst e2
      rw [hK fun y => z (by unfold tabH; rw [if_neg hb]; exact y)] at e
      cases e)
  have TB : ∀ t ∈ ts, TabB (hidT s.heap (tabH ts H)) mg t.2.1 t.2.2 := fun t ht => by
    obtain ⟨_, _, _, _, _, _, _, _, hd⟩ := hT.tc t ht
    have nG : mainGlobals ≠ t.2.2 := fun z => by
      obtain ⟨o, es, ep, e, d, _⟩ := ng
      exact dict_ne e d (by rw [z]; exact hT.at_ t ht) fun _ _ y => by cases y
    refine ⟨PySem.W.codeHd_of_K kb hd, ?_, nG⟩
    obtain ⟨bm, ob, b1, b2, b3, b4, b5, b6⟩ := hbm
    refine ⟨bm, ob, b1, b2, fun z => ?_, fun z => ?_, hidT_get b3 (free b3 (fun _ _ z => nomatch b6.symm.trans z) fun z => nomatch b6.symm.trans z), b4, b5, b6⟩
    · obtain ⟨o, es, ep, e, d, _⟩ := ng
      exact dict_ne e d (by rw [← z]; exact b3) fun _ _ y => nomatch b6.symm.trans y
    · rw [z, hT.at_ t ht] at b3
      cases b3
      exact nomatch b6
  obtain ⟨mc, l1, l2⟩ := nol
  have e0 : Env0 P w K mg (hidT s.heap (tabH ts H)) callerA [] s (tabH ts H) := ⟨rfl, ⟨kb, ns ng, ⟨mb, ns nb, hbb⟩, mc, ns l1, l2⟩, fun b o e => of_hidT e, Nat.le_of_eq (hidT_size _ _), trivial, fun _ z => (by cases z), hok, .of_eq hg⟩
  refine codeAny_mono ((F _ kb (ns ng) TB).run callerA [] s (tabH ts H) ⟨[.ref a], []⟩ [.ref a] [.ref a] (fun v _ => v = .bl true) E0 hr rfl e0 (hbi s (.ref a)) (.cons rfl .nil) ⟨a, is, rfl, hS, hl, hbits, fun t ht => ?_, fun _ => rfl⟩) fun r s' h => ?_
  · show (if t.2.2 ∈ ts.map (·.2.2) then some (HO.tbl #[]) else H t.2.2) = _
    rw [if_pos (List.mem_map.mpr ⟨t, ht, rfl⟩)]
  · match r, h with
    | .error e, h => exact h.elim
    | .ok .next, h => exact h.elim
    | .ok .brk, h => exact h.elim
    | .ok .cont, h => exact h.elim
    | .ok (.ret u), ⟨v, H', os, bare, un, hok', rv, q⟩ =>
      cases (show v = .bl true from q)
      obtain rfl : u = Value.bool true := rv
      have old : ∀ b o, s.heap.get? b = some o → s'.heap.get? b = some o ∨ ∃ t ∈ ts, b = t.2.2 ∧ ∃ more, s'.heap.get? b = some { cls := .none, data := .fields more } := fun b o e => by
        by_cases hb : b ∈ ts.map (·.2.2)
        · obtain ⟨t, ht, rfl⟩ := List.mem_map.mp hb
          obtain ⟨more, z⟩ := un.tbls t.2.2 #[] (by show (if t.2.2 ∈ ts.map (·.2.2) then some (HO.tbl #[]) else H t.2.2) = _; rw [if_pos hb])
          exact .inr ⟨t, ht, rfl, _, hok' _ _ z⟩
        · cases q : tabH ts H b with
          | none => exact .inl (un.keep b o e q (fun z => absurd (show b ∈ ([] : List Addr) from z) (by simp)) (by simp))
          | some u =>
            have hH : H b = some u := by unfold tabH at q; rw [if_neg hb] at q; exact q
            rcases hO b with z | ⟨_, ob, xs, z⟩
            · rw [hH] at z; cases z
            · rw [hH] at z
              cases z
              obtain ⟨e1, _⟩ := hok b _ q
              obtain ⟨e2, _⟩ := hok' b _ (un.frzs b ob _ q)
              rw [e] at e1; cases e1
              exact .inl e2
      refine ⟨rfl, ⟨fun b o e => ?_, fun b o e => ?_⟩, os, bare⟩
      · rcases old b o e with z | ⟨t, ht, rfl, more, z⟩
        · exact .inl z
        · have e2 := hT.at_ t ht
          rw [e] at e2
          cases e2
          obtain ⟨_, _, _, _, _, _, _, _, hd⟩ := hT.tc t ht
          exact .inr (.inl ⟨((PySem.W.codeHd_of_K kin hd).tab (hT.at_ t ht)).isCodeTable, rfl, #[], more, rfl, by rw [Array.empty_append]; exact z⟩)
      · rcases old b o e with z | ⟨_, _, _, more, z⟩
        · exact ⟨_, z⟩
        · exact ⟨_, z⟩
theorem law_callT {k : Nat} {fa : Addr} {fd : FuncData} {x : Str}
    (kin : K.In s.heap) (ng : s.heap.Ns mainGlobals mg) (nb : s.heap.Ns builtinsNs mb) (hbb : ∀ x : Str, x ≠ "__name__" → mb x = bootBuiltins x) (nol : s.heap.NoLimit) (hg : s.gens = #[])
    (hT : TabsIn K mg s.heap ts) (hbm : ∃ (bm : Addr) (ob : Obj), mg "__builtins__" = some (.ref bm) ∧ bm ≠ builtinsNs ∧ s.heap.get? bm = some ob ∧ ob.cls = .type "module" ∧ ob.dict = some builtinsNs ∧ ob.data = .plain)
    (ha : s.heap.get? a = some { cls := .type "list", data := .seq vs.toArray }) (hi : IntsAre vs is) (hl : is.length ≤ 63) (hbits : ∀ n ∈ is, Builtin.Int.intBits n ≤ 1048576) (hr : Room k callerA)
    (F : ∀ base : Heap, K.In base → base.Ns mainGlobals mg → (∀ t ∈ ts, TabB base mg t.2.1 t.2.2) → FnOkG P w K mg base CX0 k fa fd [x] (spLawT K ts)) (hbi : ∀ (s : Shared) (u : Value), BindsTo s fd ⟨[u], []⟩ [(x, u)]) :
    codeAny (model P w) callerA (.call (.ref fa) ⟨[.ref a], []⟩) (fun r s' => r = .ok (.ret (.bool true)) ∧ OldK s.heap s'.heap ∧ s'.os = s.os ∧ AllBare s'.gens) s := by
  have rv := vals_ints hi
  have hsz := hi.length
  have h63 : is.length ≤ sizeLine := Nat.le_trans hl (by decide)
  have aT : a ∉ ts.map (·.2.2) := fun z => by
    obtain ⟨t, ht, e⟩ := List.mem_map.mp z
    have := hT.at_ t ht
    rw [e, ha] at this
    cases this
  have okT : ∀ {H : Hp}, HOk P w H s.heap → (∀ b, H b = none ∨ b = a) → HOk P w (tabH ts H) s.heap := fun {H} h hA b u z => by
    unfold tabH at z
    split at z
    · rename_i hb
      cases z
      obtain ⟨t, ht, rfl⟩ := List.mem_map.mp hb
      exact hT.at_ t ht
    · rename_i hb
      rcases hA b with y | rfl
      · rw [y] at z; cases z
      · refine (h b u z).stay (fun c v _ e => e) (fun c e => ?_) fun c xs e => ?_
        · rcases hA c with y | rfl
          · rw [y] at e; cases e
          · show (if c ∈ ts.map (·.2.2) then some (HO.tbl #[]) else H c) = _
            rw [if_neg hb]; exact e
        · rcases hA c with y | rfl
          · rw [y] at e; cases e
          · show (if c ∈ ts.map (·.2.2) then some (HO.tbl #[]) else H c) = _
            rw [if_neg hb]; exact e
  cases hk : K.lookup a with
  | some o =>
    have e := kin a o hk
    rw [ha] at e
    cases e
    exact law_coreT (H := fun _ => none) kin ng nb hbb nol hg hT hbm ha hr F hbi (fun _ => .inl rfl) (.inr ⟨_, vs.toArray, _, hk, rfl, rfl, rfl, by rw [List.size_toArray, hsz]; exact h63, by simpa using rv⟩) hl hbits (okT (fun b u z => nomatch z) fun _ => .inl rfl) fun z => absurd rfl z
  | none =>
    refine law_coreT (H := fun b => if b = a then some (.frz { cls := .type "list", data := .seq vs.toArray } (.lst (is.map V.int))) else none) kin ng nb hbb nol hg hT hbm ha hr F hbi (fun b => ?_) ?_ hl hbits (okT (fun b u z => ?_) fun b => ?_) (fun _ => hk)
    · by_cases hb : b = a
      · exact .inr ⟨hb, _, _, if_pos hb⟩
      · exact .inl (if_neg hb)
    · refine .inl (.inr ⟨{ cls := .type "list", data := .seq vs.toArray }, ?_⟩)
      unfold tabH
      rw [if_neg aT]
      exact if_pos rfl
    · by_cases hb : b = a
      · subst hb
        cases (if_pos rfl).symm.trans z
        exact ⟨ha, by rw [List.length_map]; exact h63, vs, _, rv, ha⟩
      · exact nomatch (if_neg hb).symm.trans z
    · by_cases hb : b = a
      · exact .inr hb
      · exact .inl (if_neg hb)
end
/-- what is known of the law's promise at the head's heap -/
def LawT (l : PySem.W.OpenLaw) (w : World) (K : PySem.W.Frag) (k : Nat) (x : Str) (mg : Str → Option Value) (fa : Addr) (h : Heap) : Prop :=
  ∃ (fd : FuncData) (ts : List (Str × Addr × Addr)), TabsIn K mg h ts ∧ (∀ (s : Shared) (u : Value), BindsTo s fd ⟨[u], []⟩ [(x, u)]) ∧ ∀ base : Heap, K.In base → base.Ns mainGlobals mg → (∀ t ∈ ts, TabB base mg t.2.1 t.2.2) → FnOkG l.prog w K mg base CX0 k fa fd [x] (spLawT K ts)
theorem walk_byT {l : PySem.W.OpenLaw} {k : Nat} {q : Program} {loose : List Str} {XP : (Str → Option Value) → Heap → Prop} {YP : World → Heap → Prop} {d : DefRec} {K : Params → PySem.W.Frag} {x : Str}
    (hn : l.most = some 63) (hdf : d.params.defaults = []) (hr : Room k callerA) (hY : ∀ (w : World) (h : Heap), YP w h → (K w.params).In h)
    (F : ∀ (w : World) (mg : Str → Option Value) (fa : Addr) (h : Heap), YP w h → (K w.params).In h → h.Ns mainGlobals mg → mg d.name = some (.ref fa) → LawT l w (K w.params) k x mg fa h) :
    PySem.W.WalkO q loose XP YP l.row.toRowW d [] (fun f vs => PySem.call f vs) := by
  refine Att.attach_callB hn hdf fun w _ s₁ mg _ fa _ _ _ _ a _ ns G Y _ _ _ hmg hobj hints hlen hbits hg => ?_
  have kin := hY w _ Y
  obtain ⟨fd, ts, hT, hb, hF⟩ := F w mg fa _ Y kin G.T.g hmg
  exact law_callT kin G.T.g G.T.b G.T.builtins G.T.nolimit hg hT G.T.bmain hobj hints hlen hbits hr hF hb
end DL
namespace DL
open PySem L2 PySem.Spec PyProof.Rows
/-! ### states told otherwise: single steps -/
theorem gm_frz {k : Nat} {ds : List D} {s : S} (hk : k < s.ms.length) (j : Nat) : gm (frzS k ds s).ms j = if k = j then .gone else subM k (.list ds) (gm s.ms j) := by
  show gm (sm (subS k (.list ds) s.ms) k .gone) j = _
  rw [gm_sm]
  by_cases e : k = j
  · rw [if_pos e, if_pos ⟨e, by rw [subS_length]; exact hk⟩]
  · rw [if_neg e, if_neg (fun z => e z.1), gm_subS]
theorem len_frz {k : Nat} {ds : List D} {s : S} : (frzS k ds s).ms.length = s.ms.length := by
  show (sm (subS k (.list ds) s.ms) k .gone).length = _
  rw [sm_length, subS_length]
theorem subL_id {k : Nat} {d : D} : ∀ {es : List En}, (∀ i, gt es i ≠ .mu k) → subL k d es = es
  | [], _ => rfl
  | x :: r, h => by
    show subE k d x :: subL k d r = _
    rw [subL_id fun i => h (i + 1)]
    have h0 : x ≠ .mu k := h 0
    cases x with
    | no => rfl
    | da d => rfl
    | mu j =>
      show (bif Nat.beq j k then En.da d else .mu j) :: r = _
      rw [show Nat.beq j k = false from Bool.eq_false_iff.mpr fun z => h0 (by rw [Nat.eq_of_beq_eq_true z])]
      rfl
theorem subE_ne {k j : Nat} {d : D} (h : j ≠ k) : subE k d (.mu j) = .mu j := by
  show (bif Nat.beq j k then En.da d else .mu j) = _
  rw [show Nat.beq j k = false from Bool.eq_false_iff.mpr fun z => h (Nat.eq_of_beq_eq_true z)]
  rfl
theorem subE_eq {k : Nat} {d : D} : subE k d (.mu k) = .da d := by
  show (bif Nat.beq k k then En.da d else .mu k) = _
  rw [show Nat.beq k k = true from by simp]
  rfl
theorem subF_app {k : Nat} {d : D} : ∀ {xs ys : List (Str × En)}, subF k d (xs ++ ys) = subF k d xs ++ subF k d ys
  | [], _ => rfl
  | _ :: r, _ => congrArg (_ :: ·) (subF_app (xs := r))
theorem subF_da {k : Nat} {d : D} : ∀ {ds : List D}, subF k d (ds.map fun x => sq (.da x)) = ds.map fun x => sq (.da x)
  | [] => rfl
  | _ :: r => congrArg (_ :: ·) (subF_da (ds := r))
theorem subF_mu {k : Nat} {d : D} : ∀ {n a : Nat}, k < a → subF k d ((List.range' a n).map fun i => sq (.mu i)) = (List.range' a n).map fun i => sq (.mu i)
  | 0, _, _ => rfl
  | n + 1, a, h => by
    rw [List.range'_succ, List.map_cons]
    show (Str.empty, subE k d (.mu a)) :: subF k d _ = _
    rw [subE_ne (by omega), subF_mu (by omega)]
    rfl
theorem Adj.frzX {s : S} (k : Nat) {ds : List D} (g : gm s.ms k = .lst ds) (hk : s.np ≤ k) (he : ∀ i, gt s.es i ≠ .mu k) : Adj s ⟨s.es, (frzS k ds s).ms, s.np⟩ := by
  have := Adj.frz k g hk
  have e : frzS k ds s = ⟨s.es, (frzS k ds s).ms, s.np⟩ := by
    show (⟨subL k (.list ds) s.es, _, _⟩ : S) = _
    rw [subL_id he]
    rfl
  rw [e] at this
  exact this
/-- a list of lists that change is data inside -/
theorem Adj.grid : ∀ (rows : List (List D)) (s : S) (j a : Nat) (done : List D), gm s.ms j = .ins .lst (done.map (fun d => sq (.da d)) ++ (List.range' a rows.length).map fun i => sq (.mu i)) → (∀ i r, rows[i]? = some r → gm s.ms (a + i) = .lst r) → s.np ≤ j → j < a →
    (∀ i k, gt s.es i = .mu k → k < a) → (∀ l, l ≠ j → ∀ k d, a ≤ k → subM k d (gm s.ms l) = gm s.ms l) →
    ∃ ms', Adj s ⟨s.es, ms', s.np⟩ ∧ ms'.length = s.ms.length ∧ gm ms' j = .lst (done ++ rows.map fun r => PyData.list r) ∧ ∀ l, l ≠ j → l < a → gm ms' l = gm s.ms l
  | [], s, j, a, done, hj, hr, np, ja, he, ho => by
    have hj' : gm s.ms j = .ins .lst (done.map fun d => sq (.da d)) := by rw [hj]; simp
    refine ⟨_, Adj.ripe j done hj', sm_length _ _ _, ?_, fun l hl _ => ?_⟩
    · rw [List.map_nil, List.append_nil]
      exact gm_sm_self (gm_lt' hj (fun z => nomatch z))
    · exact gm_sm_ne (Ne.symm hl)
  | r :: rows, s, j, a, done, hj, hr, np, ja, he, ho => by
    have ga : gm s.ms a = .lst r := hr 0 r rfl
    have la : a < s.ms.length := gm_lt' ga (fun z => nomatch z)
    have A1 := Adj.frzX (s := s) a ga (by omega) fun i z => by have := he i a z; omega
    have gj : gm (frzS a r s).ms j = .ins .lst ((done ++ [PyData.list r]).map (fun d => sq (.da d)) ++ (List.range' (a + 1) rows.length).map fun i => sq (.mu i)) := by
      rw [gm_frz la, if_neg (by omega), hj]
      show MO.ins .lst (subF a _ _) = _
      rw [subF_app, subF_da, List.length_cons, List.range'_succ, List.map_cons]
      show MO.ins .lst (_ ++ (Str.empty, subE a _ (.mu a)) :: subF a _ _) = _
      rw [subE_eq, subF_mu (by omega), List.map_append, List.append_assoc]
      rfl
    obtain ⟨ms', A2, h1, h2, h3⟩ := Adj.grid rows ⟨s.es, (frzS a r s).ms, s.np⟩ j (a + 1) (done ++ [PyData.list r]) gj (fun i r' q => by
      show gm (frzS a r s).ms _ = _
      rw [gm_frz la, if_neg (by omega), show a + 1 + i = a + (i + 1) from by omega, hr (i + 1) r' q]
      rfl) np (by omega) (fun i k z => by have := he i k z; omega) (fun l hl k d hk => by
      show subM k d (gm (frzS a r s).ms l) = gm (frzS a r s).ms l
      rw [gm_frz la]
      by_cases e : a = l
      · rw [if_pos e]; rfl
      · rw [if_neg e, ho l hl a _ (Nat.le_refl _)]
        exact ho l hl k d (by omega))
    refine ⟨ms', A1.trans A2, h1.trans len_frz, by rw [h2]; simp, fun l hl ll => ?_⟩
    rw [h3 l hl (by omega)]
    show gm (frzS a r s).ms l = _
    rw [gm_frz la, if_neg (by omega), ho l hl a _ (Nat.le_refl _)]
theorem isLstS_mk {s : S} {j : Nat} {fs : List (Str × En)} {k : Nat → List (Str × En) → Prop} (g : gm s.ms j = .ins .lst fs) (h : k j fs) : isLstS s (.mu j) k := by
  unfold isLstS
  simp only [g]
  exact h
theorem sm_mid : ∀ (a : List MO) (x y : MO) (b : List MO), sm (a ++ x :: b) a.length y = a ++ y :: b
  | [], _, _, _ => rfl
  | z :: a, x, y, b => congrArg (z :: ·) (sm_mid a x y b)
section
variable {X : Cx} {a b c e : Expr} {wa wb we : WE} {wt : WT} {wg : WG} {pos : Pos} {js : List Nat}
/-- [..] whose items change -/
theorem de_lcS {elt tg iter : Expr} {ifs : List Expr} {scope : Scope} (own : List (Str × Nat)) {wI : WI} (hc : X.calm = true) (hN : X.N.Nodup) (hi : DI X tg iter wI) (ok : BlkOk X.N X.env.scope scope own) (hj : ∀ j ∈ js, j ∈ own.map (·.2))
    (hg : ∀ (s : Shared) (H : Hp) (C : Addr) (cl : List (Str × Addr)) (fp : List Addr), DG (X.blk s H scope (compEnvC scope cl C X.env) fp) tg js wg) (ht : ∀ (s : Shared) (H : Hp) (C : Addr) (cl : List (Str × Addr)) (fp : List Addr), DTs (X.blk s H scope (compEnvC scope cl C X.env) fp) ifs wt)
    (he : ∀ (s : Shared) (H : Hp) (C : Addr) (cl : List (Str × Addr)) (fp : List Addr), DE (X.blk s H scope (compEnvC scope cl C X.env) fp) elt we) (hs : ∀ x, foldedSetIterable iter X.env x = pure x := by intro _; rfl) :
    DE X (.ListComp elt [⟨tg, iter, ifs, 0⟩] scope pos) (dLcS (own.map (·.2)) wI wg wt we) := by
  obtain ⟨ti, pi, qi⟩ := hi.ex
  refine ⟨_, pe_lc (g := canG X.K js wg) (tt := canT X.K wt) (te := canE X.K we) hc hN pi ok (fun s H C cl fp => (hg s H C cl fp).can) (fun s H C cl fp => (ht s H C cl fp).can) (fun s H C cl fp => (he s H C cl fp).can) hs, fun b A own' H σ s Ks Q R h k => ?_⟩
  exact lc_runS hj qi (fun s1 ms => Ks ⟨s1.es, ms, s1.np⟩ (.mu s1.ms.length)) b A own' H σ s Q R h fun A' own' H' s1 ms v R1 U1 E1 hk => k _ _ _ _ _ (.mu s1.ms.length) R1 U1 E1 hk
/-- [[] for name in range(n)] -/
theorem lc_grid {vs : List Nat} {wi : WI} {i : Nat} {s : S} {ds : List D} {Ks : S → En → Prop} (hw : ∀ K : S → List D → Prop, K s ds → wi s K) (hl : ds.length ≤ sizeLine)
    (h : Ks ⟨s.es, s.ms ++ .ins .lst ((List.range' (s.ms.length + 1) ds.length).map fun i => sq (.mu i)) :: List.replicate ds.length (.lst []), s.np⟩ (.mu s.ms.length)) : dLcS vs wi (gN i) tYesD (dLstM aNil) s Ks := by
  refine hw _ ⟨fun i ms => ms = s.ms ++ .ins .lst ((List.range' (s.ms.length + 1) i).map fun i => sq (.mu i)) :: List.replicate i (.lst []), rfl, fun i d ms hd hI => ?_, fun ms e => by rw [e]; exact h⟩
  subst hI
  refine ⟨fun _ => ?_, fun z => by cases z⟩
  have hi : i < ds.length := (List.getElem?_eq_some_iff.mp hd).1
  unfold dLstM aNil
  simp only [onO, allD]
  refine isLstS_mk (fs := (List.range' (s.ms.length + 1) i).map fun i => sq (.mu i)) ?_ ?_
  · show gm ((s.ms ++ .ins .lst ((List.range' (s.ms.length + 1) i).map fun i => sq (.mu i)) :: List.replicate i (.lst [])) ++ [.lst []]) s.ms.length = _
    rw [List.append_assoc, gm_app, if_neg (Nat.lt_irrefl _), Nat.sub_self]
    rfl
  refine ⟨by simpa using Nat.lt_of_lt_of_le hi hl, ?_⟩
  · have e : ∀ z : MO, sm ((s.ms ++ MO.ins .lst ((List.range' (s.ms.length + 1) i).map fun i => sq (.mu i)) :: List.replicate i (MO.lst [])) ++ [MO.lst []]) s.ms.length z = s.ms ++ z :: (List.replicate i (MO.lst []) ++ [MO.lst []]) := fun z => by
      rw [List.append_assoc, List.cons_append, sm_mid]
    refine (e _).trans ?_
    rw [List.replicate_succ', List.range'_concat, List.map_append]
    simp [S.sE]
    rw [show s.ms.length + (i + 1) = s.ms.length + 1 + i from by omega]
/-- for k in d, d data -/
def iKyD (we : WE) : WI := fun s Ks => we s fun s1 x => daI x fun d => match d with | .dict es => Ks s1 (es.map (·.1)) | _ => False
theorem di_kyD {tg : Expr} (he : DE X e we) : DI X tg e (iKyD we) := by
  obtain ⟨te, pe, qe⟩ := he.ex
  refine ⟨_, pi_keys pe, fun b A own H σ s Ks Q R h k => ?_⟩
  show te σ H fun x H1 => ∃ d o, x = .ref d ∧ ((∃ kvs, H1 d = some (.frz o (.dK kvs)) ∧ Q (Itk d o kvs) H1) ∨ ∃ kvs, H1 d = some (.frz o (.dT kvs)) ∧ Q (Itkt d o kvs) H1)
  refine qe _ _ _ _ _ _ _ _ R h fun A1 o1 H1 v1 s1 x1 R1 U1 E1 h1 => ?_
  obtain ⟨d, rfl, h2⟩ := daI_inv h1
  clear h1
  cases d with
  | dict es =>
    obtain ⟨a, o, ws, kvs, rfl, rfl, l, n, q⟩ := rp_dict (show Rp X.K A1 H1 v1 (.dict es) from E1)
    refine ⟨a, o, rfl, .inl ⟨ws, l, k _ _ _ _ _ _ R1 U1 ?_ h2⟩⟩
    intro A2 H2 kp i
    obtain ⟨l2, n2⟩ := kp _ _ n l
    have q2 := RpK.mono kp q
    refine ⟨fun hi => ⟨l2, by rw [q2.length]; simpa using hi⟩, fun d hd => ?_⟩
    rw [List.getElem?_map, List.getElem?_map] at hd
    cases hk : kvs[i]? with
    | none => rw [hk] at hd; cases hd
    | some z =>
      rw [hk] at hd
      cases hd
      obtain ⟨v, gv, rv⟩ := q2.get (k := z.1) (d := z.2) hk
      refine ⟨⟨l2, (List.getElem?_eq_some_iff.mp gv).1⟩, fun y H3 hy own1 σ s R => ?_⟩
      obtain ⟨rfl, k', v', e1, rfl⟩ := hy
      rw [gv] at e1
      cases e1
      exact ⟨R, Up.refl, rp_key _⟩
  | _ => exact h2.elim
def dRepM : WE → WE → WE := d2 fun s x y Ks => onO (vw s x) fun d => i1 y fun k => match d with
  | .list ds => -(2 ^ 63) ≤ k ∧ k < 2 ^ 63 ∧ ds.length * k.toNat ≤ sizeLine ∧ Ks (s.aM (.lst (List.replicate k.toNat ds).flatten)) (.mu s.ms.length)
  | _ => False
theorem opd_repM {K : PySem.W.Frag} : OpD K rRep (fun s x y Ks => onO (vw s x) fun d => i1 y fun k => match d with
  | .list ds => -(2 ^ 63) ≤ k ∧ k < 2 ^ 63 ∧ ds.length * k.toNat ≤ sizeLine ∧ Ks (s.aM (.lst (List.replicate k.toNat ds).flatten)) (.mu s.ms.length)
  | _ => False) := by
  intro b A own H σ s vx vy x y Ks Q R ex ey h k
  obtain ⟨d, hd, h⟩ := onO_inv h
  obtain ⟨i, rfl, h⟩ := i1_inv h
  cases ey
  split at h
  · obtain ⟨p, vs, rfl, q, r⟩ := vw_lstH R ex hd
    exact ⟨p, i, vs, rfl, rfl, q, h.1, h.2.1, by rw [r.length]; exact h.2.2.1, fun z hz => new_mu R k (r.rep _) hz h.2.2.2⟩
  · exact h.elim
theorem de_replistM (ha : DE X a wa) (hb : DE X b wb) : DE X (.BinOp a .Mult b pos) (dRepM wa wb) := de_op op_rep opd_repM ha hb
end
theorem OkM.noneL {P : Program} {w : World} {K : PySem.W.Frag} {mg : Str → Option Value} {base : Heap} {c m q : Str} {st : Stmt} {ps : List Str} {n L : Nat} {sp : SpD} (hF : ∃ C f fd, AtM K c m q st ps C f fd) (h : ∀ xs ms Ks, ¬ sp xs ms Ks) : OkM P w K mg base L c m q st ps n sp := by
  obtain ⟨C, f, fd, a⟩ := hF
  refine ⟨C, f, fd, a, ⟨fun vs H Q E q => ?_, fun A outer s H args us vs Q E hr _ he hb hv hs => ?_⟩⟩
  · obtain ⟨_, _, _, _, _, _, _, _, q, _⟩ := q
    exact (h _ _ _ q).elim
  · obtain ⟨_, _, _, _, _, _, _, _, q, _⟩ := hs
    exact (h _ _ _ q).elim
/-! ### where much changes: what stands where -/
theorem vw_mu {s : S} {k : Nat} {ds : List D} (g : gm s.ms k = .lst ds) : vw s (.mu k) = some (.list ds) := by
  unfold vw
  simp only [g]
theorem mu1_mk {s : S} {k : Nat} {ds : List D} {P : Nat → List D → Prop} (g : gm s.ms k = .lst ds) (h : P k ds) : mu1 s (.mu k) P := by
  unfold mu1
  simp only [g]
  exact h
theorem gm_at0 {ms : List MO} {x : MO} {r : List MO} : gm (ms ++ x :: r) ms.length = x := by
  rw [gm_app, if_neg (Nat.lt_irrefl _), Nat.sub_self]; rfl
theorem gm_at1 {ms : List MO} {x y : MO} {r : List MO} : gm (ms ++ x :: y :: r) (ms.length + 1) = y := by
  rw [gm_app, if_neg (by omega), show ms.length + 1 - ms.length = 1 from by omega]; rfl
theorem sm_at1 : ∀ {ms : List MO} {x y z : MO} {r : List MO}, sm (ms ++ x :: y :: r) (ms.length + 1) z = ms ++ x :: z :: r
  | [], _, _, _, _ => rfl
  | w :: ms, _, _, _, _ => congrArg (w :: ·) (sm_at1 (ms := ms))
theorem clo_lim {ms : List MO} (h : Clo ms) (i : Nat) : limM ms.length (gm ms i) = gm ms i := by
  by_cases q : i < ms.length
  · have := gm_takM ms.length ms.length ms i
    rw [if_pos q, show takM ms.length ms.length ms = ms from h] at this
    exact this.symm
  · rw [gm_ge _ _ (by omega)]; rfl
theorem limF_sub {n k : Nat} {d : D} (hk : n ≤ k) : ∀ {fs : List (Str × En)}, limF n fs = fs → subF k d fs = fs
  | [], _ => rfl
  | (f, x) :: fs, h => by
    have h1 : (f, limE n x) :: limF n fs = (f, x) :: fs := h
    injection h1 with h2 h3
    show (f, subE k d x) :: subF k d fs = _
    rw [limF_sub hk h3]
    injection h2 with _ h2
    cases x with
    | no => rfl
    | da d => rfl
    | mu j =>
      have h2 : (bif Nat.blt j n then En.mu j else .no) = .mu j := h2
      cases q : Nat.blt j n with
      | false => rw [q] at h2; cases h2
      | true =>
        have : j < n := by simpa using q
        rw [subE_ne (by omega)]
theorem clo_sub {ms : List MO} (h : Clo ms) {k : Nat} {d : D} (hk : ms.length ≤ k) (i : Nat) : subM k d (gm ms i) = gm ms i := by
  have := clo_lim h i
  cases q : gm ms i with
  | ins C fs =>
    rw [q] at this
    have h2 : MO.ins C (limF ms.length fs) = .ins C fs := this
    injection h2 with _ h2
    show MO.ins C (subF k d fs) = _
    rw [limF_sub hk h2]
  | _ => rfl
/-- a comprehension that leaves all that changes as it is -/
theorem lc_pure {vs : List Nat} {wi : WI} {wg : WG} {wt : WT} {we : WE} {s : S} {Ks : S → En → Prop} (ds : List D) (flt : D → Bool) (g : D → D) (cl : Clo s.ms) (hw : ∀ K : S → List D → Prop, K s ds → wi s K) (hl : ds.length ≤ sizeLine)
    (ht : ∀ d ∈ ds, ∀ (acc : List D) (Kt : List MO → D → Prop) (Kf : List MO → Prop), (flt d = true → ∀ r, Kt (s.ms ++ .lst acc :: r) (g d)) → (flt d = false → ∀ r, Kf (s.ms ++ .lst acc :: r)) →
      wg (.da d) ⟨killL vs s.es, s.ms ++ [.lst acc], s.np⟩ fun s2 => wt s2 fun s3 c => (c = true → we s3 fun s4 x => daI x fun y => Kt s4.ms y) ∧ (c = false → Kf s3.ms))
    (h : Ks s (.da (.list ((ds.filter flt).map g)))) : dLc vs wi wg wt we s Ks := by
  have tk : ∀ r, takM s.ms.length s.ms.length (s.ms ++ r) = s.ms := fun r => cl.app
  refine hw _ ⟨fun i ms acc => ms = s.ms ∧ acc = ((ds.take i).filter flt).map g, ⟨rfl, rfl⟩, fun i d ms acc hd ⟨e1, e2⟩ _ => ?_, fun ms acc ⟨e1, e2⟩ _ => ?_⟩
  · subst e1
    have hi : i < ds.length := (List.getElem?_eq_some_iff.mp hd).1
    have tks : ds.take (i + 1) = ds.take i ++ [d] := by
      rw [List.take_add_one, hd]; rfl
    have al : acc.length < sizeLine := by
      have h1 : acc.length ≤ (ds.take i).length := by
        rw [e2, List.length_map]
        exact List.length_filter_le _ _
      have h2 := List.length_take_le i ds
      omega
    refine ht d (List.mem_of_getElem? hd) acc (fun ms y => acc.length < sizeLine ∧ gm ms s.ms.length = .lst acc ∧ (takM s.ms.length s.ms.length ms = s.ms ∧ acc ++ [y] = ((ds.take (i + 1)).filter flt).map g)) (fun ms => gm ms s.ms.length = .lst acc ∧ (takM s.ms.length s.ms.length ms = s.ms ∧ acc = ((ds.take (i + 1)).filter flt).map g)) (fun q r => ⟨al, gm_at0, tk _, ?_⟩) fun q r => ⟨gm_at0, tk _, ?_⟩
    · rw [tks, List.filter_append, List.map_append, ← e2]
      simp [q]
    · rw [tks, List.filter_append, List.map_append, ← e2]
      simp [q]
  · show Ks ⟨s.es, takM s.ms.length s.ms.length ms, s.np⟩ (.da (.list acc))
    rw [e1, show takM s.ms.length s.ms.length s.ms = s.ms from cl, e2, List.take_length]
    exact h
theorem gm_frzD {k : Nat} {kvs : List (Key × D)} {s : S} (hk : k < s.ms.length) (j : Nat) : gm (frzDS k kvs s).ms j = if k = j then .gone else subM k (dictD kvs) (gm s.ms j) := by
  show gm (sm (subS k (dictD kvs) s.ms) k .gone) j = _
  rw [gm_sm]
  by_cases e : k = j
  · rw [if_pos e, if_pos ⟨e, by rw [subS_length]; exact hk⟩]
  · rw [if_neg e, if_neg (fun z => e z.1), gm_subS]
theorem len_frzD {k : Nat} {kvs : List (Key × D)} {s : S} : (frzDS k kvs s).ms.length = s.ms.length := by
  show (sm (subS k (dictD kvs) s.ms) k .gone).length = _
  rw [sm_length, subS_length]
theorem sFrzD_mk {i k : Nat} {kvs : List (Key × D)} {w : WS} {s : S} {Dd : Dn} (h1 : gt s.es i = .mu k) (h2 : gm s.ms k = .dct kvs) (h3 : s.np ≤ k) (h : w (frzDS k kvs s) Dd) : sFrzD i w s Dd := by
  unfold sFrzD
  rw [h1]
  simp only [h2]
  exact ⟨h3, h⟩
theorem sFrzV_mk {i k : Nat} {ds : List D} {w : WS} {s : S} {Dd : Dn} (h1 : gt s.es i = .mu k) (h2 : gm s.ms k = .lst ds) (h3 : s.np ≤ k) (h : w (frzS k ds s) Dd) : sFrzV i w s Dd := by
  unfold sFrzV
  rw [h1]
  unfold frzW
  simp only [h2]
  exact ⟨h3, h⟩
theorem same_tup {bo : Bool} {n t a b : Nat} {x y : List D} {s : S} {Ks : S → En → Prop} (gt : gm s.ms t = .ins .tup [sq (.mu a), sq (.mu b)]) (ga : gm s.ms a = .lst x) (gb : gm s.ms b = .lst y)
    (h1 : okS bo (.tuple [.list x, .list y]) = true) (h2 : (PyData.tuple [.list x, .list y]).depth < n) (h3 : n ≤ 60) (h : Ks s (.da (.bool true))) : CallN (spSame bo n) s [.mu t, .da (.tuple [.list x, .list y])] Ks := by
  have er : rnks s [.mu t, .da (.tuple [.list x, .list y])] = [] := by
    unfold rnks
    rw [gt]
    rfl
  unfold CallN CallN0
  rw [er]
  refine ⟨List.nodup_nil, ?_⟩
  have em : mixL2 [] s [.mu t, .da (.tuple [.list x, .list y])] = some [.da (.tuple [.list x, .list y]), .da (.tuple [.list x, .list y])] := by
    have e1 : mixE2 [] s (.mu t) = some (.da (.tuple [.list x, .list y])) := by
      unfold mixE2 posOf vwS
      simp only [gt]
      unfold viF viF viF sq vw
      simp only [ga, gb]
    unfold mixL2
    rw [e1]
    rfl
  rw [em]
  refine ⟨rfl, rfl, h1, h2, h3, rfl, rfl, rfl, ?_⟩
  have es : s.cM [] [] = s := by
    show (⟨s.es, s.ms ++ [], s.np⟩ : S) = s
    rw [List.append_nil]
  rw [es]
  exact h
theorem insAt_mkT {s : S} {j : Nat} {fs : List (Str × En)} {k : List (Str × En) → Prop} (g : gm s.ms j = .ins .tup fs) (h : k fs) : insAt s (.mu j) k := by
  unfold insAt
  simp only [g]
  exact h
theorem takM_one : ∀ {ms : List MO} {n : Nat}, gm ms 0 = .rnd n → takM 1 1 ms = [.rnd n]
  | [], _, h => by cases h
  | m :: ms, n, h => by
    have h : m = .rnd n := h
    subst h
    rfl
theorem ms_ext : ∀ {l l' : List MO}, l.length = l'.length → (∀ i, gm l i = gm l' i) → l = l'
  | [], [], _, _ => rfl
  | x :: l, y :: l', h, e => by
    have h0 : x = y := e 0
    rw [h0, ms_ext (by simpa using h) fun i => e (i + 1)]
  | [], _ :: _, h, _ => by cases h
  | _ :: _, [], h, _ => by cases h
theorem takM_fr {ms ms' : List MO} (cl : Clo ms) (fr : Fr ms [] ms' []) : takM ms.length ms.length ms' = ms := by
  have hl := fr.len
  refine ms_ext (by rw [takM_length]; omega) fun i => ?_
  rw [gm_takM]
  by_cases h : i < ms.length
  · rw [if_pos h, fr.eq i h (by simp)]
    exact clo_lim cl i
  · rw [if_neg h, gm_ge _ _ (by omega)]
/-- the turns of a comprehension that leaves all that changed ahead of it as it is -/
theorem lc_turnsF {vs : List Nat} {wg : WG} {wt : WT} {we : WE} {s : S} {Kf0 : List MO → List D → Prop} (ds : List D) (flt : D → Bool) (g : D → D) (cl : Clo s.ms) (hl : ds.length ≤ sizeLine)
    (ht : ∀ d ∈ ds, ∀ (acc : List D) (Kt : List MO → D → Prop) (Kf : List MO → Prop), (flt d = true → ∀ ms', Fr (s.ms ++ [.lst acc]) [] ms' [] → Kt ms' (g d)) → (flt d = false → ∀ ms', Fr (s.ms ++ [.lst acc]) [] ms' [] → Kf ms') →
      wg (.da d) ⟨killL vs s.es, s.ms ++ [.lst acc], s.np⟩ fun s2 => wt s2 fun s3 c => (c = true → we s3 fun s4 x => daI x fun y => Kt s4.ms y) ∧ (c = false → Kf s3.ms))
    (h : Kf0 s.ms ((ds.filter flt).map g)) : lcTurns vs wg wt we s ds Kf0 := by
  have tk : ∀ {acc ms'}, Fr (s.ms ++ [.lst acc]) [] ms' [] → gm ms' s.ms.length = .lst acc ∧ takM s.ms.length s.ms.length ms' = s.ms := fun {acc ms'} fr => by
    have h1 := fr.len
    simp at h1
    refine ⟨(fr.eq s.ms.length (by simp) (by simp)).trans gm_at0, takM_fr cl ⟨by omega, fun i hi _ => (fr.eq i (by simp; omega) (by simp)).trans (gm_app_lt hi), fun i z => by cases z⟩⟩
  refine ⟨fun i ms acc => ms = s.ms ∧ acc = ((ds.take i).filter flt).map g, ⟨rfl, rfl⟩, fun i d ms acc hd ⟨e1, e2⟩ _ => ?_, fun ms acc ⟨e1, e2⟩ _ => ?_⟩
  · subst e1
    have hi : i < ds.length := (List.getElem?_eq_some_iff.mp hd).1
    have tks : ds.take (i + 1) = ds.take i ++ [d] := by
      rw [List.take_add_one, hd]; rfl
    have al : acc.length < sizeLine := by
      have h1 : acc.length ≤ (ds.take i).length := by
        rw [e2, List.length_map]
        exact List.length_filter_le _ _
      have h2 := List.length_take_le i ds
      omega
    refine ht d (List.mem_of_getElem? hd) acc (fun ms y => acc.length < sizeLine ∧ gm ms s.ms.length = .lst acc ∧ (takM s.ms.length s.ms.length ms = s.ms ∧ acc ++ [y] = ((ds.take (i + 1)).filter flt).map g)) (fun ms => gm ms s.ms.length = .lst acc ∧ (takM s.ms.length s.ms.length ms = s.ms ∧ acc = ((ds.take (i + 1)).filter flt).map g)) (fun q ms' fr => ⟨al, (tk fr).1, (tk fr).2, ?_⟩) fun q ms' fr => ⟨(tk fr).1, (tk fr).2, ?_⟩
    · rw [tks, List.filter_append, List.map_append, ← e2]
      simp [q]
    · rw [tks, List.filter_append, List.map_append, ← e2]
      simp [q]
  · rw [e1, e2, List.take_length]
    exact h
theorem lc_pureF {vs : List Nat} {wi : WI} {wg : WG} {wt : WT} {we : WE} {s : S} {Ks : S → En → Prop} (ds : List D) (flt : D → Bool) (g : D → D) (hw : ∀ K : S → List D → Prop, (Clo s.ms → K s ds) → wi s K) (hl : ds.length ≤ sizeLine)
    (ht : Clo s.ms → ∀ d ∈ ds, ∀ (acc : List D) (Kt : List MO → D → Prop) (Kf : List MO → Prop), (flt d = true → ∀ ms', Fr (s.ms ++ [.lst acc]) [] ms' [] → Kt ms' (g d)) → (flt d = false → ∀ ms', Fr (s.ms ++ [.lst acc]) [] ms' [] → Kf ms') →
      wg (.da d) ⟨killL vs s.es, s.ms ++ [.lst acc], s.np⟩ fun s2 => wt s2 fun s3 c => (c = true → we s3 fun s4 x => daI x fun y => Kt s4.ms y) ∧ (c = false → Kf s3.ms))
    (h : Clo s.ms → Ks s (.da (.list ((ds.filter flt).map g)))) : dLc vs wi wg wt we s Ks :=
  hw _ fun cl => lc_turnsF ds flt g cl hl (ht cl) (by
    show Ks ⟨s.es, takM s.ms.length s.ms.length s.ms, s.np⟩ _
    rw [show takM s.ms.length s.ms.length s.ms = s.ms from cl]
    exact h cl)
theorem lc_pureM {vs : List Nat} {wi : WI} {wg : WG} {wt : WT} {we : WE} {s : S} {Ks : S → En → Prop} (ds : List D) (flt : D → Bool) (g : D → D) (hw : ∀ K : S → List D → Prop, (Clo s.ms → K s ds) → wi s K) (hl : ds.length ≤ sizeLine)
    (ht : Clo s.ms → ∀ d ∈ ds, ∀ (acc : List D) (Kt : List MO → D → Prop) (Kf : List MO → Prop), (flt d = true → ∀ ms', Fr (s.ms ++ [.lst acc]) [] ms' [] → Kt ms' (g d)) → (flt d = false → ∀ ms', Fr (s.ms ++ [.lst acc]) [] ms' [] → Kf ms') →
      wg (.da d) ⟨killL vs s.es, s.ms ++ [.lst acc], s.np⟩ fun s2 => wt s2 fun s3 c => (c = true → we s3 fun s4 x => daI x fun y => Kt s4.ms y) ∧ (c = false → Kf s3.ms))
    (h : Clo s.ms → Ks (s.aM (.lst ((ds.filter flt).map g))) (.mu s.ms.length)) : dLcM vs wi wg wt we s Ks :=
  hw _ fun cl => lc_turnsF ds flt g cl hl (ht cl) (h cl)
theorem same_lst {bo : Bool} {n t : Nat} {x : List D} {s : S} {Ks : S → En → Prop} (gt : gm s.ms t = .lst x)
    (h1 : okS bo (.list x) = true) (h2 : (PyData.list x).depth < n) (h3 : n ≤ 60) (h : Ks s (.da (.bool true))) : CallN (spSame bo n) s [.mu t, .da (.list x)] Ks := by
  have er : rnks s [.mu t, .da (.list x)] = [] := by
    unfold rnks
    rw [gt]
    rfl
  unfold CallN CallN0
  rw [er]
  refine ⟨List.nodup_nil, ?_⟩
  have em : mixL2 [] s [.mu t, .da (.list x)] = some [.da (.list x), .da (.list x)] := by
    have e1 : mixE2 [] s (.mu t) = some (.da (.list x)) := by
      unfold mixE2 posOf vwS
      simp only [gt]
      unfold vw
      simp only [gt]
    unfold mixL2
    rw [e1]
    rfl
  rw [em]
  refine ⟨rfl, rfl, h1, h2, h3, rfl, rfl, rfl, ?_⟩
  have es : s.cM [] [] = s := by
    show (⟨s.es, s.ms ++ [], s.np⟩ : S) = s
    rw [List.append_nil]
  rw [es]
  exact h
theorem hu65 {k : Nat} {A : Around} (hr : RoomG k A) : A.units + 65 < cLine := by
  have := hr.r.un
  omega
section
variable {X : Cx} {a b c e : Expr} {wa wb we : WE} {pos : Pos}
/-- the first place of an equal one -/
def dIndexDd (wa wb : WE) : WE := fun s Ks => wa s fun s1 x => (∃ ds, vw s1 x = some (.list ds)) ∧ wb s1 fun s2 y => daI y fun d => ∃ (ds : List D) (j : Nat) (z : D), vw s2 x = some (.list ds) ∧ SeqAt.shaped (.list ds) = true ∧ SeqAt.shaped d = true ∧ ds[j]? = some z ∧ PyData.eqv z d = true ∧
  (∀ (m : Nat) (z' : D), m < j → ds[m]? = some z' → PyData.eqv z' d = false) ∧ Ks s2 (.da (.int (j : Nat)))
theorem de_indexDd {apos cpos : Pos} (hu : X.A.units + 65 < cLine) (ho : DE X a wa) (hi : DE X b wb)
    (hbase : attributeBase a "index" X.env (eval a X.env) = eval a X.env := by rfl)
    (hfew : ((backTo cpos (starEach (b :: []) X.env)).all (fun x => !x.1) && (backToKw cpos (keywordEach [] X.env)).all (fun x => x.1.isSome)
      && decide ((b :: []).length + ([] : List Keyword).length + (if ([] : List Keyword).isEmpty then 0 else 1) < 30)) = true := by rfl)
    (hline : (apos.endLine == cpos.line) = true := by rfl) (hs : starEach (b :: []) X.env = (false, eval b X.env) :: starEach [] X.env := by rfl) (hplain : (backTo cpos (starEach [] X.env)).any (·.1) = false := by rfl) :
    DE X (.Call (.Attribute a "index" apos) [b] [] cpos) (dIndexDd wa wb) := by
  obtain ⟨ta, pa, qa⟩ := ho.ex
  obtain ⟨tr, pr, qr⟩ := (da_cons hi da_nil hs).ex
  refine ⟨_, pe_bm PySem.F.plainAttrs_list PySem.F.slot_list_index PySem.F.type_list_index (mt_indexD hu) pa pr hbase hfew hline hs hplain, fun b A own H σ s Ks Q R h k => ?_⟩
  show ta σ H fun x H1 => tyV X.K "list" x H1 ∧ tr σ H1 fun xs H2 => rIndexD X.K x xs H2 Q
  refine qa _ _ _ _ _ _ _ _ R h fun A1 o1 H1 v1 s1 x1 R1 U1 E1 h1 => ?_
  obtain ⟨⟨ds, hd⟩, h1⟩ := h1
  obtain ⟨p, us, rfl, l1, r1⟩ := vw_lst R1 E1 hd
  refine ⟨.inl ⟨rfl, _, l1⟩, ?_⟩
  refine qr _ _ _ _ _ _ (fun s2 xs => a1 xs fun y => daI y fun d => ∃ (ds : List D) (j : Nat) (z : D), vw s2 x1 = some (.list ds) ∧ SeqAt.shaped (.list ds) = true ∧ SeqAt.shaped d = true ∧ ds[j]? = some z ∧ PyData.eqv z d = true ∧
    (∀ (m : Nat) (z' : D), m < j → ds[m]? = some z' → PyData.eqv z' d = false) ∧ Ks s2 (.da (.int (j : Nat)))) _ R1 h1 fun A2 o2 H2 vs s2 xs R2 U2 E2 h2 => ?_
  obtain ⟨v, y, rfl, E3, h2⟩ := a1_inv E2 h2
  obtain ⟨d, rfl, ds2, j, z, hv, sl, sd, hj, he, hno, h2⟩ := daI_inv h2
  have hl := vw_dp R2 (E1.up U2) hv (SeqAt.canLay_of_shaped sl)
  exact ⟨p, v, d, ds2, j, z, rfl, rfl, hl, Rp.dp E3 (SeqAt.canLay_of_shaped sd), sl, sd, hj, he, hno, (k.up (U1.trans U2)).da R2 Up.refl (.int _) h2⟩
end
def rCountD (K : PySem.W.Frag) : V → List V → Hp → VK → Prop := fun x xs H Q => ∃ (a : Addr) (y : V) (d : PyData) (ds : List PyData), x = V.ref a ∧ xs = [y] ∧ Dp K H (V.ref a) (.list ds) ∧ Dp K H y d ∧
  SeqAt.shaped (.list ds) = true ∧ SeqAt.shaped d = true ∧ Q (.int ((ds.countP fun z => PyData.eqv z d : Nat) : Int)) H
section
variable {X : Cx} {a b c e : Expr} {wa wb we : WE} {pos : Pos}
theorem mt_countD (hu : X.A.units + 65 < cLine) : MtR X "list.count" (rCountD X.K) := by
  intro pins s σ H x xs v us Q I rx rxs h
  obtain ⟨a, y, d, ds, rfl, rfl, hl, hy, sl, sd, q⟩ := h
  cases rx
  cases rxs with
  | cons ry rt =>
    rename_i uy ut
    cases rt
    obtain ⟨bs, r1⟩ := Dp.reads I d y uy hy ry
    have hxs : PyData.canLayAll0 ds = true := SeqAt.canLay_of_shaped sl
    have hroom : X.A.units + 1 + min (PyData.depthAll ds) d.depth < cLine := room_in_shaped sd hu
    cases hl with
    | lst hs ha =>
      obtain ⟨its, rv, ⟨⟨cls, dd, data, sls⟩, n, ho, hc, hdn, hdt⟩, hlen⟩ := I.list hs
      simp only at hc hdt
      subst hc hdt
      obtain ⟨as, h4⟩ := Dp.readsAll I ds _ its ha rv
      have hmap : its.map (SeqAt.readOf s.heap) = ds := SeqAt.readsAll_map ds its as hxs h4
      refine call_meets PySem.F.slot_list_count ⟨_, ho, rfl⟩ PySem.F.entry_list_count (PySem.F.args_list_count_2 _ _)
        (SeqAt.list_countAt a its.toArray n dd sls uy (fun u => PyData.eqv (SeqAt.readOf s.heap u) d)) ⟨ho, SeqAt.items_eqAt (vs := its.toArray) (show ReadsAll s.heap its.toArray.toList ds as from h4) r1 hxs (SeqAt.canLay_of_shaped sd) hroom, ?_⟩
      have ec : its.toArray.toList.countP (fun u => PyData.eqv (SeqAt.readOf s.heap u) d) = ds.countP fun z => PyData.eqv z d := by
        rw [← hmap, List.countP_map]
        rfl
      rw [ec]
      exact ⟨.int ((ds.countP fun z => PyData.eqv z d : Nat) : Int), H, I.tok _, ⟨_, rfl⟩, q⟩
/-- how many are equal -/
def dCountDd (wa wb : WE) : WE := fun s Ks => wa s fun s1 x => (∃ ds, vw s1 x = some (.list ds)) ∧ wb s1 fun s2 y => daI y fun d => ∃ (ds : List D), vw s2 x = some (.list ds) ∧ SeqAt.shaped (.list ds) = true ∧ SeqAt.shaped d = true ∧ Ks s2 (.da (.int ((ds.countP fun z => PyData.eqv z d : Nat) : Int)))
theorem de_countDd {apos cpos : Pos} (hu : X.A.units + 65 < cLine) (ho : DE X a wa) (hi : DE X b wb)
    (hbase : attributeBase a "count" X.env (eval a X.env) = eval a X.env := by rfl)
    (hfew : ((backTo cpos (starEach (b :: []) X.env)).all (fun x => !x.1) && (backToKw cpos (keywordEach [] X.env)).all (fun x => x.1.isSome)
      && decide ((b :: []).length + ([] : List Keyword).length + (if ([] : List Keyword).isEmpty then 0 else 1) < 30)) = true := by rfl)
    (hline : (apos.endLine == cpos.line) = true := by rfl) (hs : starEach (b :: []) X.env = (false, eval b X.env) :: starEach [] X.env := by rfl) (hplain : (backTo cpos (starEach [] X.env)).any (·.1) = false := by rfl) :
    DE X (.Call (.Attribute a "count" apos) [b] [] cpos) (dCountDd wa wb) := by
  obtain ⟨ta, pa, qa⟩ := ho.ex
  obtain ⟨tr, pr, qr⟩ := (da_cons hi da_nil hs).ex
  refine ⟨_, pe_bm PySem.F.plainAttrs_list PySem.F.slot_list_count PySem.F.type_list_count (mt_countD hu) pa pr hbase hfew hline hs hplain, fun b A own H σ s Ks Q R h k => ?_⟩
  show ta σ H fun x H1 => tyV X.K "list" x H1 ∧ tr σ H1 fun xs H2 => rCountD X.K x xs H2 Q
  refine qa _ _ _ _ _ _ _ _ R h fun A1 o1 H1 v1 s1 x1 R1 U1 E1 h1 => ?_
  obtain ⟨⟨ds, hd⟩, h1⟩ := h1
  obtain ⟨p, us, rfl, l1, r1⟩ := vw_lst R1 E1 hd
  refine ⟨.inl ⟨rfl, _, l1⟩, ?_⟩
  refine qr _ _ _ _ _ _ (fun s2 xs => a1 xs fun y => daI y fun d => ∃ (ds : List D), vw s2 x1 = some (.list ds) ∧ SeqAt.shaped (.list ds) = true ∧ SeqAt.shaped d = true ∧ Ks s2 (.da (.int ((ds.countP fun z => PyData.eqv z d : Nat) : Int)))) _ R1 h1 fun A2 o2 H2 vs s2 xs R2 U2 E2 h2 => ?_
  obtain ⟨v, y, rfl, E3, h2⟩ := a1_inv E2 h2
  obtain ⟨d, rfl, ds2, hv, sl, sd, h2⟩ := daI_inv h2
  have hl := vw_dp R2 (E1.up U2) hv (SeqAt.canLay_of_shaped sl)
  exact ⟨p, v, d, ds2, rfl, rfl, hl, Rp.dp E3 (SeqAt.canLay_of_shaped sd), sl, sd, (k.up (U1.trans U2)).da R2 Up.refl (.int _) h2⟩
end
end DL
namespace DL
open PySem L2 PySem.Spec PyProof.Rows
/-! ### sorted(t) of a tuple of data -/
section
variable {prog : Program} {w : World} {A : Around} {E : Value → Shared → Prop} {s : Shared}
theorem gather_tup {t : Addr} {us : List Value} {Q : List Value → Shared → Prop} (ht : s.heap.IsTuple t us.toArray) (hz : us.length ≤ sizeLine)
    (k : Q us { s with heap := (s.heap.push (seqObj "list" #[] 0)).update s.heap.objs.size (Obj.mapSeq (· ++ us.toArray)) }) : wpAny (model prog w) A (collect (.ref t)) Q E s := by
  obtain ⟨o, h0, h1, m, h2⟩ := ht
  have g0 : (s.heap.push (seqObj "list" #[] 0)).get? t = some o := Heap.get?_push_of_some _ h0
  have gn : (s.heap.push (seqObj "list" #[] 0)).get? s.heap.objs.size = some (seqObj "list" #[] 0) := Heap.get?_push_size _ rfl
  unfold collect
  refine wpAny_bind (wpAny_runValue (codeAny_builtin entry_proto_collect' (show wpAny _ _ (do again (.builtin "list.__iadd__" ⟨[← newList [], .ref t], []⟩)) _ _ s from ?_)))
  refine wpAny_bind (wpAny_newList (wpAny_pure ⟨Code.quiet_builtin _ (by decide +kernel), codeAny_builtin entry_list_iadd' (show wpAny _ _ (Builtin.List.listExtendWith (.ref s.heap.objs.size) (.ref t) (.ref s.heap.objs.size)) _ _ { s with heap := s.heap.push (seqObj "list" #[] 0) } from ?_)⟩))
  unfold Builtin.List.listExtendWith
  refine wpAny_bind (wpAny_typeOf (T := "tuple") ⟨o, g0, h1⟩ ?_)
  rw [if_pos (by rw [show (Value.type "tuple" == Value.type "tuple") = true from rfl]; simp)]
  refine wpAny_bind (listItems_at g0 h2 (wpAny_bind (listItems_at (xs := #[]) (n := 0) gn rfl ?_)))
  rw [if_neg (by simp)]
  refine wpAny_bind (listUpdate_at (xs := #[]) (n := 0) gn rfl (wpAny_pure ?_) (Nat.zero_le _) (by show (#[] ++ us.toArray).size ≤ sizeLine + 1; simp only [Array.size_append, List.size_toArray, List.length_nil]; omega))
  have gu := get?_update_seq gn (fun a => a ++ us.toArray)
  refine wpAny_bind (wpAny_load gu ?_)
  have e0 : ((#[] : Array Value) ++ us.toArray).toList = us := by simp
  show wpAny _ _ (pure ((#[] : Array Value) ++ us.toArray).toList) Q E _
  rw [e0]
  exact wpAny_pure k
theorem sort_tup {β : Type} {R : Value → β → Prop} {enc : β → PyData} {vs : List Value} {bs : List β} {t : Addr} {Q : Value → Shared → Prop} (ht : s.heap.IsTuple t vs.toArray) (e : PySem.W.EachIs R vs bs) (er : PySem.W.EachIs (fun v b => ∃ as, Reads s.heap v (enc b) as) vs bs)
    (hal : PySem.W.AllAlike (bs.map enc)) (hk : PySem.W.Sortable (bs.map enc)) (hL : bs.length ≤ sizeLine) (hu : ∀ b, b ∈ bs → A.units + 2 + (enc b).depth < cLine)
    (k : ∀ out, out.length = bs.length → PySem.W.EachIs R out (bs.mergeSort (PySem.W.dataLe false enc)) → Q (.ref (s.heap.objs.size + 1)) { s with heap := sortedAll s.heap vs (List.toArray out) }) :
    wpAny (model prog w) A (call (.builtin "sorted") [.ref t]) Q E s := by
  have hL2 : vs.length ≤ sizeLine := by rw [e.length]; exact hL
  refine call_function_entry_kw kind_sorted plain_sorted entry_sorted (args_sorted1 _) ?_
  unfold Builtin.«sorted»
  refine wpAny_bind (m := checkCount "sorted" 1 1 _) (wpAny_pure (wpAny_bind (gather_tup ht hL2 (wpAny_bind (wpAny_newList ?_ hL2)))))
  have hsz : ((s.heap.push (seqObj "list" #[] 0)).update s.heap.objs.size (Obj.mapSeq (· ++ vs.toArray))).objs.size = s.heap.objs.size + 1 := by
    rw [Heap.size_update]; exact Heap.size_push ..
  show wpAny _ _ _ _ _ { s with heap := PySem.W.copyHeap s.heap vs }
  rw [hsz]
  have er' : PySem.W.EachIs (fun v b => ∃ as, Reads (PySem.W.sortingHeap (PySem.W.copyHeap s.heap vs) (s.heap.objs.size + 1) vs) v (enc b) as) vs bs := er.mono fun _ _ ⟨as, r⟩ => ⟨as, PyProof.Rows.Reads.keeps (fun _ _ => PySem.W.sorting_copy_old) r⟩
  refine wpAny_bind (wpAny_holding (wpAny_call_entry_kw slot_list_sort ⟨_, PySem.W.copyHeap_at s.heap vs, rfl⟩ entry_list_sort ?_ (args_list_sort _)))
  refine wpAny_mono (PySem.W.list_sort_vals (P := fun f s' => f = .done (.ret .none) ∧ Q (.ref (s.heap.objs.size + 1)) s') (s := { s with heap := PySem.W.copyHeap s.heap vs }) (PySem.W.copyHeap_at s.heap vs)
    (PySem.W.SortsAt.data (s := { s with heap := PySem.W.sortingHeap (PySem.W.copyHeap s.heap vs) (s.heap.objs.size + 1) vs }) (PySem.W.each_map (R := fun v d => ∃ as, Reads (PySem.W.sortingHeap (PySem.W.copyHeap s.heap vs) (s.heap.objs.size + 1) vs) v d as) enc er') hal hk (PySem.W.bound_map hu)) hL2
    ⟨rfl, k _ (by rw [PySem.W.sortVals_length false rfl]; exact e.length) (PySem.W.sortVals_data false e er' hal)⟩) (fun f s' hf => ?_) fun _ _ e => e
  obtain ⟨rfl, hq⟩ := hf
  exact ⟨_, rfl, wpAny_pure ⟨_, rfl, hq⟩⟩
end
/-! ### sorted(set(t)) of a tuple of ints -/
theorem tup_not_set : isSubtype (.type "tuple") (.type "set") = pure false := by rw [isSubtype_type]; kernel_rfl
theorem tup_not_frozenset : isSubtype (.type "tuple") (.type "frozenset") = pure false := by rw [isSubtype_type]; kernel_rfl
section
variable {P : Program} {w : World} {A : Around} {E : Value → Shared → Prop} {s : Shared}
theorem set_of_tup {l : Addr} {vs : Array Value} {ns : List Int} {Q : Value → Shared → Prop} (h0 : A.handled = none) (hl : s.heap.IsTuple l vs) (hv : IntsAre vs.toList ns) (hb : ns.length + 1 < scanBound)
    (k : ∀ (h' : Heap) (tk c : Nat), SetR w h' s.heap.objs.size (fun j => decide (j ∈ ns)) c → c ≤ ns.length → (∀ b o, s.heap.get? b = some o → h'.get? b = some o) → Q (.ref s.heap.objs.size) { s with heap := h', toks := tk }) :
    wpAny (model P w) A (call (.type "set") [.ref l]) Q E s := by
  have hsz : vs.size = ns.length := by rw [← Array.length_toList]; exact hv.length
  obtain ⟨c, tl, hmro⟩ := F.called_set.mro
  have m1 := F.called_set.made
  have m2 := F.called_set.sub
  refine wpAny_call (codeAny_of_tree ?_)
  show wpAny _ _ (callAny (.type "set") _) _ _ _
  refine wpAny_pure ⟨Code.quiet_builtin _ (by decide +kernel), codeAny_builtin F.entry_type_call ?_⟩
  rw [Around.under_plain (weight_type_call_type "set" [.ref l] []) rfl]
  have m3 := F.called_set.notType
  have m4 := F.called_set.canCreate
  have m5 := F.typeCall_set_1 (.ref l)
  repeat (any_goals (first | assumption | wp_step))
  refine codeAny_mono (code_set_led1 (.ref l) (E := E) (Q₁ := fun x t => x = .ref s.heap.objs.size ∧ t = { s with heap := s.heap.push (eset w) }) ⟨rfl, rfl⟩) fun r t hr => ?_
  cases r with
  | error e => exact hr
  | ok fl =>
    cases fl with
    | ret x =>
      obtain ⟨rfl, rfl⟩ := hr
      have g0 : (s.heap.push (eset w)).get? s.heap.objs.size = some (eset w) := Heap.get?_push_size _ rfl
      have gT : Shared.TypeIs { s with heap := s.heap.push (eset w) } (.ref s.heap.objs.size) "set" := ⟨_, g0, rfl⟩
      have i1 := F.called_set.init.lookup
      have i2 := F.called_set.init.bind (.ref s.heap.objs.size)
      repeat (any_goals (first | assumption | wp_step))
      refine codeAny_mono (codeAny_call_builtin (R := wants (fun r t => r = .none ∧ ∃ h' tk c, t = { s with heap := h', toks := tk } ∧ SetR w h' s.heap.objs.size (fun j => decide (j ∈ ns)) c ∧ c ≤ ns.length ∧
          (∀ b o, s.heap.get? b = some o → h'.get? b = some o)) E) F.called_set.init.plain F.entry_set_init (check_set_init_1 gT ?_)) fun r t hr => ?_
      · obtain ⟨⟨oc, od, oa, os⟩, ho, e1, nl, e2⟩ := hl
        simp only at e1 e2
        subst e1; subst e2
        have hlt : l < s.heap.objs.size := Heap.lt_size ho
        have ho2 : (s.heap.push (eset w)).get? l = some { cls := .type "tuple", dict := od, data := .seq vs nl, slots := os } := Heap.get?_push_of_some _ ho
        have u1 := tup_not_set
        have u2 := tup_not_frozenset
        have u3 : (Value.type "tuple" == Value.type "dict") = false := by decide
        have hl2 : (s.heap.push (eset w)).IsTuple l vs := ⟨_, ho2, rfl, nl, rfl⟩
        unfold Builtin.«set.__init__» noKeywords Builtin.Frozenset.updateFrom
        generalize hPI : pyIter = PI
        wp_walk
        subst hPI
        refine wpAny_pyIter_tuple hl2 ?_
        refine wpAny_bind (wpAny_runValue ?_)
        have z1 : (s.heap.push (eset w)).objs.size = s.heap.objs.size + 1 := Heap.size_push ..
        have n1 : l ≠ (s.heap.push (eset w)).objs.size := by rw [z1]; exact Nat.ne_of_lt (Nat.lt_succ_of_lt hlt)
        have n2 : s.heap.objs.size ∉ [(s.heap.push (eset w)).objs.size, l] := by
          intro z
          rcases List.mem_cons.mp z with z | z
          · exact absurd z (by rw [z1]; exact Nat.ne_of_lt (Nat.lt_succ_self _))
          · exact absurd (List.mem_singleton.mp z) (Nat.ne_of_gt hlt)
        refine set_update_ints ((Walks.tuple (by simp [h0]) _ l n1 vs).toS) s.heap.objs.size n2 ns hsz hb (fun i v hi => ?_) (vs.size - 0) 0 _ (by omega) (Nat.zero_le _) ⟨⟨_, Heap.get?_push_size _ rfl, rfl, rfl⟩, (hl2.push _)⟩ ?_ ?_
        · have hi2 : i < ns.length := by rw [← hsz]; exact (Array.getElem?_eq_some_iff.mp hi).1
          obtain ⟨t, e⟩ := PyProof.Rows.IntsAre.int_at hv i v (by rw [Array.getElem?_toList]; exact hi)
          exact ⟨ns[i], t, List.getElem?_eq_getElem hi2, by rw [e, List.getD_eq_getElem?_getD, List.getElem?_eq_getElem hi2]; rfl⟩
        · exact ⟨0, Nat.le_refl 0, setR_new_at (Heap.get?_push_of_some _ g0)⟩
        · rintro ⟨h', g', d', tk', os'⟩ c' hm hc hS
          have x1 : g' = s.gens := hm.gens
          have x2 : d' = s.drawn := hm.drawn
          have x3 : os' = s.os := hm.os
          subst x1; subst x2; subst x3
          show wpAny _ _ _ _ _ _
          refine wpAny_pure ?_
          show wpAny _ _ (ret Value.none) _ _ _
          refine wpAny_pure ⟨rfl, h', tk', c', rfl, hS, by rw [← hsz]; exact hc, fun b o e => ?_⟩
          have hb2 : b < s.heap.objs.size := Heap.lt_size e
          refine hm.heap b o (fun z => ?_) (Heap.get?_push_of_some _ (Heap.get?_push_of_some _ e))
          rcases List.mem_cons.mp z with z | z
          · exact absurd z (Nat.ne_of_lt hb2)
          · exact absurd (List.mem_singleton.mp z) (by rw [z1]; exact Nat.ne_of_lt (Nat.lt_succ_of_lt hb2))
      · cases r with
        | error e => exact hr
        | ok fl =>
          cases fl with
          | ret r =>
            obtain ⟨rfl, h', tk, c', rfl, y1, y2, y3⟩ := hr
            repeat (any_goals (first | assumption | wp_step))
            exact k _ _ _ y1 y2 y3
          | _ => exact hr.elim
    | _ => exact hr.elim
theorem set_of_any {l : Addr} {vs : Array Value} {ns : List Int} {Q : Value → Shared → Prop} (h0 : A.handled = none) (hl : s.heap.IsList l vs ∨ s.heap.IsTuple l vs) (hv : IntsAre vs.toList ns) (hb : ns.length + 1 < scanBound)
    (k : ∀ (h' : Heap) (tk c : Nat), SetR w h' s.heap.objs.size (fun j => decide (j ∈ ns)) c → c ≤ ns.length → (∀ b o, s.heap.get? b = some o → h'.get? b = some o) → Q (.ref s.heap.objs.size) { s with heap := h', toks := tk }) :
    wpAny (model P w) A (call (.type "set") [.ref l]) Q E s := by
  rcases hl with hl | hl
  · exact set_of_list h0 hl hv hb k
  · exact set_of_tup h0 hl hv hb k
end
section
variable {X : L2.Cx} {a : Expr} {wa : WE} {pos : Pos}
def rSortedA (K : PySem.W.Frag) : List V → Hp → VK → Prop := fun vs H Q => ∃ (a : Addr) (zs : List (V × D)), vs = [.ref a] ∧ (SqL K H a (zs.map (·.1)) ∨ SqT K H a (zs.map (·.1))) ∧ DpAll K H (zs.map (·.1)) (zs.map (·.2)) ∧ canSort (zs.map (·.2)) ∧
  ∀ p, H p = none → Q (.ref p) (upd H p (.lst ((zs.mergeSort (PySem.W.dataLe false (·.2))).map (·.1))))
theorem cr_sortedA (hu : X.A.units + 64 < cLine) : CallR X (.builtin "sorted") (rSortedA X.K) := by
  intro pins s σ H vs us Q I r h
  obtain ⟨a, zs, rfl, hs | hs, hd, hc, q⟩ := h
  · exact cr_sortedD hu pins s σ H _ us Q I r ⟨a, zs, rfl, hs, hd, hc, q⟩
  · obtain ⟨c1, c2, c3, c4⟩ := hc
    obtain ⟨its, rv, hl, hz⟩ := I.tuple hs
    rw [Vals.ref1 r]
    obtain ⟨as, hr⟩ := Dp.readsAll I _ _ its hd rv
    obtain ⟨h1, h2⟩ := each_vals rv hr
    refine sort_tup (enc := fun z : V × D => z.2) hl h1 h2 c1 c2 (by rw [List.length_map] at hz; exact hz) (fun z hm => ?_) fun out h3 h4 => ?_
    · have := depth_le_all (List.mem_map_of_mem (f := fun z : V × D => z.2) hm)
      omega
    · obtain ⟨ep, he'⟩ := PyProof.Rows.sortedAll_at s.heap its out.toArray
      refine ⟨.ref _, upd H (s.heap.objs.size + 1) (.lst ((zs.mergeSort (PySem.W.dataLe false (·.2))).map (·.1))), I.laid (t' := s.toks) (fun _ _ => PyProof.Rows.sortedAll_old) (Nat.le_succ _) ⟨?_, out, ep, vals_each h4, he'⟩, rfl, q _ (I.hok.fresh (Nat.le_succ _))⟩
      rw [List.length_map, List.length_mergeSort]
      rw [List.length_map] at hz
      exact hz
def cSortA : S → List En → (S → En → Prop) → Prop := fun s xs Ks => a1 xs fun x => ∃ ds : List D, (vw s x).bind seqD = some ds ∧ canSort ds ∧ Ks s (.da (.list (sortD ds)))
theorem vw_seqA {K : PySem.W.Frag} {b : Bd} {A : Addr → Prop} {own : List (List Addr)} {H : Hp} {σ : L2.St} {s : S} {v : V} {x : En} {ds : List D} (R : Rel K b A own H σ s) (E : ER K A own H v x) (hd : (vw s x).bind seqD = some ds) :
    ∃ a us, v = .ref a ∧ (SqL K H a us ∨ SqT K H a us) ∧ RpL K A H us ds := by
  cases q : vw s x with
  | none => rw [q] at hd; cases hd
  | some d =>
    rw [q] at hd
    cases d with
    | list es =>
      cases (show some es = some ds from hd)
      obtain ⟨a, us, e, h1, h2⟩ := vw_lst R E q
      exact ⟨a, us, e, .inl h1, h2⟩
    | tuple es =>
      cases (show some es = some ds from hd)
      obtain ⟨a, us, e, h1, h2⟩ := vw_tup R E q
      exact ⟨a, us, e, .inr h1, h2⟩
    | _ => cases hd
theorem cd_sortA {K : PySem.W.Frag} : CallD K (rSortedA K) cSortA := by
  intro b A own H σ s vs xs Ks Q R E h k
  obtain ⟨v, x, rfl, e1, ds, hd, hc, h⟩ := a1_inv E h
  obtain ⟨a, us, rfl, hs, r⟩ := vw_seqA R e1 hd
  obtain ⟨zs, rfl, rfl, hz⟩ := rpl_zip r
  refine ⟨a, zs, rfl, hs, r.dp hc.2.2.1, hc, fun p hp => new_lst R k ?_ hp h⟩
  rw [← map_sort]
  exact rpl_map fun z hm => hz z ((List.mergeSort_perm _ _).mem_iff.mp hm)
theorem de_sortA {p : Pos} (hu : X.A.units + 64 < cLine) (hg : Gl X "sorted") (hm : X.mg "sorted" = none) (ha : DE X a wa) (he : starEach (a :: []) X.env = (false, eval a X.env) :: starEach [] X.env := by rfl) : DE X (.Call (.Name "sorted" p) [a] [] pos) (dCall cSortA (aCons wa aNil)) := de_callB (cr_sortedA hu) cd_sortA hg hm (by decide +kernel) (da_cons ha da_nil he) (he := he)
/-! sorted(set(x)) of a list or a tuple of ints -/
def tSortSetA (K : PySem.W.Frag) (ta : TE) : TE := fun σ H Q => ta σ H fun x H1 => ∃ (l : Addr) (ns : List Int), x = .ref l ∧ (SqL K H1 l (ns.map V.int) ∨ SqT K H1 l (ns.map V.int)) ∧ ns.length < 64 ∧ ∀ (p : Addr) (out : List Int), out.Pairwise (· < ·) → (∀ k, k ∈ out ↔ k ∈ ns) → H1 p = none → Q (.ref p) (upd H1 p (.lst (out.map V.int)))
theorem pe_sortSetA {ta : TE} {p p2 q pos : Pos} (hc : X.calm = true) (hg : Gl X "sorted") (hm : X.mg "sorted" = none) (hg2 : Gl X "set") (hm2 : X.mg "set" = none) (ha : PE X a ta)
    (na : starEach [a] X.env = (false, eval a X.env) :: starEach [] X.env := by rfl) : PE X (.Call (.Name "sorted" p) [.Call (.Name "set" p2) [a] [] q] [] pos) (tSortSetA X.K ta) := by
  refine ⟨fun pins s σ H Q I h => ?_⟩
  refine Call_ (ld_blt I hg hm (show bootBuiltins "sorted" = some (.builtin "sorted") by decide +kernel) ?_)
  refine PyProof.Rows.callWith_builtin1 (PyProof.Rows.args_cons ?_ rfl) rfl rfl
  refine Call_ (ld_blt I hg2 hm2 PyProof.Rows.boot_set ?_)
  refine PyProof.Rows.callWith_type1 (PyProof.Rows.args_cons (thn (ha.run pins s σ H _ I h) fun v s1 ⟨x, H1, I1, r1, q1⟩ => PyProof.Rows.args_nil ?_) na) na rfl
  obtain ⟨l, ns, rfl, hq, hl, q1⟩ := q1
  cases r1
  obtain ⟨its, r, pl, hz⟩ : ∃ its : List Value, Vals (ns.map V.int) its ∧ (s1.heap.IsList l its.toArray ∨ s1.heap.IsTuple l its.toArray) ∧ (ns.map V.int).length ≤ sizeLine := by
    rcases hq with hq | hq
    · obtain ⟨its, r, pl, hz⟩ := I1.list hq
      exact ⟨its, r, .inl pl.isList, hz⟩
    · obtain ⟨its, r, pl, hz⟩ := I1.tuple hq
      exact ⟨its, r, .inr pl, hz⟩
  have hlen : its.toArray.size = ns.length := by rw [List.size_toArray, ← r.length, List.length_map]
  refine set_of_any (I1.ok.hd hc) pl (ns := ns) (by simpa using RZ.intsAre_vals r) (by unfold scanBound; omega) fun h' tk c R1 hcn hk => ?_
  refine PyProof.Rows.args_nil ?_
  refine sorted_set (s := { s1 with heap := h', toks := tk }) R1 (I1.ok.hd hc) (by omega) fun s' pp out cc os k1 g1 o1 hz1 hp hI hlt hmem hn => ?_
  have kall : ∀ b u, s1.heap.get? b = some u → s'.heap.get? b = some u := fun b u e => k1 b u (hk b u e)
  have hle : s1.heap.objs.size ≤ pp := Nat.le_trans (Nat.le_of_lt R1.lt) hz1
  have hlen2 : (os.map V.int).length ≤ sizeLine := by rw [List.length_map, hn, sizeLine_eq]; omega
  have hn0 : H1 pp = none := I1.hok.fresh hle
  have J : Inv X pins σ (upd H1 pp (.lst (os.map V.int))) s' := I1.call' (ch := []) o1 (Un.laid kall hle hn0) (I1.hok.laid kall hle ⟨hlen2, out.toList, cc, vals_of_ints hI, hp⟩) (by rw [g1]; exact I1.bare) (fun _ z => nomatch z)
  exact ⟨.ref pp, _, J, rfl, q1 pp os hlt (fun k => by rw [hmem k]; exact decide_eq_true_iff) hn0⟩
def dSortSetA (wa : WE) : WE := fun s Ks => wa s fun s1 x => ∃ ns : List Int, (vw s1 x).bind seqD = some (ns.map .int) ∧ ns.length < 64 ∧ ∀ out : List Int, out.Pairwise (· < ·) → (∀ k, k ∈ out ↔ k ∈ ns) → Ks s1 (.da (.list (out.map .int)))
theorem de_sortSetA {p p2 q pos : Pos} (hc : X.calm = true) (hg : Gl X "sorted") (hm : X.mg "sorted" = none) (hg2 : Gl X "set") (hm2 : X.mg "set" = none) (ha : DE X a wa)
    (na : starEach [a] X.env = (false, eval a X.env) :: starEach [] X.env := by rfl) : DE X (.Call (.Name "sorted" p) [.Call (.Name "set" p2) [a] [] q] [] pos) (dSortSetA wa) := by
  obtain ⟨ta, pa, qa⟩ := ha.ex
  refine ⟨_, pe_sortSetA hc hg hm hg2 hm2 pa (na := na), fun b A own H σ s Ks Q R h k => ?_⟩
  refine qa _ _ _ _ _ _ _ _ R h fun A1 o1 H1 v1 s1 x1 R1 U1 E1 h1 => ?_
  obtain ⟨ns, hd, hl, h1⟩ := h1
  obtain ⟨l, us, rfl, l1, r1⟩ := vw_seqA R1 E1 hd
  obtain rfl := RpL.ofInts r1
  refine ⟨l, ns, rfl, l1, hl, fun pp out ho hm3 hq => ?_⟩
  refine new_lst R1 (k.up U1) ?_ hq (h1 out ho hm3)
  exact RpL.ints
end
/-! ### p[::-1] of a pair -/
section
variable {prog : Program} {w : World} {A : Around} {E : Value → Shared → Prop} {s : Shared}
theorem applied_back {sl : Addr} {tk : Tok} {Q : Int × Int × Nat → Shared → Prop} (hs : s.heap.IsSliceOf sl .none .none (.int (-1) tk)) (k : Q (1, -1, 2) s) : wpAny (model prog w) A (Builtin.Slice.sliceApplied (.ref sl) (pure (2 : Int))) Q E s := by
  obtain ⟨o, h0, h1, h2⟩ := hs
  unfold Builtin.Slice.sliceApplied Builtin.Slice.sliceFields
  refine wpAny_bind (wpAny_bind (wpAny_field h0 h2 (x := .none) rfl (wpAny_bind (wpAny_field h0 h2 (x := .none) rfl (wpAny_bind (wpAny_field h0 h2 (x := .int (-1) tk) rfl (wpAny_pure ?_)))))))
  refine wpAny_bind (slicePart_int ?_)
  show wpAny _ _ (if ((-1 : Int) == 0) = true then _ else _) _ _ s
  rw [if_neg (by decide)]
  refine wpAny_bind (slicePart_none (wpAny_bind (slicePart_none (wpAny_bind (wpAny_pure ?_)))))
  exact wpAny_pure k
theorem pair_turned {t sl : Addr} {a b : Value} {tk : Tok} {Q : Value → Shared → Prop} (ht : IsTup s.heap t #[a, b]) (hs : s.heap.IsSliceOf sl .none .none (.int (-1) tk))
    (k : Q (.ref s.heap.objs.size) { s with heap := s.heap.push { cls := .type "tuple", data := .seq #[b, a] } }) : wpAny (model prog w) A (getItem (.ref t) (.ref sl)) Q E s := by
  obtain ⟨o, h0, h1, h2⟩ := id hs
  have hT : s.TypeIs (.ref sl) "slice" := ⟨o, h0, h1⟩
  have room : sizeOk (.seq #[b, a]) := show 2 ≤ sizeLine by decide
  unfold getItem
  try with_reducible refine wpAny_holding ?_
  first | refine wpAny_bind (wpAny_pure ?_) | skip
  refine wpAny_bind (wpAny_sequenceKey ht.typeIs (by decide) (wpAny_bind (wpAny_callSpecial?_slot (name := Str.ofString "__getitem__") ht.typeIs PyProof.Rows.slot_tuple_getitem
    (wpAny_call_entry PyProof.Rows.slot_tuple_getitem ht.typeIs entry_tuple_getitem ?_ (args_tuple_getitem _ _)))))
  show wpAny _ _ (Builtin.Tuple.tupleItemsOf (.ref t) >>= _) _ _ s
  refine wpAny_bind (PyProof.Rows.tupleItemsOf_ ht (wpAny_bind (wpAny_typeOf hT ?_)))
  rw [if_pos (by decide)]
  refine wpAny_bind (applied_back hs ?_)
  show wpAny _ _ (if ((1 : Int) == 0 && (-1 : Int) == 1 && (2 : Nat) == 2) = true then _ else _) _ _ s
  rw [if_neg (by decide)]
  have e0 : ((List.range 2).filterMap fun (m : Nat) => (#[a, b] : Array Value)[((1 : Int) + (m : Int) * (-1)).toNat]?).toArray = #[b, a] := rfl
  first
    | exact wpAny_bind (m := Builtin.Tuple.tupleExact _) (wpAny_newObj_type (wpAny_pure ⟨_, rfl, wpAny_pure k⟩) room)
    | exact wpAny_bind (m := Builtin.Tuple.tupleExact _) (wpAny_newObj_type (wpAny_bind (wpAny_pure (wpAny_pure ⟨_, rfl, wpAny_pure k⟩))) room)
    | exact wpAny_bind (wpAny_bind (m := Builtin.Tuple.tupleExact _) (wpAny_newObj_type (wpAny_pure (wpAny_pure ⟨_, rfl, wpAny_pure k⟩)) room))
    | exact wpAny_bind (wpAny_bind (m := Builtin.Tuple.tupleExact _) (wpAny_newObj_type (wpAny_pure ⟨_, rfl, wpAny_pure k⟩) room))
end
section
variable {X : L2.Cx} {e : Expr} {we : WE}
def tRev2 (K : PySem.W.Frag) (te : TE) : TE := fun σ H Q => te σ H fun x H1 => ∃ a u v, x = .ref a ∧ SqT K H1 a [u, v] ∧ ∀ p, H1 p = none → Q (.ref p) (upd H1 p (.tup [v, u]))
theorem pe_rev2 {te : TE} {k : Nat} {p1 p2 p3 pos : Pos} (he : PE X e te) : PE X (.Subscript e (.Slice none none (some (.UnaryOp .USub (.Constant (.int 1) k p1) p2)) p3) pos) (tRev2 X.K te) := by
  refine ⟨fun pins s σ H Q I h => Subscript_ (thn (he.run pins s σ H _ I h) fun v0 s1 ⟨x, H1, I1, r1, a, u, v, ex, hx, q⟩ => ?_)⟩
  subst ex
  cases r1
  have hst : PO X (some (.UnaryOp .USub (.Constant (.int 1) k p1) p2)) (tPart (tUn (rU fun i => .int (-i)) (tC (.int 1)))) := po_some (pe_un un_neg pe_int)
  refine wpAny_Slice (thn (po_none.run pins s1 σ H1 (fun o H2 => o = none ∧ H2 = H1) I1 ⟨rfl, rfl⟩) fun vl s2 ⟨l, H2, I2, pl, el, e2⟩ => ?_)
  subst el e2
  refine thn (po_none.run pins s2 σ H2 (fun o H3 => o = none ∧ H3 = H2) I2 ⟨rfl, rfl⟩) fun vu s3 ⟨u', H3, I3, pu, eu, e3⟩ => ?_
  subst eu e3
  refine thn (hst.run pins s3 σ H3 (fun o H4 => o = some (-1) ∧ H4 = H3) I3 ⟨1, rfl, -1, rfl, rfl, rfl⟩) fun vs s4 ⟨o, H4, I4, ps, eo, e4⟩ => ?_
  subst eo e4
  obtain ⟨tk, rfl⟩ : ∃ tk, vs = .int (-1) tk := by cases ps; exact ⟨_, rfl⟩
  obtain rfl : vl = .none := by cases pl; rfl
  obtain rfl : vu = .none := by cases pu; rfl
  have I5 : Inv X pins σ H4 { s4 with heap := s4.heap.push { cls := .type "slice", data := .fields #[.none, .none, .int (-1) tk] } } := I4.kept (t' := s4.toks) fun b ob z => Heap.get?_push_of_some _ z
  obtain ⟨its, r, ht, hz⟩ := I5.tuple hx
  obtain ⟨v1, v2, rfl, ru, rv⟩ : ∃ v1 v2, its = [v1, v2] ∧ RelV u v1 ∧ RelV v v2 := by
    cases r with
    | cons p q =>
      cases q with
      | cons p' q' => cases q'; exact ⟨_, _, rfl, p, p'⟩
  show wpAny (model X.prog X.w) X.A (subscriptTail e (.Slice none none (some (.UnaryOp .USub (.Constant (.int 1) k p1) p2)) p3) (.ref a) (.ref s4.heap.objs.size)) (EP X pins σ Q) X.xe { s4 with heap := s4.heap.push { cls := .type "slice", data := .fields #[.none, .none, .int (-1) tk] } }
  refine tail_any (ops := [.ref a, .ref s4.heap.objs.size]) ht.typeIs (PyProof.Rows.slot_tuple_getitem.lookup) ?_ (by with_unfolding_all rfl)
  refine pair_turned ht (Heap.IsSliceOf.new _ .none .none (.int (-1) tk)) ?_
  refine ⟨.ref _, _, I5.laid (t' := s4.toks) (o := .tup [v, u]) (fun b ob z => Heap.get?_push_of_some _ z) (Nat.le_refl _) ?_, rfl, q _ (I5.hok.fresh (Nat.le_refl _))⟩
  exact ⟨by show 2 ≤ sizeLine; decide, [v2, v1], .cons rv (.cons ru .nil), IsTup.new _ _⟩
def dRev2 (we : WE) : WE := fun s Ks => we s fun s1 x => ∃ d e, x = .da (.tuple [d, e]) ∧ Ks s1 (.da (.tuple [e, d]))
theorem de_rev2 {k : Nat} {p1 p2 p3 pos : Pos} (he : DE X e we) : DE X (.Subscript e (.Slice none none (some (.UnaryOp .USub (.Constant (.int 1) k p1) p2)) p3) pos) (dRev2 we) := by
  obtain ⟨te, pe, qe⟩ := he.ex
  refine ⟨_, pe_rev2 pe, fun b A own H σ s Ks Q R h k => ?_⟩
  refine qe _ _ _ _ _ _ _ _ R h fun A1 o1 H1 v1 s1 x1 R1 U1 E1 h1 => ?_
  obtain ⟨d, e, rfl, h1⟩ := h1
  obtain ⟨a, vs, rfl, q, r⟩ := vw_tup (ds := [d, e]) R1 E1 rfl
  obtain ⟨u, v, rfl, ru, rv⟩ : ∃ u v, vs = [u, v] ∧ Rp X.K A1 H1 u d ∧ Rp X.K A1 H1 v e := by
    cases r with
    | cons p q =>
      cases q with
      | cons p' q' => cases q'; exact ⟨_, _, rfl, p, p'⟩
  exact ⟨a, u, v, rfl, q, fun p hp => new_tup R1 (k.up U1) (.cons rv (.cons ru .nil)) hp h1⟩
end
/-! ### t + u of tuples, t not empty -/
section
variable {X : L2.Cx} {a b : Expr} {wa wb : WE} {pos : Pos}
def rdCatT : S → En → En → (S → En → Prop) → Prop := fun s x y Ks => match x, y with | .da (.tuple (d :: ds)), .da (.tuple es) => ds.length + 1 + es.length ≤ sizeLine ∧ Ks s (.da (.tuple (d :: (ds ++ es)))) | _, _ => False
theorem opd_catT {K : PySem.W.Frag} : OpD K (rCatT K) rdCatT := by
  intro b A own H σ s vx vy x y Ks Q R ex ey h k
  unfold rdCatT at h
  split at h
  · rename_i d ds es
    obtain ⟨p, vs, rfl, q, r⟩ := vw_tup (x := .da (.tuple (d :: ds))) R ex rfl
    obtain ⟨p', vs', rfl, q', r'⟩ := vw_tup (x := .da (.tuple es)) R ey rfl
    have l1 := r.length
    have l2 := r'.length
    rw [List.length_cons] at l1
    refine ⟨p, p', vs, vs', rfl, rfl, q, q', fun z => by rw [z] at l1; simp at l1, by omega, fun z => ?_, fun _ m hm => new_tup R k (r.append r') hm h.2⟩
    subst z
    cases r'
    refine k.da R Up.refl ex ?_
    have := h.2
    rw [List.append_nil] at this
    exact this
  · exact h.elim
theorem de_catT (ha : DE X a wa) (hb : DE X b wb) : DE X (.BinOp a .Add b pos) (d2 rdCatT wa wb) := de_op op_catT opd_catT ha hb
end
end DL
namespace DL
open PySem L2 PySem.Spec PyProof.Rows
/-! ### tuples of tuples of things that change, lent as data -/
def viN (f : En → Option D) : List (Str × En) → Option (List D)
  | [] => some []
  | x :: r => match f x.2 with | some d => (match viN f r with | some ds => some (d :: ds) | none => none) | none => none
def vwN : Nat → S → En → Option D
  | 0, s, x => vw s x
  | n + 1, s, x => match x with
    | .mu j => (match gm s.ms j with
      | .ins .tup fs => (match viN (vwN n s) fs with | some ds => some (.tuple ds) | none => none)
      | _ => vw s (.mu j))
    | x => vw s x
def mixE3 (ks : List Nat) (s : S) : En → Option En
  | .no => some .no
  | .da d => some (.da d)
  | .mu j => match posOf ks j with
    | some i => some (.mu i)
    | none => match vwN 3 s (.mu j) with | some d => some (.da d) | none => none
def mixL3 (ks : List Nat) (s : S) : List En → Option (List En)
  | [] => some []
  | x :: xs => match mixE3 ks s x with | some y => (match mixL3 ks s xs with | some ys => some (y :: ys) | none => none) | none => none
def CallP0 (sp : SpD) (ks : List Nat) : S → List En → (S → En → Prop) → Prop := fun s xs Ks => onO (mixL3 ks s xs) fun ys => allR (pick ks s.ms) = true ∧ sp ys (pick ks s.ms) fun ms' r => ms'.length = ks.length ∧ allR ms' = true ∧ daI r fun d => scD d = true ∧ Ks (s.cM ks ms') (.da d)
def CallP (sp : SpD) : S → List En → (S → En → Prop) → Prop := fun s xs Ks => (rnks s xs).Nodup ∧ CallP0 sp (rnks s xs) s xs Ks
section
variable {K : PySem.W.Frag} {b : Bd} {A A0 : Addr → Prop} {own : List (List Addr)} {H : Hp} {σ : L2.St} {s : S} {ks : List Nat}
theorem vw_rp (R : Rel K b A own H σ s) (h0 : ∀ a, A0 a → ∃ j, j ∈ ks ∧ a ∈ go own j) (hrn : ∀ j, j ∈ ks → ∃ n, gm s.ms j = .rnd n) {v : V} {x : En} {d : D} (h : ER K A own H v x) (e : vw s x = some d) : Rp K A0 H v d := by
  have kp : Kp A H A0 H := fun a u n q => ⟨q, fun z => by obtain ⟨j, _, hj⟩ := h0 a z; exact n (R.oa j a hj)⟩
  cases x with
  | no => cases e
  | da d' => cases e; exact Rp.mono kp h
  | mu i =>
    obtain ⟨a, r, g, rfl⟩ := h
    have m := R.mr i
    unfold vw at e
    simp only at e
    cases q4 : gm s.ms i with
    | lst ds =>
      rw [q4] at e m
      cases e
      obtain ⟨a', vs', e1, e2, e3⟩ := m
      rw [e1] at g
      cases g
      exact .lst ⟨e2, fun z => by
        obtain ⟨i', hi', hh⟩ := h0 a z
        have := R.dj i' i a hh (by rw [e1]; simp)
        obtain ⟨m, hm⟩ := hrn i' hi'
        rw [this, q4] at hm
        cases hm⟩ (RpL.mono kp e3)
    | gone => rw [q4] at e; cases e
    | dct _ => rw [q4] at e; cases e
    | rnd _ => rw [q4] at e; cases e
    | box _ => rw [q4] at e; cases e
    | tab _ => rw [q4] at e; cases e
    | ins _ _ => rw [q4] at e; cases e
theorem vwN_rp (R : Rel K b A own H σ s) (h0 : ∀ a, A0 a → ∃ j, j ∈ ks ∧ a ∈ go own j) (hrn : ∀ j, j ∈ ks → ∃ n, gm s.ms j = .rnd n) : ∀ (n : Nat) {v : V} {x : En} {d : D}, ER K A own H v x → vwN n s x = some d → Rp K A0 H v d
  | 0, _, _, _, h, e => vw_rp R h0 hrn h e
  | n + 1, v, .no, d, h, e => vw_rp R h0 hrn h e
  | n + 1, v, .da d', d, h, e => vw_rp R h0 hrn h e
  | n + 1, v, .mu j, d, h, e => by
    have ih := fun {v x d} => vwN_rp R h0 hrn n (v := v) (x := x) (d := d)
    have oth : vw s (.mu j) = some d → Rp K A0 H v d := vw_rp R h0 hrn h
    unfold vwN at e
    simp only at e
    cases q4 : gm s.ms j with
    | ins C fs =>
      rw [q4] at e
      cases C with
      | tup =>
        obtain ⟨a, r, g, rfl⟩ := h
        have m := R.mr j
        rw [q4] at m
        simp only at e
        cases q5 : viN (vwN n s) fs with
        | none => rw [q5] at e; cases e
        | some ds =>
          rw [q5] at e
          cases e
          obtain ⟨a', r', ws, e1, ⟨rfl, e2⟩, e3⟩ := m
          rw [e1] at g
          cases g
          have all : ∀ (ws : List (Str × V)) (fs : List (Str × En)) (ds : List D), RKE K A own H ws fs → viN (vwN n s) fs = some ds → RpL K A0 H (ws.map (·.2)) ds := by
            intro ws
            induction ws with
            | nil => intro fs ds h e; cases fs with
              | nil => cases e; exact .nil
              | cons _ _ => exact h.elim
            | cons w ws ihw => intro fs ds h e; cases fs with
              | nil => exact h.elim
              | cons f fs =>
                obtain ⟨_, h1, h2⟩ := h
                unfold viN at e
                cases q6 : vwN n s f.2 with
                | none => rw [q6] at e; cases e
                | some d =>
                  rw [q6] at e
                  simp only at e
                  cases q7 : viN (vwN n s) fs with
                  | none => rw [q7] at e; cases e
                  | some ds' =>
                    rw [q7] at e
                    cases e
                    exact .cons (ih h1 q6) (ihw fs ds' h2 q7)
          exact .tup (.inl ⟨e2, fun z => by
            obtain ⟨i', hi', hh⟩ := h0 a z
            have := R.dj i' j a hh (by rw [e1]; simp)
            obtain ⟨m, hm⟩ := hrn i' hi'
            rw [this, q4] at hm
            cases hm⟩) (all ws fs ds e3 q5)
      | lst => rw [] at e; exact oth e
      | obj _ => exact oth e
      | dct => exact oth e
    | lst ds => rw [q4] at e; exact oth e
    | gone => rw [q4] at e; exact oth e
    | dct _ => rw [q4] at e; exact oth e
    | rnd _ => rw [q4] at e; exact oth e
    | box _ => rw [q4] at e; exact oth e
    | tab _ => rw [q4] at e; exact oth e
theorem mix_er3 (R : Rel K b A own H σ s) (h0 : ∀ a, A0 a → ∃ j, j ∈ ks ∧ a ∈ go own j) (hrn : ∀ j, j ∈ ks → ∃ n, gm s.ms j = .rnd n) : ∀ {vs : List V} {xs ys : List En}, ERL K A own H vs xs → mixL3 ks s xs = some ys → ERL K A0 (pickO ks own) H vs ys
  | [], [], _, _, e => by cases e; trivial
  | v :: vs, x :: xs, ys, ⟨h, t⟩, e => by
    unfold mixL3 at e
    cases q : mixE3 ks s x with
    | none => rw [q] at e; cases e
    | some y =>
      rw [q] at e
      simp only at e
      cases q2 : mixL3 ks s xs with
      | none => rw [q2] at e; cases e
      | some zs =>
        rw [q2] at e
        cases e
        refine ⟨?_, mix_er3 R h0 hrn t q2⟩
        cases x with
        | no => cases q; trivial
        | da d => cases q; exact vw_rp (x := .da d) R h0 hrn h rfl
        | mu j =>
          unfold mixE3 at q
          simp only at q
          cases q3 : posOf ks j with
          | some i =>
            rw [q3] at q
            cases q
            obtain ⟨a, r, h1, h2⟩ := h
            exact ⟨a, r, by rw [go_pickO ks own i j (posOf_some q3)]; exact h1, h2⟩
          | none =>
            rw [q3] at q
            simp only at q
            cases q4 : vwN 3 s (.mu j) with
            | none => rw [q4] at q; cases q
            | some d => rw [q4] at q; cases q; exact vwN_rp R h0 hrn 3 h q4
end
theorem callP_run {K : PySem.W.Frag} {sp : SpD} {ks : List Nat} {n : Nat} (nd : ks.Nodup) {b : Bd} {A : Addr → Prop} {own : List (List Addr)} {H : Hp} {σ : L2.St} {s : S} {vs : List V} {xs : List En} {Ks : S → En → Prop} {Q : VK} {E : XK}
    (hn : vs.length = n) (R : Rel K b A own H σ s) (e : ERL K A own H vs xs) (h : CallP0 sp ks s xs Ks) (k : PostE K b A own H σ Ks Q) : spOf K n sp vs H Q E := by
  obtain ⟨ys, hr, hp, h⟩ := onO_inv h
  have rn : ∀ i, i < ks.length → ∃ m, gm s.ms (nthN ks i) = .rnd m := fun i hi => by
    obtain ⟨m, q⟩ := allR_gm _ i hp (by rw [pick_length]; exact hi)
    rw [gm_pick ks s.ms i _ (nthN_get ks i hi)] at q
    exact ⟨m, q⟩
  have kl : ∀ i j, ks[i]? = some j → j < s.ms.length := fun i j q => gm_lt fun z => by
    have hi := (List.getElem?_eq_some_iff.mp q).1
    obtain ⟨m, q2⟩ := rn i hi
    have e1 : nthN ks i = j := by have := nthN_get ks i hi; rw [q] at this; exact (Option.some.inj this).symm
    rw [e1, z] at q2
    cases q2
  have ndx : ∀ i i' j, ks[i]? = some j → ks[i']? = some j → i = i' := fun i i' j q q' => nd_ix nd q q'
  have pk : ∀ i a, a ∈ go (pickO ks own) i → i < ks.length ∧ a ∈ go own (nthN ks i) := fun i a h => by
    by_cases hi : i < ks.length
    · rw [go_pickO ks own i _ (nthN_get ks i hi)] at h
      exact ⟨hi, h⟩
    · rw [go_ge _ _ (by rw [pickO_length]; omega)] at h; cases h
  have hA0 : ∀ a, (∃ i, a ∈ go (pickO ks own) i) → ∃ j, j ∈ ks ∧ a ∈ go own j := fun a ⟨i, hi⟩ => by
    obtain ⟨h1, h2⟩ := pk i a hi
    exact ⟨_, List.mem_of_getElem? (nthN_get ks i h1), h2⟩
  refine ⟨fun a => ∃ i, a ∈ go (pickO ks own) i, pickO ks own, ys, pick ks s.ms, _, hn, mix_er3 R hA0 (fun j hj => by obtain ⟨i, hi⟩ := List.getElem?_of_mem hj; have hl := (List.getElem?_eq_some_iff.mp hi).1; have e1 : nthN ks i = j := by { have := nthN_get ks i hl; rw [hi] at this; exact (Option.some.inj this).symm }; rw [← e1]; exact rn i hl) e hr, ⟨by rw [pickO_length, pick_length], fun i => ?_, fun i i' a h1 h2 => ?_, fun i => ?_, fun i a h1 => ⟨i, h1⟩, fun a ⟨i, hi⟩ => R.al a (R.oa _ a (pk i a hi).2)⟩, h, fun A' own' H' v ms' x O ot ge li fr fo ex hk => ?_⟩
  · by_cases hi : i < ks.length
    · have q := nthN_get ks i hi
      rw [go_pickO ks own i _ q, gm_pick ks s.ms i _ q]
      obtain ⟨m, q2⟩ := rn i hi
      have m0 := R.mr (nthN ks i)
      rw [q2] at m0 ⊢
      exact m0.rnd_any
    · rw [gm_ge _ _ (by rw [pick_length]; omega)]; trivial
  · obtain ⟨l1, h1⟩ := pk i a h1
    obtain ⟨l2, h2⟩ := pk i' a h2
    have := R.dj _ _ a h1 h2
    exact ndx i i' _ (nthN_get ks i l1) (by rw [nthN_get ks i' l2, this])
  · by_cases hi : i < ks.length
    · rw [go_pickO ks own i _ (nthN_get ks i hi)]; exact R.ld _
    · rw [go_ge _ _ (by rw [pickO_length]; omega)]; exact List.nodup_nil
  · obtain ⟨ml, hap, hk⟩ := hk
    obtain ⟨d, rfl, sc, hk⟩ := daI_inv hk
    have ol : own'.length = ks.length := by rw [O.ol, ml]
    have eo : own' = pickO ks own := by rw [← ot, pickO_length, List.take_of_length_le (by omega)]
    subst eo
    have fr2 : ∀ a o, (∀ j, j ∈ ks → a ∉ go own j) → H a = some o → H' a = some o := fun a o n q => fr a o (fun i hi => by
      obtain ⟨h1, h2⟩ := pk i a hi
      exact n _ (List.mem_of_getElem? (nthN_get ks i h1)) h2) q
    have u : Up A own H A own H' := ⟨fun a o n q => ⟨fr2 a o (fun j _ hj => n (R.oa j a hj)) q, n⟩, fun _ _ _ h => h⟩
    have dr : ms'.drop ks.length = [] := List.drop_eq_nil_of_le (by omega)
    refine k A own H' v (s.cM ks ms') (.da d) ⟨⟨?_, fun j => ?_, R.dj, R.ld, R.oa, fun a hA => ?_⟩, R.len, fun i => (R.sl i).imp id fun ⟨v, q, r⟩ => ⟨v, q, r.up u⟩, R.ge, fun a o q h0 => ?_, R.fo, R.pre, R.npl, R.lim, R.a0⟩ u (Rp.scal (show Rp K A' H' v d from ex) sc) hk
    · show own.length = (putM ks ms' s.ms ++ ms'.drop ks.length).length
      rw [dr, List.append_nil, putM_length, R.ol]
    · show MR K A own H' (go own j) (gm (putM ks ms' s.ms ++ ms'.drop ks.length) j)
      rw [dr, List.append_nil]
      by_cases hm : j ∈ ks
      · obtain ⟨i, hi⟩ := List.getElem?_of_mem hm
        have hil := (List.getElem?_eq_some_iff.mp hi).1
        have e1 : nthN ks i = j := by have := nthN_get ks i hil; rw [hi] at this; exact (Option.some.inj this).symm
        rw [gm_putM ks ms' s.ms i j nd hi (by omega) (kl i j hi)]
        have m0 := O.mr i
        obtain ⟨m, q2⟩ := allR_gm _ i hap (by omega)
        rw [q2] at m0 ⊢
        rw [go_pickO ks own i _ hi] at m0
        exact m0.rnd_any
      · rw [gm_putM_not ks ms' s.ms j hm]
        exact (R.mr j).up u fun a o ha q => fr2 a o (fun i hi hh => hm (by rw [R.dj j i a ha hh]; exact hi)) q
    · intro z
      cases q : H a with
      | none => exact R.al a hA q
      | some o =>
        by_cases hk : ∃ j, j ∈ ks ∧ a ∈ go own j
        · obtain ⟨j, hj, hh⟩ := hk
          obtain ⟨i, hi⟩ := List.getElem?_of_mem hj
          exact O.al a (O.oa i a (by rw [go_pickO ks own i _ hi]; exact hh)) z
        · rw [fr2 a o (fun j hj hh => hk ⟨j, hj, hh⟩) q] at z
          cases z
    · refine fr2 a o (fun j hj hh => ?_) (R.fr a o q h0)
      rcases R.fo j a hh with ⟨j', q'⟩ | q'
      · exact q j' q'
      · rw [h0] at q'; cases q'
section
variable {X : Cx} {e : Expr} {es : List Expr} {wr : WA}
theorem de_callP {k : Nat} {st : Stmt} {ps : List Str} {sp : SpD} {x : Str} {p pos : Pos} {n : Nat} (O : Ok X.prog X.w X.K X.mg X.base k x st ps n sp) (hr : RoomG k X.A) (hg : Gl X x)
    (ha : DAn X (e :: es) n wr) (hdb : (x == ("__debug__" : Str)) = false := by decide) (he : starEach (e :: es) X.env = (false, eval e X.env) :: starEach es X.env := by rfl) (hpl : (backTo pos (starEach es X.env)).any (·.1) = false := by rfl) :
    DE X (.Call (.Name x p) (e :: es) [] pos) (dCall (CallP sp) wr) := by
  obtain ⟨f, fd, a, F⟩ := O.ex
  obtain ⟨ta, pa, qa⟩ := ha.ex
  refine ⟨_, pe_callG F hr.r hr.g hg a.g a.kp a.b .nil (pass0 (X := X)) pa hdb he hpl, fun b A own H σ s Ks Q R h kk => ?_⟩
  show ta σ H fun vs H1 => spOf X.K n sp (vs ++ []) H1 Q E0
  refine qa _ _ _ _ _ _ _ _ R h fun A1 o1 H1 vs s1 xs R1 U1 E1 h1 => ?_
  rw [List.append_nil]
  exact callP_run h1.2.1 (E1.len.trans h1.1) R1 E1 h1.2.2 (kk.up U1)
end
/-! ### sorted(d), a list that changes -/
section
variable {X : L2.Cx} {a : Expr} {wa : WE} {pos : Pos}
def cSortKM : S → List En → (S → En → Prop) → Prop := fun s xs Ks => a1 xs fun o => mu2 s o fun _ kvs => onO (kInts kvs) fun is => is.length < 64 ∧ ∀ is' : List Int, is'.Perm is → is'.Pairwise (· ≤ ·) → Ks (s.aM (.lst (is'.map .int))) (.mu s.ms.length)
theorem cd_sortKM {K : PySem.W.Frag} : CallD K rSortK cSortKM := by
  intro b A own H σ s vs xs Ks Q R E h k
  obtain ⟨v, x, rfl, e1, h⟩ := a1_inv E h
  obtain ⟨j, kvs, rfl, g, h⟩ := mu2_inv h
  obtain ⟨is, hi, hl, h⟩ := onO_inv h
  obtain ⟨d, vs, rfl, e2, e3, e4, _⟩ := mud_at R e1 g
  exact ⟨d, vs, is, rfl, .inl e2, e3.keys.trans (kInts_map hi), hl, fun ys p h1 h2 hp => new_mu R k RpL.ints hp (h ys h1 h2)⟩
theorem de_sortKM {p : Pos} (hc : X.calm = true) (hg : Gl X "sorted") (hm : X.mg "sorted" = none) (ha : DE X a wa) (he : starEach (a :: []) X.env = (false, eval a X.env) :: starEach [] X.env := by rfl) : DE X (.Call (.Name "sorted" p) [a] [] pos) (dCall cSortKM (aCons wa aNil)) := de_callB (call_sortedDI hc) cd_sortKM hg hm (by decide +kernel) (da_cons ha da_nil he) (he := he)
end
/-! ### facts for calls that lend -/
theorem vwN_da {n : Nat} {s : S} {d : D} : vwN n s (.da d) = some d := by cases n <;> rfl
theorem vwN_lst {n : Nat} {s : S} {k : Nat} {ds : List D} (g : gm s.ms k = .lst ds) : vwN n s (.mu k) = some (.list ds) := by
  cases n with
  | zero => show vw s (.mu k) = _; unfold vw; simp only [g]
  | succ n => unfold vwN; simp only [g]; unfold vw; simp only [g]
theorem vwN_tup {n : Nat} {s : S} {k : Nat} {fs : List (Str × En)} {ds : List D} (g : gm s.ms k = .ins .tup fs) (h : viN (vwN n s) fs = some ds) : vwN (n + 1) s (.mu k) = some (.tuple ds) := by
  unfold vwN; simp only [g, h]
theorem vwN_tup2 {n : Nat} {s : S} {k : Nat} {x y : En} {d e : D} (g : gm s.ms k = .ins .tup [sq x, sq y]) (h : vwN n s x = some d) (h' : vwN n s y = some e) : vwN (n + 1) s (.mu k) = some (.tuple [d, e]) :=
  vwN_tup g (by unfold viN; simp only [sq, h]; unfold viN; simp only [h']; unfold viN; rfl)
theorem rnks_skip {s : S} {k : Nat} {xs : List En} (g : ∀ n, gm s.ms k ≠ .rnd n) : rnks s (.mu k :: xs) = rnks s xs := by
  have e : rnM (gm s.ms k) ≠ true := fun z => by
    cases q : gm s.ms k with
    | rnd n => exact g n q
    | _ => rw [q] at z; cases z
  show (if rnM (gm s.ms k) = true then k :: rnks s xs else rnks s xs) = _
  rw [if_neg e]
theorem callP_mk {sp : SpD} {s : S} {xs ys : List En} {Ks : S → En → Prop} (h1 : rnks s xs = []) (h2 : mixL3 [] s xs = some ys) (h : sp ys [] fun ms' r => ms'.length = 0 ∧ allR ms' = true ∧ daI r fun d => scD d = true ∧ Ks (s.cM [] ms') (.da d)) : CallP sp s xs Ks := by
  refine ⟨by rw [h1]; exact List.nodup_nil, ?_⟩
  rw [h1]
  unfold CallP0
  rw [h2]
  exact ⟨rfl, h⟩
theorem cM_nil {s : S} : s.cM [] [] = s := by
  show (⟨s.es, s.ms ++ [], s.np⟩ : S) = s
  rw [List.append_nil]
theorem callP4 {sp : SpD} {s : S} {t : Nat} {x y z d : D} {Ks : S → En → Prop} (ht : ∀ n, gm s.ms t ≠ .rnd n) (hv : vwN 3 s (.mu t) = some d)
    (h : sp [.da x, .da y, .da z, .da d] [] fun ms' r => ms'.length = 0 ∧ allR ms' = true ∧ daI r fun d => scD d = true ∧ Ks (s.cM [] ms') (.da d)) : CallP sp s [.da x, .da y, .da z, .mu t] Ks := by
  refine callP_mk ?_ ?_ h
  · show rnks s [.mu t] = []
    rw [rnks_skip ht]; rfl
  · have e : mixE3 [] s (.mu t) = some (.da d) := by
      show (match vwN 3 s (.mu t) with | some d => some (En.da d) | none => none) = _
      rw [hv]
    have e2 : mixL3 [] s [.mu t] = some [.da d] := by
      unfold mixL3; rw [e]; rfl
    show (match (match (match mixL3 [] s [.mu t] with | some ys => some (En.da z :: ys) | none => none) with | some ys => some (En.da y :: ys) | none => none) with | some ys => some (En.da x :: ys) | none => none) = _
    rw [e2]
theorem callP2 {sp : SpD} {s : S} {t : Nat} {x d : D} {Ks : S → En → Prop} (ht : ∀ n, gm s.ms t ≠ .rnd n) (hv : vwN 3 s (.mu t) = some d)
    (h : sp [.da d, .da x] [] fun ms' r => ms'.length = 0 ∧ allR ms' = true ∧ daI r fun d => scD d = true ∧ Ks (s.cM [] ms') (.da d)) : CallP sp s [.mu t, .da x] Ks := by
  refine callP_mk ?_ ?_ h
  · rw [rnks_skip ht]; rfl
  · have e : mixE3 [] s (.mu t) = some (.da d) := by
      show (match vwN 3 s (.mu t) with | some d => some (En.da d) | none => none) = _
      rw [hv]
    unfold mixL3; rw [e]; rfl
/-! ### for over a list or a tuple of things that change -/
theorem Rel.base {K : PySem.W.Frag} {b : Bd} {A : Addr → Prop} {own : List (List Addr)} {H : Hp} {σ : L2.St} {s : S} (R : Rel K b A own H σ s) : Rel K ⟨H, own, A⟩ A own H σ ⟨s.es, s.ms, s.ms.length⟩ :=
  ⟨R.toOwn, R.len, R.sl, fun _ h => h, fun _ _ _ h => h, fun k _ h => .inl ⟨k, h⟩, List.take_of_length_le (by show own.length ≤ s.ms.length; rw [R.ol]; exact Nat.le_refl _), by show s.ms.length ≤ own.length; rw [R.ol]; exact Nat.le_refl _, fun _ h => .inl h, R.al⟩
theorem Rel.back2 {K : PySem.W.Frag} {b : Bd} {A A' : Addr → Prop} {own own' : List (List Addr)} {H H' : Hp} {σ σ' : L2.St} {s s' : S} (R : Rel K b A own H σ s) (R' : Rel K ⟨H, own, A⟩ A' own' H' σ' s') : Rel K b A' own' H' σ' ⟨s'.es, s'.ms, s.np⟩ ∧ Kp A H A' H' := by
  have np : own.length = s'.np := R'.np
  refine ⟨⟨R'.toOwn, R'.len, R'.sl, fun a q => R'.ge a (R.ge a q), fun a o n q => ?_, fun i a h1 => ?_, ?_, ?_, fun a q => ?_, R.a0⟩, fun a o n q => ⟨R'.fr a o (fun k hk => n (R.oa k a hk)) q, fun z => ?_⟩⟩
  · refine R'.fr a o (fun i hi => ?_) (R.fr a o n q)
    rcases R.fo _ a hi with ⟨j, z⟩ | z
    · exact n j z
    · rw [z] at q; cases q
  · rcases R'.fo i a h1 with ⟨j, z⟩ | z
    · exact R.fo j a z
    · exact .inr (R.fresh0 z)
  · have h1 := R.pre
    have h2 : own'.take s'.np = own := R'.pre
    rw [← h2, List.take_take, Nat.min_eq_left (by have := R.npl; omega)] at h1
    exact h1
  · have := R'.npl
    have := R.npl
    show s.np ≤ own'.length
    omega
  · rcases R'.lim a q with z | z
    · exact R.lim a z
    · exact .inr (R.fresh0 z)
  · rcases R'.lim a z with z | z
    · exact n z
    · rw [show H a = none from z] at q; cases q
section
variable {X : L2.Cx} {sts : List Stmt} {w : WS} {pos : Pos}
def sForI (kl : List Nat) (we : WE) (wg : WG) (wb : WS) : WS := fun s D => we s fun s1 x => ∃ (j : Nat) (C : Sh) (fs : List (Str × En)), x = .mu j ∧ gm s1.ms j = .ins C fs ∧ (C = .lst ∨ C = .tup) ∧ ∃ I : Nat → S → Prop,
  (∀ i s2, I i s2 → gm s2.ms j = .ins C fs) ∧ I 0 (clA kl ⟨s1.es, s1.ms, s1.ms.length⟩) ∧
  (∀ i f s2, fs[i]? = some f → I i s2 → wg f.2 s2 fun s3 => wb s3 ⟨fun s4 => I (i + 1) (clA kl s4), fun s4 x => D.rt ⟨s4.es, s4.ms, s1.np⟩ x, fun s4 => D.nx ⟨s4.es, s4.ms, s1.np⟩, fun s4 => I (i + 1) (clA kl s4)⟩) ∧
  (∀ s2, I fs.length s2 → D.nx ⟨s2.es, s2.ms, s1.np⟩)
theorem ds_forI (kl : List Nat) {we : WE} {js : List Nat} {wg : WG} {tg it : Expr} (hp : PassesOwn (model X.prog X.w) X.A X.env X.xe) (hc : X.calm = true) (hi : DE X it we) (hg : DG X tg js wg) (hb : DSs X sts w)
    (hs : ∀ x, foldedSetIterable it X.env x = pure x := by intro _; rfl) : DS X (.For tg it sts [] pos) (sForI kl we wg w) := by
  obtain ⟨te, pe, qe⟩ := hi.ex
  obtain ⟨g, pg, qg⟩ := hg.ex
  obtain ⟨tb, pb, qb⟩ := hb.ex
  refine ⟨_, ps_for hp hc (pi_seq pe) pg pb hs, fun b A own H σ s D E R h mt => ?_⟩
  show te σ H fun x H1 => ∃ a, x = .ref a ∧ (((∃ xs, SqL X.K H1 a xs) ∧ (fun (J : It) (H1 : Hp) => ∃ W : Nat → Nat → L2.St → Hp → Prop, (∃ m, W 0 m σ H1) ∧ ∀ i m σ H, W i m σ H →
    (J.stop i H ∧ E.nx σ H) ∨ (J.go i H ∧ ∃ N : L2.St → Hp → Prop, (∀ σ' H', N σ' H' → ∃ m', m' < m ∧ W (i + 1) m' σ' H') ∧ ∀ x H', J.yld i H x H' → g x σ H' fun σ2 H2 => tb { E with nx := N, ct := N, bk := E.nx } σ2 H2)) (Itl X.K a) H1) ∨
    ((∃ xs, SqT X.K H1 a xs) ∧ (fun (J : It) (H1 : Hp) => ∃ W : Nat → Nat → L2.St → Hp → Prop, (∃ m, W 0 m σ H1) ∧ ∀ i m σ H, W i m σ H →
    (J.stop i H ∧ E.nx σ H) ∨ (J.go i H ∧ ∃ N : L2.St → Hp → Prop, (∀ σ' H', N σ' H' → ∃ m', m' < m ∧ W (i + 1) m' σ' H') ∧ ∀ x H', J.yld i H x H' → g x σ H' fun σ2 H2 => tb { E with nx := N, ct := N, bk := E.nx } σ2 H2)) (Itt X.K a) H1))
  refine qe _ _ _ _ _ _ _ _ R h fun A1 o1 H1 v1 s1 x1 R1 U1 E1 h1 => ?_
  obtain ⟨j, C, fs, rfl, gj, hC, I, hI, h0, hst, hd⟩ := h1
  obtain ⟨a, r, ga, rfl⟩ := E1
  have main : ∀ (J : It) (HS : Hp → List V → Prop), (∀ H2 vs, HS H2 vs → ∀ i, (vs.length ≤ i → J.stop i H2) ∧ ∀ x, vs[i]? = some x → J.go i H2 ∧ ∀ y H3, J.yld i H2 y H3 → H3 = H2 ∧ y = x) →
      (∀ (A2 : Addr → Prop) (o2 : List (List Addr)) (H2 : Hp) (σ2 : L2.St) (s2 : S), Rel X.K ⟨H1, o1, A1⟩ A2 o2 H2 σ2 s2 → gm s2.ms j = .ins C fs → ∃ ws : List (Str × V), HS H2 (ws.map (·.2)) ∧ RKE X.K A2 o2 H2 ws fs) →
      ∃ W : Nat → Nat → L2.St → Hp → Prop, (∃ m, W 0 m σ H1) ∧ ∀ i m σ H, W i m σ H →
      (J.stop i H ∧ E.nx σ H) ∨ (J.go i H ∧ ∃ N : L2.St → Hp → Prop, (∀ σ' H', N σ' H' → ∃ m', m' < m ∧ W (i + 1) m' σ' H') ∧ ∀ x H', J.yld i H x H' → g x σ H' fun σ2 H2 => tb { E with nx := N, ct := N, bk := E.nx } σ2 H2) := by
    intro J HS hJ key
    refine ⟨fun i k σ2 H2 => k = fs.length - i ∧ i ≤ fs.length ∧ ∃ (A2 : Addr → Prop) (o2 : List (List Addr)) (s2 : S), Rel X.K ⟨H1, o1, A1⟩ A2 o2 H2 σ2 s2 ∧ I i s2, ⟨_, rfl, Nat.zero_le _, A1, _, _, R1.base.clA kl, h0⟩, ?_⟩
    rintro i k σ2 H2 ⟨rfl, hi, A2, o2, s2, R2, hI2⟩
    obtain ⟨ws, hw, rk⟩ := key _ _ _ _ _ R2 (hI _ _ hI2)
    obtain ⟨wstop, wgo⟩ := hJ H2 _ hw i
    have wl : ∀ (ws : List (Str × V)) (fs : List (Str × En)), RKE X.K A2 o2 H2 ws fs → ws.length = fs.length := by
      intro ws
      induction ws with
      | nil => intro fs h; cases fs with
        | nil => rfl
        | cons _ _ => exact h.elim
      | cons w ws ih => intro fs h; cases fs with
        | nil => exact h.elim
        | cons f fs => exact congrArg (· + 1) (ih fs h.2.2)
    have wat : ∀ (ws : List (Str × V)) (fs : List (Str × En)) (i : Nat) (f : Str × En), RKE X.K A2 o2 H2 ws fs → fs[i]? = some f → ∃ v, (ws.map (·.2))[i]? = some v ∧ ER X.K A2 o2 H2 v f.2 := by
      intro ws
      induction ws with
      | nil => intro fs i f h e; cases fs with
        | nil => cases e
        | cons _ _ => exact h.elim
      | cons w ws ih => intro fs i f h e; cases fs with
        | nil => exact h.elim
        | cons f' fs =>
          cases i with
          | zero => cases e; exact ⟨_, rfl, h.2.1⟩
          | succ i => exact ih fs i f h.2.2 e
    have bk := R1.back2 R2
    by_cases hlt : i < fs.length
    · obtain ⟨v, hv, ev⟩ := wat ws fs i fs[i] rk (List.getElem?_eq_getElem hlt)
      obtain ⟨hgo, hy⟩ := wgo v hv
      refine .inr ⟨hgo, fun σ' H' => ∃ (A3 : Addr → Prop) (o3 : List (List Addr)) (s3 : S), Rel X.K ⟨H1, o1, A1⟩ A3 o3 H' σ' s3 ∧ I (i + 1) s3, fun σ' H' ⟨A3, o3, s3, r3, i3⟩ => ⟨fs.length - (i + 1), by omega, rfl, hlt, A3, o3, s3, r3, i3⟩, fun x H3 hx => ?_⟩
      obtain ⟨rfl, rfl⟩ := hy x H3 hx
      refine qg _ _ _ _ _ _ _ _ _ _ R2 ev (hst i _ s2 (List.getElem?_eq_getElem hlt) hI2) fun A4 o4 H4 σ4 s4 R4 U4 _ h4 => ?_
      refine qb _ _ _ _ _ _ _ _ R4 h4 ⟨fun A5 o5 H5 σ5 s5 R5 k5 h5 => ⟨A5, _, _, R5.clA kl, h5⟩, fun A5 o5 H5 σ5 s5 v x R5 k5 e5 h5 => ?_, fun A5 o5 H5 σ5 s5 R5 k5 h5 => ?_, fun A5 o5 H5 σ5 s5 R5 k5 h5 => ⟨A5, _, _, R5.clA kl, h5⟩⟩
      · obtain ⟨R6, k6⟩ := R1.back2 R5
        exact mt.rt _ _ _ _ _ _ _ R6 (U1.kp.trans k6) e5 h5
      · obtain ⟨R6, k6⟩ := R1.back2 R5
        exact mt.nx _ _ _ _ _ R6 (U1.kp.trans k6) h5
    · have e : i = fs.length := by omega
      subst e
      exact .inl ⟨wstop (by rw [List.length_map, wl ws fs rk]; exact Nat.le_refl _), mt.nx _ _ _ _ _ bk.1 (U1.kp.trans bk.2) (hd _ hI2)⟩
  have jl : j < s1.ms.length := gm_lt' gj (fun z => nomatch z)
  have own2 : ∀ (A2 : Addr → Prop) (o2 : List (List Addr)) (H2 : Hp) (σ2 : L2.St) (s2 : S), Rel X.K ⟨H1, o1, A1⟩ A2 o2 H2 σ2 s2 → go o2 j = a :: r := fun A2 o2 H2 σ2 s2 R2 => by
    have q := ga
    have h2 : o2.take s2.np = o1 := R2.pre
    rw [← h2, go_take] at q
    split at q
    · exact q
    · cases q
  refine ⟨a, rfl, ?_⟩
  rcases hC with rfl | rfl
  · have key : ∀ (A2 : Addr → Prop) (o2 : List (List Addr)) (H2 : Hp) (σ2 : L2.St) (s2 : S), Rel X.K ⟨H1, o1, A1⟩ A2 o2 H2 σ2 s2 → gm s2.ms j = .ins .lst fs → ∃ ws : List (Str × V), H2 a = some (.lst (ws.map (·.2))) ∧ RKE X.K A2 o2 H2 ws fs := fun A2 o2 H2 σ2 s2 R2 g2 => by
      have m := R2.mr j
      rw [g2] at m
      obtain ⟨a', r', ws, e1, ⟨rfl, e2⟩, e3⟩ := m
      have e4 := own2 _ _ _ _ _ R2
      rw [e1] at e4
      cases e4
      exact ⟨ws, e2, e3⟩
    obtain ⟨ws, e2, _⟩ := key _ _ _ _ _ R1.base gj
    refine .inl ⟨⟨_, .inl (.inl e2)⟩, main (Itl X.K a) (fun H2 vs => H2 a = some (.lst vs)) (fun H2 vs e i => ⟨fun hi => ⟨vs, .inl (.inl e), hi⟩, fun x hx => ⟨⟨vs, x, .inl (.inl e), hx⟩, fun y H3 hy => ?_⟩⟩) key⟩
    obtain ⟨rfl, hy⟩ := hy
    have := hy vs (.inl (.inl e))
    rw [hx] at this
    cases this
    exact ⟨rfl, rfl⟩
  · have key : ∀ (A2 : Addr → Prop) (o2 : List (List Addr)) (H2 : Hp) (σ2 : L2.St) (s2 : S), Rel X.K ⟨H1, o1, A1⟩ A2 o2 H2 σ2 s2 → gm s2.ms j = .ins .tup fs → ∃ ws : List (Str × V), H2 a = some (.tup (ws.map (·.2))) ∧ RKE X.K A2 o2 H2 ws fs := fun A2 o2 H2 σ2 s2 R2 g2 => by
      have m := R2.mr j
      rw [g2] at m
      obtain ⟨a', r', ws, e1, ⟨rfl, e2⟩, e3⟩ := m
      have e4 := own2 _ _ _ _ _ R2
      rw [e1] at e4
      cases e4
      exact ⟨ws, e2, e3⟩
    obtain ⟨ws, e2, _⟩ := key _ _ _ _ _ R1.base gj
    refine .inr ⟨⟨_, .inl (.inl e2)⟩, main (Itt X.K a) (fun H2 vs => H2 a = some (.tup vs)) (fun H2 vs e i => ⟨fun hi => ⟨vs, .inl (.inl e), hi⟩, fun x hx => ⟨⟨vs, x, .inl (.inl e), hx⟩, fun y H3 hy => ?_⟩⟩) key⟩
    obtain ⟨rfl, hy⟩ := hy
    have := hy vs (.inl (.inl e))
    rw [hx] at this
    cases this
    exact ⟨rfl, rfl⟩
end
end DL
namespace DL
open PySem L2 PySem.Spec PyProof.Rows LamX NdefX
/-! ### calls to which all that changes goes as it is, and of which data comes back: what was made is forgotten -/
theorem limL_idE (m : Nat) : ∀ (l : List En), (∀ i, limE m (gt l i) = gt l i) → limL m l = l
  | [], _ => rfl
  | x :: r, h => by
    show limE m x :: limL m r = _
    rw [show limE m x = x from h 0, limL_idE m r fun i => h (i + 1)]
theorem Rel.limEs {K : PySem.W.Frag} {b : Bd} {A : Addr → Prop} {own : List (List Addr)} {H : Hp} {σ : L2.St} {s : S} (R : Rel K b A own H σ s) : limL s.ms.length s.es = s.es := by
  refine limL_idE _ _ fun i => ?_
  rcases R.sl i with z | ⟨v, _, e⟩
  · rw [z]; rfl
  · cases q : gt s.es i with
    | no => rfl
    | da d => rfl
    | mu k =>
      rw [q] at e
      obtain ⟨a, r, g, _⟩ := e
      have : k < own.length := Nat.lt_of_not_le fun z => by rw [go_ge _ _ z] at g; cases g
      show (bif Nat.blt k s.ms.length then En.mu k else .no) = _
      rw [show Nat.blt k s.ms.length = true from by rw [← R.ol]; simpa using this]
      rfl
def CallTd (sp : SpD) : S → List En → (S → En → Prop) → Prop := fun s xs Ks => sp xs s.ms fun ms' r => (∃ junk, ms' = s.ms ++ junk) ∧ ∃ d, r = .da d ∧ Ks s (.da d)
theorem callTd_run {K : PySem.W.Frag} {sp : SpD} {n : Nat} {b : Bd} {A : Addr → Prop} {own : List (List Addr)} {H : Hp} {σ : L2.St} {s : S} {vs : List V} {xs : List En} {Ks : S → En → Prop} {Q : VK} {E : XK}
    (hn : vs.length = n) (R : Rel K b A own H σ s) (e : ERL K A own H vs xs) (h : CallTd sp s xs Ks) (k : PostE K b A own H σ Ks Q) : spOf K n sp vs H Q E := by
  refine callT_run (Ks := fun s' r => ((∃ junk, s'.ms = s.ms ++ junk) ∧ ∃ d, r = .da d ∧ Ks s (.da d)) ∧ s'.es = s.es ∧ s'.np = s.np) (s := s) hn R e ?_ ?_
  · show sp xs s.ms fun ms' r => ((∃ junk, ms' = s.ms ++ junk) ∧ ∃ d, r = .da d ∧ Ks s (.da d)) ∧ s.es = s.es ∧ s.np = s.np
    have : (fun ms' r => ((∃ junk, ms' = s.ms ++ junk) ∧ ∃ d, r = En.da d ∧ Ks s (.da d)) ∧ s.es = s.es ∧ s.np = s.np) = fun ms' r => (∃ junk, ms' = s.ms ++ junk) ∧ ∃ d, r = En.da d ∧ Ks s (.da d) := by
      funext ms' r
      exact propext ⟨fun z => z.1, fun z => ⟨z, rfl, rfl⟩⟩
    rw [this]
    exact h
  · rintro A' own' H' v ⟨es', ms', np'⟩ x R' U' E' ⟨⟨⟨junk, e1⟩, d, rfl, hk⟩, e2, e3⟩
    simp only at e1 e2 e3
    subst e1; subst e2; subst e3
    have hnp : s.np ≤ s.ms.length := by have := R.npl; rw [R.ol] at this; exact this
    have R2 := R'.cl [] s.ms.length hnp
    have es : clS [] s.ms.length ⟨s.es, s.ms ++ junk, s.np⟩ = s := by
      show (⟨limL s.ms.length s.es, takM s.ms.length s.ms.length (s.ms ++ junk), s.np⟩ : S) = s
      rw [R.limEs, R.clo.app]
    rw [es] at R2
    refine k A' (own'.take s.ms.length) H' v s (.da d) R2 ⟨U'.kp, fun j a r q => ?_⟩ E' hk
    have hj : j < s.ms.length := by
      rw [← R.ol]
      exact Nat.lt_of_not_le fun z => by rw [go_ge _ _ z] at q; cases q
    rw [go_take, if_pos hj]
    exact U'.ow j a r q
section
variable {X : L2.Cx} {a e o : Expr} {es : List Expr} {wa we : WE} {wr : WA}
theorem de_callTd {k : Nat} {st : Stmt} {ps : List Str} {sp : SpD} {x : Str} {p pos : Pos} {n : Nat} (O : Ok X.prog X.w X.K X.mg X.base k x st ps n sp) (hr : RoomG k X.A) (hg : Gl X x)
    (ha : DAn X (e :: es) n wr) (hdb : (x == ("__debug__" : Str)) = false := by decide) (he : starEach (e :: es) X.env = (false, eval e X.env) :: starEach es X.env := by rfl) (hpl : (backTo pos (starEach es X.env)).any (·.1) = false := by rfl) :
    DE X (.Call (.Name x p) (e :: es) [] pos) (dCall (CallTd sp) wr) := by
  obtain ⟨f, fd, a, F⟩ := O.ex
  obtain ⟨ta, pa, qa⟩ := ha.ex
  refine ⟨_, pe_callG F hr.r hr.g hg a.g a.kp a.b .nil (pass0 (X := X)) pa hdb he hpl, fun b A own H σ s Ks Q R h kk => ?_⟩
  show ta σ H fun vs H1 => spOf X.K n sp (vs ++ []) H1 Q E0
  refine qa _ _ _ _ _ _ _ _ R h fun A1 o1 H1 vs s1 xs R1 U1 E1 h1 => ?_
  rw [List.append_nil]
  exact callTd_run (E1.len.trans h1.1) R1 E1 h1.2 (kk.up U1)
end
/-! ### calls to which hidden objects go, too -/
def CallH (hid : List Nat) (sp : SpD) : S → List En → (S → En → Prop) → Prop := fun s xs Ks => (muks xs ++ hid).Nodup ∧ CallW sp (muks xs ++ hid) s xs Ks
section
variable {X : L2.Cx} {a e o : Expr} {es : List Expr} {wa we : WE} {wr : WA}
theorem de_callH (hid : List Nat) {k : Nat} {st : Stmt} {ps : List Str} {sp : SpD} {x : Str} {p pos : Pos} {n : Nat} (O : Ok X.prog X.w X.K X.mg X.base k x st ps n sp) (hr : RoomG k X.A) (hg : Gl X x)
    (ha : DAn X (e :: es) n wr) (hdb : (x == ("__debug__" : Str)) = false := by decide) (he : starEach (e :: es) X.env = (false, eval e X.env) :: starEach es X.env := by rfl) (hpl : (backTo pos (starEach es X.env)).any (·.1) = false := by rfl) :
    DE X (.Call (.Name x p) (e :: es) [] pos) (dCall (CallH hid sp) wr) := by
  obtain ⟨f, fd, a, F⟩ := O.ex
  obtain ⟨ta, pa, qa⟩ := ha.ex
  refine ⟨_, pe_callG F hr.r hr.g hg a.g a.kp a.b .nil (pass0 (X := X)) pa hdb he hpl, fun b A own H σ s Ks Q R h kk => ?_⟩
  show ta σ H fun vs H1 => spOf X.K n sp (vs ++ []) H1 Q E0
  refine qa _ _ _ _ _ _ _ _ R h fun A1 o1 H1 vs s1 xs R1 U1 E1 h1 => ?_
  rw [List.append_nil]
  exact callW_run h1.2.1 (E1.len.trans h1.1) R1 E1 h1.2.2 (kk.up U1)
end
/-! ### defs that make lambdas: their code object is known -/
structure FunL (K : PySem.W.Frag) (x qual : Str) (st : Stmt) (f : Addr) (fd : FuncData) (c : Addr) : Prop where
  ex : ∃ (oc : Value) (od : Option Addr) (kV doc pm : Value) (an : Option Addr) (ct : Value) (osl : Array (Option Value)), fd = PySem.W.fnOf x qual (defArgs st) (defBody st) (defScope st) .none kV doc pm an (.ref c) ct ∧ K.lookup f = some ⟨oc, od, .func fd, osl⟩ ∧ PySem.W.codeIn K (.ref c) qual = true
section
variable {P : Program} {w : World} {K : PySem.W.Frag} {mg : Str → Option Value} {base : Heap}
theorem fun_okL {x qual : Str} {st : Stmt} {f c : Addr} {fd : FuncData} {N ps : List Str} {k : Nat} {sp : L2.Sp} (F : FunL K x qual st f fd c) (S : FnScope N ps (defScope st)) (len : ∀ vs H Q E, sp vs H Q E → vs.length = ps.length)
    (hb : ∀ (A : Around) (outer : List Env) (s : Shared) (H : Hp) (vs : List V) (Q : VK) (E : XK), RoomG k (A.deeper (PyProof.Rows.envOfC qual (defScope st) s.heap.objs.size f (.ref c))) → sp vs H Q E →
      ∃ t, PSs (cxOf CX0 P w K mg base N qual (defScope st) f (.ref c) A outer s H E).nox (defBody st) t ∧ t { nx := fun _ H' => Q .non H', rt := Q } (start N vs) H) : FnOkG P w K mg base CX0 (k + 1) f fd ps sp := by
  obtain ⟨oc, od, kV, doc, pm, an, ct, osl, rfl, lk, hcd⟩ := F.ex
  refine fn_byG lk hcd S len fun A outer s H vs Q E hr hg hs => ?_
  obtain ⟨t, h, q⟩ := hb A outer s H vs Q E ⟨hr, hg⟩ hs
  exact ⟨t, h.nox, q⟩
theorem fn_dataL {x qual : Str} {st : Stmt} {f c : Addr} {fd : FuncData} {N ps : List Str} {k : Nat} {sp : SpD} (F : FunL K x qual st f fd c) (Sc : FnScope N ps (defScope st)) (W : WS)
    (hb : ∀ (A : Around) (outer : List Env) (s : Shared) (H : Hp) (E : XK), RoomG k (A.deeper (PyProof.Rows.envOfC qual (defScope st) s.heap.objs.size f (.ref c))) → DSs (cxOf CX0 P w K mg base N qual (defScope st) f (.ref c) A outer s H E).nox (defBody st) W)
    (hsp : ∀ xs ms Ks, sp xs ms Ks → xs.length = ps.length → W ⟨xs ++ nos (N.length - ps.length), ms, ms.length⟩ (endT Ks)) : FnOkG P w K mg base CX0 (k + 1) f fd ps (spOf K ps.length sp) := by
  refine fun_okL F Sc (fun vs H Q E h => ?_) (fun A outer s H vs Q E hr h => ?_)
  · obtain ⟨_, _, _, _, _, hn, _⟩ := h
    exact hn
  · obtain ⟨Av, own, xs, ms, Ks, hn, he, ho, hs, k1⟩ := h
    obtain ⟨t, pt, qt⟩ := (hb A outer s H E hr).ex
    have hxl : xs.length = ps.length := he.len.symm.trans hn
    refine ⟨t, pt, ?_⟩
    have R : Rel K ⟨H, own, Av⟩ Av own H (start N vs) ⟨xs ++ nos (N.length - ps.length), ms, ms.length⟩ := by
      refine ⟨ho, ?_, fun i => ?_, fun a h => h, fun a o n h => h, fun k a h => .inl ⟨k, h⟩, ?_, ?_, fun a h => .inl h, ho.al⟩
      · show (vs.map some ++ List.replicate (N.length - vs.length) none).length = _
        simp [nos_length, hn, hxl]
      · show gt (xs ++ nos (N.length - ps.length)) i = .no ∨ ∃ v, (vs.map some ++ List.replicate (N.length - vs.length) none)[i]? = some (some v) ∧ _
        rw [hn]
        exact start_at N he _ i
      · show own.take ms.length = own
        rw [← ho.ol]; exact List.take_length
      · show ms.length ≤ own.length
        rw [ho.ol]; exact Nat.le_refl _
    have fin : ∀ (A' : Addr → Prop) (own' : List (List Addr)) (H' : Hp) (σ' : L2.St) (s' : S) (v : V) (x : En), Rel K ⟨H, own, Av⟩ A' own' H' σ' s' → ER K A' own' H' v x → Ks s'.ms x → Q v H' := by
      intro A' own' H' σ' s' v x R' ex hx
      have np : own.length = s'.np := R'.np
      have hpre : own'.take own.length = own := by rw [np]; exact R'.pre
      exact k1 A' own' H' v s'.ms x R'.toOwn hpre R'.ge R'.lim (fun a o n h => R'.fr a o n h) R'.fo ex hx
    exact qt _ _ _ _ _ _ (endT Ks) _ R (hsp xs ms Ks hs hxl) ⟨fun A' own' H' σ' s' R' _ h => fin A' own' H' σ' s' .non (.da .none) R' .non h, fun A' own' H' σ' s' v x R' _ ex h => fin A' own' H' σ' s' v x R' ex (onE_inv h).2, fun _ _ _ _ _ _ _ h => h.elim, fun _ _ _ _ _ _ _ h => h.elim⟩
theorem ok_dataL {x : Str} {st : Stmt} {N ps : List Str} {k n n0 : Nat} {sp : SpD} (hF : ∃ f fd c P, At K mg x st ps f fd ∧ FunL K x x st f fd c ∧ TabC K x c P) (hTB : ∀ c P, TabC K x c P → TabB base mg c P) (Sc : FnScope N ps (defScope st)) (W : WS)
    (hb : ∀ (f c P0 : Addr) (A : Around) (outer : List Env) (s : Shared) (H : Hp) (E : XK), TabC K x c P0 → TabB base mg c P0 → RoomG k (A.deeper (PyProof.Rows.envOfC x (defScope st) s.heap.objs.size f (.ref c))) → DSs (cxOf CX0 P w K mg base N x (defScope st) f (.ref c) A outer s H E).nox (defBody st) W)
    (hsp : ∀ xs ms Ks, sp xs ms Ks → xs.length = n → W (st0 xs n0 ms ms.length) (endT Ks)) (hn : ps.length = n := by rfl) (hn0 : N.length - ps.length = n0 := by rfl) : Ok P w K mg base (k + 1) x st ps n sp := by
  obtain ⟨f, fd, c, P0, a, F, t⟩ := hF
  subst hn
  subst hn0
  exact ⟨f, fd, a, fn_dataL F Sc W (fun A outer s H E hr => hb f c P0 A outer s H E t (hTB c P0 t) hr) hsp⟩
theorem go_tabs : ∀ (ts : List (Str × Addr × Addr)) (j : Nat), go (ts.map (fun t : Str × Addr × Addr => [t.2.2])) j = match ts[j]? with | some t => [t.2.2] | none => []
  | [], _ => rfl
  | _ :: _, 0 => rfl
  | _ :: r, j + 1 => go_tabs r j
theorem gm_tabs : ∀ (ts : List (Str × Addr × Addr)) (j : Nat), gm (ts.map (fun t : Str × Addr × Addr => MO.tab t.1)) j = match ts[j]? with | some t => .tab t.1 | none => .gone
  | [], _ => rfl
  | _ :: _, 0 => rfl
  | _ :: r, j + 1 => gm_tabs r j
theorem fn_dataLD {x qual : Str} {st : Stmt} {f c : Addr} {fd : FuncData} {N ps : List Str} {k : Nat} {sp : SpD} (F : FunL K x qual st f fd c) (Sc : FnScope N ps (defScope st)) (W : WS)
    (hb : ∀ (A : Around) (outer : List Env) (s : Shared) (H : Hp) (E : XK), RoomG k (A.deeper (PyProof.Rows.envOfC qual (defScope st) s.heap.objs.size f (.ref c))) → DSs (cxOf CX0 P w K mg base N qual (defScope st) f (.ref c) A outer s H E).nox (defBody st) W)
    (hsp : ∀ xs ms Ks, sp xs ms Ks → xs.length = ps.length → W ⟨xs ++ nos (N.length - ps.length), ms, ms.length⟩ (endD Ks)) : FnOkG P w K mg base CX0 (k + 1) f fd ps (spOf K ps.length sp) := by
  refine fun_okL F Sc (fun vs H Q E h => ?_) (fun A outer s H vs Q E hr h => ?_)
  · obtain ⟨_, _, _, _, _, hn, _⟩ := h
    exact hn
  · obtain ⟨Av, own, xs, ms, Ks, hn, he, ho, hs, k1⟩ := h
    obtain ⟨t, pt, qt⟩ := (hb A outer s H E hr).ex
    have hxl : xs.length = ps.length := he.len.symm.trans hn
    refine ⟨t, pt, ?_⟩
    have R : Rel K ⟨H, own, Av⟩ Av own H (start N vs) ⟨xs ++ nos (N.length - ps.length), ms, ms.length⟩ := by
      refine ⟨ho, ?_, fun i => ?_, fun a h => h, fun a o n h => h, fun k a h => .inl ⟨k, h⟩, ?_, ?_, fun a h => .inl h, ho.al⟩
      · show (vs.map some ++ List.replicate (N.length - vs.length) none).length = _
        simp [nos_length, hn, hxl]
      · show gt (xs ++ nos (N.length - ps.length)) i = .no ∨ ∃ v, (vs.map some ++ List.replicate (N.length - vs.length) none)[i]? = some (some v) ∧ _
        rw [hn]
        exact start_at N he _ i
      · show own.take ms.length = own
        rw [← ho.ol]; exact List.take_length
      · show ms.length ≤ own.length
        rw [ho.ol]; exact Nat.le_refl _
    have fin : ∀ (A' : Addr → Prop) (own' : List (List Addr)) (H' : Hp) (σ' : L2.St) (s' : S) (v : V) (x : En), Rel K ⟨H, own, Av⟩ A' own' H' σ' s' → ER K A' own' H' v x → (match x with | .mu j => Ks s'.ms (.mu j) | .da d => Ks (takM s'.np s'.np s'.ms) (.da d) | .no => False) → Q v H' := by
      intro A' own' H' σ' s' v x R' ex hx
      have np : own.length = s'.np := R'.np
      have hpre : own'.take own.length = own := by rw [np]; exact R'.pre
      cases x with
      | no => exact hx.elim
      | mu j => exact k1 A' own' H' v s'.ms (.mu j) R'.toOwn hpre R'.ge R'.lim (fun a o n h => R'.fr a o n h) R'.fo ex hx
      | da d =>
        refine k1 A' (own'.take s'.np) H' v (takM s'.np s'.np s'.ms) (.da d) (R'.toOwn.take _) ?_ R'.ge R'.lim (fun a o n h => R'.fr a o n h) (fun k a h => ?_) ex hx
        · rw [np, List.take_take, Nat.min_self]; exact R'.pre
        · rw [go_take] at h
          split at h
          · exact R'.fo k a h
          · cases h
    exact qt _ _ _ _ _ _ (endD Ks) _ R (hsp xs ms Ks hs hxl) ⟨fun A' own' H' σ' s' R' _ h => fin A' own' H' σ' s' .non (.da .none) R' .non h, fun A' own' H' σ' s' v x R' _ ex h => fin A' own' H' σ' s' v x R' ex h, fun _ _ _ _ _ _ _ h => h.elim, fun _ _ _ _ _ _ _ h => h.elim⟩
theorem ok_dataLD {x : Str} {st : Stmt} {N ps : List Str} {k n n0 : Nat} {sp : SpD} (hF : ∃ f fd c P, At K mg x st ps f fd ∧ FunL K x x st f fd c ∧ TabC K x c P) (hTB : ∀ c P, TabC K x c P → TabB base mg c P) (Sc : FnScope N ps (defScope st)) (W : WS)
    (hb : ∀ (f c P0 : Addr) (A : Around) (outer : List Env) (s : Shared) (H : Hp) (E : XK), TabC K x c P0 → TabB base mg c P0 → RoomG k (A.deeper (PyProof.Rows.envOfC x (defScope st) s.heap.objs.size f (.ref c))) → DSs (cxOf CX0 P w K mg base N x (defScope st) f (.ref c) A outer s H E).nox (defBody st) W)
    (hsp : ∀ xs ms Ks, sp xs ms Ks → xs.length = n → W (st0 xs n0 ms ms.length) (endD Ks)) (hn : ps.length = n := by rfl) (hn0 : N.length - ps.length = n0 := by rfl) : Ok P w K mg base (k + 1) x st ps n sp := by
  obtain ⟨f, fd, c, P0, a, F, t⟩ := hF
  subst hn
  subst hn0
  exact ⟨f, fd, a, fn_dataLD F Sc W (fun A outer s H E hr => hb f c P0 A outer s H E t (hTB c P0 t) hr) hsp⟩
/-! ### the law that comes by tables of code objects: its state begun, then the rest by the D-layer -/
theorem ok_lawT {x qual : Str} {st : Stmt} {f fB : Addr} {fd fdB : FuncData} {N : List Str} {k : Nat} {rest : List Stmt} {W : WS} {p1 p2 p3 p4 p5 : Pos} {n : Nat} {ts : List (Str × Addr × Addr)}
    (F : Fun K x qual st f fd) (Sc : FnScope N ["_law_script"] (defScope st))
    (hbd : defBody st = .Assign [.Name "_law_state" p1] (.Call (.Name "_law_begin" p2) [.Name "_law_script" p3] [] p4) p5 :: rest)
    (hN : N = ("_law_script" : Str) :: ("_law_state" : Str) :: N.drop 2) (hn : (N.drop 2).length = n)
    (hloc : Loc (defScope st) ("_law_state" : Str)) (hs0 : Vis (defScope st) ("_law_script" : Str))
    (hgl : (defScope st).names.lookup ("_law_begin" : Str) = some .globalImplicit)
    (GB : FnOk P w K mg base CX0 k fB fdB ["_law_script"] (spBeginH K)) (FB : PySem.W.keepIn K (.ref fB) = true) (bB : Binds K fdB ["_law_script"] []) (gB : mg "_law_begin" = some (.ref fB))
    (hT : ∀ t ∈ ts, TabC K t.1 t.2.1 t.2.2) (hnd : (ts.map (·.2.2)).Nodup)
    (hb : ∀ (cdv : Value) (A : Around) (outer : List Env) (s : Shared) (H : Hp) (E : XK), RoomG k (A.deeper (PyProof.Rows.envOfC qual (defScope st) s.heap.objs.size f cdv)) → DSs (cxOf CX0 P w K mg base N qual (defScope st) f cdv A outer s H E).nox rest W)
    (hW : W ⟨.no :: .mu ts.length :: nos n, ts.map (fun t => MO.tab t.1) ++ [.rnd fuel0], ts.length⟩ endLaw) : FnOkG P w K mg base CX0 (k + 1) f fd ["_law_script"] (spLawT K ts) := by
  refine fun_okG F Sc (fun vs H Q E h => ?_) (fun cdv A outer s H vs Q E hr h => ?_)
  · obtain ⟨a, ns, rfl, _⟩ := h
    rfl
  · obtain ⟨a, ns, rfl, hS, hlen, _, hH, q⟩ := h
    obtain ⟨t, pt, qt⟩ := (hb cdv A outer s H E hr).ex
    have e0 : N[0]? = some ("_law_script" : Str) := by rw [hN]; rfl
    have e1 : N[1]? = some ("_law_state" : Str) := by rw [hN]; rfl
    rw [hbd]
    refine ⟨_, pss_cons (ps_set (i := 1) Sc.nd e1 hloc (pe_call GB hr.r hgl gB FB bB .nil pass0 (pa_cons (pe_var e0 hs0) pa_nil)) (hf := .inl rfl)) pt, ?_⟩
    have hst : L2.start N [V.ref a] = some (V.ref a) :: none :: List.replicate n none := by
      unfold L2.start
      rw [hN]
      simp [List.replicate_succ, hn]
    rw [hst]
    refine ⟨.ref a, rfl, a, ns, rfl, hS, fun H1 ad c cs hx ha hc na nc hac l1 l2 => ?_⟩
    have tl : (ts.map fun t : Str × Addr × Addr => [t.2.2]).length = ts.length := List.length_map _
    have tm : (ts.map fun t : Str × Addr × Addr => MO.tab t.1).length = ts.length := List.length_map _
    have gol : ∀ j, go (ts.map (fun t : Str × Addr × Addr => [t.2.2])) j = match ts[j]? with | some t => [t.2.2] | none => [] := go_tabs ts
    have gml : ∀ j, gm (ts.map (fun t : Str × Addr × Addr => MO.tab t.1)) j = match ts[j]? with | some t => .tab t.1 | none => .gone := gm_tabs ts
    have goA : ∀ j, go (ts.map (fun t : Str × Addr × Addr => [t.2.2]) ++ [[ad, c]]) j = if j < ts.length then go (ts.map fun t : Str × Addr × Addr => [t.2.2]) j else go [[ad, c]] (j - ts.length) := fun j => by rw [go_app, tl]
    have isT : ∀ {j b}, j < ts.length → b ∈ go (ts.map fun t : Str × Addr × Addr => [t.2.2]) j → b ∈ ts.map (·.2.2) ∧ (ts.map (·.2.2))[j]? = some b := fun {j b} hj hb => by
      rw [gol, List.getElem?_eq_getElem hj] at hb
      have e := List.mem_singleton.mp hb
      exact ⟨by rw [e]; exact List.mem_map.mpr ⟨ts[j], List.getElem_mem hj, rfl⟩, by rw [List.getElem?_map, List.getElem?_eq_getElem hj, e]; rfl⟩
    have hHb : ∀ b, b ∈ ts.map (·.2.2) → H b = some (.tbl #[]) := fun b hb => by
      obtain ⟨t, ht, rfl⟩ := List.mem_map.mp hb
      exact hH t ht
    have nT : ∀ b, b = ad ∨ b = c → b ∉ ts.map (·.2.2) := fun b hb z => by
      have := hHb b z
      rcases hb with rfl | rfl
      · rw [na] at this; cases this
      · rw [nc] at this; cases this
    have last : ∀ {j b}, ¬ j < ts.length → b ∈ go [[ad, c]] (j - ts.length) → j = ts.length ∧ (b = ad ∨ b = c) := fun {j b} hj hb => by
      match q : j - ts.length, hb with
      | 0, hb =>
        refine ⟨by omega, ?_⟩
        rcases List.mem_cons.mp hb with rfl | hb
        · exact .inl rfl
        · exact .inr (List.mem_singleton.mp hb)
      | k + 1, hb => cases hb
    refine qt ⟨H, ts.map (fun t => [t.2.2]), fun b => b ∈ ts.map (·.2.2)⟩ (fun b => b ∈ ts.map (·.2.2) ∨ b = ad ∨ b = c) (ts.map (fun t => [t.2.2]) ++ [[ad, c]]) H1 _ ⟨.no :: .mu ts.length :: nos n, ts.map (fun t => MO.tab t.1) ++ [.rnd fuel0], ts.length⟩ endLaw _
      ⟨⟨by simp, fun j => ?_, fun j j' b h1 h2 => ?_, fun j => ?_, fun j b hb => ?_, fun b hb => ?_⟩, ?_, fun i => ?_, fun b hb => .inl hb, fun b o _ h => hx b o h, fun j b hb => ?_, ?_, ?_, fun b hb => ?_, fun b hb => by show H b ≠ none; rw [hHb b hb]; intro z; cases z⟩ hW ?_
    · rw [goA, gm_app, tm]
      by_cases hj : j < ts.length
      · rw [if_pos hj, if_pos hj, gol, gml, List.getElem?_eq_getElem hj]
        have ht := hT ts[j] (List.getElem_mem hj)
        refine ⟨ts[j].2.2, ts[j].2.1, rfl, ht, #[], hx _ _ (hH ts[j] (List.getElem_mem hj)), ?_, fun pos cv e => ?_⟩
        · trivial
        · cases e
      · rw [if_neg hj, if_neg hj]
        match j - ts.length with
        | 0 => exact ⟨ad, c, cs, 0, rfl, ha, hc, l1, l2, by omega, by decide⟩
        | k + 1 => trivial
    · rw [goA] at h1 h2
      by_cases hj : j < ts.length
      · rw [if_pos hj] at h1
        by_cases hj' : j' < ts.length
        · rw [if_pos hj'] at h2
          have a1 := (isT hj h1).2
          have a2 := (isT hj' h2).2
          exact (List.getElem?_inj (by rw [List.length_map]; exact hj) hnd).mp (a1.trans a2.symm)
        · rw [if_neg hj'] at h2
          exact (nT b (last hj' h2).2 (isT hj h1).1).elim
      · rw [if_neg hj] at h1
        by_cases hj' : j' < ts.length
        · rw [if_pos hj'] at h2
          exact (nT b (last hj h1).2 (isT hj' h2).1).elim
        · rw [if_neg hj'] at h2
          rw [(last hj h1).1, (last hj' h2).1]
    · rw [goA]
      split
      · rw [gol]
        split
        · simp
        · exact List.nodup_nil
      · match j - ts.length with
        | 0 => exact List.nodup_cons.mpr ⟨by simpa using hac, by simp⟩
        | k + 1 => exact List.nodup_nil
    · rw [goA] at hb
      split at hb
      · rename_i hj
        exact .inl (isT hj hb).1
      · rename_i hj
        exact .inr (last hj hb).2
    · rcases hb with hb | rfl | rfl
      · rw [hx _ _ (hHb b hb)]; intro z; cases z
      · rw [ha]; intro z; cases z
      · rw [hc]; intro z; cases z
    · show (((some (V.ref a) :: none :: List.replicate n none).set 1 (some (V.ref ad))).length = _)
      simp [nos_length]
    · match i with
      | 0 => exact .inl rfl
      | 1 => exact .inr ⟨.ref ad, rfl, ad, [c], by rw [goA, if_neg (Nat.lt_irrefl _), Nat.sub_self]; rfl, rfl⟩
      | i + 2 => exact .inl (gt_nos n i)
    · rw [goA] at hb
      split at hb
      · exact .inl ⟨j, hb⟩
      · rename_i hj
        rcases (last hj hb).2 with rfl | rfl
        · exact .inr na
        · exact .inr nc
    · show (ts.map (fun t : Str × Addr × Addr => [t.2.2]) ++ [[ad, c]]).take ts.length = _
      rw [List.take_append_of_le_length (by rw [tl]; exact Nat.le_refl _), List.take_of_length_le (by rw [tl]; exact Nat.le_refl _)]
    · show ts.length ≤ _
      rw [List.length_append, tl]; omega
    · rcases hb with hb | rfl | rfl
      · exact .inl hb
      · exact .inr na
      · exact .inr nc
    · refine ⟨fun A' own' H' σ' s' R' _ h => h.elim, fun A' own' H' σ' s' v x R' _ ex h => ?_, fun _ _ _ _ _ _ _ h => h.elim, fun _ _ _ _ _ _ _ h => h.elim⟩
      cases (show x = .da (.bool true) from h)
      cases ex
      exact q H'
end
/-! ### l.remove(x) over data -/
def rRemD (K : PySem.W.Frag) : V → List V → Hp → VK → Prop := fun x xs H Q => ∃ (a : Addr) (vs : List V) (y : V) (d : PyData) (ds : List PyData) (j : Nat) (z : PyData), x = V.ref a ∧ xs = [y] ∧ H a = some (.lst vs) ∧ DpAll K H vs ds ∧ Dp K H y d ∧
  SeqAt.shaped (.list ds) = true ∧ SeqAt.shaped d = true ∧ ds[j]? = some z ∧ PyData.eqv z d = true ∧ (∀ (m : Nat) (z' : PyData), m < j → ds[m]? = some z' → PyData.eqv z' d = false) ∧ Q .non (upd H a (.lst (vs.eraseIdx j)))
section
variable {X : Cx}
theorem mt_removeD (hu : X.A.units + 65 < cLine) : MtR X "list.remove" (rRemD X.K) := by
  intro pins s σ H x xs v us Q I rx rxs h
  obtain ⟨a, vs, y, d, ds, j, z, rfl, rfl, hH, hl, hy, sl, sd, hz, hzj, hno, q⟩ := h
  cases rx
  cases rxs with
  | cons ry rt =>
    rename_i uy ut
    cases rt
    obtain ⟨bs, r1⟩ := Dp.reads I d y uy hy ry
    have hxs : PyData.canLayAll0 ds = true := SeqAt.canLay_of_shaped sl
    have hroom : X.A.units + 1 + min (PyData.depthAll ds) d.depth < cLine := room_in_shaped sd hu
    obtain ⟨hzl, its, n, rv, ho⟩ := (show ObjOk X.prog X.w H s.heap a (.lst vs) from I.hok a _ hH)
    obtain ⟨as, h4⟩ := Dp.readsAll I ds _ its hl rv
    have hn : its.length = ds.length := SeqAt.ReadsAll.length ds its as h4
    have hmap : its.map (SeqAt.readOf s.heap) = ds := SeqAt.readsAll_map ds its as hxs h4
    obtain ⟨hjd, _⟩ := List.getElem?_eq_some_iff.mp hz
    have hjl : j < its.length := by omega
    have hvl := rv.length
    have at_ : ∀ (m : Nat) (hm : m < its.toArray.size) (z' : PyData), ds[m]? = some z' → SeqAt.readOf s.heap its.toArray[m] = z' := by
      intro m hm z' hz'
      have hml : m < its.length := by simpa using hm
      rw [← hmap, List.getElem?_map, List.getElem?_eq_getElem hml] at hz'
      have e1 : SeqAt.readOf s.heap its[m] = z' := Option.some.inj (show some (SeqAt.readOf s.heap its[m]) = some z' from hz')
      simpa using e1
    have hj : j < its.toArray.size := by simpa using hjl
    have hsz : its.toArray.size ≤ sizeLine := by rw [List.size_toArray, ← hvl]; exact hzl
    refine call_meets PySem.F.slot_list_remove ⟨_, ho, rfl⟩ PySem.F.entry_list_remove (PySem.F.args_list_remove_2 _ _)
      (SeqAt.list_removeAt a its.toArray n _ _ uy (fun u => PyData.eqv (SeqAt.readOf s.heap u) d) j hj ?_ ?_ hsz) ⟨ho, SeqAt.items_eqAt (vs := its.toArray) (show ReadsAll s.heap its.toArray.toList ds as from h4) r1 hxs (SeqAt.canLay_of_shaped sd) hroom, ?_⟩
    · show PyData.eqv (SeqAt.readOf s.heap its.toArray[j]) d = true
      rw [at_ j hj z hz]
      exact hzj
    · intro m hm hmj
      have hz' : ds[m]? = some ds[m] := List.getElem?_eq_getElem (by omega)
      show PyData.eqv (SeqAt.readOf s.heap its.toArray[m]) d = false
      rw [at_ m hm _ hz']
      exact hno m _ hmj hz'
    · refine ⟨.non, _, I.lset (its' := its.eraseIdx j) (t' := s.toks) hH ho ?_ (rv.eraseIdx j) ?_, rfl, q⟩
      · show its.toArray.eraseIdxIfInBounds j = (its.eraseIdx j).toArray
        rw [List.eraseIdxIfInBounds_toArray]
      · have z2 := len_erase vs j
        omega
def mRemove : S → Nat → List D → List En → (S → En → Prop) → Prop := fun s j ds xs Ks => a1 xs fun x => daI x fun d => SeqAt.shaped (.list ds) = true ∧ SeqAt.shaped d = true ∧ ∃ (i : Nat) (z : D), ds[i]? = some z ∧ PyData.eqv z d = true ∧ (∀ (m : Nat) (z' : D), m < i → ds[m]? = some z' → PyData.eqv z' d = false) ∧ Ks (s.sM j (.lst (ds.eraseIdx i))) (.da .none)
theorem RpL.eraseIdx {K : PySem.W.Frag} {A : Addr → Prop} {H : Hp} : ∀ {v : List V} {d : List D} (i : Nat), RpL K A H v d → RpL K A H (v.eraseIdx i) (d.eraseIdx i)
  | _, _, _, .nil => .nil
  | _, _, 0, .cons _ b => b
  | _, _, i + 1, .cons a b => .cons a (RpL.eraseIdx i b)
theorem md_remove {K : PySem.W.Frag} : MetD K (rRemD K) mRemove := by
  intro b A own H σ s p j us ds vs xs Ks Q R hp r g up E h k
  obtain ⟨v, x, rfl, E, h⟩ := a1_inv E h
  obtain ⟨d, rfl, sl, sd, i, z, hz, he, hno, h⟩ := daI_inv h
  obtain ⟨R1, U1⟩ := up _ _ (r.eraseIdx i)
  exact ⟨p, us, v, d, ds, i, z, rfl, rfl, hp, r.dp (SeqAt.canLay_of_shaped sl), Rp.dp E (SeqAt.canLay_of_shaped sd), sl, sd, hz, he, hno, k.da R1 U1 .non h⟩
end
/-! ### list(range(n)) -/
def rngD (n : Nat) : List D := (List.range n).map fun i => .int (i : Nat)
theorem rgV_rp {K : PySem.W.Frag} {A : Addr → Prop} {H : Hp} (n : Int) : RpL K A H (rgV 0 n) (rngD n.toNat) := by
  unfold rgV rngD
  rw [Int.sub_zero]
  generalize List.range n.toNat = l
  induction l with
  | nil => exact .nil
  | cons x r ih => exact .cons (by show Rp K A H (V.int (0 + (x : Nat))) _; rw [Int.zero_add]; exact .int _) ih
section
variable {X : Cx} {a : Expr} {wa : WE}
def dListRg (wa : WE) : WE := fun s Ks => wa s fun s1 x => i1 x fun n => 0 ≤ n ∧ n ≤ 16777216 ∧ Ks s1 (.da (.list (rngD n.toNat)))
theorem de_listRg {p p2 q pos : Pos} (hc : X.calm = true) (hg : Gl X "list") (hm : X.mg "list" = none) (hg2 : Gl X "range") (hm2 : X.mg "range" = none) (ha : DE X a wa)
    (na : starEach [a] X.env = (false, eval a X.env) :: starEach [] X.env := by rfl) (nb : starEach [.Call (.Name "range" p2) [a] [] q] X.env = (false, eval (.Call (.Name "range" p2) [a] [] q) X.env) :: starEach [] X.env := by rfl) : DE X (.Call (.Name "list" p) [.Call (.Name "range" p2) [a] [] q] [] pos) (dListRg wa) := by
  obtain ⟨ta, pa, qa⟩ := ha.ex
  refine ⟨_, pe_listRg hc hg hm (prg_1 hg2 hm2 pa (na := na)) nb, fun b A own H σ s Ks Q R h k => ?_⟩
  show ta σ H fun x H1 => ∃ n, x = .int n ∧ (RgOk 0 n ∧ ∀ q, H1 q = none → Q (.ref q) (upd H1 q (.lst (rgV 0 n))))
  refine qa _ _ _ _ _ _ _ _ R h fun A1 o1 H1 v1 s1 x1 R1 U1 E1 h1 => ?_
  obtain ⟨n, rfl, h0, h2, h1⟩ := i1_inv h1
  cases E1
  exact ⟨n, rfl, RgOk.of_le (by decide) h2 (by decide) h0, fun q hq => new_lst R1 (k.up U1) (rgV_rp n) hq h1⟩
end
end DL
namespace DL
open PySem L2 PySem.Spec PyProof.Rows
theorem free_ok {sl sc : Scope} (h : (sl.names.all fun y => !decide (y.2 = NameKind.free) || decide (sc.names.lookup y.1 = some .cell) || decide (sc.names.lookup y.1 = some .free)) = true) : ∀ y ∈ sl.names, y.2 = .free → sc.names.lookup y.1 = some .cell ∨ sc.names.lookup y.1 = some .free := by
  intro y hy e
  have := List.all_eq_true.mp h y hy
  simp only [Bool.or_eq_true, Bool.not_eq_true', decide_eq_false_iff_not, decide_eq_true_eq] at this
  rcases this with (z | z) | z
  · exact absurd e z
  · exact .inl z
  · exact .inr z
end DL
namespace DL
open PySem L2 PySem.Spec PyProof.Rows
/-! ### for x in a list that stands as it is while it is walked -/
section
variable {X : L2.Cx} {sts : List Stmt} {w : WS} {pos : Pos}
def sForL (kl : List Nat) (we : WE) (wg : WG) (wb : WS) : WS := fun s Dn => we s fun s1 x => ∃ (j : Nat) (ds : List PyData), x = .mu j ∧ gm s1.ms j = .lst ds ∧ ∃ I : Nat → S → Prop,
  (∀ i s2, I i s2 → gm s2.ms j = .lst ds) ∧ I 0 (clA kl ⟨s1.es, s1.ms, s1.ms.length⟩) ∧
  (∀ i d s2, ds[i]? = some d → I i s2 → wg (.da d) s2 fun s3 => wb s3 ⟨fun s4 => I (i + 1) (clA kl s4), fun s4 x => Dn.rt ⟨s4.es, s4.ms, s1.np⟩ x, fun s4 => Dn.nx ⟨s4.es, s4.ms, s1.np⟩, fun s4 => I (i + 1) (clA kl s4)⟩) ∧
  (∀ s2, I ds.length s2 → Dn.nx ⟨s2.es, s2.ms, s1.np⟩)
theorem ds_forL (kl : List Nat) {we : WE} {js : List Nat} {wg : WG} {tg it : Expr} (hp : PassesOwn (model X.prog X.w) X.A X.env X.xe) (hc : X.calm = true) (hi : DE X it we) (hg : DG X tg js wg) (hb : DSs X sts w)
    (hs : ∀ x, foldedSetIterable it X.env x = pure x := by intro _; rfl) : DS X (.For tg it sts [] pos) (sForL kl we wg w) := by
  obtain ⟨te, pe, qe⟩ := hi.ex
  obtain ⟨g, pg, qg⟩ := hg.ex
  obtain ⟨tb, pb, qb⟩ := hb.ex
  refine ⟨_, ps_for hp hc (pi_list pe) pg pb hs, fun b A own H σ s Dn E R h mt => ?_⟩
  show te σ H fun x H1 => ∃ a, x = .ref a ∧ (∃ xs, SqL X.K H1 a xs) ∧ (fun (J : It) (H1 : Hp) => ∃ W : Nat → Nat → L2.St → Hp → Prop, (∃ m, W 0 m σ H1) ∧ ∀ i m σ H, W i m σ H →
    (J.stop i H ∧ E.nx σ H) ∨ (J.go i H ∧ ∃ N : L2.St → Hp → Prop, (∀ σ' H', N σ' H' → ∃ m', m' < m ∧ W (i + 1) m' σ' H') ∧ ∀ x H', J.yld i H x H' → g x σ H' fun σ2 H2 => tb { E with nx := N, ct := N, bk := E.nx } σ2 H2)) (Itl X.K a) H1
  refine qe _ _ _ _ _ _ _ _ R h fun A1 o1 H1 v1 s1 x1 R1 U1 E1 h1 => ?_
  obtain ⟨j, ds, rfl, gj, I, hI, h0, hst, hd⟩ := h1
  obtain ⟨a, r, ga, rfl⟩ := E1
  have own2 : ∀ (A2 : Addr → Prop) (o2 : List (List Addr)) (H2 : Hp) (σ2 : L2.St) (s2 : S), Rel X.K ⟨H1, o1, A1⟩ A2 o2 H2 σ2 s2 → go o2 j = a :: r := fun A2 o2 H2 σ2 s2 R2 => by
    have q := ga
    have h2 : o2.take s2.np = o1 := R2.pre
    rw [← h2, go_take] at q
    split at q
    · exact q
    · cases q
  have key : ∀ (A2 : Addr → Prop) (o2 : List (List Addr)) (H2 : Hp) (σ2 : L2.St) (s2 : S), Rel X.K ⟨H1, o1, A1⟩ A2 o2 H2 σ2 s2 → gm s2.ms j = .lst ds → ∃ us : List V, H2 a = some (.lst us) ∧ RpL X.K A2 H2 us ds := fun A2 o2 H2 σ2 s2 R2 g2 => by
    have m := R2.mr j
    rw [g2] at m
    obtain ⟨a', us, e1, e2, e3⟩ := m
    have e4 := own2 _ _ _ _ _ R2
    rw [e1] at e4
    cases e4
    exact ⟨us, e2, e3⟩
  obtain ⟨us0, e20, _⟩ := key _ _ _ _ _ R1.base gj
  refine ⟨a, rfl, ⟨_, .inl (.inl e20)⟩, ?_⟩
  refine ⟨fun i k σ2 H2 => k = ds.length - i ∧ i ≤ ds.length ∧ ∃ (A2 : Addr → Prop) (o2 : List (List Addr)) (s2 : S), Rel X.K ⟨H1, o1, A1⟩ A2 o2 H2 σ2 s2 ∧ I i s2, ⟨_, rfl, Nat.zero_le _, A1, _, _, R1.base.clA kl, h0⟩, ?_⟩
  rintro i k σ2 H2 ⟨rfl, hi, A2, o2, s2, R2, hI2⟩
  obtain ⟨us, hw, rk⟩ := key _ _ _ _ _ R2 (hI _ _ hI2)
  have bk := R1.back2 R2
  by_cases hlt : i < ds.length
  · obtain ⟨v, hv, ev⟩ := rk.get (List.getElem?_eq_getElem hlt)
    refine .inr ⟨⟨us, v, .inl (.inl hw), hv⟩, fun σ' H' => ∃ (A3 : Addr → Prop) (o3 : List (List Addr)) (s3 : S), Rel X.K ⟨H1, o1, A1⟩ A3 o3 H' σ' s3 ∧ I (i + 1) s3, fun σ' H' ⟨A3, o3, s3, r3, i3⟩ => ⟨ds.length - (i + 1), by omega, rfl, hlt, A3, o3, s3, r3, i3⟩, fun x H3 hx => ?_⟩
    obtain ⟨rfl, hy⟩ := hx
    have := hy us (.inl (.inl hw))
    rw [hv] at this
    cases this
    refine qg _ _ _ _ _ _ _ (.da ds[i]) _ _ R2 ev (hst i _ s2 (List.getElem?_eq_getElem hlt) hI2) fun A4 o4 H4 σ4 s4 R4 U4 _ h4 => ?_
    refine qb _ _ _ _ _ _ _ _ R4 h4 ⟨fun A5 o5 H5 σ5 s5 R5 k5 h5 => ⟨A5, _, _, R5.clA kl, h5⟩, fun A5 o5 H5 σ5 s5 v x R5 k5 e5 h5 => ?_, fun A5 o5 H5 σ5 s5 R5 k5 h5 => ?_, fun A5 o5 H5 σ5 s5 R5 k5 h5 => ⟨A5, _, _, R5.clA kl, h5⟩⟩
    · obtain ⟨R6, k6⟩ := R1.back2 R5
      exact mt.rt _ _ _ _ _ _ _ R6 (U1.kp.trans k6) e5 h5
    · obtain ⟨R6, k6⟩ := R1.back2 R5
      exact mt.nx _ _ _ _ _ R6 (U1.kp.trans k6) h5
  · have e : i = ds.length := by omega
    subst e
    exact .inl ⟨⟨us, .inl (.inl hw), by rw [rk.length]; exact Nat.le_refl _⟩, mt.nx _ _ _ _ _ bk.1 (U1.kp.trans bk.2) (hd _ hI2)⟩
end
end DL
set_option exponentiation.threshold 9000
namespace K12
open PySem L2 PySem.Spec PyProof.Rows DL
def topS (i : Nat) : Stmt := PySem.Challenge.pw_strengthbond_k12_ranges_of_pure.main.body.getD i (.Pass ⟨0, 0, 0, 0⟩)
abbrev s_common : Stmt := topS 1
abbrev s_lowest : Stmt := topS 2
abbrev s_strengths_of : Stmt := topS 4
abbrev s_taken_by : Stmt := topS 5
abbrev s_pure_in : Stmt := topS 6
abbrev s_by_strength : Stmt := topS 7
abbrev s_pure_range : Stmt := topS 8
abbrev s_begin : Stmt := topS 10
abbrev s_take : Stmt := topS 11
abbrev s_same : Stmt := topS 12
abbrev s_low : Stmt := topS 13
abbrev s_plus : Stmt := topS 14
abbrev s_less : Stmt := topS 15
abbrev s_great : Stmt := topS 16
abbrev s_cask : Stmt := topS 17
abbrev s_casks : Stmt := topS 18
abbrev s_filled : Stmt := topS 19
abbrev s_drawn_pure : Stmt := topS 20
abbrev s_law : Stmt := topS 21
theorem sc_common : FnScope ["one", "other"] ["one", "other"] (defScope s_common) := ⟨rfl, rfl, rfl, by decide +kernel, rfl, by decide +kernel, by decide +kernel⟩
theorem sc_lowest : FnScope ["over", "under", "by"] ["over", "under"] (defScope s_lowest) := ⟨rfl, rfl, rfl, by decide +kernel, rfl, by decide +kernel, by decide +kernel⟩
theorem sc_strengths_of : FnScope ["casks", "whole", "price", "bulk", "pure"] ["casks"] (defScope s_strengths_of) := ⟨rfl, rfl, rfl, by decide +kernel, rfl, by decide +kernel, by decide +kernel⟩
theorem sc_taken_by : FnScope ["order", "casks", "bulk", "amounts", "left", "number"] ["order", "casks", "bulk"] (defScope s_taken_by) := ⟨rfl, rfl, rfl, by decide +kernel, rfl, by decide +kernel, by decide +kernel⟩
theorem sc_pure_in : FnScope ["amounts", "strengths", "amount", "strength"] ["amounts", "strengths"] (defScope s_pure_in) := ⟨rfl, rfl, rfl, by decide +kernel, rfl, by decide +kernel, by decide +kernel⟩
theorem sc_by_strength : FnScope ["strengths"] ["strengths"] (defScope s_by_strength) := ⟨rfl, rfl, rfl, by decide +kernel, rfl, by decide +kernel, by decide +kernel⟩
theorem sc_pure_range : FnScope ["casks", "bulk", "whole", "strengths", "order", "least", "greatest", "price", "most", "pure"] ["casks", "bulk"] (defScope s_pure_range) := ⟨rfl, rfl, rfl, by decide +kernel, rfl, by decide +kernel, by decide +kernel⟩
theorem sc_begin : FnScope ["_law_script", "_law_cells"] ["_law_script"] (defScope s_begin) := ⟨rfl, rfl, rfl, by decide +kernel, rfl, by decide +kernel, by decide +kernel⟩
theorem sc_take : FnScope ["_law_state", "_law_many", "_law_turn", "_law_place", "_law_cell", "_law_digit", "_law_mixed"] ["_law_state", "_law_many"] (defScope s_take) := ⟨rfl, rfl, rfl, by decide +kernel, rfl, by decide +kernel, by decide +kernel⟩
theorem sc_same : FnScope ["_law_found", "_law_due", "_law_one", "_law_other"] ["_law_found", "_law_due"] (defScope s_same) := ⟨rfl, rfl, rfl, by decide +kernel, rfl, by decide +kernel, by decide +kernel⟩
theorem sc_low : FnScope ["_law_over", "_law_under", "_law_one", "_law_other"] ["_law_over", "_law_under"] (defScope s_low) := ⟨rfl, rfl, rfl, by decide +kernel, rfl, by decide +kernel, by decide +kernel⟩
theorem sc_plus : FnScope ["_law_one", "_law_other"] ["_law_one", "_law_other"] (defScope s_plus) := ⟨rfl, rfl, rfl, by decide +kernel, rfl, by decide +kernel, by decide +kernel⟩
theorem sc_less : FnScope ["_law_one", "_law_other"] ["_law_one", "_law_other"] (defScope s_less) := ⟨rfl, rfl, rfl, by decide +kernel, rfl, by decide +kernel, by decide +kernel⟩
theorem sc_great : FnScope ["_law_state", "_law_parts", "_law_turn"] ["_law_state"] (defScope s_great) := ⟨rfl, rfl, rfl, by decide +kernel, rfl, by decide +kernel, by decide +kernel⟩
theorem sc_cask : FnScope ["_law_state", "_law_like", "_law_price", "_law_bulk", "_law_kind", "_law_pure", "_law_other", "_law_many"] ["_law_state", "_law_like"] (defScope s_cask) := ⟨rfl, rfl, rfl, by decide +kernel, rfl, by decide +kernel, by decide +kernel⟩
theorem sc_casks : FnScope ["_law_state", "_law_most", "_law_casks_here", "_law_turn"] ["_law_state", "_law_most"] (defScope s_casks) := ⟨rfl, rfl, rfl, by decide +kernel, rfl, by decide +kernel, by decide +kernel⟩
theorem sc_filled : FnScope ["_law_casks_here", "_law_bulk", "_law_strongest", "_law_left", "_law_total", "_law_waiting", "_law_best", "_law_cask_here", "_law_ahead", "_law_taken"] ["_law_casks_here", "_law_bulk", "_law_strongest"] (defScope s_filled) := ⟨rfl, rfl, rfl, by decide +kernel, rfl, by decide +kernel, by decide +kernel⟩
theorem sc_drawn_pure : FnScope ["_law_state", "_law_casks_here", "_law_bulk", "_law_waiting", "_law_left", "_law_total", "_law_cask_here", "_law_taken"] ["_law_state", "_law_casks_here", "_law_bulk"] (defScope s_drawn_pure) := ⟨rfl, rfl, rfl, by decide +kernel, rfl, by decide +kernel, by decide +kernel⟩
theorem sc_law : FnScope ["_law_script", "_law_state", "_law_turn", "_law_casks_here", "_law_bulk", "_law_pure", "_law_whole", "_law_kind", "_law_drawn", "_law_handed", "_law_kept", "_law_due", "_law_again", "_law_price"] ["_law_script"] (defScope s_law) := ⟨rfl, rfl, rfl, by decide +kernel, rfl, by decide +kernel, by decide +kernel⟩
/-- what the top has written -/
structure Tx (K : PySem.W.Frag) (mg : Str → Option Value) : Prop where
  d_common : ∃ f fd, At K mg "common" s_common ["one", "other"] f fd
  d_lowest : ∃ f fd, At K mg "lowest" s_lowest ["over", "under"] f fd
  d_strengths_of : ∃ f fd, At K mg "strengths_of" s_strengths_of ["casks"] f fd
  d_taken_by : ∃ f fd, At K mg "taken_by" s_taken_by ["order", "casks", "bulk"] f fd
  d_pure_in : ∃ f fd, At K mg "pure_in" s_pure_in ["amounts", "strengths"] f fd
  d_by_strength : ∃ f fd c P, At K mg "by_strength" s_by_strength ["strengths"] f fd ∧ FunL K "by_strength" "by_strength" s_by_strength f fd c ∧ TabC K "by_strength" c P
  d_pure_range : ∃ f fd, At K mg "pure_range" s_pure_range ["casks", "bulk"] f fd
  d_begin : ∃ f fd, At K mg "_law_begin" s_begin ["_law_script"] f fd
  d_take : ∃ f fd, At K mg "_law_take" s_take ["_law_state", "_law_many"] f fd
  d_same : ∃ f fd, At K mg "_law_same" s_same ["_law_found", "_law_due"] f fd
  d_low : ∃ f fd, At K mg "_law_low" s_low ["_law_over", "_law_under"] f fd
  d_plus : ∃ f fd, At K mg "_law_plus" s_plus ["_law_one", "_law_other"] f fd
  d_less : ∃ f fd, At K mg "_law_less" s_less ["_law_one", "_law_other"] f fd
  d_great : ∃ f fd, At K mg "_law_great" s_great ["_law_state"] f fd
  d_cask : ∃ f fd, At K mg "_law_cask" s_cask ["_law_state", "_law_like"] f fd
  d_casks : ∃ f fd, At K mg "_law_casks" s_casks ["_law_state", "_law_most"] f fd
  d_filled : ∃ f fd, At K mg "_law_filled" s_filled ["_law_casks_here", "_law_bulk", "_law_strongest"] f fd
  d_drawn_pure : ∃ f fd, At K mg "_law_drawn_pure" s_drawn_pure ["_law_state", "_law_casks_here", "_law_bulk"] f fd
  b_abs : mg "abs" = none
  b_all : mg "all" = none
  b_bool : mg "bool" = none
  b_divmod : mg "divmod" = none
  b_int : mg "int" = none
  b_isinstance : mg "isinstance" = none
  b_len : mg "len" = none
  b_list : mg "list" = none
  b_max : mg "max" = none
  b_min : mg "min" = none
  b_range : mg "range" = none
  b_sorted : mg "sorted" = none
  b_str : mg "str" = none
  b_sum : mg "sum" = none
  b_tuple : mg "tuple" = none
  b_zip : mg "zip" = none
/-- the tables of code objects that lambdas are made by -/
structure TbX (K : PySem.W.Frag) (mg : Str → Option Value) (base : Heap) : Prop where
  t_by_strength : ∀ c P, TabC K "by_strength" c P → LamX.TabB base mg c P
def Low (over under n d : Int) : Prop := 0 < d ∧ n * under = over * d ∧ Int.gcd n d = 1
theorem low_unique {n d n' d' : Int} (h : 0 < d) (h' : 0 < d') (g : Int.gcd n d = 1) (g' : Int.gcd n' d' = 1) (e : n * d' = n' * d) : n = n' ∧ d = d' := by
  have e2 : n.natAbs * d'.natAbs = n'.natAbs * d.natAbs := by rw [← Int.natAbs_mul, ← Int.natAbs_mul, e]
  have c1 : Nat.Coprime d.natAbs n.natAbs := Nat.coprime_comm.mp g
  have c2 : Nat.Coprime d'.natAbs n'.natAbs := Nat.coprime_comm.mp g'
  have h1 : d.natAbs ∣ d'.natAbs := c1.dvd_of_dvd_mul_left (e2 ▸ Nat.dvd_mul_left _ _)
  have h2 : d'.natAbs ∣ d.natAbs := c2.dvd_of_dvd_mul_left (e2 ▸ Nat.dvd_mul_left _ _)
  have h3 := Nat.dvd_antisymm h1 h2
  have h4 : d = d' := by omega
  subst h4
  exact ⟨Int.eq_of_mul_eq_mul_right (by omega) e, rfl⟩
theorem low_same {o u b n d n' d' : Int} (hb : b ≠ 0) (hu : u ≠ 0) (h : Low (o * b) (u * b) n d) (h' : Low o u n' d') : n = n' ∧ d = d' := by
  obtain ⟨p, e, g⟩ := h
  obtain ⟨p', e', g'⟩ := h'
  refine low_unique p p' g g' ?_
  have e1 : n * u = o * d := Int.eq_of_mul_eq_mul_right hb (by rw [Int.mul_assoc, e, Int.mul_assoc, Int.mul_assoc, Int.mul_comm b d])
  refine Int.eq_of_mul_eq_mul_right hu ?_
  calc n * d' * u = n * u * d' := by rw [Int.mul_assoc, Int.mul_comm d' u, ← Int.mul_assoc]
    _ = o * d * d' := by rw [e1]
    _ = o * d' * d := by rw [Int.mul_assoc, Int.mul_comm d d', ← Int.mul_assoc]
    _ = n' * u * d := by rw [e']
    _ = n' * d * u := by rw [Int.mul_assoc, Int.mul_comm u d, ← Int.mul_assoc]
theorem low_cancel {o u b n d : Int} (hb : b ≠ 0) (h : Low (o * b) (u * b) n d) : Low o u n d := by
  obtain ⟨p, e, g⟩ := h
  exact ⟨p, Int.eq_of_mul_eq_mul_right hb (by rw [Int.mul_assoc, e, Int.mul_assoc, Int.mul_assoc, Int.mul_comm b d]), g⟩
theorem div_le {o : Int} {G : Nat} (g : 0 < G) (h : (G : Int) ∣ o) : (o / (G : Int)).natAbs ≤ o.natAbs := by
  obtain ⟨o', rfl⟩ := h
  rw [Int.mul_ediv_cancel_left _ (by omega), Int.natAbs_mul]
  exact Nat.le_mul_of_pos_left _ (by omega)
theorem low_mk {o u over under : Int} (hu : 0 < u) (h : o * under = over * u) : Low over under (o / (Int.gcd o u : Int)) (u / (Int.gcd o u : Int)) := by
  have g0 : 0 < Int.gcd o u := Int.gcd_pos_of_ne_zero_right _ (by omega)
  obtain ⟨o', ho⟩ : (Int.gcd o u : Int) ∣ o := Int.gcd_dvd_left ..
  obtain ⟨u', hu'⟩ : (Int.gcd o u : Int) ∣ u := Int.gcd_dvd_right ..
  have gg : Int.gcd o u = Int.gcd o u * Int.gcd o' u' := by
    have := Int.gcd_mul_left (Int.gcd o u : Int) o' u'
    rw [← ho, ← hu'] at this
    simpa using this
  generalize hG : Int.gcd o u = G at *
  have g1 : Int.gcd o' u' = 1 := by
    have : G * 1 = G * Int.gcd o' u' := by omega
    exact (Nat.eq_of_mul_eq_mul_left g0 this).symm
  have eo : o / (G : Int) = o' := by rw [ho, Int.mul_ediv_cancel_left _ (by omega)]
  have eu : u / (G : Int) = u' := by rw [hu', Int.mul_ediv_cancel_left _ (by omega)]
  rw [eo, eu]
  refine ⟨?_, ?_, g1⟩
  · rw [hu'] at hu
    exact Int.lt_of_mul_lt_mul_left (a := (G : Int)) (by rw [Int.mul_zero]; exact hu) (by omega)
  · have : (G : Int) * (o' * under) = G * (over * u') := by
      rw [← Int.mul_assoc, ← ho, h]
      conv => lhs; rw [hu']
      rw [← Int.mul_assoc, Int.mul_comm over, Int.mul_assoc]
    exact Int.eq_of_mul_eq_mul_left (by omega) this
def prF (f : Int × Int) : D := .tuple [.int f.1, .int f.2]
structure FOk (f : Int × Int) : Prop where
  p : 0 < f.2
  a : f.1.natAbs < 2 ^ 200
  b : f.2.natAbs < 2 ^ 200
theorem shF (n d : Int) : SeqAt.shaped (.tuple [.int n, .int d]) = true := shaped_of (bo := false) rfl (by simp [PyData.depth, PyData.depthAll])
theorem eqF (n d : Int) : PyData.eqv (.tuple [.int n, .int d]) (.tuple [.int n, .int d]) = true := SeqAt.eqv_refl _ (okS_lay (bo := false) rfl)
theorem low0 {u n d : Int} (hu : u ≠ 0) (h : Low 0 u n d) : n = 0 ∧ d = 1 := by
  obtain ⟨p, e, g⟩ := h
  rw [Int.zero_mul] at e
  have hn : n = 0 := by
    rcases Int.mul_eq_zero.mp e with e | e
    · exact e
    · exact (hu e).elim
  subst hn
  rw [Int.gcd_zero_left] at g
  exact ⟨rfl, by omega⟩
theorem big {x : Int} {k : Nat} (h : x.natAbs < 2 ^ k) (hk : k ≤ 1000) : x.natAbs < 2 ^ 1000 := Nat.lt_of_lt_of_le h (Nat.pow_le_pow_right (by decide) hk)
/-! numbers as pairs -/
theorem quot_num_den {o u : Int} (hu : u ≠ 0) : ∃ m : Int, m ≠ 0 ∧ o = ((o : Rat) / (u : Rat)).num * m ∧ u = ((o : Rat) / (u : Rat)).den * m := by
  obtain ⟨m, m0, e1, e2⟩ := Rat.divInt_num_den (d := u) (n := o) (z' := ((o : Rat) / (u : Rat)).den_nz) (c := ((o : Rat) / (u : Rat)).reduced) hu (by rw [Rat.divInt_eq_div])
  exact ⟨m, m0, e1, e2⟩
theorem den_pos (q : Rat) : (0 : Int) < q.den := by have := q.den_nz; omega
theorem quot_of {o u n d : Int} (hu : u ≠ 0) (p : 0 < d) (e : n * u = o * d) (g : Int.gcd n d = 1) : n = ((o : Rat) / (u : Rat)).num ∧ d = ((o : Rat) / (u : Rat)).den := by
  obtain ⟨m, m0, e1, e2⟩ := quot_num_den (o := o) hu
  generalize hq : (o : Rat) / (u : Rat) = q at e1 e2 ⊢
  refine low_unique p (den_pos q) g q.reduced ?_
  have : n * (q.den : Int) * m = q.num * d * m := by
    rw [Int.mul_assoc, ← e2, e, e1, Int.mul_assoc, Int.mul_assoc, Int.mul_comm m d]
  exact Int.eq_of_mul_eq_mul_right m0 this
structure Fr (k : Nat) (q : Rat) : Prop where
  n : q.num.natAbs < 2 ^ k
  d : q.den < 2 ^ k
theorem Fr.up {k k' : Nat} {q : Rat} (h : Fr k q) (hk : k ≤ k') : Fr k' q := ⟨Nat.lt_of_lt_of_le h.n (Nat.pow_le_pow_right (by decide) hk), Nat.lt_of_lt_of_le h.d (Nat.pow_le_pow_right (by decide) hk)⟩
theorem Fr.int {k : Nat} {n : Int} (h : n.natAbs < 2 ^ k) (hk : 0 < k) : Fr k (n : Rat) := ⟨h, Nat.lt_of_lt_of_le (by decide : 1 < 2 ^ 1) (Nat.pow_le_pow_right (by decide) hk)⟩
/-- z parts of one D-th -/
def Cd (D N : Nat) (q : Rat) : Prop := ∃ z : Int, q * (D : Rat) = (z : Rat) ∧ z.natAbs ≤ N
theorem natR (D : Nat) : ((D : Int) : Rat) = (D : Rat) := rfl
theorem Cd.num {D N : Nat} {q : Rat} (h : Cd D N q) (hD : 0 < D) : q.num.natAbs ≤ N ∧ q.den ≤ D := by
  obtain ⟨z, e, hz⟩ := h
  have hD' : ((D : Int) : Rat) ≠ 0 := by
    intro w
    have : ((D : Int) : Rat) = ((0 : Int) : Rat) := w
    have := Rat.intCast_inj.mp this
    omega
  have eq : q = (z : Rat) / ((D : Int) : Rat) := by
    rw [← e, ← natR, Rat.mul_div_cancel hD']
  obtain ⟨m, m0, e1, e2⟩ := quot_num_den (o := z) (u := (D : Int)) (by omega)
  rw [← eq] at e1 e2
  have hm : 0 < m.natAbs := by omega
  have a1 : z.natAbs = q.num.natAbs * m.natAbs := by rw [← Int.natAbs_mul, ← e1]
  have a2 : D = q.den * m.natAbs := by
    have := congrArg Int.natAbs e2
    rw [Int.natAbs_mul] at this
    simpa using this
  refine ⟨Nat.le_trans ?_ hz, ?_⟩
  · rw [a1]; exact Nat.le_mul_of_pos_right _ hm
  · conv => rhs; rw [a2]
    exact Nat.le_mul_of_pos_right _ hm
theorem Cd.fr {D N k : Nat} {q : Rat} (h : Cd D N q) (hD : 0 < D) (h1 : D < 2 ^ k) (h2 : N < 2 ^ k) : Fr k q := by
  obtain ⟨a, b⟩ := h.num hD
  exact ⟨Nat.lt_of_le_of_lt a h2, Nat.lt_of_le_of_lt b h1⟩
theorem Cd.add {D N N' : Nat} {a b : Rat} (h : Cd D N a) (h' : Cd D N' b) : Cd D (N + N') (a + b) := by
  obtain ⟨z, e, hz⟩ := h
  obtain ⟨z', e', hz'⟩ := h'
  refine ⟨z + z', ?_, by omega⟩
  rw [Rat.add_mul, e, e', Rat.intCast_add]
theorem Cd.zero (D N : Nat) : Cd D N 0 := ⟨0, by rw [Rat.zero_mul]; rfl, by simp⟩
theorem Cd.up {D N N' : Nat} {q : Rat} (h : Cd D N q) (hN : N ≤ N') : Cd D N' q := by
  obtain ⟨z, e, hz⟩ := h
  exact ⟨z, e, by omega⟩
theorem lt_pairs (a b : Rat) : decide (a.num * (b.den : Int) < b.num * (a.den : Int)) = decide (a < b) := decide_eq_decide.mpr (Rat.lt_iff a b).symm
theorem plus_pairs (a b : Rat) : (((a.num * (b.den : Int) + b.num * (a.den : Int)) : Int) : Rat) / (((a.den : Int) * (b.den : Int) : Int) : Rat) = a + b := by
  rw [Rat.add_def', Rat.mkRat_eq_div, ← natR]
  simp
theorem times_pairs (a b : Rat) : ((a.num * b.num : Int) : Rat) / (((a.den : Int) * (b.den : Int) : Int) : Rat) = a * b := by
  rw [Rat.mul_def', Rat.mkRat_eq_div, ← natR]
  simp
theorem quot_le {o u : Int} (hu : u ≠ 0) : ((o : Rat) / (u : Rat)).num.natAbs ≤ o.natAbs ∧ ((o : Rat) / (u : Rat)).den ≤ u.natAbs := by
  obtain ⟨m, m0, e1, e2⟩ := quot_num_den (o := o) hu
  have hm : 0 < m.natAbs := by omega
  generalize (o : Rat) / (u : Rat) = q at *
  have a1 : o.natAbs = q.num.natAbs * m.natAbs := by rw [← Int.natAbs_mul, ← e1]
  have a2 : u.natAbs = q.den * m.natAbs := by
    have := congrArg Int.natAbs e2
    rw [Int.natAbs_mul] at this
    simpa using this
  rw [a1, a2]
  exact ⟨Nat.le_mul_of_pos_right _ hm, Nat.le_mul_of_pos_right _ hm⟩
/-- sums over a row of places -/
def sumR : List Nat → (Nat → Rat) → Rat
  | [], _ => 0
  | i :: r, g => g i + sumR r g
theorem sumR_perm {l m : List Nat} (h : l.Perm m) (g : Nat → Rat) : sumR l g = sumR m g := by
  induction h with
  | nil => rfl
  | cons x _ ih => show g x + _ = g x + _; rw [ih]
  | swap x y l => show g y + (g x + _) = g x + (g y + _); grind
  | trans _ _ h1 h2 => exact h1.trans h2
theorem sumR_congr {l : List Nat} {f g : Nat → Rat} (h : ∀ i ∈ l, f i = g i) : sumR l f = sumR l g := by
  induction l with
  | nil => rfl
  | cons x r ih => show f x + _ = g x + _; rw [h x List.mem_cons_self, ih fun i hi => h i (List.mem_cons_of_mem _ hi)]
theorem sumR_add (l : List Nat) (f g : Nat → Rat) : sumR l (fun i => f i + g i) = sumR l f + sumR l g := by
  induction l with
  | nil => show (0 : Rat) = 0 + 0; grind
  | cons x r ih => show (f x + g x) + _ = (f x + _) + (g x + _); rw [ih]; grind
theorem sumR_mul (l : List Nat) (c : Rat) (f : Nat → Rat) : sumR l (fun i => c * f i) = c * sumR l f := by
  induction l with
  | nil => show (0 : Rat) = c * 0; grind
  | cons x r ih => show c * f x + _ = c * (f x + _); rw [ih]; grind
theorem sumR_sub (l : List Nat) (f g : Nat → Rat) : sumR l (fun i => f i - g i) = sumR l f - sumR l g := by
  induction l with
  | nil => show (0 : Rat) = 0 - 0; grind
  | cons x r ih => show (f x - g x) + _ = (f x + _) - (g x + _); rw [ih]; grind
theorem sumR_le {l : List Nat} {f g : Nat → Rat} (h : ∀ i ∈ l, f i ≤ g i) : sumR l f ≤ sumR l g := by
  induction l with
  | nil => exact Rat.le_refl
  | cons x r ih =>
    have h1 := h x List.mem_cons_self
    have h2 := ih fun i hi => h i (List.mem_cons_of_mem _ hi)
    show f x + _ ≤ g x + _
    grind
theorem sumR_zero (l : List Nat) : sumR l (fun _ => 0) = 0 := by
  induction l with
  | nil => rfl
  | cons x r ih => show (0 : Rat) + _ = 0; rw [ih]; grind
theorem sumR_nonneg {l : List Nat} {f : Nat → Rat} (h : ∀ i ∈ l, 0 ≤ f i) : 0 ≤ sumR l f := by
  have := sumR_le (l := l) (f := fun _ => 0) (g := f) h
  rwa [sumR_zero] at this
theorem sumR_term {l : List Nat} {f : Nat → Rat} (h : ∀ i ∈ l, 0 ≤ f i) (e : sumR l f = 0) : ∀ i ∈ l, f i = 0 := by
  induction l with
  | nil => intro i hi; cases hi
  | cons x r ih =>
    have h1 := h x List.mem_cons_self
    have h2 := sumR_nonneg fun i hi => h i (List.mem_cons_of_mem _ hi)
    have e : f x + sumR r f = 0 := e
    intro i hi
    rcases List.mem_cons.mp hi with rfl | hi
    · grind
    · exact ih (fun i hi => h i (List.mem_cons_of_mem _ hi)) (by grind) i hi
theorem sumR_ge {l : List Nat} {f : Nat → Rat} (h : ∀ i ∈ l, 0 ≤ f i) {i : Nat} (hi : i ∈ l) : f i ≤ sumR l f := by
  induction l with
  | nil => cases hi
  | cons x r ih =>
    have h1 := h x List.mem_cons_self
    have h2 := sumR_nonneg fun i hi => h i (List.mem_cons_of_mem _ hi)
    show f i ≤ f x + sumR r f
    rcases List.mem_cons.mp hi with rfl | hi
    · grind
    · have := ih (fun i hi => h i (List.mem_cons_of_mem _ hi)) hi
      grind
/-- amounts: of each from nothing to all, together so much -/
structure Feas (l : List Nat) (b : Nat → Rat) (B : Rat) (x : Nat → Rat) : Prop where
  lo : ∀ i ∈ l, 0 ≤ x i
  hi : ∀ i ∈ l, x i ≤ b i
  sum : sumR l x = B
/-- taken one behind the other, those with the lesser f first -/
def Fill (l : List Nat) (b f a : Nat → Rat) : Prop := ∀ i ∈ l, ∀ j ∈ l, f i < f j → 0 < a j → a i = b i
/-- the greatest f of those of which some is taken -/
structure Top (l : List Nat) (f a : Nat → Rat) (t : Rat) : Prop where
  is : ∃ j ∈ l, 0 < a j ∧ f j = t
  le : ∀ j ∈ l, 0 < a j → f j ≤ t
theorem top_ex {f a : Nat → Rat} : ∀ {l : List Nat}, (∃ j ∈ l, 0 < a j) → ∃ t, Top l f a t
  | [], ⟨_, h, _⟩ => by cases h
  | x :: r, h => by
    by_cases hr : ∃ j ∈ r, 0 < a j
    · obtain ⟨t, ht⟩ := top_ex (f := f) hr
      obtain ⟨j, j1, j2, j3⟩ := ht.is
      by_cases hx : 0 < a x ∧ t < f x
      · refine ⟨f x, ⟨x, List.mem_cons_self, hx.1, rfl⟩, fun i hi ha => ?_⟩
        rcases List.mem_cons.mp hi with rfl | hi
        · exact Rat.le_refl
        · have := ht.le i hi ha
          have := hx.2
          grind
      · refine ⟨t, ⟨j, List.mem_cons_of_mem _ j1, j2, j3⟩, fun i hi ha => ?_⟩
        rcases List.mem_cons.mp hi with rfl | hi
        · have : ¬ t < f i := fun z => hx ⟨ha, z⟩
          grind
        · exact ht.le i hi ha
    · obtain ⟨j, j1, j2⟩ := h
      have : j = x := by
        rcases List.mem_cons.mp j1 with e | e
        · exact e
        · exact (hr ⟨j, e, j2⟩).elim
      subst this
      refine ⟨f j, ⟨j, List.mem_cons_self, j2, rfl⟩, fun i hi ha => ?_⟩
      rcases List.mem_cons.mp hi with rfl | hi
      · exact Rat.le_refl
      · exact (hr ⟨i, hi, ha⟩).elim
section
variable {l : List Nat} {b f a x : Nat → Rat} {B t : Rat}
theorem Top.term (T : Top l f a t) (A : Feas l b B a) (F : Fill l b f a) (X : Feas l b B x) : ∀ i ∈ l, 0 ≤ (f i - t) * (x i - a i) := by
  intro i hi
  obtain ⟨j, j1, j2, j3⟩ := T.is
  have a0 := A.lo i hi
  have x0 := X.lo i hi
  have x1 := X.hi i hi
  by_cases h1 : f i < t
  · have e := F i hi j j1 (by rw [j3]; exact h1) j2
    have := Rat.mul_nonneg (a := t - f i) (b := a i - x i) (by grind) (by grind)
    grind
  · by_cases h2 : t < f i
    · have : ¬ 0 < a i := fun z => by have := T.le i hi z; grind
      have e : a i = 0 := by grind
      have := Rat.mul_nonneg (a := f i - t) (b := x i) (by grind) (by grind)
      rw [show x i - a i = x i by grind]
      exact this
    · have e : f i = t := by grind
      rw [e]
      grind
theorem dot_diff (f x a : Nat → Rat) (t : Rat) (l : List Nat) : sumR l (fun i => (f i - t) * (x i - a i)) = sumR l (fun i => f i * x i) - sumR l (fun i => f i * a i) - t * (sumR l x - sumR l a) := by
  induction l with
  | nil => show (0 : Rat) = 0 - 0 - t * (0 - 0); grind
  | cons y r ih => show (f y - t) * (x y - a y) + _ = (f y * x y + _) - (f y * a y + _) - t * ((x y + _) - (a y + _)); rw [ih]; grind
theorem nothing (A : Feas l b B a) (h : ¬ ∃ j ∈ l, 0 < a j) : B = 0 ∧ ∀ x, Feas l b B x → ∀ i ∈ l, x i = 0 := by
  have e : sumR l a = 0 := by
    rw [sumR_congr (g := fun _ => 0) fun i hi => ?_, sumR_zero]
    have := A.lo i hi
    have : ¬ 0 < a i := fun z => h ⟨i, hi, z⟩
    grind
  have hB : B = 0 := A.sum.symm.trans e
  exact ⟨hB, fun x X => sumR_term X.lo (X.sum.trans hB)⟩
/-- what is filled so costs least -/
theorem Fill.least (A : Feas l b B a) (F : Fill l b f a) (X : Feas l b B x) : sumR l (fun i => f i * a i) ≤ sumR l (fun i => f i * x i) := by
  by_cases h : ∃ j ∈ l, 0 < a j
  · obtain ⟨t, T⟩ := top_ex (f := f) h
    have := sumR_nonneg (T.term A F X)
    rw [dot_diff, A.sum, X.sum] at this
    grind
  · have e := (nothing A h).2
    rw [sumR_congr (l := l) (f := fun i => f i * a i) (g := fun i => f i * x i) fun i hi => by rw [e a A i hi, e x X i hi]]
    exact Rat.le_refl
theorem Fill.both {a' : Nat → Rat} (A : Feas l b B a) (F : Fill l b f a) (A' : Feas l b B a') (F' : Fill l b f a') : sumR l (fun i => f i * a i) = sumR l (fun i => f i * a' i) :=
  Rat.le_antisymm (F.least A A') (F'.least A' A)
/-- what costs no more is so at each place -/
theorem Top.slack (T : Top l f a t) (A : Feas l b B a) (F : Fill l b f a) (X : Feas l b B x) (h : sumR l (fun i => f i * x i) = sumR l (fun i => f i * a i)) : ∀ i ∈ l, (f i < t → x i = b i) ∧ (t < f i → x i = 0) := by
  have e := sumR_term (T.term A F X) (by rw [dot_diff, h, A.sum, X.sum]; grind)
  intro i hi
  obtain ⟨j, j1, j2, j3⟩ := T.is
  have ei := e i hi
  have a0 := A.lo i hi
  refine ⟨fun h1 => ?_, fun h1 => ?_⟩
  · have e1 := F i hi j j1 (by rw [j3]; exact h1) j2
    rcases Rat.mul_eq_zero.mp ei with z | z <;> grind
  · have : ¬ 0 < a i := fun z => by have := T.le i hi z; grind
    rcases Rat.mul_eq_zero.mp ei with z | z <;> grind
end
/-- of like f those with the lesser g first -/
def FillL (l : List Nat) (b f g a : Nat → Rat) : Prop := ∀ i ∈ l, ∀ j ∈ l, (f i < f j ∨ f i = f j ∧ g i < g j) → 0 < a j → a i = b i
theorem FillL.fill {l : List Nat} {b f g a : Nat → Rat} (h : FillL l b f g a) : Fill l b f a := fun i hi j hj q => h i hi j hj (.inl q)
section
/-! prices of pure, and where two casks are as good -/
variable {l : List Nat} {b pr sg : Nat → Rat} {B : Rat}
def fp (pr sg : Nat → Rat) (p : Rat) (i : Nat) : Rat := pr i - p * sg i
/-- p is a price at which two unlike ones are as good -/
def Crossed (l : List Nat) (pr sg : Nat → Rat) (c : Rat) : Prop := ∃ i ∈ l, ∃ j ∈ l, sg i < sg j ∧ pr j - pr i = c * (sg j - sg i)
theorem cross_of {i j : Nat} (hi : i ∈ l) (hj : j ∈ l) (h : sg i < sg j) : ∃ c, Crossed l pr sg c ∧ pr j - pr i = c * (sg j - sg i) := by
  have : (sg j - sg i) ≠ 0 := by grind
  refine ⟨(pr j - pr i) / (sg j - sg i), ?_⟩
  have e : pr j - pr i = (pr j - pr i) / (sg j - sg i) * (sg j - sg i) := (Rat.div_mul_cancel this).symm
  exact ⟨⟨i, hi, j, hj, h, e⟩, e⟩
/-- below p nothing is crossed: the weak ones first at p are so for all -/
theorem weak_first {p : Rat} (h : ∀ c, Crossed l pr sg c → p ≤ c) {a : Nat → Rat} (F : FillL l b (fp pr sg p) sg a) : Fill l b sg a := by
  intro i hi j hj q
  obtain ⟨c, hc, e⟩ := cross_of (pr := pr) hi hj q
  have := h c hc
  have m := Rat.mul_nonneg (a := c - p) (b := sg j - sg i) (by grind) (by grind)
  refine F i hi j hj ?_
  unfold fp
  by_cases z : pr i - p * sg i < pr j - p * sg j
  · exact .inl z
  · exact .inr ⟨by grind, q⟩
theorem strong_first {p : Rat} (h : ∀ c, Crossed l pr sg c → c ≤ p) {a : Nat → Rat} (F : FillL l b (fp pr sg p) (fun i => - sg i) a) : Fill l b (fun i => - sg i) a := by
  intro i hi j hj q
  have q' : sg j < sg i := by grind
  obtain ⟨c, hc, e⟩ := cross_of (pr := pr) hj hi q'
  have := h c hc
  have m := Rat.mul_nonneg (a := p - c) (b := sg i - sg j) (by grind) (by grind)
  refine F i hi j hj ?_
  unfold fp
  by_cases z : pr i - p * sg i < pr j - p * sg j
  · exact .inl z
  · exact .inr ⟨by grind, q⟩
/-- between two prices with nothing crossed between -/
theorem strong_next {p p' q : Rat} (h : ∀ c, Crossed l pr sg c → c ≤ p ∨ p' ≤ c) (h1 : p < q) (h2 : q < p') {a : Nat → Rat} (F : FillL l b (fp pr sg p) (fun i => - sg i) a) : Fill l b (fp pr sg q) a := by
  intro i hi j hj z
  refine F i hi j hj ?_
  unfold fp at z ⊢
  by_cases e : sg i = sg j
  · rw [e] at z ⊢; exact .inl (by grind)
  · by_cases g : sg i < sg j
    · have := Rat.mul_pos (a := q - p) (b := sg j - sg i) (by grind) (by grind)
      exact .inl (by grind)
    · have g : sg j < sg i := by grind
      obtain ⟨c, hc, ec⟩ := cross_of (pr := pr) hj hi g
      have cq : c < q := by
        refine Rat.not_le.mp fun w => ?_
        have := Rat.mul_nonneg (a := c - q) (b := sg i - sg j) (by grind) (by grind)
        grind
      have cp : c ≤ p := (h c hc).elim id fun w => by grind
      have := Rat.mul_nonneg (a := p - c) (b := sg i - sg j) (by grind) (by grind)
      by_cases y : pr i - p * sg i < pr j - p * sg j
      · exact .inl y
      · exact .inr ⟨by grind, by grind⟩
theorem weak_next {p p' q : Rat} (h : ∀ c, Crossed l pr sg c → c ≤ p ∨ p' ≤ c) (h1 : p < q) (h2 : q < p') {a : Nat → Rat} (F : FillL l b (fp pr sg p') sg a) : Fill l b (fp pr sg q) a := by
  intro i hi j hj z
  refine F i hi j hj ?_
  unfold fp at z ⊢
  by_cases e : sg i = sg j
  · rw [e] at z ⊢; exact .inl (by grind)
  · by_cases g : sg i < sg j
    · obtain ⟨c, hc, ec⟩ := cross_of (pr := pr) hi hj g
      have cq : q < c := by
        refine Rat.not_le.mp fun w => ?_
        have := Rat.mul_nonneg (a := q - c) (b := sg j - sg i) (by grind) (by grind)
        grind
      have cp : p' ≤ c := (h c hc).elim (fun w => by grind) id
      have := Rat.mul_nonneg (a := c - p') (b := sg j - sg i) (by grind) (by grind)
      by_cases y : pr i - p' * sg i < pr j - p' * sg j
      · exact .inl y
      · exact .inr ⟨by grind, by grind⟩
    · have := Rat.mul_pos (a := p' - q) (b := sg i - sg j) (by grind) (by grind)
      exact .inl (by grind)
theorem dot_fp (p : Rat) (a : Nat → Rat) (l : List Nat) : sumR l (fun i => fp pr sg p i * a i) = sumR l (fun i => pr i * a i) - p * sumR l (fun i => sg i * a i) := by
  induction l with
  | nil => show (0 : Rat) = 0 - p * 0; grind
  | cons y r ih => show fp pr sg p y * a y + _ = (pr y * a y + _) - p * (sg y * a y + _); rw [ih]; unfold fp; grind
/-- the strongest at one price have the pure of the weakest at the next -/
theorem pure_next {p p' : Rat} (h : ∀ c, Crossed l pr sg c → c ≤ p ∨ p' ≤ c) (hp : p < p') {a a' : Nat → Rat} (A : Feas l b B a) (A' : Feas l b B a') (F : FillL l b (fp pr sg p) (fun i => - sg i) a) (F' : FillL l b (fp pr sg p') sg a') :
    sumR l (fun i => sg i * a i) = sumR l (fun i => sg i * a' i) := by
  have m : ∀ q, p < q → q < p' → sumR l (fun i => pr i * a i) - q * sumR l (fun i => sg i * a i) = sumR l (fun i => pr i * a' i) - q * sumR l (fun i => sg i * a' i) := fun q h1 h2 => by
    rw [← dot_fp, ← dot_fp]
    exact Fill.both A (strong_next h h1 h2 F) A' (weak_next h h1 h2 F')
  have m1 := m ((p + p') / 2) (by grind) (by grind)
  have m2 := m ((p + p' + p') / 3) (by grind) (by grind)
  generalize sumR l (fun i => sg i * a i) = u at *
  generalize sumR l (fun i => sg i * a' i) = v at *
  generalize sumR l (fun i => pr i * a i) = y at *
  generalize sumR l (fun i => pr i * a' i) = z at *
  have e : (p' - p) * (u - v) = 0 := by grind
  rcases Rat.mul_eq_zero.mp e with w | w <;> grind
/-- one of the prices holds the wish -/
theorem some_price {W S : Rat → Nat → Rat} {P : Rat} (lo hi : Rat) (hP : lo ≤ P ∧ P ≤ hi) (hlo : ∀ a, Feas l b B a → Fill l b sg a → sumR l (fun i => sg i * a i) = lo) (hhi : ∀ a, Feas l b B a → Fill l b (fun i => - sg i) a → sumR l (fun i => sg i * a i) = hi) :
    ∀ (ps : List Rat) (p0 : Option Rat), ps ≠ [] → (p0.toList ++ ps).Pairwise (· < ·) → (∀ c, Crossed l pr sg c → c ∈ ps ∨ ∃ q ∈ p0, c ≤ q) → (∀ p ∈ p0.toList ++ ps, Feas l b B (W p) ∧ FillL l b (fp pr sg p) sg (W p) ∧ Feas l b B (S p) ∧ FillL l b (fp pr sg p) (fun i => - sg i) (S p)) →
      (∀ q ∈ p0, sumR l (fun i => sg i * S q i) ≤ P) → ∃ p ∈ ps, sumR l (fun i => sg i * W p i) ≤ P ∧ P ≤ sumR l (fun i => sg i * S p i)
  | [], _, h, _, _, _, _ => (h rfl).elim
  | p :: r, p0, _, hs, hc, hf, h0 => by
    obtain ⟨w1, w2, s1, s2⟩ := hf p (List.mem_append_right _ List.mem_cons_self)
    have pr' : (p :: r).Pairwise (· < ·) := (List.pairwise_append.mp hs).2.1
    have hpr := (List.pairwise_cons.mp pr').1
    have up : ∀ c, Crossed l pr sg c → p ≤ c ∨ ∃ q ∈ p0, c ≤ q := fun c q => by
      rcases hc c q with z | z
      · rcases List.mem_cons.mp z with rfl | z
        · exact .inl Rat.le_refl
        · exact .inl (by have := hpr c z; grind)
      · exact .inr z
    have hw : sumR l (fun i => sg i * W p i) ≤ P := by
      cases p0 with
      | none => rw [hlo _ w1 (weak_first (fun c q => (up c q).elim id fun ⟨_, z, _⟩ => by cases z) w2)]; exact hP.1
      | some q =>
        obtain ⟨_, _, t1, t2⟩ := hf q (List.mem_append_left _ List.mem_cons_self)
        have hqp : q < p := (List.pairwise_append.mp hs).2.2 q List.mem_cons_self p List.mem_cons_self
        rw [← pure_next (fun c z => (up c z).elim .inr fun ⟨y, y1, y2⟩ => by cases y1; exact .inl y2) hqp t1 w1 t2 w2]
        exact h0 q rfl
    by_cases hS : P ≤ sumR l (fun i => sg i * S p i)
    · exact ⟨p, List.mem_cons_self, hw, hS⟩
    · cases r with
      | nil =>
        exfalso
        refine hS ?_
        have fs : Fill l b (fun i => - sg i) (S p) := by
          refine strong_first (fun c q => ?_) s2
          rcases hc c q with z | ⟨y, y1, y2⟩
          · rw [List.mem_singleton.mp z]; exact Rat.le_refl
          · have : y < p := (List.pairwise_append.mp hs).2.2 y (by cases y1; exact List.mem_cons_self) p List.mem_cons_self
            grind
        rw [hhi _ s1 fs]
        exact hP.2
      | cons p1 r1 =>
        have g1 : ∀ c, Crossed l pr sg c → c ∈ p1 :: r1 ∨ ∃ q ∈ (some p), c ≤ q := fun c z => by
          rcases hc c z with y | ⟨y, y1, y2⟩
          · rcases List.mem_cons.mp y with rfl | y
            · exact .inr ⟨c, rfl, Rat.le_refl⟩
            · exact .inl y
          · have : y < p := (List.pairwise_append.mp hs).2.2 y (by cases y1; exact List.mem_cons_self) p List.mem_cons_self
            exact .inr ⟨p, rfl, by grind⟩
        have g2 : ∀ q ∈ (some p).toList ++ p1 :: r1, Feas l b B (W q) ∧ FillL l b (fp pr sg q) sg (W q) ∧ Feas l b B (S q) ∧ FillL l b (fp pr sg q) (fun i => - sg i) (S q) := fun q hq => hf q (List.mem_append_right _ (by simpa using hq))
        have g3 : ∀ q ∈ some p, sumR l (fun i => sg i * S q i) ≤ P := fun q hq => by cases hq; grind
        obtain ⟨q, q1, q2⟩ := some_price (W := W) (S := S) lo hi hP hlo hhi (p1 :: r1) (some p) (by simp) pr' g1 g2 g3
        exact ⟨q, List.mem_cons_of_mem _ q1, q2⟩
end
/-! taken one behind the other -/
abbrev gz (l : List Int) (i : Nat) : Int := l.getD i 0
def tk (bs : List Int) : List Nat → Int → List Int → List Int
  | [], _, am => am
  | k :: o, l, am => tk bs o (l - min l (gz bs k)) (am.set k (min l (gz bs k)))
def taken (bs : List Int) (o : List Nat) (B : Int) : List Int := tk bs o B (List.replicate bs.length 0)
theorem tk_len (bs : List Int) : ∀ (o : List Nat) (l : Int) (am : List Int), (tk bs o l am).length = am.length
  | [], _, _ => rfl
  | k :: o, l, am => by rw [tk, tk_len bs o, List.length_set]
theorem gz_set {l : List Int} {i j : Nat} {x : Int} (h : i < l.length) : gz (l.set i x) j = if i = j then x else gz l j := by
  unfold gz
  rw [List.getD_eq_getElem?_getD, List.getD_eq_getElem?_getD, List.getElem?_set]
  by_cases e : i = j
  · subst e; simp [h]
  · simp [e]
theorem tk_other (bs : List Int) : ∀ (o : List Nat) (l : Int) (am : List Int) (j : Nat), (∀ k ∈ o, k < am.length) → j ∉ o → gz (tk bs o l am) j = gz am j
  | [], _, _, _, _, _ => rfl
  | k :: o, l, am, j, h, hj => by
    rw [tk, tk_other bs o _ _ j (fun i hi => by rw [List.length_set]; exact h i (List.mem_cons_of_mem _ hi)) (fun z => hj (List.mem_cons_of_mem _ z)), gz_set (h k List.mem_cons_self), if_neg (fun z : k = j => hj (by rw [← z]; exact List.mem_cons_self))]
def sumI : List Nat → (Nat → Int) → Int
  | [], _ => 0
  | i :: r, g => g i + sumI r g
theorem sumI_perm {l m : List Nat} (h : l.Perm m) (g : Nat → Int) : sumI l g = sumI m g := by
  induction h with
  | nil => rfl
  | cons x _ ih => show g x + _ = g x + _; rw [ih]
  | swap x y l => show g y + (g x + _) = g x + (g y + _); omega
  | trans _ _ h1 h2 => exact h1.trans h2
theorem sumI_congr {l : List Nat} {f g : Nat → Int} (h : ∀ i ∈ l, f i = g i) : sumI l f = sumI l g := by
  induction l with
  | nil => rfl
  | cons x r ih => show f x + _ = g x + _; rw [h x List.mem_cons_self, ih fun i hi => h i (List.mem_cons_of_mem _ hi)]
theorem sumI_nn {l : List Nat} {f : Nat → Int} (h : ∀ i ∈ l, 0 ≤ f i) : 0 ≤ sumI l f := by
  induction l with
  | nil => exact Int.le_refl 0
  | cons x r ih => have := h x List.mem_cons_self; have := ih fun i hi => h i (List.mem_cons_of_mem _ hi); show 0 ≤ f x + _; omega
theorem sumI_ge {l : List Nat} {f : Nat → Int} (h : ∀ i ∈ l, 0 ≤ f i) {i : Nat} (hi : i ∈ l) : f i ≤ sumI l f := by
  induction l with
  | nil => cases hi
  | cons x r ih =>
    have h1 := h x List.mem_cons_self
    have h2 := sumI_nn fun i hi => h i (List.mem_cons_of_mem _ hi)
    show f i ≤ f x + _
    rcases List.mem_cons.mp hi with rfl | hi
    · omega
    · have := ih (fun i hi => h i (List.mem_cons_of_mem _ hi)) hi; omega
theorem tk_ok {bs : List Int} (hb : ∀ k, 0 ≤ gz bs k) : ∀ (o : List Nat) (l : Int) (am : List Int), o.Nodup → (∀ k ∈ o, k < am.length) → 0 ≤ l →
    (∀ k ∈ o, 0 ≤ gz (tk bs o l am) k ∧ gz (tk bs o l am) k ≤ gz bs k) ∧ sumI o (gz (tk bs o l am)) = min l (sumI o (gz bs)) ∧ o.Pairwise (fun p q => 0 < gz (tk bs o l am) q → gz (tk bs o l am) p = gz bs p)
  | [], l, _, _, _, hl => ⟨fun _ h => (nomatch h), by show (0 : Int) = min l 0; omega, List.Pairwise.nil⟩
  | k :: o, l, am, nd, h, hl => by
    obtain ⟨n1, n2⟩ := List.nodup_cons.mp nd
    have hk := h k List.mem_cons_self
    have b0 := hb k
    have h' : ∀ i ∈ o, i < (am.set k (min l (gz bs k))).length := fun i hi => by rw [List.length_set]; exact h i (List.mem_cons_of_mem _ hi)
    obtain ⟨i1, i2, i3⟩ := tk_ok hb o (l - min l (gz bs k)) (am.set k (min l (gz bs k))) n2 h' (by omega)
    have ek : gz (tk bs (k :: o) l am) k = min l (gz bs k) := by rw [tk, tk_other bs o _ _ k h' n1, gz_set hk, if_pos rfl]
    have so : 0 ≤ sumI o (gz bs) := sumI_nn fun i _ => hb i
    refine ⟨fun i hi => ?_, ?_, List.pairwise_cons.mpr ⟨fun q hq hp => ?_, i3⟩⟩
    · rcases List.mem_cons.mp hi with rfl | hi
      · rw [ek]; omega
      · exact i1 i hi
    · show gz (tk bs (k :: o) l am) k + sumI o (gz (tk bs (k :: o) l am)) = min l (gz bs k + sumI o (gz bs))
      rw [ek]
      have : sumI o (gz (tk bs (k :: o) l am)) = min (l - min l (gz bs k)) (sumI o (gz bs)) := i2
      rw [this]
      omega
    · rw [ek]
      have := sumI_ge (f := gz (tk bs o (l - min l (gz bs k)) (am.set k (min l (gz bs k))))) (fun i hi => (i1 i hi).1) hq
      have hp : 0 < gz (tk bs o (l - min l (gz bs k)) (am.set k (min l (gz bs k)))) q := hp
      omega
theorem pw_two {R : Nat → Nat → Prop} : ∀ {o : List Nat}, o.Pairwise R → ∀ {i j : Nat}, i ∈ o → j ∈ o → i ≠ j → R i j ∨ R j i
  | [], _, _, _, h, _, _ => nomatch h
  | x :: r, h, i, j, hi, hj, ne => by
    obtain ⟨h1, h2⟩ := List.pairwise_cons.mp h
    rcases List.mem_cons.mp hi with rfl | hi'
    · rcases List.mem_cons.mp hj with rfl | hj'
      · exact (ne rfl).elim
      · exact .inl (h1 j hj')
    · rcases List.mem_cons.mp hj with rfl | hj'
      · exact .inr (h1 i hi')
      · exact pw_two h2 hi' hj' ne
/-- the order by f, of like f by g -/
def ordKK (f g : Nat → Int) (n : Nat) : List Nat := (List.range n).mergeSort fun p q => decide (f p < f q ∨ (f p = f q ∧ g p ≤ g q))
theorem ord_perm (f g : Nat → Int) (n : Nat) : (ordKK f g n).Perm (List.range n) := List.mergeSort_perm _ _
theorem ord_pw (f g : Nat → Int) (n : Nat) : (ordKK f g n).Pairwise fun p q => f p < f q ∨ (f p = f q ∧ g p ≤ g q) := by
  have := List.pairwise_mergeSort (le := fun p q => decide (f p < f q ∨ (f p = f q ∧ g p ≤ g q))) (fun a b c h1 h2 => by
    rw [decide_eq_true_eq] at *
    omega) (fun a b => by
    rw [Bool.or_eq_true, decide_eq_true_eq, decide_eq_true_eq]
    omega) (List.range n)
  exact this.imp fun h => of_decide_eq_true h
structure Taken (bs : List Int) (f g : Nat → Int) (B : Int) (a : List Int) : Prop where
  len : a.length = bs.length
  lo : ∀ i, i < bs.length → 0 ≤ gz a i
  hi : ∀ i, i < bs.length → gz a i ≤ gz bs i
  sum : sumI (List.range bs.length) (gz a) = B
  fill : ∀ i, i < bs.length → ∀ j, j < bs.length → (f i < f j ∨ (f i = f j ∧ g i < g j)) → 0 < gz a j → gz a i = gz bs i
theorem taken_ok {bs : List Int} {f g : Nat → Int} {B : Int} {o : List Nat} (hb : ∀ k, 0 ≤ gz bs k) (h0 : 0 ≤ B) (h1 : B ≤ sumI (List.range bs.length) (gz bs)) (hp : o.Perm (List.range bs.length)) (hw : o.Pairwise fun p q => f p < f q ∨ (f p = f q ∧ g p ≤ g q)) :
    Taken bs f g B (taken bs o B) := by
  have nd : o.Nodup := hp.nodup_iff.mpr List.nodup_range
  have mem : ∀ i, i < bs.length → i ∈ o := fun i hi => hp.mem_iff.mpr (List.mem_range.mpr hi)
  have hl : ∀ k ∈ o, k < (List.replicate bs.length (0 : Int)).length := fun k hk => by rw [List.length_replicate]; exact List.mem_range.mp (hp.mem_iff.mp hk)
  obtain ⟨k1, k2, k3⟩ := tk_ok hb o B _ nd hl h0
  refine ⟨by unfold taken; rw [tk_len, List.length_replicate], fun i hi => (k1 i (mem i hi)).1, fun i hi => (k1 i (mem i hi)).2, ?_, fun i hi j hj q hpos => ?_⟩
  · rw [← sumI_perm hp]
    refine k2.trans ?_
    rw [sumI_perm hp]
    omega
  · have ne : i ≠ j := fun z => by subst z; omega
    rcases pw_two (k3.and hw) (mem i hi) (mem j hj) ne with z | z
    · exact z.1 hpos
    · omega
/-! casks -/
abbrev Ck := Int × Int × Int
def ckAt (cs : List Ck) (i : Nat) : Ck := cs.getD i (0, 1, 0)
def bks (cs : List Ck) : List Int := cs.map (·.2.1)
def sgm (c : Ck) : Rat := (c.2.2 : Rat) / (c.2.1 : Rat)
def sgF (cs : List Ck) (i : Nat) : Rat := sgm (ckAt cs i)
def bF (cs : List Ck) (i : Nat) : Rat := ((gz (bks cs) i : Int) : Rat)
def wh (cs : List Ck) : Int := cs.foldl (fun w c => w * c.2.1) 1
def stg (cs : List Ck) : List Int := cs.map fun c => c.2.2 * (wh cs / c.2.1)
structure CkOk (c : Ck) : Prop where
  p0 : 0 ≤ c.1
  p1 : c.1 < 2 ^ 620
  b0 : 1 ≤ c.2.1
  b1 : c.2.1 < 2 ^ 124
  u0 : 0 ≤ c.2.2
  u1 : c.2.2 < 2 ^ 138
theorem wh_snoc (cs : List Ck) (c : Ck) : wh (cs ++ [c]) = wh cs * c.2.1 := by
  unfold wh
  rw [List.foldl_append]
  rfl
theorem wh_fold (cs : List Ck) : ∀ w : Int, cs.foldl (fun w c => w * c.2.1) w = w * wh cs := by
  unfold wh
  induction cs with
  | nil => intro w; show w = w * 1; omega
  | cons c r ih => intro w; rw [List.foldl_cons, List.foldl_cons, ih, ih (1 * c.2.1), Int.one_mul, Int.mul_assoc]
theorem wh_cons (c : Ck) (cs : List Ck) : wh (c :: cs) = c.2.1 * wh cs := by
  show (c :: cs).foldl (fun w c => w * c.2.1) 1 = _
  rw [List.foldl_cons, wh_fold, Int.one_mul]
theorem wh_dvd : ∀ {cs : List Ck} {c : Ck}, c ∈ cs → c.2.1 ∣ wh cs
  | x :: r, c, h => by
    rw [wh_cons]
    rcases List.mem_cons.mp h with rfl | h
    · exact Int.dvd_mul_right _ _
    · exact Int.dvd_mul_of_dvd_right (wh_dvd h)
theorem wh_pos : ∀ {cs : List Ck}, (∀ c ∈ cs, CkOk c) → 0 < wh cs
  | [], _ => by decide
  | x :: r, h => by
    rw [wh_cons]
    exact Int.mul_pos (by have := (h x List.mem_cons_self).b0; omega) (wh_pos fun c hc => h c (List.mem_cons_of_mem _ hc))
theorem wh_lt : ∀ {cs : List Ck}, (∀ c ∈ cs, CkOk c) → (wh cs).natAbs < 2 ^ (124 * cs.length + 1)
  | [], _ => by decide
  | x :: r, h => by
    rw [wh_cons, Int.natAbs_mul]
    have hx := h x List.mem_cons_self
    have h1 : x.2.1.natAbs < 2 ^ 124 := by have := hx.b0; have := hx.b1; omega
    have h2 := wh_lt fun c hc => h c (List.mem_cons_of_mem _ hc)
    have : 124 * (x :: r).length + 1 = 124 + (124 * r.length + 1) := by rw [List.length_cons]; omega
    rw [this, Nat.pow_add]
    exact Nat.mul_lt_mul'' h1 h2
theorem wh_lt8 {cs : List Ck} (h : ∀ c ∈ cs, CkOk c) (hl : cs.length ≤ 8) : (wh cs).natAbs < 2 ^ 993 :=
  Nat.lt_of_lt_of_le (wh_lt h) (Nat.pow_le_pow_right (by decide) (by omega))
theorem ckAt_mem {cs : List Ck} {i : Nat} (h : i < cs.length) : ckAt cs i ∈ cs := by
  unfold ckAt
  rw [List.getD_eq_getElem?_getD, List.getElem?_eq_getElem h]
  exact List.getElem_mem h
theorem gz_map {cs : List Ck} (g : Ck → Int) {i : Nat} (h : i < cs.length) : gz (cs.map g) i = g (ckAt cs i) := by
  unfold gz ckAt
  rw [List.getD_eq_getElem?_getD, List.getD_eq_getElem?_getD, List.getElem?_map, List.getElem?_eq_getElem h]
  rfl
theorem sgm_mul {c : Ck} (h : c.2.1 ≠ 0) : sgm c * (c.2.1 : Rat) = (c.2.2 : Rat) := by
  unfold sgm
  refine Rat.div_mul_cancel ?_
  exact_mod_cast h
theorem stg_at {cs : List Ck} (hc : ∀ c ∈ cs, CkOk c) {i : Nat} (h : i < cs.length) : ((gz (stg cs) i : Int) : Rat) = (wh cs : Rat) * sgF cs i := by
  have hm := ckAt_mem h
  have hb : (ckAt cs i).2.1 ≠ 0 := by have := (hc _ hm).b0; omega
  unfold stg sgF
  rw [gz_map _ h]
  obtain ⟨k, hk⟩ := wh_dvd hm
  rw [hk, Int.mul_ediv_cancel_left _ hb, Rat.intCast_mul, Rat.intCast_mul, ← sgm_mul hb]
  grind
theorem sgm_nn {c : Ck} (h : CkOk c) : 0 ≤ sgm c := by
  unfold sgm
  have h1 : (0 : Rat) < (c.2.1 : Rat) := by have := h.b0; exact_mod_cast (by omega : (0 : Int) < c.2.1)
  have h2 : (0 : Rat) ≤ (c.2.2 : Rat) := by exact_mod_cast h.u0
  rw [Rat.div_def]
  exact Rat.mul_nonneg h2 (Rat.le_of_lt (Rat.inv_pos.mpr h1))
/-- the pure of amounts -/
def pur (cs : List Ck) (a : List Int) : Rat := sumR (List.range cs.length) fun i => sgF cs i * ((gz a i : Int) : Rat)
def pin (am ss : List Int) : Int := ((am.zip ss).map fun z => z.1 * z.2).sum
theorem sumR_succ (l : List Nat) (g : Nat → Rat) : sumR (l.map (· + 1)) g = sumR l (fun i => g (i + 1)) := by
  induction l with
  | nil => rfl
  | cons x r ih => show g (x + 1) + _ = _; rw [ih]; rfl
theorem sumR_range (n : Nat) (g : Nat → Rat) : sumR (List.range (n + 1)) g = g 0 + sumR (List.range n) fun i => g (i + 1) := by
  rw [List.range_succ_eq_map]
  show g 0 + _ = _
  rw [sumR_succ]
theorem pin_sum : ∀ (am ss : List Int), am.length = ss.length → ((pin am ss : Int) : Rat) = sumR (List.range am.length) fun i => ((gz am i : Int) : Rat) * ((gz ss i : Int) : Rat)
  | [], [], _ => rfl
  | x :: r, y :: t, h => by
    have ih := pin_sum r t (by simpa using h)
    rw [List.length_cons, sumR_range]
    show ((x * y + pin r t : Int) : Rat) = (x : Rat) * (y : Rat) + _
    rw [Rat.intCast_add, Rat.intCast_mul, ih]
    rfl
  | [], _ :: _, h => by simp at h
  | _ :: _, [], h => by simp at h
theorem stg_len (cs : List Ck) : (stg cs).length = cs.length := List.length_map _
theorem bks_len (cs : List Ck) : (bks cs).length = cs.length := List.length_map _
theorem pin_pur {cs : List Ck} (hc : ∀ c ∈ cs, CkOk c) {a : List Int} (ha : a.length = cs.length) : ((pin a (stg cs) : Int) : Rat) = (wh cs : Rat) * pur cs a := by
  rw [pin_sum _ _ (by rw [stg_len]; exact ha), ha]
  unfold pur
  rw [← sumR_mul]
  refine sumR_congr fun i hi => ?_
  rw [stg_at hc (List.mem_range.mp hi)]
  grind
theorem pur_quot {cs : List Ck} (hc : ∀ c ∈ cs, CkOk c) {a : List Int} (ha : a.length = cs.length) : ((pin a (stg cs) : Int) : Rat) / (wh cs : Rat) = pur cs a := by
  rw [pin_pur hc ha, Rat.mul_comm]
  refine Rat.mul_div_cancel ?_
  have := wh_pos hc
  intro z
  have : wh cs = 0 := by exact_mod_cast z
  omega
theorem sumI_R (l : List Nat) (g : Nat → Int) : ((sumI l g : Int) : Rat) = sumR l fun i => ((g i : Int) : Rat) := by
  induction l with
  | nil => rfl
  | cons x r ih => show ((g x + sumI r g : Int) : Rat) = _; rw [Rat.intCast_add, ih]; rfl
theorem Taken.feas {cs : List Ck} {f g : Nat → Int} {B : Int} {a : List Int} (T : Taken (bks cs) f g B a) : Feas (List.range cs.length) (bF cs) (B : Rat) fun i => ((gz a i : Int) : Rat) := by
  refine ⟨fun i hi => ?_, fun i hi => ?_, ?_⟩
  · have := T.lo i (by rw [bks_len]; exact List.mem_range.mp hi)
    exact_mod_cast this
  · have := T.hi i (by rw [bks_len]; exact List.mem_range.mp hi)
    unfold bF
    exact_mod_cast this
  · have := T.sum
    rw [bks_len] at this
    rw [← sumI_R, this]
theorem Taken.fillL {cs : List Ck} {f g : Nat → Int} {F G : Nat → Rat} {B : Int} {a : List Int} (T : Taken (bks cs) f g B a) (h1 : ∀ i, i < cs.length → ∀ j, j < cs.length → F i < F j → f i < f j) (h2 : ∀ i, i < cs.length → ∀ j, j < cs.length → F i = F j → f i = f j)
    (h3 : ∀ i, i < cs.length → ∀ j, j < cs.length → G i < G j → g i < g j) : FillL (List.range cs.length) (bF cs) F G fun i => ((gz a i : Int) : Rat) := by
  intro i hi j hj q hp
  have hi := List.mem_range.mp hi
  have hj := List.mem_range.mp hj
  have hp : (0 : Rat) < ((gz a j : Int) : Rat) := hp
  have hp' : 0 < gz a j := by exact_mod_cast hp
  have := T.fill i (by rw [bks_len]; exact hi) j (by rw [bks_len]; exact hj) (q.elim (fun z => .inl (h1 i hi j hj z)) fun z => .inr ⟨h2 i hi j hj z.1, h3 i hi j hj z.2⟩) hp'
  show ((gz a i : Int) : Rat) = bF cs i
  unfold bF
  rw [this]
theorem sg_lt {cs : List Ck} (hc : ∀ c ∈ cs, CkOk c) {i j : Nat} (hi : i < cs.length) (hj : j < cs.length) : sgF cs i < sgF cs j ↔ gz (stg cs) i < gz (stg cs) j := by
  have w : (0 : Rat) < (wh cs : Rat) := by exact_mod_cast wh_pos hc
  have e1 := stg_at hc hi
  have e2 := stg_at hc hj
  constructor
  · intro h
    have := Rat.mul_lt_mul_of_pos_left h w
    rw [← e1, ← e2] at this
    exact_mod_cast this
  · intro h
    have h' : ((gz (stg cs) i : Int) : Rat) < ((gz (stg cs) j : Int) : Rat) := by exact_mod_cast h
    rw [e1, e2] at h'
    exact Rat.lt_of_mul_lt_mul_left h' (Rat.le_of_lt w)
/-! poured out of casks in a row -/
def pt : List Ck → Int → Rat
  | [], _ => 0
  | c :: r, l => ((min l c.2.1 : Int) : Rat) * sgm c + pt r (l - min l c.2.1)
theorem gz_bks {cs : List Ck} {i : Nat} (h : i < cs.length) : gz (bks cs) i = (ckAt cs i).2.1 := gz_map _ h
theorem pt_tk {cs : List Ck} : ∀ (o : List Nat) (l : Int) (am : List Int), o.Nodup → (∀ k ∈ o, k < cs.length) → am.length = cs.length → pt (o.map (ckAt cs)) l = sumR o fun i => sgF cs i * ((gz (tk (bks cs) o l am) i : Int) : Rat)
  | [], _, _, _, _, _ => rfl
  | k :: o, l, am, nd, h, ha => by
    obtain ⟨n1, n2⟩ := List.nodup_cons.mp nd
    have hk := h k List.mem_cons_self
    have h' : ∀ i ∈ o, i < (am.set k (min l (gz (bks cs) k))).length := fun i hi => by rw [List.length_set, ha]; exact h i (List.mem_cons_of_mem _ hi)
    have ek : gz (tk (bks cs) (k :: o) l am) k = min l (gz (bks cs) k) := by rw [tk, tk_other _ o _ _ k h' n1, gz_set (by omega), if_pos rfl]
    have ih := pt_tk (cs := cs) o (l - min l (gz (bks cs) k)) (am.set k (min l (gz (bks cs) k))) n2 (fun i hi => h i (List.mem_cons_of_mem _ hi)) (by rw [List.length_set]; exact ha)
    show ((min l (ckAt cs k).2.1 : Int) : Rat) * sgm (ckAt cs k) + pt (o.map (ckAt cs)) (l - min l (ckAt cs k).2.1) = sgF cs k * ((gz (tk (bks cs) (k :: o) l am) k : Int) : Rat) + _
    rw [ek, ← gz_bks hk, ih, Rat.mul_comm]
    rfl
theorem perm_idx {α β : Type} (f : α → β) {L M : List β} (h : L.Perm M) : ∀ {l : List α}, M = l.map f → ∃ o : List α, o.Perm l ∧ L = o.map f := by
  induction h with
  | nil => intro l e; exact ⟨l, List.Perm.refl _, e⟩
  | cons x _ ih =>
    intro l e
    cases l with
    | nil => cases e
    | cons y r =>
      rw [List.map_cons] at e
      obtain ⟨e1, e2⟩ := List.cons.inj e
      obtain ⟨o, h1, h2⟩ := ih e2
      exact ⟨y :: o, List.Perm.cons _ h1, by rw [List.map_cons, e1, h2]⟩
  | swap x y t =>
    intro l e
    match l, e with
    | a :: b :: r, e =>
      rw [List.map_cons, List.map_cons] at e
      obtain ⟨e1, e2⟩ := List.cons.inj e
      obtain ⟨e3, e4⟩ := List.cons.inj e2
      exact ⟨b :: a :: r, List.Perm.swap _ _ _, by rw [List.map_cons, List.map_cons, e1, e3, e4]⟩
    | [_], e => cases e
    | [], e => cases e
  | trans _ _ h1 h2 =>
    intro l e
    obtain ⟨o, p1, p2⟩ := h2 e
    obtain ⟨o', p3, p4⟩ := h1 p2
    exact ⟨o', p3.trans p1, p4⟩
theorem ck_range (cs : List Ck) : cs = (List.range cs.length).map (ckAt cs) := by
  refine List.ext_getElem? fun i => ?_
  rw [List.getElem?_map]
  by_cases h : i < cs.length
  · rw [List.getElem?_range h, List.getElem?_eq_getElem h]
    show _ = some (ckAt cs i)
    unfold ckAt
    rw [List.getD_eq_getElem?_getD, List.getElem?_eq_getElem h]
    rfl
  · rw [List.getElem?_eq_none (by omega), List.getElem?_eq_none (by rw [List.length_range]; omega)]
    rfl
theorem bks_nn {cs : List Ck} (hc : ∀ c ∈ cs, CkOk c) (k : Nat) : 0 ≤ gz (bks cs) k := by
  by_cases h : k < cs.length
  · rw [gz_bks h]; have := (hc _ (ckAt_mem h)).b0; omega
  · unfold gz; rw [List.getD_eq_getElem?_getD, List.getElem?_eq_none (by rw [bks_len]; omega)]; exact Int.le_refl 0
/-- what is poured out of casks in any order -/
theorem pt_feas {cs L : List Ck} (hc : ∀ c ∈ cs, CkOk c) (hp : L.Perm cs) {B : Int} (h0 : 0 ≤ B) (h1 : B ≤ sumI (List.range cs.length) (gz (bks cs))) (f : Ck → Rat) (hw : L.Pairwise fun c d => ¬ f d < f c) :
    ∃ x, Feas (List.range cs.length) (bF cs) (B : Rat) x ∧ Fill (List.range cs.length) (bF cs) (fun i => f (ckAt cs i)) x ∧ pt L B = sumR (List.range cs.length) fun i => sgF cs i * x i := by
  obtain ⟨o, p, e⟩ := perm_idx (ckAt cs) hp (ck_range cs)
  subst e
  have nd : o.Nodup := p.nodup_iff.mpr List.nodup_range
  have hl : ∀ k ∈ o, k < cs.length := fun k hk => List.mem_range.mp (p.mem_iff.mp hk)
  have hr : (List.replicate cs.length (0 : Int)).length = cs.length := List.length_replicate
  obtain ⟨k1, k2, k3⟩ := tk_ok (bks_nn hc) o B (List.replicate cs.length 0) nd (fun k hk => by rw [hr]; exact hl k hk) h0
  have mem : ∀ i ∈ List.range cs.length, i ∈ o := fun i hi => p.mem_iff.mpr hi
  refine ⟨fun i => ((gz (tk (bks cs) o B (List.replicate cs.length 0)) i : Int) : Rat), ⟨fun i hi => ?_, fun i hi => ?_, ?_⟩, fun i hi j hj q hpos => ?_, ?_⟩
  · exact_mod_cast (k1 i (mem i hi)).1
  · unfold bF; exact_mod_cast (k1 i (mem i hi)).2
  · rw [← sumI_R, ← sumI_perm p, k2, sumI_perm p]
    have : min B (sumI (List.range cs.length) (gz (bks cs))) = B := by omega
    rw [this]
  · have ne : i ≠ j := fun z => by subst z; grind
    have hw' : o.Pairwise fun i j => ¬ f (ckAt cs j) < f (ckAt cs i) := List.pairwise_map.mp hw
    have hpos : (0 : Rat) < ((gz (tk (bks cs) o B (List.replicate cs.length 0)) j : Int) : Rat) := hpos
    have hpos' : 0 < gz (tk (bks cs) o B (List.replicate cs.length 0)) j := by exact_mod_cast hpos
    rcases pw_two (k3.and hw') (mem i hi) (mem j hj) ne with z | z
    · show ((_ : Int) : Rat) = bF cs i
      unfold bF
      rw [z.1 hpos']
    · exact (z.2 q).elim
  · rw [pt_tk o B _ nd hl hr, sumR_perm p]
/-! the ends of what pure there may be -/
def stO (cs : List Ck) : List Nat := ordKK (gz (stg cs)) (fun _ => 0) cs.length
def lowA (cs : List Ck) (B : Int) : List Int := taken (bks cs) (stO cs) B
def highA (cs : List Ck) (B : Int) : List Int := taken (bks cs) (stO cs).reverse B
def allB (cs : List Ck) : Int := (cs.map (·.2.1)).sum
theorem sumI_range : ∀ (l : List Int), sumI (List.range l.length) (gz l) = l.sum
  | [] => rfl
  | x :: r => by
    have hs : ∀ (l : List Nat) (g : Nat → Int), sumI (l.map (· + 1)) g = sumI l (fun i => g (i + 1)) := fun l g => by
      induction l with
      | nil => rfl
      | cons x r ih => show g (x + 1) + _ = _; rw [ih]; rfl
    rw [List.length_cons, List.range_succ_eq_map, List.sum_cons, ← sumI_range r]
    show x + sumI ((List.range r.length).map (· + 1)) (gz (x :: r)) = _
    rw [hs]
    rfl
theorem allB_sum (cs : List Ck) : sumI (List.range (bks cs).length) (gz (bks cs)) = allB cs := sumI_range _
theorem allB_sum' (cs : List Ck) : sumI (List.range cs.length) (gz (bks cs)) = allB cs := by rw [← bks_len]; exact allB_sum cs
section
variable {cs : List Ck} {B : Int}
theorem low_taken (hc : ∀ c ∈ cs, CkOk c) (h0 : 0 ≤ B) (h1 : B ≤ allB cs) : Taken (bks cs) (gz (stg cs)) (fun _ => 0) B (lowA cs B) := by
  refine taken_ok (bks_nn hc) h0 (by rw [allB_sum]; exact h1) (by rw [bks_len]; exact ord_perm _ _ _) (ord_pw _ _ _)
theorem high_taken (hc : ∀ c ∈ cs, CkOk c) (h0 : 0 ≤ B) (h1 : B ≤ allB cs) : Taken (bks cs) (fun i => - gz (stg cs) i) (fun _ => 0) B (highA cs B) := by
  refine taken_ok (bks_nn hc) h0 (by rw [allB_sum]; exact h1) ?_ ?_
  · rw [bks_len]; exact (List.reverse_perm _).trans (ord_perm _ _ _)
  · rw [List.pairwise_reverse]
    exact (ord_pw (gz (stg cs)) (fun _ => 0) cs.length).imp fun h => by omega
theorem sg_eq (hc : ∀ c ∈ cs, CkOk c) {i j : Nat} (hi : i < cs.length) (hj : j < cs.length) (h : sgF cs i = sgF cs j) : gz (stg cs) i = gz (stg cs) j := by
  have a : ¬ gz (stg cs) i < gz (stg cs) j := fun z => by have := (sg_lt hc hi hj).mpr z; grind
  have b : ¬ gz (stg cs) j < gz (stg cs) i := fun z => by have := (sg_lt hc hj hi).mpr z; grind
  omega
theorem low_fill (hc : ∀ c ∈ cs, CkOk c) (h0 : 0 ≤ B) (h1 : B ≤ allB cs) : Fill (List.range cs.length) (bF cs) (sgF cs) fun i => ((gz (lowA cs B) i : Int) : Rat) :=
  ((low_taken hc h0 h1).fillL (G := fun _ => 0) (fun i hi j hj q => (sg_lt hc hi hj).mp q) (fun i hi j hj q => sg_eq hc hi hj q) (fun i hi j hj q => by grind)).fill
theorem high_fill (hc : ∀ c ∈ cs, CkOk c) (h0 : 0 ≤ B) (h1 : B ≤ allB cs) : Fill (List.range cs.length) (bF cs) (fun i => - sgF cs i) fun i => ((gz (highA cs B) i : Int) : Rat) :=
  ((high_taken hc h0 h1).fillL (G := fun _ => 0) (fun i hi j hj q => by have := (sg_lt hc hj hi).mp (by grind); show - gz (stg cs) i < - gz (stg cs) j; omega) (fun i hi j hj q => by have := sg_eq hc hi hj (by grind); show - gz (stg cs) i = - gz (stg cs) j; omega) (fun i hi j hj q => by grind)).fill
theorem neg_dot (l : List Nat) (f x : Nat → Rat) : sumR l (fun i => - f i * x i) = - sumR l (fun i => f i * x i) := by
  induction l with
  | nil => show (0 : Rat) = - 0; grind
  | cons y r ih => show - f y * x y + _ = - (f y * x y + _); rw [ih]; grind
theorem least_le (hc : ∀ c ∈ cs, CkOk c) (h0 : 0 ≤ B) (h1 : B ≤ allB cs) {x : Nat → Rat} (X : Feas (List.range cs.length) (bF cs) (B : Rat) x) : pur cs (lowA cs B) ≤ sumR (List.range cs.length) fun i => sgF cs i * x i :=
  (low_fill hc h0 h1).least (low_taken hc h0 h1).feas X
theorem most_ge (hc : ∀ c ∈ cs, CkOk c) (h0 : 0 ≤ B) (h1 : B ≤ allB cs) {x : Nat → Rat} (X : Feas (List.range cs.length) (bF cs) (B : Rat) x) : sumR (List.range cs.length) (fun i => sgF cs i * x i) ≤ pur cs (highA cs B) := by
  have := (high_fill hc h0 h1).least (high_taken hc h0 h1).feas X
  rw [neg_dot, neg_dot] at this
  show _ ≤ sumR _ _
  grind
theorem least_same (hc : ∀ c ∈ cs, CkOk c) (h0 : 0 ≤ B) (h1 : B ≤ allB cs) {x : Nat → Rat} (X : Feas (List.range cs.length) (bF cs) (B : Rat) x) (F : Fill (List.range cs.length) (bF cs) (sgF cs) x) : sumR (List.range cs.length) (fun i => sgF cs i * x i) = pur cs (lowA cs B) :=
  Fill.both X F (low_taken hc h0 h1).feas (low_fill hc h0 h1)
theorem most_same (hc : ∀ c ∈ cs, CkOk c) (h0 : 0 ≤ B) (h1 : B ≤ allB cs) {x : Nat → Rat} (X : Feas (List.range cs.length) (bF cs) (B : Rat) x) (F : Fill (List.range cs.length) (bF cs) (fun i => - sgF cs i) x) : sumR (List.range cs.length) (fun i => sgF cs i * x i) = pur cs (highA cs B) := by
  have := Fill.both X F (high_taken hc h0 h1).feas (high_fill hc h0 h1)
  rw [neg_dot, neg_dot] at this
  show _ = sumR _ _
  grind
theorem pt_low {L : List Ck} (hc : ∀ c ∈ cs, CkOk c) (hp : L.Perm cs) (h0 : 0 ≤ B) (h1 : B ≤ allB cs) (hw : L.Pairwise fun c d => ¬ sgm d < sgm c) : pt L B = pur cs (lowA cs B) := by
  obtain ⟨x, X, F, e⟩ := pt_feas hc hp h0 (by rw [allB_sum']; exact h1) sgm hw
  rw [e]
  exact least_same hc h0 h1 X F
theorem pt_high {L : List Ck} (hc : ∀ c ∈ cs, CkOk c) (hp : L.Perm cs) (h0 : 0 ≤ B) (h1 : B ≤ allB cs) (hw : L.Pairwise fun c d => ¬ sgm c < sgm d) : pt L B = pur cs (highA cs B) := by
  obtain ⟨x, X, F, e⟩ := pt_feas hc hp h0 (by rw [allB_sum']; exact h1) (fun c => - sgm c) (hw.imp fun h => by grind)
  rw [e]
  exact most_same hc h0 h1 X F
theorem pt_between {L : List Ck} (hc : ∀ c ∈ cs, CkOk c) (hp : L.Perm cs) (h0 : 0 ≤ B) (h1 : B ≤ allB cs) : pur cs (lowA cs B) ≤ pt L B ∧ pt L B ≤ pur cs (highA cs B) := by
  obtain ⟨x, X, F, e⟩ := pt_feas hc hp h0 (by rw [allB_sum']; exact h1) (fun _ => 0) (List.pairwise_of_forall fun _ _ => by grind)
  rw [e]
  exact ⟨least_le hc h0 h1 X, most_ge hc h0 h1 X⟩
end
/-! as data -/
def qD (q : Rat) : D := .tuple [.int q.num, .int (q.den : Int)]
def ckD (c : Ck) : D := .tuple [.int c.1, .int c.2.1, .int c.2.2]
def natD (i : Nat) : D := .int (i : Nat)
def isL {α : Type} (f : α → D) (xs : List α) (d : D) : Prop := d = .list (xs.map f) ∨ d = .tuple (xs.map f)
structure CsOk (cs : List Ck) : Prop where
  ok : ∀ c ∈ cs, CkOk c
  len : cs.length ≤ 8
theorem sz {n : Nat} (h : n < 1000) : n < sizeLine := Nat.lt_of_lt_of_le h (by decide)
theorem map_get {α : Type} {f : α → D} {l : List α} {i : Nat} {d : D} (h : (l.map f)[i]? = some d) : ∃ a, l[i]? = some a ∧ d = f a := by
  rw [List.getElem?_map] at h
  cases q : l[i]? with
  | none => rw [q] at h; cases h
  | some a => rw [q] at h; exact ⟨a, rfl, (Option.some.inj h).symm⟩
theorem take_snoc {α : Type} {l : List α} {i : Nat} {x : α} (h : l[i]? = some x) : l.take (i + 1) = l.take i ++ [x] := by
  rw [List.take_add_one, h]; rfl
theorem ixN_natM {n k : Nat} (h : k < n) : L2.ixN n (k : Int) = some k := by
  unfold L2.ixN
  rw [if_pos (by omega), if_pos (by omega)]
  rfl
theorem at_map {α : Type} {f : α → D} {l : List α} {k : Nat} {x : α} (h : l[k]? = some x) : L2.atI (l.map f) (k : Int) = some (f x) := by
  have hk := (List.getElem?_eq_some_iff.mp h).1
  unfold L2.atI
  rw [List.length_map]
  rw [ixN_natM hk]
  show (l.map f)[k]? = _
  rw [List.getElem?_map, h]; rfl
theorem mul_na {a b : Int} {x y : Nat} (h1 : a.natAbs < 2 ^ x) (h2 : b.natAbs < 2 ^ y) : (a * b).natAbs < 2 ^ (x + y) := wide_lt h1 h2
theorem na_den (q : Rat) : ((q.den : Nat) : Int).natAbs = q.den := Int.natAbs_natCast _
/-- a cask as drawn, its bulk and pure at most so many times as great -/
structure CkG (B : Int) (c : Ck) : Prop where
  p0 : 0 ≤ c.1
  p1 : c.1 < 10 ^ 30 + B
  b0 : 1 ≤ c.2.1
  b1 : c.2.1 ≤ B * 10 ^ 30
  u0 : 0 ≤ c.2.2
  u1 : c.2.2 ≤ 10000 * c.2.1
theorem cks_ok {cs : List Ck} (hl : cs.length ≤ 100) : okS false (.list (cs.map ckD)) = true := by
  rw [okS, Bool.and_eq_true]
  refine ⟨okSs_of fun d hd => ?_, decide_eq_true (by rw [List.length_map]; exact Nat.le_of_lt (sz (by omega)))⟩
  obtain ⟨c, _, rfl⟩ := List.mem_map.mp hd
  rfl
theorem cks_sh {cs : List Ck} (hl : cs.length ≤ 100) : SeqAt.shaped (.list (cs.map ckD)) = true := by
  refine shaped_of (cks_ok hl) ?_
  have : PyData.depthAll (cs.map ckD) ≤ 2 := depth_of fun d hd => by
    obtain ⟨c, _, rfl⟩ := List.mem_map.mp hd
    show (PyData.tuple [.int _, .int _, .int _]).depth ≤ 2
    simp [PyData.depth, PyData.depthAll]
  rw [PyData.depth]
  omega
theorem ck_at {cs : List Ck} {t : Int} (h0 : 0 ≤ t) (h1 : t < cs.length) : ∃ c ∈ cs, L2.atI (cs.map ckD) t = some (ckD c) := by
  have hk : t.toNat < cs.length := by omega
  refine ⟨cs[t.toNat], List.getElem_mem hk, ?_⟩
  have := at_map (f := ckD) (List.getElem?_eq_getElem hk)
  rw [show ((t.toNat : Nat) : Int) = t by omega] at this
  exact this
theorem CkG.up {B B' : Int} {c : Ck} (h : CkG B c) (hB : B ≤ B') : CkG B' c :=
  ⟨h.p0, by have := h.p1; omega, h.b0, by have := h.b1; have : B * 10 ^ 30 ≤ B' * 10 ^ 30 := Int.mul_le_mul_of_nonneg_right hB (by decide); omega, h.u0, h.u1⟩
theorem CkG.ok {c : Ck} (h : CkG (5 ^ 8) c) : CkOk c := by
  have h1 := h.p0
  have h2 := h.p1
  have h3 := h.b0
  have h4 := h.b1
  have h5 := h.u0
  have h6 := h.u1
  exact ⟨h1, by omega, h3, by omega, h5, by omega⟩
/-- what is left behind them -/
def lft : List Ck → Int → Int
  | [], l => l
  | c :: r, l => lft r (l - min l c.2.1)
theorem pt_snoc : ∀ (L : List Ck) (c : Ck) (l : Int), pt (L ++ [c]) l = pt L l + ((min (lft L l) c.2.1 : Int) : Rat) * sgm c
  | [], c, l => by show _ * _ + (0 : Rat) = 0 + _; rw [Rat.add_zero, Rat.zero_add]; rfl
  | x :: r, c, l => by
    show _ * _ + pt (r ++ [c]) _ = (_ * _ + pt r _) + _
    rw [pt_snoc r c, Rat.add_assoc]
    rfl
theorem lft_snoc : ∀ (L : List Ck) (c : Ck) (l : Int), lft (L ++ [c]) l = lft L l - min (lft L l) c.2.1
  | [], _, _ => rfl
  | x :: r, c, l => lft_snoc r c _
theorem lft_nn : ∀ (L : List Ck) (l : Int), 0 ≤ l → (∀ c ∈ L, CkOk c) → 0 ≤ lft L l ∧ lft L l ≤ l
  | [], _, h, _ => ⟨h, Int.le_refl _⟩
  | x :: r, l, h, hc => by
    have h1 := (hc x List.mem_cons_self).b0
    have := lft_nn r (l - min l x.2.1) (by omega) fun c hx => hc c (List.mem_cons_of_mem _ hx)
    show 0 ≤ lft r _ ∧ lft r _ ≤ l
    omega
/-- c goes ahead of d: the stronger one, or the weaker one -/
def ahd (su : Bool) (c d : Ck) : Prop := if su = true then sgm d < sgm c else sgm c < sgm d
theorem ahd_irr {su : Bool} {c : Ck} : ¬ ahd su c c := by unfold ahd; split <;> grind
theorem ahd_tr {su : Bool} {b c x : Ck} (h : ahd su c b) (h' : ¬ ahd su x b) : ¬ ahd su x c := by unfold ahd at *; split at h <;> grind
theorem sgm_cross {c d : Ck} (h : CkOk c) (h' : CkOk d) : sgm c < sgm d ↔ c.2.2 * d.2.1 < d.2.2 * c.2.1 := by
  have p1 : (0 : Rat) < (c.2.1 : Rat) := by have := h.b0; exact_mod_cast (by omega : (0 : Int) < c.2.1)
  have p2 : (0 : Rat) < (d.2.1 : Rat) := by have := h'.b0; exact_mod_cast (by omega : (0 : Int) < d.2.1)
  have e1 := sgm_mul (c := c) (by have := h.b0; omega)
  have e2 := sgm_mul (c := d) (by have := h'.b0; omega)
  have p := Rat.mul_pos p1 p2
  have k : sgm c < sgm d ↔ sgm c * ((c.2.1 : Rat) * (d.2.1 : Rat)) < sgm d * ((c.2.1 : Rat) * (d.2.1 : Rat)) := ⟨fun z => Rat.mul_lt_mul_of_pos_right z p, fun z => Rat.lt_of_mul_lt_mul_right z (Rat.le_of_lt p)⟩
  rw [k, show sgm c * ((c.2.1 : Rat) * (d.2.1 : Rat)) = ((c.2.2 * d.2.1 : Int) : Rat) by rw [Rat.intCast_mul, ← e1]; grind, show sgm d * ((c.2.1 : Rat) * (d.2.1 : Rat)) = ((d.2.2 * c.2.1 : Int) : Rat) by rw [Rat.intCast_mul, ← e2]; grind]
  exact ⟨fun z => by exact_mod_cast z, fun z => by exact_mod_cast z⟩
theorem ahd_t {c b : Ck} (h : CkOk c) (h' : CkOk b) : ahd true c b ↔ b.2.2 * c.2.1 < c.2.2 * b.2.1 := sgm_cross h' h
theorem ahd_f {c b : Ck} (h : CkOk c) (h' : CkOk b) : ahd false c b ↔ c.2.2 * b.2.1 < b.2.2 * c.2.1 := sgm_cross h h'
theorem ck_sh (c : Ck) : SeqAt.shaped (ckD c) = true := shaped_of (bo := false) rfl (by show (PyData.tuple [.int _, .int _, .int _]).depth ≤ 64; simp [PyData.depth, PyData.depthAll])
theorem eqv_ck (a b : Ck) : PyData.eqv (ckD a) (ckD b) = decide (a = b) := by
  obtain ⟨a1, a2, a3⟩ := a
  obtain ⟨b1, b2, b3⟩ := b
  show ((a1 == b1) && ((a2 == b2) && ((a3 == b3) && true))) = _
  rw [Bool.and_true]
  by_cases h1 : a1 = b1 <;> by_cases h2 : a2 = b2 <;> by_cases h3 : a3 = b3 <;> simp [h1, h2, h3]
theorem first_at {w : List Ck} {b : Ck} (h : b ∈ w) : ∃ (i : Nat) (z : D), (w.map ckD)[i]? = some z ∧ PyData.eqv z (ckD b) = true ∧ (∀ (m : Nat) (z' : D), m < i → (w.map ckD)[m]? = some z' → PyData.eqv z' (ckD b) = false) ∧ w[i]? = some b := by
  have hlt := List.findIdx_lt_length_of_exists (p := fun c => decide (c = b)) ⟨b, h, decide_eq_true rfl⟩
  have hg := List.findIdx_getElem (p := fun c => decide (c = b)) (w := hlt)
  have hb : w[w.findIdx fun c => decide (c = b)]? = some b := by rw [List.getElem?_eq_getElem hlt]; exact congrArg some (of_decide_eq_true hg)
  refine ⟨w.findIdx fun c => decide (c = b), ckD b, by rw [List.getElem?_map, hb]; rfl, by rw [eqv_ck]; exact decide_eq_true rfl, fun m z' hm hz => ?_, hb⟩
  obtain ⟨c, hc, rfl⟩ := map_get hz
  rw [eqv_ck]
  refine decide_eq_false fun e => ?_
  have := List.not_of_lt_findIdx hm
  have hml := (List.getElem?_eq_some_iff.mp hc).1
  have e2 := (List.getElem?_eq_some_iff.mp hc).2
  rw [e2, e] at this
  simp at this
theorem erase_map : ∀ (w : List Ck) (i : Nat), (w.map ckD).eraseIdx i = (w.eraseIdx i).map ckD
  | [], _ => rfl
  | _ :: _, 0 => rfl
  | x :: r, i + 1 => congrArg (ckD x :: ·) (erase_map r i)
theorem erase_perm : ∀ {w : List Ck} {i : Nat} {b : Ck}, w[i]? = some b → w.Perm (b :: w.eraseIdx i)
  | [], _, _, h => by simp at h
  | x :: r, 0, b, h => by
    have : x = b := by simpa using h
    rw [this]
    exact List.Perm.refl _
  | x :: r, i + 1, b, h => (List.Perm.cons x (erase_perm (w := r) (i := i) (by simpa using h))).trans (List.Perm.swap _ _ _)
theorem quot_mul (m p b : Int) : ((m * p : Int) : Rat) / (b : Rat) = (m : Rat) * ((p : Rat) / (b : Rat)) := by rw [Rat.intCast_mul, Rat.div_def, Rat.div_def, Rat.mul_assoc]
theorem cd_term {W z b : Int} {N : Nat} (hW : 0 < W) (hd : b ∣ W) (hb : b ≠ 0) (hN : z.natAbs * W.natAbs ≤ N) : Cd W.natAbs N ((z : Rat) / (b : Rat)) := by
  obtain ⟨k, rfl⟩ := hd
  refine ⟨z * k, ?_, ?_⟩
  · have e : (((b * k).natAbs : Nat) : Rat) = ((b * k : Int) : Rat) := by rw [← natR]; congr 1; omega
    have hb' : (b : Rat) ≠ 0 := by exact_mod_cast hb
    have := Rat.div_mul_cancel (a := (z : Rat)) hb'
    rw [e, Rat.intCast_mul, ← Rat.mul_assoc, this, ← Rat.intCast_mul]
  · refine Nat.le_trans ?_ hN
    rw [Int.natAbs_mul, Int.natAbs_mul]
    exact Nat.mul_le_mul_left _ (Nat.le_mul_of_pos_left _ (by omega))
theorem seqI {u : Int} {n : Nat} (h : u < (n : Int)) (h0 : 0 ≤ u) : seqIndex? u n = some u.toNat := by
  unfold seqIndex?
  simp only [show ¬ u < 0 by omega, if_false, decide_eq_true h0, decide_eq_true h, Bool.and_self, if_true]
theorem stO_lt {cs : List Ck} : ∀ k ∈ stO cs, k < cs.length := fun k hk => List.mem_range.mp ((ord_perm _ _ _).mem_iff.mp hk)
theorem Taken.sizes {cs : List Ck} {f g : Nat → Int} {B : Int} {a : List Int} (T : Taken (bks cs) f g B a) (hc : CsOk cs) : ∀ x ∈ a, x.natAbs < 2 ^ 4000 := by
  intro x hx
  obtain ⟨i, hi, e⟩ := List.getElem_of_mem hx
  have hl := T.len
  have hg : gz a i = x := by unfold gz; rw [List.getD_eq_getElem?_getD, List.getElem?_eq_getElem hi, e]; rfl
  have h1 := T.lo i (by omega)
  have h2 := T.hi i (by omega)
  have h3 : i < cs.length := by rw [bks_len] at hl; omega
  rw [hg] at h1 h2
  rw [gz_bks h3] at h2
  have := (hc.ok _ (ckAt_mem h3)).b1
  exact Nat.lt_of_lt_of_le (show x.natAbs < 2 ^ 124 by omega) (Nat.pow_le_pow_right (by decide) (by decide))
theorem stg_size {cs : List Ck} (hc : CsOk cs) : ∀ x ∈ stg cs, x.natAbs < 2 ^ 4000 := by
  intro x hx
  obtain ⟨c, hm, rfl⟩ := List.mem_map.mp hx
  have k := hc.ok c hm
  have hw := wh_lt8 hc.ok hc.len
  have hd : (wh cs / c.2.1).natAbs < 2 ^ 993 := by
    obtain ⟨z, hz⟩ := wh_dvd hm
    rw [hz, Int.mul_ediv_cancel_left _ (by have := k.b0; omega)]
    refine Nat.lt_of_le_of_lt ?_ hw
    rw [hz, Int.natAbs_mul]
    exact Nat.le_mul_of_pos_left _ (by have := k.b0; omega)
  exact Nat.lt_of_lt_of_le (mul_na (x := 138) (by have := k.u0; have := k.u1; omega) hd) (Nat.pow_le_pow_right (by decide) (by decide))
theorem allB_le {M : Int} : ∀ {cs : List Ck}, (∀ c ∈ cs, 0 ≤ c.2.1 ∧ c.2.1 ≤ M) → 0 ≤ allB cs ∧ allB cs ≤ cs.length * M
  | [], _ => ⟨Int.le_refl 0, by show (0 : Int) ≤ ((0 : Nat) : Int) * M; simp⟩
  | c :: r, h => by
    have h1 := h c List.mem_cons_self
    have h2 := allB_le (cs := r) fun c hc => h c (List.mem_cons_of_mem _ hc)
    have e : allB (c :: r) = c.2.1 + allB r := rfl
    rw [e, List.length_cons]
    have : ((r.length + 1 : Nat) : Int) * M = r.length * M + M := by rw [Int.natCast_add, Int.add_mul]; simp
    rw [this]
    omega
theorem allB_lt {cs : List Ck} (hc : CsOk cs) : 0 ≤ allB cs ∧ allB cs < 2 ^ 128 := by
  have h := allB_le (cs := cs) (M := 2 ^ 124) fun c hm => by have k := hc.ok c hm; have := k.b0; have := k.b1; omega
  have h8 := hc.len
  generalize allB cs = a at *
  omega
theorem ck_shw {cs : List Ck} (hc : ∀ c ∈ cs, CkG (5 ^ 8) c) (hl : cs.length ≤ 8) {x : D} (hx : isL ckD cs x) : Shw 4000 2 x := by
  have one : ∀ d ∈ cs.map ckD, Shw 432 1 d := fun d hd => by
    obtain ⟨c, hm, rfl⟩ := List.mem_map.mp hd
    have k := hc c hm
    have h1 := k.p0
    have h2 := k.p1
    have h3 := k.b0
    have h4 := k.b1
    have h5 := k.u0
    have h6 := k.u1
    exact Shw.t3 (Shw.int (k := 140) (by omega) (by decide) (by decide)) (Shw.int (k := 140) (by omega) (by decide) (by decide)) (Shw.int (k := 140) (by omega) (by decide) (by decide))
  have hl' : (cs.map ckD).length ≤ 8 := by rw [List.length_map]; exact hl
  rcases hx with rfl | rfl
  · exact (Shw.list one (Nat.le_of_lt (sz (by omega)))).mono (by omega) (by decide)
  · exact (Shw.tuple one (Nat.le_of_lt (sz (by omega)))).mono (by omega) (by decide)
theorem pin_le {k l : Nat} : ∀ (a s : List Int), (∀ x ∈ a, x.natAbs < 2 ^ k) → (∀ y ∈ s, y.natAbs < 2 ^ l) → (pin a s).natAbs ≤ a.length * 2 ^ (k + l)
  | [], _, _, _ => Nat.zero_le _
  | _ :: _, [], _, _ => Nat.zero_le _
  | x :: r, y :: t, h1, h2 => by
    have ih := pin_le r t (fun x hx => h1 x (List.mem_cons_of_mem _ hx)) (fun x hx => h2 x (List.mem_cons_of_mem _ hx))
    have m := mul_na (h1 x List.mem_cons_self) (h2 y List.mem_cons_self)
    have e : pin (x :: r) (y :: t) = x * y + pin r t := rfl
    rw [e, List.length_cons, Nat.add_mul, Nat.one_mul]
    have := Int.natAbs_add_le (x * y) (pin r t)
    omega
theorem Taken.lt {cs : List Ck} {f g : Nat → Int} {B : Int} {a : List Int} (T : Taken (bks cs) f g B a) (hc : CsOk cs) : ∀ x ∈ a, x.natAbs < 2 ^ 124 := by
  intro x hx
  obtain ⟨i, hi, e⟩ := List.getElem_of_mem hx
  have hl := T.len
  have hg : gz a i = x := by unfold gz; rw [List.getD_eq_getElem?_getD, List.getElem?_eq_getElem hi, e]; rfl
  have h1 := T.lo i (by omega)
  have h2 := T.hi i (by omega)
  have h3 : i < cs.length := by rw [bks_len] at hl; omega
  rw [hg] at h1 h2
  rw [gz_bks h3] at h2
  have := (hc.ok _ (ckAt_mem h3)).b1
  omega
theorem stg_na {cs : List Ck} (hc : CsOk cs) : ∀ x ∈ stg cs, x.natAbs < 2 ^ 1131 := by
  intro x hx
  obtain ⟨c, hm, rfl⟩ := List.mem_map.mp hx
  have k := hc.ok c hm
  have hw := wh_lt8 hc.ok hc.len
  have hd : (wh cs / c.2.1).natAbs < 2 ^ 993 := by
    obtain ⟨z, hz⟩ := wh_dvd hm
    rw [hz, Int.mul_ediv_cancel_left _ (by have := k.b0; omega)]
    refine Nat.lt_of_le_of_lt ?_ hw
    rw [hz, Int.natAbs_mul]
    exact Nat.le_mul_of_pos_left _ (by have := k.b0; omega)
  exact mul_na (x := 138) (by have := k.u0; have := k.u1; omega) hd
theorem pin_na {cs : List Ck} {f g : Nat → Int} {B : Int} {a : List Int} (T : Taken (bks cs) f g B a) (hc : CsOk cs) : (pin a (stg cs)).natAbs < 2 ^ 1260 := by
  have h := pin_le a (stg cs) (T.lt hc) (stg_na hc)
  have hl : a.length ≤ 8 := by have := T.len; rw [bks_len] at this; have := hc.len; omega
  have := Nat.mul_le_mul_right (2 ^ (124 + 1131)) hl
  exact Nat.lt_of_le_of_lt (Nat.le_trans h this) (by decide)
theorem pur_fr {cs : List Ck} {f g : Nat → Int} {B : Int} {a : List Int} (T : Taken (bks cs) f g B a) (hc : CsOk cs) : Fr 1260 (pur cs a) := by
  have hw0 := wh_pos hc.ok
  have hw := wh_lt8 hc.ok hc.len
  rw [← pur_quot hc.ok (a := a) (by rw [T.len, bks_len])]
  have q := quot_le (o := pin a (stg cs)) (u := wh cs) (by omega)
  exact ⟨Nat.lt_of_le_of_lt q.1 (pin_na T hc), Nat.lt_of_le_of_lt q.2 (Nat.lt_of_lt_of_le hw (Nat.pow_le_pow_right (by decide) (by decide)))⟩
theorem pt_fr {cs L : List Ck} {B : Int} (hc : CsOk cs) (hp : L.Perm cs) (h0 : 0 ≤ B) (h1 : B ≤ allB cs) : Fr 1260 (pt L B) := by
  obtain ⟨o, p, e⟩ := perm_idx (ckAt cs) hp (ck_range cs)
  subst e
  have nd : o.Nodup := p.nodup_iff.mpr List.nodup_range
  have hl : ∀ k ∈ o, k < cs.length := fun k hk => List.mem_range.mp (p.mem_iff.mp hk)
  have T : Taken (bks cs) (fun _ => 0) (fun _ => 0) B (taken (bks cs) o B) := taken_ok (bks_nn hc.ok) h0 (by rw [allB_sum]; exact h1) (by rw [bks_len]; exact p) (List.pairwise_of_forall fun _ _ => by omega)
  have e : pt (o.map (ckAt cs)) B = pur cs (taken (bks cs) o B) := by
    rw [pt_tk o B (List.replicate cs.length 0) nd hl List.length_replicate, sumR_perm p]
    unfold pur taken
    rw [bks_len]
  rw [e]
  exact pur_fr T hc
section
variable {P : Program} {w : World} {K : PySem.W.Frag} {mg : Str → Option Value} {base : Heap}
theorem hu64R {k : Nat} {A : Around} (hr : Room k A) : A.units + 64 < cLine := by have := hr.un; omega
theorem ok_begin {f : Addr} {fd : FuncData} {k : Nat} (F : Fun K "_law_begin" "_law_begin" s_begin f fd) (ml : mg "list" = none) : FnOk P w K mg base CX0 (k + 1) f fd ["_law_script"] (spBeginH K) := by
  refine F.ok sc_begin (fun vs H Q E h => ?_) (fun cdv A outer s H vs Q E hr h => ?_)
  · obtain ⟨a, ns, rfl, _⟩ := h
    rfl
  · obtain ⟨a, ns, rfl, hS, q⟩ := h
    refine ⟨_, pss_cons (ps_set (i := 1) sc_begin.nd rfl (.inl rfl) (pe_callTy call_list_of (by rfl) ml (by decide +kernel) (pa_cons (pe_slice sl_list (pv 0) po_none (po_some pe_int)) pa_nil)))
      (pss_cons (ps_if (pt_cmpR (op_eqD (hu64R hr)) (pv 1) (pe_lst pa_nil) (nomark _)) (pss_one (ps_set (i := 1) sc_begin.nd rfl (.inl rfl) (pe_lst (pa_cons pe_int pa_nil)))) pss_nil)
      (pss_one (ps_ret (pe_disp (pps_cons pe_str (pv 1) (pps_cons pe_str pe_int pps_nil)) rfl rfl (fun z => by cases z) (Nat.le_of_ble_eq_true rfl))))), ?_⟩
    have cut : cutV (ns.map V.int) none (some 63) = (ns.take 63).map V.int := by
      unfold cutV
      rw [HT.sIx_none]
      rw [show HT.sIx (ns.map V.int).length (ns.map V.int).length (some 63) = min 63 (ns.map V.int).length from HT.sIx_nat _ _ 63]
      simp [List.map_take, List.take_eq_take_iff]
    refine ⟨.ref a, rfl, 63, rfl, a, _, rfl, hS, fun c nc => ⟨c, _, rfl, .inl (.inl (.inl upd_same)), fun l nl => ?_⟩⟩
    rw [cut]
    have ncl : c ≠ l := fun z => by rw [z, upd_same] at nl; cases nl
    have nl0 : H l = none := by rw [← nl, upd_ne ncl.symm]
    refine ⟨_, rfl, Nat.zero_le _, fun e ne => ?_⟩
    have nel : e ≠ l := fun z => by rw [z, upd_same] at ne; cases ne
    have nec : e ≠ c := fun z => by rw [z, upd_ne ncl, upd_same] at ne; cases ne
    have fin : ∀ (H2 : Hp) (x : Addr) (cs : List Int), (∀ b o, H b = some o → H2 b = some o) → H x = none → H2 x = some (.lst (cs.map V.int)) → 1 ≤ cs.length → cs.length ≤ 63 → ∀ p, H2 p = none → Q (.ref p) (upd (upd H2 p (.dK [])) p (.dK [(.inr "cells", .ref x), (.inr "turn", .int 0)])) := fun H2 x cs hx nx hx2 l1 l2 p np => by
      have npx : x ≠ p := ne_of_none hx2 np
      refine q _ p x cs (fun b o h => ?_) upd_same ?_ ?_ nx npx.symm l1 l2
      · have nb : b ≠ p := ne_of_none (hx b o h) np
        rw [upd_ne nb, upd_ne nb]; exact hx b o h
      · rw [upd_ne npx, upd_ne npx]; exact hx2
      · cases z : H p with
        | none => rfl
        | some o => rw [hx p o z] at np; cases np
    have h1 : ∀ b o, H b = some o → (upd (upd (upd H c (.lst ((ns.take 63).map V.int))) l (.lst ((ns.take 63).map V.int))) e (.lst [])) b = some o := fun b o h => by
      rw [upd_ne (fun z => by rw [z] at h; rw [upd_ne nel, upd_ne nec] at ne; rw [h] at ne; cases ne), upd_ne (ne_of_none h nl0), upd_ne (ne_of_none h nc)]; exact h
    refine ⟨.list ((ns.take 63).map PyData.int), .list [], .lst (.inl (.inl ?_)) ((RpL.ints (A := fun _ => False)).dp (lay_ints _)), .lst (.inl (.inl upd_same)) .nil, PySem.W.shaped_ints _, by decide, ?_⟩
    · rw [upd_ne nel.symm, upd_same]
    · cases ns with
      | nil =>
        refine ⟨_, rfl, ite2 (fun _ => ?_) (fun z => (z rfl).elim)⟩
        refine ⟨by decide, fun x nx => ?_⟩
        have nx0 : H x = none := by
          cases z : H x with
          | none => rfl
          | some o => rw [h1 _ _ z] at nx; cases nx
        refine fun p np => ⟨.ref x, rfl, upd_same, [(.inr "cells", .ref x), (.inr "turn", .int 0)], rfl, Nat.le_of_ble_eq_true rfl, ?_⟩
        exact fin _ x [7] (fun b o h => by rw [upd_ne (ne_of_none (h1 _ _ h) nx)]; exact h1 _ _ h) nx0 upd_same (by decide) (by decide) p np
      | cons x r =>
        refine ⟨_, rfl, ite2 (fun z => by cases z) (fun z => ?_)⟩
        refine fun p np => ⟨.ref l, rfl, ?_, [(.inr "cells", .ref l), (.inr "turn", .int 0)], rfl, Nat.le_of_ble_eq_true rfl, ?_⟩
        · exact upd_same
        · exact fin _ l _ h1 nl0 (by rw [upd_ne nel.symm, upd_same]) (by simp) (by simp; omega) p np
theorem ok_take {f : Addr} {fd : FuncData} {k : Nat} (F : Fun K "_law_take" "_law_take" s_take f fd) (ml : mg "len" = none) (md : mg "divmod" = none) : FnOk P w K mg base CX0 (k + 1) f fd ["_law_state", "_law_many"] spTakeH := by
  refine F.ok sc_take (fun vs H Q E h => ?_) (fun cdv A outer s H vs Q E hr h => ?_)
  · obtain ⟨a, c, cs, t, many, rfl, _⟩ := h
    rfl
  · obtain ⟨a, c, cs, t, many, rfl, ha, hc, l1, l2, t0, t1, hm, q⟩ := h
    refine ⟨_, pss_cons (ps_set (i := 2) sc_take.nd rfl (.inl rfl) (pe_op op_add (pe_dget (hu1R hr) (pv 0) pe_str (fun _ _ => rfl)) pe_int))
      (pss_cons (ps_dput (hu1R hr) (pv 0) pe_str (pv 2) rfl)
      (pss_cons (ps_set (i := 3) sc_take.nd rfl (.inl rfl) (pe_op op_mod (pv 2) (pe_callB call_len_seq (by rfl) ml PySem.boot_len (pa_cons (pe_dget (hu1R hr) (pv 0) pe_str (fun _ _ => rfl)) pa_nil))))
      (pss_cons (ps_set (i := 4) sc_take.nd rfl (.inl rfl) (pe_ix ix_list (pe_dget (hu1R hr) (pv 0) pe_str (fun _ _ => rfl)) (pv 3) (fun _ _ => rfl)))
      (pss_cons (ps_if (pt_cmpR op_ge (pv 4) (pe_op op_pow pe_int pe_int) (nomark _))
        (pss_cons (ps_asg (pe_callB call_divmodW (by rfl) md (by decide +kernel) (pa_cons (pv 4) (pa_cons (pv 1) pa_nil))) (pg_tup rfl (pgs_cons (pg_sub (pe_dget (hu1R hr) (pv 0) pe_str (fun _ _ => rfl)) (pv 3) set_list) (pgs_cons (pg_name (i := 5) sc_take.nd rfl (.inl rfl)) pgs_nil))))
        (pss_one (ps_ret (pv 5)))) pss_nil)
      (pss_cons (ps_set (i := 6) sc_take.nd rfl (.inl rfl) (pe_op op_mod (pe_op op_mulX (pe_op op_add (pe_op op_add (pe_op op_mod (pv 4) pe_int) (pe_op op_mulX (pe_op op_mulX (pv 2) (pv 2)) pe_int)) pe_int) pe_int) pe_int))
      (pss_cons (ps_set (i := 6) sc_take.nd rfl (.inl rfl) (pe_op op_mod (pe_op op_mulX (pv 6) (pv 6)) pe_int))
      (pss_one (ps_ret (pe_op op_mod (pe_op op_fdivW (pe_op op_mod (pe_op op_mulX (pe_op op_add (pv 6) (pe_op op_mulX (pv 2) pe_int)) pe_int) pe_int) pe_int) (pv 1)))))))))), ?_⟩
    have e1 : valV ([(.inr "cells", .ref c), (.inr "turn", .int t)] : List (Key × V)) (.inr "turn") = some (.int t) := rfl
    have hac : a ≠ c := ne_of ha hc (by intro z; cases z)
    have hp : putK ([(.inr "cells", .ref c), (.inr "turn", .int t)] : List (Key × V)) (.inr "turn") (.int (t + 1)) = [(.inr "cells", .ref c), (.inr "turn", .int (t + 1))] := rfl
    have ha1 : (upd H a (.dK [(.inr "cells", .ref c), (.inr "turn", .int (t + 1))])) a = some (.dK [(.inr "cells", .ref c), (.inr "turn", .int (t + 1))]) := upd_same
    have hc1 : (upd H a (.dK [(.inr "cells", .ref c), (.inr "turn", .int (t + 1))])) c = some (.lst (cs.map V.int)) := by rw [upd_ne hac.symm]; exact hc
    have ec : valV ([(.inr "cells", .ref c), (.inr "turn", .int (t + 1))] : List (Key × V)) (.inr "cells") = some (.ref c) := rfl
    obtain ⟨m, hm1, hm2⟩ : ∃ m : Nat, (t + 1) % (cs.length : Int) = m ∧ m < cs.length := ⟨((t + 1) % (cs.length : Int)).toNat, (Int.toNat_of_nonneg (Int.emod_nonneg _ (by omega))).symm, by have h1 := Int.emod_nonneg (t + 1) (show (cs.length : Int) ≠ 0 by omega); have h2 := Int.emod_lt_of_pos (t + 1) (show (0 : Int) < cs.length by omega); omega⟩
    have gm : (cs.map V.int)[m]? = some (.int cs[m]) := by rw [List.getElem?_map, List.getElem?_eq_getElem hm2]; rfl
    refine ⟨.ref a, rfl, a, _, rfl, DGet.k (k := .inr "turn") ha, _, _, rfl, rfl, ?_⟩
    refine ⟨_, rfl, .ref a, rfl, a, _, rfl, DPut.k (k := .inr "turn") ha (by show 2 < sizeLine; decide), ?_⟩
    refine ⟨_, rfl, .ref a, rfl, a, _, rfl, DGet.k (k := .inr "cells") ha1, ?_⟩
    refine ⟨c, cs.map V.int, rfl, .inl (.inl (.inl hc1)), ?_⟩
    have el : ((cs.map V.int).length : Int) = cs.length := by rw [List.length_map]
    refine ⟨t + 1, ((cs.map V.int).length : Int), rfl, rfl, by omega, ?_⟩
    have hm3 : (t + 1) % ((cs.map V.int).length : Int) = (m : Int) := by rw [el]; exact hm1
    refine ⟨.ref a, rfl, a, _, rfl, DGet.k (k := .inr "cells") ha1, _, rfl, c, cs.map V.int, _, .int cs[m], rfl, rfl, .inl (.inl hc1), at_of (j := m) hm3 gm, ?_⟩
    refine ⟨.int cs[m], rfl, 10, 18, rfl, rfl, ⟨by decide, by decide⟩, ?_⟩
    refine ⟨cs[m], _, rfl, rfl, _, rfl, ite2 (fun _ => ?_) (fun _ => ?_)⟩
    · refine ⟨.int cs[m], rfl, .int many, rfl, cs[m], many, rfl, ⟨hm.1, PyProof.noPylong_of_log2 hm.2⟩, fun p np => ?_⟩
      have npa : a ≠ p := ne_of_none ha1 np
      have npc : c ≠ p := ne_of_none hc1 np
      have ha2 : ∀ o, (upd (upd H a (.dK [(.inr "cells", .ref c), (.inr "turn", .int (t + 1))])) p o) a = some (.dK [(.inr "cells", .ref c), (.inr "turn", .int (t + 1))]) := fun o => by rw [upd_ne npa]; exact ha1
      have hc2 : ∀ o, (upd (upd H a (.dK [(.inr "cells", .ref c), (.inr "turn", .int (t + 1))])) p o) c = some (.lst (cs.map V.int)) := fun o => by rw [upd_ne npc]; exact hc1
      refine ⟨p, [.int (cs[m] / many), .int (cs[m] % many)], rfl, .inl (.inl upd_same), rfl, .int (cs[m] / many), [.int (cs[m] % many)], rfl, ?_⟩
      refine ⟨.ref a, rfl, a, _, rfl, DGet.k (k := .inr "cells") (ha2 _), _, rfl, ?_⟩
      refine ⟨c, cs.map V.int, _, m, rfl, rfl, hc2 _, ?_, .int (cs[m] % many), [], rfl, rfl, .int (cs[m] % many), rfl, ?_⟩
      · rw [hm3, List.length_map]
        unfold ixN
        rw [if_pos (by omega), if_pos (by omega)]
        rfl
      · have l0 : 0 ≤ cs[m] % many := Int.emod_nonneg _ (by have := hm.1; omega)
        have l1 : cs[m] % many < many := Int.emod_lt_of_pos _ hm.1
        refine q _ (cs.set m (cs[m] / many)) _ (fun b o hb hb2 h => ?_) ?_ ?_ (by simp) l0 l1
        · have nb : b ≠ p := ne_of_none (by rw [upd_ne hb]; exact h) np
          rw [upd_ne hb2, upd_ne nb, upd_ne hb]; exact h
        · rw [upd_ne hac]; exact ha2 _
        · rw [upd_same, List.map_set]
    · have hx0 : 0 ≤ cs[m] % 2147483629 := Int.emod_nonneg _ (by decide)
      have hx1 : cs[m] % 2147483629 < 2147483629 := Int.emod_lt_of_pos _ (by decide)
      have ht0 : 0 ≤ t + 1 := by omega
      have ht1 : t + 1 < 2 ^ 61 := by unfold turnMax at t1; omega
      have m1 : CMulX (t + 1) (t + 1) := mulx_ok (a := 61) (b := 61) (by omega) (by omega) (by decide)
      have hs0 : 0 ≤ (t + 1) * (t + 1) := Int.mul_nonneg ht0 ht0
      have hs1 : (t + 1) * (t + 1) < 2 ^ 123 := Int.lt_of_le_of_lt (Int.mul_le_mul (Int.le_of_lt ht1) (Int.le_of_lt ht1) ht0 (by decide)) (by decide)
      have m2 : CMulX ((t + 1) * (t + 1)) 7919 := mulx_ok (a := 123) (b := 13) (by omega) (by decide) (by decide)
      have m3 : CMulX (cs[m] % 2147483629 + (t + 1) * (t + 1) * 7919 + 11) 48271 := mulx_ok (a := 140) (b := 16) (by omega) (by decide) (by decide)
      have hy0 := Int.emod_nonneg ((cs[m] % 2147483629 + (t + 1) * (t + 1) * 7919 + 11) * 48271) (show (2147483647 : Int) ≠ 0 by decide)
      have hy1 := Int.emod_lt_of_pos ((cs[m] % 2147483629 + (t + 1) * (t + 1) * 7919 + 11) * 48271) (show (0 : Int) < 2147483647 by decide)
      have m4 : CMulX ((cs[m] % 2147483629 + (t + 1) * (t + 1) * 7919 + 11) * 48271 % 2147483647) ((cs[m] % 2147483629 + (t + 1) * (t + 1) * 7919 + 11) * 48271 % 2147483647) := mulx_ok (a := 31) (b := 31) (by omega) (by omega) (by decide)
      refine ⟨_, rfl, _, _, rfl, rfl, (by omega : (0 : Int) < _), _, rfl, _, rfl, _, _, rfl, rfl, m1, _, _, rfl, rfl, m2, _, _, rfl, rfl, _, _, rfl, rfl, _, _, rfl, rfl, m3, _, _, rfl, rfl, (by omega : (0 : Int) < _), ?_⟩
      refine ⟨_, rfl, _, rfl, _, _, rfl, rfl, m4, _, _, rfl, rfl, (by omega : (0 : Int) < _), ?_⟩
      generalize ((cs[m] % 2147483629 + (t + 1) * (t + 1) * 7919 + 11) * 48271 % 2147483647) * ((cs[m] % 2147483629 + (t + 1) * (t + 1) * 7919 + 11) * 48271 % 2147483647) = y at *
      have hz0 := Int.emod_nonneg y (show (2147483587 : Int) ≠ 0 by decide)
      have hz1 := Int.emod_lt_of_pos y (show (0 : Int) < 2147483587 by decide)
      refine ⟨_, rfl, _, rfl, _, _, rfl, rfl, mulx_ok (a := 61) (b := 17) (by omega) (by decide) (by decide), _, _, rfl, rfl, _, _, rfl, rfl, mulx_ok (a := 90) (b := 17) (by omega) (by decide) (by decide), _, _, rfl, rfl, (by omega : (0 : Int) < _), _, _, rfl, rfl, ⟨by decide, by decide⟩, _, rfl, _, _, rfl, rfl, hm.1, ?_⟩
      refine q _ cs _ (fun b o hb hb2 h => ?_) ha1 hc1 rfl (Int.emod_nonneg _ (by have := hm.1; omega)) (Int.emod_lt_of_pos _ hm.1)
      show (upd H a _) b = _
      rw [upd_ne hb]; exact h
theorem o_take' (T : Tx K mg) : Ok P w K mg base 1 "_law_take" s_take ["_law_state", "_law_many"] 2 spTake := by
  obtain ⟨f, fd, a⟩ := T.d_take
  exact ⟨f, fd, a, DL.FnOk.toG ((ok_take (k := 0) a.F T.b_len T.b_divmod).imp fun _ _ _ _ q => spTake_imp q)⟩
def sp_common : SpD := fun xs ms Ks => match xs, ms with
  | [.da (.int a), .da (.int b)], [] => 0 ≤ a ∧ 0 ≤ b ∧ Ks [] (.da (.int (Int.gcd a b)))
  | _, _ => False
theorem ok_common (T : Tx K mg)  : Ok P w K mg base 1 "common" s_common ["one", "other"] 2 sp_common := by
  refine ok_data (n0 := 0) T.d_common sc_common _ (fun f cdv A outer s H E hr =>
  (dss_cons (ds_while [] 0 PassesOwn.never (dt_neS (dv 0) de_int)
    (dss_one (ds_par (i := 0) (j := 1) rfl sc_common.nd rfl rfl (by decide) rfl rfl (da_cons (de_mod (dv 1) (dv 0)) (da_cons (dv 0) da_nil)) rfl)))
  (dss_one (ds_ret (dv 1))))) (fun xs ms Ks h hl => ?_)
  unfold sp_common at h
  split at h
  · rename_i a b
    obtain ⟨ha, hb, hk⟩ := h
    refine ⟨fun s => ∃ n m : Nat, s = ⟨[.da (.int n), .da (.int m)], [], 0⟩ ∧ Nat.gcd n m = Int.gcd a b, fun s => match gt s.es 0 with | .da (.int n) => n.toNat | _ => 0, ⟨Nat.zero_le _, a.natAbs, b.natAbs, ?_, rfl⟩, ?_⟩
    · rw [show ((a.natAbs : Nat) : Int) = a by omega, show ((b.natAbs : Nat) : Int) = b by omega]
      rfl
    · rintro s ⟨n, m, rfl, hg⟩
      refine nS (fun hn => ?_) fun hn => ?_
      · refine ⟨(by show (0 : Int) < n; omega), Nat.zero_le _, ⟨m % n, n, rfl, ?_⟩, ?_⟩
        · rw [← hg, ← Nat.gcd_rec]
        · show ((m : Int) % (n : Int)).toNat < (n : Int).toNat
          have h1 := Int.emod_lt_of_pos (m : Int) (show (0 : Int) < n by omega)
          have h2 := Int.emod_nonneg (m : Int) (show (n : Int) ≠ 0 by omega)
          omega
      · have : n = 0 := by omega
        subst this
        rw [Nat.gcd_zero_left] at hg
        rw [← hg] at hk
        exact hk
  · exact h.elim
def sp_strengths_of : SpD := fun xs ms Ks => match xs, ms with
  | [.da x], [] => ∃ cs : List Ck, isL ckD cs x ∧ CsOk cs ∧ Ks [] (.da (.tuple [.int (wh cs), .list ((stg cs).map .int)]))
  | _, _ => False
theorem ok_strengths_of (T : Tx K mg)  : Ok P w K mg base 1 "strengths_of" s_strengths_of ["casks"] 1 sp_strengths_of := by
  refine ok_data (n0 := 4) T.d_strengths_of sc_strengths_of _ (fun f cdv A outer s H E hr =>
  (dss_cons (ds_set (i := 1) sc_strengths_of.nd rfl (by first | exact .inl rfl | exact .inr rfl) de_int)
  (dss_cons (ds_for [2, 3, 4] 0 PassesOwn.never rfl (di_seq (dv 0)) (dg_tup (n := 3) rfl (dgs_cons (dg_name (i := 2) sc_strengths_of.nd rfl (by first | exact .inl rfl | exact .inr rfl)) (dgs_cons (dg_name (i := 3) sc_strengths_of.nd rfl (by first | exact .inl rfl | exact .inr rfl)) (dgs_cons (dg_name (i := 4) sc_strengths_of.nd rfl (by first | exact .inl rfl | exact .inr rfl)) dgs_nil))))
    (dss_one (ds_set (i := 1) sc_strengths_of.nd rfl (by first | exact .inl rfl | exact .inr rfl) (de_mul (dv 1) (dv 3)))))
  (dss_one (ds_ret (de_tup (dan_cons (dv 1) (dan_cons (de_lc [("price", 2), ("bulk", 3), ("pure", 4)] rfl sc_strengths_of.nd (di_seq (dv 0)) (BlkOk.mk (N := ["casks", "whole", "price", "bulk", "pure"]) (sc := defScope s_strengths_of) rfl (by decide +kernel) (by decide +kernel) (by decide +kernel) (by decide +kernel)) (by decide) (fun _ _ _ _ _ => (dg_tup (n := 3) rfl (dgs_cons (dg_name (i := 2) sc_strengths_of.nd rfl (by first | exact .inl rfl | exact .inr rfl)) (dgs_cons (dg_name (i := 3) sc_strengths_of.nd rfl (by first | exact .inl rfl | exact .inr rfl)) (dgs_cons (dg_name (i := 4) sc_strengths_of.nd rfl (by first | exact .inl rfl | exact .inr rfl)) dgs_nil))))) (fun _ _ _ _ _ => dts_nil) (fun _ _ _ _ _ => (de_mul (dv 4) (de_div (dv 1) (dv 3))))) dan_nil)))))))) (fun xs ms Ks h hl => ?_)
  unfold sp_strengths_of at h
  split at h
  · rename_i x
    obtain ⟨cs, hx, hc, hk⟩ := h
    have hw := wh_lt8 hc.ok hc.len
    rcases hx with rfl | rfl
    all_goals
      refine ⟨fun (i : Nat) (s : S) => ∃ x, s = ⟨[.da x, .da (.int (wh (cs.take i))), .no, .no, .no], [], 0⟩ ∧ isL ckD cs x, ⟨Nat.zero_le _, _, rfl, by first | exact .inl rfl | exact .inr rfl⟩, ?_, ?_⟩
      · rintro i e s hi ⟨x, rfl, hx⟩
        obtain ⟨c, hci, rfl⟩ := map_get hi
        have hcm := hc.ok c (List.mem_of_getElem? hci)
        have hwi := wh_lt8 (cs := cs.take i) (fun c hc' => hc.ok c (List.mem_of_mem_take hc')) (by rw [List.length_take]; have := hc.len; omega)
        refine ⟨rfl, mulA 993 124 hwi (by have := hcm.b0; have := hcm.b1; omega), ?_⟩
        refine ⟨Nat.zero_le _, x, ?_, hx⟩
        rw [take_snoc hci, wh_snoc]
        rfl
      · rintro s ⟨x, rfl, hx⟩
        rw [List.length_map, List.take_length]
        try dsimp only [DL.S.sE, DL.S.sM, DL.S.aM, DL.S.cM, DL.st, DL.gt, DL.sm, DL.gm, DL.putM, DL.pick, DL.muks, DL.nthN, DL.bkE, DL.st0, DL.nos, List.cons_append, List.nil_append, List.append_nil, List.drop_succ_cons, List.drop_nil, List.drop_zero, List.drop, DL.a1, DL.a2, DL.a3, DL.cMin3, DL.aNil, DL.aCons, DL.dVar, DL.dC, DL.iI, DL.i1, DL.isB, DL.daI, DL.onE, DL.gN, List.length_cons, List.length_nil, Nat.reduceAdd, Nat.zero_add]
        rcases hx with rfl | rfl
        all_goals
          refine ⟨fun (i : Nat) (mo : List MO) (acc : List D) => mo = [] ∧ acc = ((cs.take i).map fun c => PyData.int (c.2.2 * (wh cs / c.2.1))), ⟨rfl, rfl⟩, ?_, ?_⟩
          · rintro i e mo acc hi ⟨rfl, rfl⟩ _
            obtain ⟨c, hci, rfl⟩ := map_get hi
            have hcm := hc.ok c (List.mem_of_getElem? hci)
            have hi8 : i < 8 := by have := (List.getElem?_eq_some_iff.mp hci).1; have := hc.len; omega
            have hd : (wh cs / c.2.1).natAbs < 2 ^ 993 := by
              obtain ⟨k, hk⟩ := wh_dvd (List.mem_of_getElem? hci)
              rw [hk, Int.mul_ediv_cancel_left _ (by have := hcm.b0; omega)]
              refine Nat.lt_of_le_of_lt ?_ hw
              rw [hk, Int.natAbs_mul]
              exact Nat.le_mul_of_pos_left _ (by have := hcm.b0; omega)
            refine ⟨rfl, tt ?_⟩
            try dsimp only [DL.S.sE, DL.S.sM, DL.S.aM, DL.S.cM, DL.st, DL.gt, DL.sm, DL.gm, DL.putM, DL.pick, DL.muks, DL.nthN, DL.bkE, DL.st0, DL.nos, List.cons_append, List.nil_append, List.append_nil, List.drop_succ_cons, List.drop_nil, List.drop_zero, List.drop, DL.a1, DL.a2, DL.a3, DL.cMin3, DL.aNil, DL.aCons, DL.dVar, DL.dC, DL.iI, DL.i1, DL.isB, DL.daI, DL.onE, DL.gN, List.length_cons, List.length_nil, Nat.reduceAdd, Nat.zero_add]
            refine ⟨divA 124 (by have := hcm.b0; omega) (by have := hcm.b0; have := hcm.b1; omega), mulA 138 993 (by have := hcm.u0; have := hcm.u1; omega) hd, ?_⟩
            refine ⟨by rw [List.length_map, List.length_take]; exact sz (by omega), rfl, rfl, ?_⟩
            rw [take_snoc hci, List.map_append]
            rfl
          · rintro mo acc ⟨rfl, rfl⟩ _
            rw [List.length_map, List.take_length]
            unfold stg at hk
            rw [List.map_map] at hk
            exact hk
  · exact h.elim
def sp_taken_by : SpD := fun xs ms Ks => match xs, ms with
  | [.da x, .da y, .da (.int B)], [] => ∃ (o : List Nat) (cs : List Ck), x = .list (o.map natD) ∧ isL ckD cs y ∧ cs.length ≤ 8 ∧ (∀ k ∈ o, k < cs.length) ∧ Ks [] (.da (.list ((taken (bks cs) o B).map .int)))
  | _, _ => False
theorem ok_taken_by (T : Tx K mg)  : Ok P w K mg base 1 "taken_by" s_taken_by ["order", "casks", "bulk"] 3 sp_taken_by := by
  refine ok_data (n0 := 3) T.d_taken_by sc_taken_by _ (fun f cdv A outer s H E hr =>
  (dss_cons (ds_set (i := 3) sc_taken_by.nd rfl (by first | exact .inl rfl | exact .inr rfl) (de_replistM (de_lst (dan_cons de_int dan_nil)) (de_len (x := "") (by rfl) (T.b_len) (dv 1))))
  (dss_cons (ds_set (i := 4) sc_taken_by.nd rfl (by first | exact .inl rfl | exact .inr rfl) (dv 2))
  (dss_cons (ds_for [0, 2, 5] 1 PassesOwn.never rfl (di_list (dv 0)) (dg_name (i := 5) sc_taken_by.nd rfl (by first | exact .inl rfl | exact .inr rfl))
    (dss_cons (ds_asg (de_min rfl (by rfl) (T.b_min) (dv 4) (de_ix (de_ix (dv 1) (dv 5)) de_int)) (dg_setL (dv 3) (dv 5)))
    (dss_one (ds_augSub (i := 4) sc_taken_by.nd rfl (by first | exact .inl rfl | exact .inr rfl) (de_ix (dv 3) (dv 5))))))
  (dss_frzV 3 (dss_one (ds_ret (dv 3)))))))) (fun xs ms Ks h hl => ?_)
  unfold sp_taken_by at h
  split at h
  · rename_i x y B
    obtain ⟨o, cs, rfl, hy, hl, ho, hk⟩ := h
    have rep : ∀ n : Nat, (List.replicate n ([PyData.int 0] : List D)).flatten = (List.replicate n (0 : Int)).map PyData.int := fun n => by
      induction n with
      | zero => rfl
      | succ n ih => rw [List.replicate_succ, List.replicate_succ, List.flatten_cons, ih]; rfl
    have fin : taken (bks cs) o B = tk (bks cs) (o.drop 0) B (List.replicate cs.length 0) := by unfold taken; rw [bks_len]; rfl
    have hy0 := hy
    rcases hy with rfl | rfl
    all_goals
      refine ⟨by rw [List.length_map]; omega, by rw [List.length_map]; omega, by rw [List.length_map]; exact Nat.le_trans (show 1 * ((cs.length : Int)).toNat ≤ 8 by omega) (by decide), ?_⟩
      try dsimp only [DL.S.sE, DL.S.sM, DL.S.aM, DL.S.cM, DL.st, DL.gt, DL.sm, DL.gm, DL.putM, DL.pick, DL.muks, DL.nthN, DL.bkE, DL.st0, DL.nos, List.cons_append, List.nil_append, List.append_nil, List.drop_succ_cons, List.drop_nil, List.drop_zero, List.drop, DL.a1, DL.a2, DL.a3, DL.cMin3, DL.aNil, DL.aCons, DL.dVar, DL.dC, DL.iI, DL.i1, DL.isB, DL.daI, DL.onE, DL.gN, List.length_cons, List.length_nil, Nat.reduceAdd, Nat.zero_add]
      refine ⟨fun (i : Nat) (s : S) => ∃ (y : D) (l : Int) (am : List Int), s = ⟨[.no, .da y, .no, .mu 0, .da (.int l), .no], [.lst (am.map .int)], 0⟩ ∧ isL ckD cs y ∧ am.length = cs.length ∧ tk (bks cs) (o.drop i) l am = taken (bks cs) o B, ⟨Nat.zero_le _, _, B, List.replicate cs.length 0, ?_, hy0, List.length_replicate, fin.symm⟩, ?_, ?_⟩
      · rw [rep, List.length_map, Int.toNat_natCast]
        rfl
      · rintro i e s hi ⟨y, l, am, rfl, hy, ha, ht⟩
        obtain ⟨k, hki, rfl⟩ := map_get hi
        have hkc := ho k (List.mem_of_getElem? hki)
        have hck : cs[k]? = some cs[k] := List.getElem?_eq_getElem hkc
        have eb : gz (bks cs) k = cs[k].2.1 := by unfold gz bks; rw [List.getD_eq_getElem?_getD, List.getElem?_map, hck]; rfl
        have ix : ixN (am.map PyData.int).length (k : Int) = some k := ixN_natM (by rw [List.length_map]; omega)
        have at1 : atI (((am.set k (min l cs[k].2.1)).map PyData.int)) (k : Int) = some (.int (min l cs[k].2.1)) := at_map (by rw [List.getElem?_set]; simp; omega)
        rcases hy with rfl | rfl
        all_goals
          refine ⟨_, at_map hck, _, rfl, k, ix, ?_⟩
          try dsimp only [DL.S.sE, DL.S.sM, DL.S.aM, DL.S.cM, DL.st, DL.gt, DL.sm, DL.gm, DL.putM, DL.pick, DL.muks, DL.nthN, DL.bkE, DL.st0, DL.nos, List.cons_append, List.nil_append, List.append_nil, List.drop_succ_cons, List.drop_nil, List.drop_zero, List.drop, DL.a1, DL.a2, DL.a3, DL.cMin3, DL.aNil, DL.aCons, DL.dVar, DL.dC, DL.iI, DL.i1, DL.isB, DL.daI, DL.onE, DL.gN, List.length_cons, List.length_nil, Nat.reduceAdd, Nat.zero_add]
          rw [← List.map_set]
          refine ⟨_, at1, ?_⟩
          refine ⟨Nat.zero_le _, _, _, _, rfl, by first | exact .inl rfl | exact .inr rfl, by rw [List.length_set]; exact ha, ?_⟩
          rw [← ht, List.drop_eq_getElem_cons (List.getElem?_eq_some_iff.mp hki).1, (List.getElem?_eq_some_iff.mp hki).2, tk, eb]
      · rintro s ⟨y, l, am, rfl, hy, ha, ht⟩
        rw [List.length_map, List.drop_length] at ht
        have ht : am = taken (bks cs) o B := ht
        try dsimp only [DL.S.sE, DL.S.sM, DL.S.aM, DL.S.cM, DL.st, DL.gt, DL.sm, DL.gm, DL.putM, DL.pick, DL.muks, DL.nthN, DL.bkE, DL.st0, DL.nos, List.cons_append, List.nil_append, List.append_nil, List.drop_succ_cons, List.drop_nil, List.drop_zero, List.drop, DL.a1, DL.a2, DL.a3, DL.cMin3, DL.aNil, DL.aCons, DL.dVar, DL.dC, DL.iI, DL.i1, DL.isB, DL.daI, DL.onE, DL.gN, List.length_cons, List.length_nil, Nat.reduceAdd, Nat.zero_add]
        refine ⟨Nat.zero_le _, ?_⟩
        rw [ht]
        exact hk
  · exact h.elim
def sp_pure_in : SpD := fun xs ms Ks => match xs, ms with
  | [.da x, .da y], [] => ∃ am ss : List Int, x = .list (am.map .int) ∧ y = .list (ss.map .int) ∧ am.length = ss.length ∧ am.length ≤ 8 ∧ (∀ a ∈ am, a.natAbs < 2 ^ 4000) ∧ (∀ a ∈ ss, a.natAbs < 2 ^ 4000) ∧ Ks [] (.da (.int (pin am ss)))
  | _, _ => False
theorem ok_pure_in (T : Tx K mg)  : Ok P w K mg base 1 "pure_in" s_pure_in ["amounts", "strengths"] 2 sp_pure_in := by
  refine ok_data (n0 := 2) T.d_pure_in sc_pure_in _ (fun f cdv A outer s H E hr =>
  (dss_one (ds_ret (de_sum rfl (by rfl) (T.b_sum) (de_lc [("amount", 2), ("strength", 3)] rfl sc_pure_in.nd (di_zipA2 (by rfl) (T.b_zip) (da_cons (dv 0) (da_cons (dv 1) da_nil))) (BlkOk.mk (N := ["amounts", "strengths", "amount", "strength"]) (sc := defScope s_pure_in) rfl (by decide +kernel) (by decide +kernel) (by decide +kernel) (by decide +kernel)) (by decide) (fun _ _ _ _ _ => (dg_tup (n := 2) rfl (dgs_cons (dg_name (i := 2) sc_pure_in.nd rfl (by first | exact .inl rfl | exact .inr rfl)) (dgs_cons (dg_name (i := 3) sc_pure_in.nd rfl (by first | exact .inl rfl | exact .inr rfl)) dgs_nil)))) (fun _ _ _ _ _ => dts_nil) (fun _ _ _ _ _ => (de_mul (dv 2) (dv 3)))))))) (fun xs ms Ks h hl => ?_)
  unfold sp_pure_in at h
  split at h
  · rename_i x y
    obtain ⟨am, ss, rfl, rfl, hl, h8, ha, hs, hk⟩ := h
    refine ⟨fun (i : Nat) (mo : List MO) (acc : List D) => mo = [] ∧ acc = (((am.zip ss).take i).map fun z => z.1 * z.2).map .int, ⟨rfl, rfl⟩, ?_, ?_⟩
    · rintro i e mo acc hi ⟨rfl, rfl⟩ _
      obtain ⟨d1, d2, g1, g2, rfl⟩ := zipD_get hi
      obtain ⟨a, ha1, rfl⟩ := map_get g1
      obtain ⟨b, hb1, rfl⟩ := map_get g2
      have hz : (am.zip ss)[i]? = some (a, b) := List.getElem?_zip_eq_some.mpr ⟨ha1, hb1⟩
      have hi2 : i < 8 := by have := (List.getElem?_eq_some_iff.mp ha1).1; omega
      refine ⟨rfl, tt ?_⟩
      try dsimp only [DL.S.sE, DL.S.sM, DL.S.aM, DL.S.cM, DL.st, DL.gt, DL.sm, DL.gm, DL.putM, DL.pick, DL.muks, DL.nthN, DL.bkE, DL.st0, DL.nos, List.cons_append, List.nil_append, List.append_nil, List.drop_succ_cons, List.drop_nil, List.drop_zero, List.drop, DL.a1, DL.a2, DL.a3, DL.cMin3, DL.aNil, DL.aCons, DL.dVar, DL.dC, DL.iI, DL.i1, DL.isB, DL.daI, DL.onE, DL.gN, List.length_cons, List.length_nil, Nat.reduceAdd, Nat.zero_add]
      refine ⟨mulA 4000 4000 (ha a (List.mem_of_getElem? ha1)) (hs b (List.mem_of_getElem? hb1)), ?_⟩
      refine ⟨by rw [List.length_map, List.length_map, List.length_take]; exact sz (by omega), rfl, rfl, ?_⟩
      rw [take_snoc hz, List.map_append, List.map_append]
      rfl
    · rintro mo acc ⟨rfl, rfl⟩ _
      have e : (zipD (am.map PyData.int) (ss.map PyData.int)).length = (am.zip ss).length := by
        rw [zipD_length, List.length_map, List.length_map, List.length_zip]
      rw [e, List.take_length]
      refine ⟨_, rfl, ?_⟩
      exact hk
  · exact h.elim
def sp_low : SpD := fun xs ms Ks => match xs, ms with
  | [.da (.int over), .da (.int under)], [] => 0 < under ∧ under.natAbs < 2 ^ 8000 ∧ Ks [] (.da (qD ((over : Rat) / (under : Rat))))
  | _, _ => False
theorem ok_low (T : Tx K mg)  : Ok P w K mg base 1 "_law_low" s_low ["_law_over", "_law_under"] 2 sp_low := by
  refine ok_data (n0 := 2) T.d_low sc_low _ (fun f cdv A outer s H E hr =>
  (dss_cons (ds_par (i := 2) (j := 3) rfl sc_low.nd rfl rfl (by decide) rfl rfl (da_cons (de_abs (by rfl) (T.b_abs) (dv 0)) (da_cons (dv 1) da_nil)) rfl)
  (dss_cons (ds_while [] 0 PassesOwn.never (dt_gt (dv 3) de_int)
    (dss_one (ds_par (i := 2) (j := 3) rfl sc_low.nd rfl rfl (by decide) rfl rfl (da_cons (dv 3) (da_cons (de_mod (dv 2) (dv 3)) da_nil)) rfl)))
  (dss_one (ds_ret (de_tup (dan_cons (de_div (dv 0) (dv 2)) (dan_cons (de_div (dv 1) (dv 2)) dan_nil)))))))) (fun xs ms Ks h hl => ?_)
  unfold sp_low at h
  split at h
  · rename_i over under
    obtain ⟨h0, h1, hk⟩ := h
    refine ⟨fun s => ∃ n m : Nat, s = ⟨[.da (.int over), .da (.int under), .da (.int n), .da (.int m)], [], 0⟩ ∧ Nat.gcd n m = Int.gcd over under, fun s => match gt s.es 3 with | .da (.int m) => m.toNat | _ => 0, ⟨Nat.zero_le _, over.natAbs, under.natAbs, ?_, rfl⟩, ?_⟩
    · rw [show ((under.natAbs : Nat) : Int) = under by omega]
      rfl
    · rintro s ⟨n, m, rfl, hg⟩
      refine bS (fun hn => ?_) fun hn => ?_
      · refine ⟨(by show (0 : Int) < m; omega), Nat.zero_le _, ⟨m, n % m, rfl, ?_⟩, ?_⟩
        · rw [← hg, Nat.gcd_comm n m, Nat.gcd_rec m n, Nat.gcd_comm]
        · show ((n : Int) % (m : Int)).toNat < (m : Int).toNat
          have h1 := Int.emod_lt_of_pos (n : Int) (show (0 : Int) < m by omega)
          have h2 := Int.emod_nonneg (n : Int) (show (m : Int) ≠ 0 by omega)
          omega
      · have : m = 0 := by omega
        subst this
        rw [Nat.gcd_zero_right] at hg
        have g0 : 0 < Int.gcd over under := Int.gcd_pos_of_ne_zero_right _ (by omega)
        have g1 : Int.gcd over under ≤ under.natAbs := Nat.le_of_dvd (by omega) (Nat.gcd_dvd_right _ _)
        have L := low_mk h0 (rfl : over * under = over * under)
        obtain ⟨q1, q2⟩ := quot_of (show under ≠ 0 by omega) L.1 L.2.1 L.2.2
        unfold qD at hk
        rw [← q1, ← q2] at hk
        rw [hg]
        generalize Int.gcd over under = G at *
        exact ⟨divA 8000 (by omega) (by omega), divA 8000 (by omega) (by omega), hk⟩
  · exact h.elim
def sp_less : SpD := fun xs ms Ks => match xs, ms with
  | [.da x, .da y], [] => ∃ a b : Rat, x = qD a ∧ y = qD b ∧ Fr 8000 a ∧ Fr 8000 b ∧ Ks [] (.da (.bool (decide (a < b))))
  | _, _ => False
theorem ok_less (T : Tx K mg)  : Ok P w K mg base 1 "_law_less" s_less ["_law_one", "_law_other"] 2 sp_less := by
  refine ok_data (n0 := 0) T.d_less sc_less _ (fun f cdv A outer s H E hr =>
  (dss_one (ds_ret (de_lt (de_mul (de_ix (dv 0) de_int) (de_ix (dv 1) de_int)) (de_mul (de_ix (dv 1) de_int) (de_ix (dv 0) de_int)))))) (fun xs ms Ks h hl => ?_)
  unfold sp_less at h
  split at h
  · rename_i x y
    obtain ⟨a, b, rfl, rfl, ha, hb, hk⟩ := h
    refine ⟨_, rfl, _, rfl, mulA 8000 8000 ha.n (by rw [na_den]; exact hb.d), _, rfl, _, rfl, mulA 8000 8000 hb.n (by rw [na_den]; exact ha.d), ?_⟩
    show Ks [] (.da (.bool (decide (a.num * (b.den : Int) < b.num * (a.den : Int)))))
    rw [lt_pairs]
    exact hk
  · exact h.elim
def sp_lowest : SpD := fun xs ms Ks => match xs, ms with
  | [.da (.int over), .da (.int under)], [] => under ≠ 0 ∧ under.natAbs < 2 ^ 8000 ∧ Ks [] (.da (qD ((over : Rat) / (under : Rat))))
  | _, _ => False
theorem ok_lowest (T : Tx K mg) (o_common : Ok P w K mg base 1 "common" s_common ["one", "other"] 2 sp_common) : Ok P w K mg base 2 "lowest" s_lowest ["over", "under"] 2 sp_lowest := by
  refine ok_data (n0 := 1) T.d_lowest sc_lowest _ (fun f cdv A outer s H E hr =>
  (dss_cut [2] 0 (ds_if (dt_lt (dv 1) de_int)
    (dss_one (ds_par (i := 0) (j := 1) rfl sc_lowest.nd rfl rfl (by decide) rfl rfl (da_cons (de_neg (dv 0)) (da_cons (de_neg (dv 1)) da_nil)) rfl))
    dss_nil)
  (dss_cons (ds_set (i := 2) sc_lowest.nd rfl (by first | exact .inl rfl | exact .inr rfl) (de_callV o_common (hr.mono (by omega)) (by rfl) (dan_cons (de_abs (by rfl) (T.b_abs) (dv 0)) (dan_cons (dv 1) dan_nil))))
  (dss_one (ds_ret (de_tup (dan_cons (de_div (dv 0) (dv 2)) (dan_cons (de_div (dv 1) (dv 2)) dan_nil)))))))) (fun xs ms Ks h hl => ?_)
  unfold sp_lowest at h
  split at h
  · rename_i over under
    obtain ⟨h0, h1, hk⟩ := h
    refine ⟨fun s => ∃ o u : Int, s = ⟨[.da (.int o), .da (.int u), .no], [], 0⟩ ∧ 0 < u ∧ o * under = over * u ∧ o.natAbs = over.natAbs ∧ u.natAbs = under.natAbs, ?_, ?_⟩
    · refine bS (fun c => ?_) fun c => ?_
      · exact ⟨Nat.zero_le _, -over, -under, rfl, by omega, by rw [Int.neg_mul, Int.mul_neg], by omega, by omega⟩
      · exact ⟨Nat.zero_le _, over, under, rfl, by omega, rfl, rfl, rfl⟩
    rintro s ⟨o, u, rfl, u0, e, ho, hu⟩
    refine ⟨List.nodup_nil, rfl, by omega, by omega, rfl, ?_⟩
    try dsimp only [DL.S.sE, DL.S.sM, DL.S.aM, DL.S.cM, DL.st, DL.gt, DL.sm, DL.gm, DL.putM, DL.pick, DL.muks, DL.nthN, DL.bkE, DL.st0, DL.nos, List.cons_append, List.nil_append, List.append_nil, List.drop_succ_cons, List.drop_nil, List.drop_zero, List.drop, DL.a1, DL.a2, DL.a3, DL.cMin3, DL.aNil, DL.aCons, DL.dVar, DL.dC, DL.iI, DL.i1, DL.isB, DL.daI, DL.onE, DL.gN, List.length_cons, List.length_nil, Nat.reduceAdd, Nat.zero_add]
    have g0 : 0 < Int.gcd o u := Int.gcd_pos_of_ne_zero_right _ (by omega)
    have g1 : Int.gcd o u ≤ u.natAbs := Nat.le_of_dvd (by omega) (Nat.gcd_dvd_right _ _)
    have ge : Int.gcd ((o.natAbs : Nat) : Int) u = Int.gcd o u := rfl
    have L := low_mk u0 e
    obtain ⟨q1, q2⟩ := quot_of h0 L.1 L.2.1 L.2.2
    unfold qD at hk
    rw [← q1, ← q2] at hk
    rw [ge]
    generalize Int.gcd o u = G at *
    exact ⟨divA 8000 (by omega) (by omega), divA 8000 (by omega) (by omega), hk⟩
  · exact h.elim
def sp_plus : SpD := fun xs ms Ks => match xs, ms with
  | [.da x, .da y], [] => ∃ a b : Rat, x = qD a ∧ y = qD b ∧ Fr 4000 a ∧ Fr 3999 b ∧ Ks [] (.da (qD (a + b)))
  | _, _ => False
theorem ok_plus (T : Tx K mg) (o_low : Ok P w K mg base 1 "_law_low" s_low ["_law_over", "_law_under"] 2 sp_low) : Ok P w K mg base 2 "_law_plus" s_plus ["_law_one", "_law_other"] 2 sp_plus := by
  refine ok_data (n0 := 0) T.d_plus sc_plus _ (fun f cdv A outer s H E hr =>
  (dss_one (ds_ret (de_callV o_low (hr.mono (by omega)) (by rfl) (dan_cons (de_add (de_mul (de_ix (dv 0) de_int) (de_ix (dv 1) de_int)) (de_mul (de_ix (dv 1) de_int) (de_ix (dv 0) de_int))) (dan_cons (de_mul (de_ix (dv 0) de_int) (de_ix (dv 1) de_int)) dan_nil)))))) (fun xs ms Ks h hl => ?_)
  unfold sp_plus at h
  split at h
  · rename_i x y
    obtain ⟨a, b, rfl, rfl, ha, hb, hk⟩ := h
    have d1 := na_den a
    have d2 := na_den b
    have p1 := den_pos a
    have p2 := den_pos b
    have w := mul_na (a := (a.den : Int)) (b := (b.den : Int)) (x := 4000) (y := 3999) (by rw [d1]; exact ha.d) (by rw [d2]; exact hb.d)
    have p0 : 0 < (a.den : Int) * (b.den : Int) := Int.mul_pos p1 p2
    refine ⟨_, rfl, _, rfl, mulA 4000 3999 ha.n (by rw [d2]; exact hb.d), _, rfl, _, rfl, mulA 3999 4000 hb.n (by rw [d1]; exact ha.d), _, rfl, _, rfl, mulA 4000 3999 (by rw [d1]; exact ha.d) (by rw [d2]; exact hb.d), ?_⟩
    refine ⟨List.nodup_nil, rfl, p0, Nat.lt_of_lt_of_le w (Nat.pow_le_pow_right (by decide) (by decide)), rfl, ?_⟩
    rw [plus_pairs]
    exact hk
  · exact h.elim
def sp_great : SpD := fun xs ms Ks => match xs, ms with
  | [.mu 0], [.rnd n] => 4 ≤ n ∧ ∀ m x, n ≤ m + 4 → 0 ≤ x → x < 10 ^ 30 → Ks [.rnd m] (.da (.int x))
  | _, _ => False
theorem ok_great (T : Tx K mg) (o_take : Ok P w K mg base 1 "_law_take" s_take ["_law_state", "_law_many"] 2 spTake) : Ok P w K mg base 2 "_law_great" s_great ["_law_state"] 1 sp_great := by
  refine ok_data (n0 := 2) T.d_great sc_great _ (fun f cdv A outer s H E hr =>
  (dss_cons (ds_setLc (i := 1) [("_law_turn", 2)] rfl sc_great.nd rfl rfl rfl (di_range1 (by rfl) (T.b_range) (da_cons de_int da_nil)) (BlkOk.mk (N := ["_law_state", "_law_parts", "_law_turn"]) (sc := defScope s_great) rfl (by decide +kernel) (by decide +kernel) (by decide +kernel) (by decide +kernel)) (by decide) (fun _ _ _ _ _ => (dg_name (i := 2) sc_great.nd rfl (by first | exact .inl rfl | exact .inr rfl))) (fun _ _ _ _ _ => dts_nil) (fun _ _ _ _ _ => (de_callV o_take (hr.mono (by omega)) (by rfl) (dan_cons (dv 0) (dan_cons (de_pow de_int de_int) dan_nil)))))
  (dss_one (ds_ret (de_ix (de_lst (dan_cons (de_mod (de_ix (dv 1) de_int) de_int) (dan_cons (de_mod (de_ix (dv 1) de_int) de_int) (dan_cons (de_add (de_add (de_mul (de_ix (dv 1) de_int) (de_pow de_int de_int)) (de_mul (de_ix (dv 1) de_int) (de_pow de_int de_int))) (de_ix (dv 1) de_int)) dan_nil)))) (de_callV o_take (hr.mono (by omega)) (by rfl) (dan_cons (dv 0) (dan_cons de_int dan_nil)))))))) (fun xs ms Ks h hl => ?_)
  unfold sp_great at h
  split at h
  · rename_i n
    obtain ⟨h1, hk⟩ := h
    refine ⟨by decide, by decide, fun (i : Nat) (mo : List MO) (acc : List D) => ∃ (m : Nat) (ps : List Int), mo = [.rnd m] ∧ acc = ps.map .int ∧ n ≤ m + i ∧ ps.length = i ∧ ∀ p ∈ ps, 0 ≤ p ∧ p < 10 ^ 10, ⟨n, [], rfl, rfl, by omega, rfl, fun _ h => nomatch h⟩, ?_, ?_⟩
    · rintro i d mo acc hi ⟨m, ps, rfl, rfl, hm, hl, hp⟩ _
      have hi3 : i < 3 := by
        have := (List.getElem?_eq_some_iff.mp hi).1
        rw [rng_length] at this
        omega
      refine tt ?_
      refine ⟨pw10 (by decide) (by decide), nd1, rfl, by omega, divA 34 (by decide) (by decide), fun e e0 e1 => ⟨rfl, ?_⟩⟩
      try dsimp only [DL.S.sE, DL.S.sM, DL.S.aM, DL.S.cM, DL.st, DL.gt, DL.sm, DL.gm, DL.putM, DL.pick, DL.muks, DL.nthN, DL.bkE, DL.st0, DL.nos, List.cons_append, List.nil_append, List.append_nil, List.drop_succ_cons, List.drop_nil, List.drop_zero, List.drop, DL.a1, DL.a2, DL.a3, DL.cMin3, DL.aNil, DL.aCons, DL.dVar, DL.dC, DL.iI, DL.i1, DL.isB, DL.daI, DL.onE, DL.gN, List.length_cons, List.length_nil, Nat.reduceAdd, Nat.zero_add]
      refine ⟨by rw [List.length_map]; exact sz (by omega), rfl, m - 1, ps ++ [e], rfl, by rw [List.map_append]; rfl, by omega, by rw [List.length_append, hl]; rfl, fun p hp' => ?_⟩
      rcases List.mem_append.mp hp' with z | z
      · exact hp p z
      · rw [List.mem_singleton.mp z]; exact ⟨e0, e1⟩
    · rintro mo acc ⟨m, ps, rfl, rfl, hm, hl, hp⟩ _
      match ps, hl, hp with
      | [a, b, c], hl, hp =>
        have ha := hp a (by simp)
        have hb := hp b (by simp)
        have hc := hp c (by simp)
        have h3 : [a, b, c].length = 3 := rfl
        have w0 : 0 ≤ a * 10 ^ 20 + b * 10 ^ 10 + c := by omega
        have w1 : a * 10 ^ 20 + b * 10 ^ 10 + c < 10 ^ 30 := by omega
        try dsimp only [DL.S.sE, DL.S.sM, DL.S.aM, DL.S.cM, DL.st, DL.gt, DL.sm, DL.gm, DL.putM, DL.pick, DL.muks, DL.nthN, DL.bkE, DL.st0, DL.nos, List.cons_append, List.nil_append, List.append_nil, List.drop_succ_cons, List.drop_nil, List.drop_zero, List.drop, DL.a1, DL.a2, DL.a3, DL.cMin3, DL.aNil, DL.aCons, DL.dVar, DL.dC, DL.iI, DL.i1, DL.isB, DL.daI, DL.onE, DL.gN, List.length_cons, List.length_nil, Nat.reduceAdd, Nat.zero_add]
        refine ⟨_, rfl, by decide, _, rfl, by decide, _, rfl, pw10 (by decide) (by decide), mulA 34 67 (by omega) (by decide), _, rfl, pw10 (by decide) (by decide), mulA 34 34 (by omega) (by decide), _, rfl, nd1, rfl, by omega, divA 3 (by decide) (by decide), fun t t0 t1 => ⟨rfl, ?_⟩⟩
        try dsimp only [DL.S.sE, DL.S.sM, DL.S.aM, DL.S.cM, DL.st, DL.gt, DL.sm, DL.gm, DL.putM, DL.pick, DL.muks, DL.nthN, DL.bkE, DL.st0, DL.nos, List.cons_append, List.nil_append, List.append_nil, List.drop_succ_cons, List.drop_nil, List.drop_zero, List.drop, DL.a1, DL.a2, DL.a3, DL.cMin3, DL.aNil, DL.aCons, DL.dVar, DL.dC, DL.iI, DL.i1, DL.isB, DL.daI, DL.onE, DL.gN, List.length_cons, List.length_nil, Nat.reduceAdd, Nat.zero_add]
        obtain rfl | rfl | rfl : t = 0 ∨ t = 1 ∨ t = 2 := by omega
        · exact ⟨_, rfl, hk _ _ (by omega) (by omega) (by omega)⟩
        · exact ⟨_, rfl, hk _ _ (by omega) (by omega) (by omega)⟩
        · exact ⟨_, rfl, hk _ _ (by omega) w0 w1⟩
  · exact h.elim
theorem kind_at {a b c : Int} {k : Int} (k0 : 0 ≤ k) (k1 : k < 8) : ∃ x, atI [PyData.int a, PyData.int b, PyData.int c] (max 0 (k - 5)) = some (.int x) ∧ (x = a ∨ x = b ∨ x = c) := by
  obtain e | e | e : max 0 (k - 5) = 0 ∨ max 0 (k - 5) = 1 ∨ max 0 (k - 5) = 2 := by omega
  · rw [e]; exact ⟨_, rfl, .inl rfl⟩
  · rw [e]; exact ⟨_, rfl, .inr (.inl rfl)⟩
  · rw [e]; exact ⟨_, rfl, .inr (.inr rfl)⟩
def sp_cask : SpD := fun xs ms Ks => match xs, ms with
  | [.mu 0, y], .rnd n :: r => ∃ (cs : List Ck) (B : Int), (y = .da (.list (cs.map ckD)) ∧ r = [] ∨ y = .mu 1 ∧ r = [.lst (cs.map ckD)]) ∧ cs.length ≤ 8 ∧ 1 ≤ B ∧ B ≤ 5 ^ 8 ∧ (∀ c ∈ cs, CkG B c) ∧ 20 ≤ n ∧ ∀ m c, n ≤ m + 20 → CkG (B * 5) c → Ks (.rnd m :: r) (.da (ckD c))
  | _, _ => False
theorem ok_cask (T : Tx K mg) (o_great : Ok P w K mg base 2 "_law_great" s_great ["_law_state"] 1 sp_great) (o_take : Ok P w K mg base 1 "_law_take" s_take ["_law_state", "_law_many"] 2 spTake) : Ok P w K mg base 3 "_law_cask" s_cask ["_law_state", "_law_like"] 2 sp_cask := by
  refine ok_data (n0 := 6) T.d_cask sc_cask _ (fun f cdv A outer s H E hr =>
  (dss_cons (ds_par3 (i := 2) (j := 3) (l := 4) rfl sc_cask.nd rfl rfl rfl (by decide) (by decide) (by decide) rfl rfl rfl (da_cons (de_callV o_great (hr.mono (by omega)) (by rfl) (dan_cons (dv 0) dan_nil)) (da_cons (de_add de_int (de_callV o_great (hr.mono (by omega)) (by rfl) (dan_cons (dv 0) dan_nil))) (da_cons (de_callV o_take (hr.mono (by omega)) (by rfl) (dan_cons (dv 0) (dan_cons de_int dan_nil))) da_nil))) rfl)
  (dss_cons (ds_set (i := 5) sc_cask.nd rfl (by first | exact .inl rfl | exact .inr rfl) (de_ix (de_lst (dan_cons de_int (dan_cons (de_mul de_int (dv 3)) (dan_cons (de_mod (de_callV o_great (hr.mono (by omega)) (by rfl) (dan_cons (dv 0) dan_nil)) (de_add (de_mul de_int (dv 3)) de_int)) dan_nil)))) (de_max rfl (by rfl) (T.b_max) de_int (de_sub (dv 4) de_int))))
  (dss_cut [6, 7] 2 (ds_if (dt_lt (dv 4) de_int)
    (dss_one (ds_set (i := 5) sc_cask.nd rfl (by first | exact .inl rfl | exact .inr rfl) (de_mul (dv 3) (de_callV o_take (hr.mono (by omega)) (by rfl) (dan_cons (dv 0) (dan_cons de_int dan_nil))))))
    dss_nil)
  (dss_cons (ds_if (dt_bool (dw_and (dt_lt (dv 4) de_int) (dw_and1 (dt_neD (hu64 hr) (dv 1) (de_lst dan_nil)))))
    (dss_cons (ds_set (i := 6) sc_cask.nd rfl (by first | exact .inl rfl | exact .inr rfl) (de_ix (dv 1) (de_callV o_take (hr.mono (by omega)) (by rfl) (dan_cons (dv 0) (dan_cons (de_len (x := "") (by rfl) (T.b_len) (dv 1)) dan_nil)))))
    (dss_cons (ds_set (i := 7) sc_cask.nd rfl (by first | exact .inl rfl | exact .inr rfl) (de_add de_int (de_callV o_take (hr.mono (by omega)) (by rfl) (dan_cons (dv 0) (dan_cons de_int dan_nil)))))
    (dss_one (ds_ret (de_tup (dan_cons (de_add (de_ix (dv 6) de_int) (de_callV o_take (hr.mono (by omega)) (by rfl) (dan_cons (dv 0) (dan_cons de_int dan_nil)))) (dan_cons (de_mul (de_ix (dv 6) de_int) (dv 7)) (dan_cons (de_mul (de_ix (dv 6) de_int) (dv 7)) dan_nil))))))))
    dss_nil)
  (dss_one (ds_ret (de_tup (dan_cons (de_if (dt_bool (dw_or (dt_neS (dv 4) de_int) (dw_or1 (dt_eqD (hu64 hr) (dv 1) (de_lst dan_nil))))) (dv 2) (de_ix (de_ix (dv 1) de_int) de_int)) (dan_cons (dv 3) (dan_cons (dv 5) dan_nil))))))))))) (fun xs ms Ks h hl => ?_)
  unfold sp_cask at h
  split at h
  · rename_i y n r
    obtain ⟨cs, B, hy, hl, hB0, hB1, hcs, h1, hk⟩ := h
    have sh1 := cks_sh (cs := cs) (by omega)
    have sh0 := cks_sh (cs := []) (by decide)
    rcases hy with ⟨rfl, rfl⟩ | ⟨rfl, rfl⟩
    · refine ⟨nd1, rfl, by omega, fun n1 price e1 p0 p1 => ⟨rfl, ?_⟩⟩
      try dsimp only [DL.S.sE, DL.S.sM, DL.S.aM, DL.S.cM, DL.st, DL.gt, DL.sm, DL.gm, DL.putM, DL.pick, DL.muks, DL.nthN, DL.bkE, DL.st0, DL.nos, List.cons_append, List.nil_append, List.append_nil, List.drop_succ_cons, List.drop_nil, List.drop_zero, List.drop, DL.a1, DL.a2, DL.a3, DL.cMin3, DL.aNil, DL.aCons, DL.dVar, DL.dC, DL.iI, DL.i1, DL.isB, DL.daI, DL.onE, DL.gN, List.length_cons, List.length_nil, Nat.reduceAdd, Nat.zero_add]
      refine ⟨nd1, rfl, by omega, fun n2 g e2 g0 g1 => ⟨rfl, ?_⟩⟩
      try dsimp only [DL.S.sE, DL.S.sM, DL.S.aM, DL.S.cM, DL.st, DL.gt, DL.sm, DL.gm, DL.putM, DL.pick, DL.muks, DL.nthN, DL.bkE, DL.st0, DL.nos, List.cons_append, List.nil_append, List.append_nil, List.drop_succ_cons, List.drop_nil, List.drop_zero, List.drop, DL.a1, DL.a2, DL.a3, DL.cMin3, DL.aNil, DL.aCons, DL.dVar, DL.dC, DL.iI, DL.i1, DL.isB, DL.daI, DL.onE, DL.gN, List.length_cons, List.length_nil, Nat.reduceAdd, Nat.zero_add]
      refine ⟨nd1, rfl, by omega, divA 4 (by decide) (by decide), fun kind k0 k1 => ⟨rfl, ?_⟩⟩
      try dsimp only [DL.S.sE, DL.S.sM, DL.S.aM, DL.S.cM, DL.st, DL.gt, DL.sm, DL.gm, DL.putM, DL.pick, DL.muks, DL.nthN, DL.bkE, DL.st0, DL.nos, List.cons_append, List.nil_append, List.append_nil, List.drop_succ_cons, List.drop_nil, List.drop_zero, List.drop, DL.a1, DL.a2, DL.a3, DL.cMin3, DL.aNil, DL.aCons, DL.dVar, DL.dC, DL.iI, DL.i1, DL.isB, DL.daI, DL.onE, DL.gN, List.length_cons, List.length_nil, Nat.reduceAdd, Nat.zero_add]
      refine ⟨mulA 14 100 (by decide) (by omega), nd1, rfl, by omega, fun n3 v e3 v0 v1 => ⟨rfl, ?_⟩⟩
      try dsimp only [DL.S.sE, DL.S.sM, DL.S.aM, DL.S.cM, DL.st, DL.gt, DL.sm, DL.gm, DL.putM, DL.pick, DL.muks, DL.nthN, DL.bkE, DL.st0, DL.nos, List.cons_append, List.nil_append, List.append_nil, List.drop_succ_cons, List.drop_nil, List.drop_zero, List.drop, DL.a1, DL.a2, DL.a3, DL.cMin3, DL.aNil, DL.aCons, DL.dVar, DL.dC, DL.iI, DL.i1, DL.isB, DL.daI, DL.onE, DL.gN, List.length_cons, List.length_nil, Nat.reduceAdd, Nat.zero_add]
      refine ⟨mulA 14 100 (by decide) (by omega), by omega, ?_⟩
      have m0 := Int.emod_nonneg v (show 10000 * (1 + g) + 1 ≠ 0 by omega)
      have m1 := Int.emod_lt_of_pos v (show 0 < 10000 * (1 + g) + 1 by omega)
      obtain ⟨x, hx, hx2⟩ := kind_at (a := 0) (b := 10000 * (1 + g)) (c := v % (10000 * (1 + g) + 1)) k0 k1
      have x0 : 0 ≤ x := by omega
      have x1 : x ≤ 10000 * (1 + g) := by omega
      refine ⟨_, hx, ?_⟩
      try dsimp only [DL.S.sE, DL.S.sM, DL.S.aM, DL.S.cM, DL.st, DL.gt, DL.sm, DL.gm, DL.putM, DL.pick, DL.muks, DL.nthN, DL.bkE, DL.st0, DL.nos, List.cons_append, List.nil_append, List.append_nil, List.drop_succ_cons, List.drop_nil, List.drop_zero, List.drop, DL.a1, DL.a2, DL.a3, DL.cMin3, DL.aNil, DL.aCons, DL.dVar, DL.dC, DL.iI, DL.i1, DL.isB, DL.daI, DL.onE, DL.gN, List.length_cons, List.length_nil, Nat.reduceAdd, Nat.zero_add]
      refine ⟨fun s => ∃ (n4 : Nat) (x : Int), s = ⟨[.mu 0, .da (.list (cs.map ckD)), .da (.int price), .da (.int (1 + g)), .da (.int kind), .da (.int x), .no, .no], [.rnd n4], 1⟩ ∧ n3 ≤ n4 + 1 ∧ 0 ≤ x ∧ x ≤ 10000 * (1 + g), ?_, ?_⟩
      · refine bS (fun q => ?_) fun q => ?_
        · refine ⟨nd1, rfl, by omega, divA 14 (by decide) (by decide), fun u u0 u1 => ⟨rfl, ?_⟩⟩
          try dsimp only [DL.S.sE, DL.S.sM, DL.S.aM, DL.S.cM, DL.st, DL.gt, DL.sm, DL.gm, DL.putM, DL.pick, DL.muks, DL.nthN, DL.bkE, DL.st0, DL.nos, List.cons_append, List.nil_append, List.append_nil, List.drop_succ_cons, List.drop_nil, List.drop_zero, List.drop, DL.a1, DL.a2, DL.a3, DL.cMin3, DL.aNil, DL.aCons, DL.dVar, DL.dC, DL.iI, DL.i1, DL.isB, DL.daI, DL.onE, DL.gN, List.length_cons, List.length_nil, Nat.reduceAdd, Nat.zero_add]
          refine ⟨mulA 100 14 (by omega) (by omega), (by show 1 ≤ 2; decide), n3 - 1, (1 + g) * u, rfl, by omega, Int.mul_nonneg (by omega) u0, ?_⟩
          rw [Int.mul_comm 10000]
          exact Int.mul_le_mul_of_nonneg_left (by omega) (by omega)
        · exact ⟨(by show 1 ≤ 2; decide), n3, x, rfl, by omega, x0, x1⟩
      rintro s ⟨n4, x, rfl, hn4, x0, x1⟩
      have hB : 10 ^ 30 ≤ B * 10 ^ 30 := by omega
      have fin : ∀ p : Int, 0 ≤ p → p < 10 ^ 30 + B → CkG (B * 5) (p, 1 + g, x) := fun p p0 p1 => ⟨p0, by show p < _; omega, by show 1 ≤ 1 + g; omega, by show 1 + g ≤ B * 5 * 10 ^ 30; omega, x0, x1⟩
      have elseW : ∀ (n5 : Nat), n ≤ n5 + 20 → sRet (dTup (aCons (dIf (DL.tOr (tT (dNeS (dVar 4) (dC (PyData.int 4)))) (tT (dEqD (dVar 1) (dLst aNil)))) (dVar 2) (dIx (dIx (dVar 1) (dC (PyData.int 0))) (dC (PyData.int 0)))) (aCons (dVar 3) (aCons (dVar 5) aNil)))) ⟨[.mu 0, .da (.list (cs.map ckD)), .da (.int price), .da (.int (1 + g)), .da (.int kind), .da (.int x), .no, .no], [.rnd n5], 1⟩ (endD Ks) := fun n5 h5 => by
        have one : Ks [.rnd n5] (.da (ckD (price, 1 + g, x))) := hk n5 _ h5 (fin _ p0 (by omega))
        refine nS (fun q => ?_) fun q => ?_
        · refine tt ?_
          exact one
        · refine ⟨sh1, sh0, ?_⟩
          cases cs with
          | nil => exact tt one
          | cons c0 r0 =>
            refine ff ?_
            have hc := hcs c0 List.mem_cons_self
            exact ⟨ckD c0, at_map (f := ckD) (l := c0 :: r0) (k := 0) rfl, _, rfl, hk n5 (c0.1, 1 + g, x) h5 (fin _ hc.p0 hc.p1)⟩
      refine bS (fun q => ?_) fun q => ?_
      · refine ⟨sh1, sh0, ?_⟩
        cases cs with
        | nil => exact xnF rfl (elseW _ (by omega))
        | cons c0 r0 =>
          refine xnT rfl ?_
          have hml : (((c0 :: r0).map ckD).length : Int) = (c0 :: r0).length := by rw [List.length_map]
          have hpos : 0 < (c0 :: r0).length := by rw [List.length_cons]; omega
          refine ⟨nd1, rfl, by omega, divA 8 (by omega) (by omega), fun u u0 u1 => ⟨rfl, ?_⟩⟩
          rw [hml] at u1
          try dsimp only [DL.S.sE, DL.S.sM, DL.S.aM, DL.S.cM, DL.st, DL.gt, DL.sm, DL.gm, DL.putM, DL.pick, DL.muks, DL.nthN, DL.bkE, DL.st0, DL.nos, List.cons_append, List.nil_append, List.append_nil, List.drop_succ_cons, List.drop_nil, List.drop_zero, List.drop, DL.a1, DL.a2, DL.a3, DL.cMin3, DL.aNil, DL.aCons, DL.dVar, DL.dC, DL.iI, DL.i1, DL.isB, DL.daI, DL.onE, DL.gN, List.length_cons, List.length_nil, Nat.reduceAdd, Nat.zero_add]
          obtain ⟨o, ho, hat⟩ := ck_at u0 u1
          have hc := hcs o ho
          refine ⟨_, hat, ?_⟩
          try dsimp only [DL.S.sE, DL.S.sM, DL.S.aM, DL.S.cM, DL.st, DL.gt, DL.sm, DL.gm, DL.putM, DL.pick, DL.muks, DL.nthN, DL.bkE, DL.st0, DL.nos, List.cons_append, List.nil_append, List.append_nil, List.drop_succ_cons, List.drop_nil, List.drop_zero, List.drop, DL.a1, DL.a2, DL.a3, DL.cMin3, DL.aNil, DL.aCons, DL.dVar, DL.dC, DL.iI, DL.i1, DL.isB, DL.daI, DL.onE, DL.gN, List.length_cons, List.length_nil, Nat.reduceAdd, Nat.zero_add]
          refine ⟨nd1, rfl, by omega, divA 3 (by decide) (by decide), fun w w0 w1 => ⟨rfl, ?_⟩⟩
          try dsimp only [DL.S.sE, DL.S.sM, DL.S.aM, DL.S.cM, DL.st, DL.gt, DL.sm, DL.gm, DL.putM, DL.pick, DL.muks, DL.nthN, DL.bkE, DL.st0, DL.nos, List.cons_append, List.nil_append, List.append_nil, List.drop_succ_cons, List.drop_nil, List.drop_zero, List.drop, DL.a1, DL.a2, DL.a3, DL.cMin3, DL.aNil, DL.aCons, DL.dVar, DL.dC, DL.iI, DL.i1, DL.isB, DL.daI, DL.onE, DL.gN, List.length_cons, List.length_nil, Nat.reduceAdd, Nat.zero_add]
          refine ⟨_, rfl, nd1, rfl, by omega, divA 2 (by decide) (by decide), fun z z0 z1 => ⟨rfl, ?_⟩⟩
          try dsimp only [DL.S.sE, DL.S.sM, DL.S.aM, DL.S.cM, DL.st, DL.gt, DL.sm, DL.gm, DL.putM, DL.pick, DL.muks, DL.nthN, DL.bkE, DL.st0, DL.nos, List.cons_append, List.nil_append, List.append_nil, List.drop_succ_cons, List.drop_nil, List.drop_zero, List.drop, DL.a1, DL.a2, DL.a3, DL.cMin3, DL.aNil, DL.aCons, DL.dVar, DL.dC, DL.iI, DL.i1, DL.isB, DL.daI, DL.onE, DL.gN, List.length_cons, List.length_nil, Nat.reduceAdd, Nat.zero_add]
          have c1 := hc.p0
          have c2 := hc.p1
          have c3 := hc.b0
          have c4 := hc.b1
          have c5 := hc.u0
          have c6 := hc.u1
          have big : B * 10 ^ 30 ≤ 5 ^ 8 * 10 ^ 30 := Int.mul_le_mul_of_nonneg_right hB1 (by decide)
          have w2 : 0 ≤ w * o.2.1 := Int.mul_nonneg w0 (by omega)
          have w3 : w * o.2.1 ≤ 4 * o.2.1 := Int.mul_le_mul_of_nonneg_right (by omega) (by omega)
          have w4 : 0 ≤ w * o.2.2 := Int.mul_nonneg w0 c5
          have w5 : o.2.2 * w ≤ 10000 * o.2.1 * w := Int.mul_le_mul_of_nonneg_right c6 w0
          refine ⟨_, rfl, mulA 130 4 (by omega) (by omega), _, rfl, mulA 140 4 (by omega) (by omega), ?_⟩
          refine hk _ (o.1 + z, o.2.1 * (1 + w), o.2.2 * (1 + w)) (by omega) ⟨?_, ?_, ?_, ?_, ?_, ?_⟩
          · show 0 ≤ o.1 + z; omega
          · show o.1 + z < _; omega
          · show 1 ≤ o.2.1 * (1 + w); rw [Int.mul_add, Int.mul_comm o.2.1 w]; omega
          · show o.2.1 * (1 + w) ≤ _; rw [Int.mul_add, Int.mul_comm o.2.1 w]; omega
          · show 0 ≤ o.2.2 * (1 + w); rw [Int.mul_add, Int.mul_comm o.2.2 w]; omega
          · show o.2.2 * (1 + w) ≤ 10000 * (o.2.1 * (1 + w)); rw [← Int.mul_assoc]; exact Int.mul_le_mul_of_nonneg_right c6 (by omega)
      · exact ff (elseW _ (by omega))
    · refine ⟨nd1, rfl, by omega, fun n1 price e1 p0 p1 => ⟨rfl, ?_⟩⟩
      try dsimp only [DL.S.sE, DL.S.sM, DL.S.aM, DL.S.cM, DL.st, DL.gt, DL.sm, DL.gm, DL.putM, DL.pick, DL.muks, DL.nthN, DL.bkE, DL.st0, DL.nos, List.cons_append, List.nil_append, List.append_nil, List.drop_succ_cons, List.drop_nil, List.drop_zero, List.drop, DL.a1, DL.a2, DL.a3, DL.cMin3, DL.aNil, DL.aCons, DL.dVar, DL.dC, DL.iI, DL.i1, DL.isB, DL.daI, DL.onE, DL.gN, List.length_cons, List.length_nil, Nat.reduceAdd, Nat.zero_add]
      refine ⟨nd1, rfl, by omega, fun n2 g e2 g0 g1 => ⟨rfl, ?_⟩⟩
      try dsimp only [DL.S.sE, DL.S.sM, DL.S.aM, DL.S.cM, DL.st, DL.gt, DL.sm, DL.gm, DL.putM, DL.pick, DL.muks, DL.nthN, DL.bkE, DL.st0, DL.nos, List.cons_append, List.nil_append, List.append_nil, List.drop_succ_cons, List.drop_nil, List.drop_zero, List.drop, DL.a1, DL.a2, DL.a3, DL.cMin3, DL.aNil, DL.aCons, DL.dVar, DL.dC, DL.iI, DL.i1, DL.isB, DL.daI, DL.onE, DL.gN, List.length_cons, List.length_nil, Nat.reduceAdd, Nat.zero_add]
      refine ⟨nd1, rfl, by omega, divA 4 (by decide) (by decide), fun kind k0 k1 => ⟨rfl, ?_⟩⟩
      try dsimp only [DL.S.sE, DL.S.sM, DL.S.aM, DL.S.cM, DL.st, DL.gt, DL.sm, DL.gm, DL.putM, DL.pick, DL.muks, DL.nthN, DL.bkE, DL.st0, DL.nos, List.cons_append, List.nil_append, List.append_nil, List.drop_succ_cons, List.drop_nil, List.drop_zero, List.drop, DL.a1, DL.a2, DL.a3, DL.cMin3, DL.aNil, DL.aCons, DL.dVar, DL.dC, DL.iI, DL.i1, DL.isB, DL.daI, DL.onE, DL.gN, List.length_cons, List.length_nil, Nat.reduceAdd, Nat.zero_add]
      refine ⟨mulA 14 100 (by decide) (by omega), nd1, rfl, by omega, fun n3 v e3 v0 v1 => ⟨rfl, ?_⟩⟩
      try dsimp only [DL.S.sE, DL.S.sM, DL.S.aM, DL.S.cM, DL.st, DL.gt, DL.sm, DL.gm, DL.putM, DL.pick, DL.muks, DL.nthN, DL.bkE, DL.st0, DL.nos, List.cons_append, List.nil_append, List.append_nil, List.drop_succ_cons, List.drop_nil, List.drop_zero, List.drop, DL.a1, DL.a2, DL.a3, DL.cMin3, DL.aNil, DL.aCons, DL.dVar, DL.dC, DL.iI, DL.i1, DL.isB, DL.daI, DL.onE, DL.gN, List.length_cons, List.length_nil, Nat.reduceAdd, Nat.zero_add]
      refine ⟨mulA 14 100 (by decide) (by omega), by omega, ?_⟩
      have m0 := Int.emod_nonneg v (show 10000 * (1 + g) + 1 ≠ 0 by omega)
      have m1 := Int.emod_lt_of_pos v (show 0 < 10000 * (1 + g) + 1 by omega)
      obtain ⟨x, hx, hx2⟩ := kind_at (a := 0) (b := 10000 * (1 + g)) (c := v % (10000 * (1 + g) + 1)) k0 k1
      have x0 : 0 ≤ x := by omega
      have x1 : x ≤ 10000 * (1 + g) := by omega
      refine ⟨_, hx, ?_⟩
      try dsimp only [DL.S.sE, DL.S.sM, DL.S.aM, DL.S.cM, DL.st, DL.gt, DL.sm, DL.gm, DL.putM, DL.pick, DL.muks, DL.nthN, DL.bkE, DL.st0, DL.nos, List.cons_append, List.nil_append, List.append_nil, List.drop_succ_cons, List.drop_nil, List.drop_zero, List.drop, DL.a1, DL.a2, DL.a3, DL.cMin3, DL.aNil, DL.aCons, DL.dVar, DL.dC, DL.iI, DL.i1, DL.isB, DL.daI, DL.onE, DL.gN, List.length_cons, List.length_nil, Nat.reduceAdd, Nat.zero_add]
      refine ⟨fun s => ∃ (n4 : Nat) (x : Int), s = ⟨[.mu 0, .mu 1, .da (.int price), .da (.int (1 + g)), .da (.int kind), .da (.int x), .no, .no], [.rnd n4, .lst (cs.map ckD)], 2⟩ ∧ n3 ≤ n4 + 1 ∧ 0 ≤ x ∧ x ≤ 10000 * (1 + g), ?_, ?_⟩
      · refine bS (fun q => ?_) fun q => ?_
        · refine ⟨nd1, rfl, by omega, divA 14 (by decide) (by decide), fun u u0 u1 => ⟨rfl, ?_⟩⟩
          try dsimp only [DL.S.sE, DL.S.sM, DL.S.aM, DL.S.cM, DL.st, DL.gt, DL.sm, DL.gm, DL.putM, DL.pick, DL.muks, DL.nthN, DL.bkE, DL.st0, DL.nos, List.cons_append, List.nil_append, List.append_nil, List.drop_succ_cons, List.drop_nil, List.drop_zero, List.drop, DL.a1, DL.a2, DL.a3, DL.cMin3, DL.aNil, DL.aCons, DL.dVar, DL.dC, DL.iI, DL.i1, DL.isB, DL.daI, DL.onE, DL.gN, List.length_cons, List.length_nil, Nat.reduceAdd, Nat.zero_add]
          refine ⟨mulA 100 14 (by omega) (by omega), (by show 2 ≤ 2; decide), n3 - 1, (1 + g) * u, rfl, by omega, Int.mul_nonneg (by omega) u0, ?_⟩
          rw [Int.mul_comm 10000]
          exact Int.mul_le_mul_of_nonneg_left (by omega) (by omega)
        · exact ⟨(by show 2 ≤ 2; decide), n3, x, rfl, by omega, x0, x1⟩
      rintro s ⟨n4, x, rfl, hn4, x0, x1⟩
      have hB : 10 ^ 30 ≤ B * 10 ^ 30 := by omega
      have fin : ∀ p : Int, 0 ≤ p → p < 10 ^ 30 + B → CkG (B * 5) (p, 1 + g, x) := fun p p0 p1 => ⟨p0, by show p < _; omega, by show 1 ≤ 1 + g; omega, by show 1 + g ≤ B * 5 * 10 ^ 30; omega, x0, x1⟩
      have elseW : ∀ (n5 : Nat), n ≤ n5 + 20 → sRet (dTup (aCons (dIf (DL.tOr (tT (dNeS (dVar 4) (dC (PyData.int 4)))) (tT (dEqD (dVar 1) (dLst aNil)))) (dVar 2) (dIx (dIx (dVar 1) (dC (PyData.int 0))) (dC (PyData.int 0)))) (aCons (dVar 3) (aCons (dVar 5) aNil)))) ⟨[.mu 0, .mu 1, .da (.int price), .da (.int (1 + g)), .da (.int kind), .da (.int x), .no, .no], [.rnd n5, .lst (cs.map ckD)], 2⟩ (endD Ks) := fun n5 h5 => by
        have one : Ks [.rnd n5, .lst (cs.map ckD)] (.da (ckD (price, 1 + g, x))) := hk n5 _ h5 (fin _ p0 (by omega))
        refine nS (fun q => ?_) fun q => ?_
        · refine tt ?_
          exact one
        · refine ⟨sh1, sh0, ?_⟩
          cases cs with
          | nil => exact tt one
          | cons c0 r0 =>
            refine ff ?_
            have hc := hcs c0 List.mem_cons_self
            exact ⟨ckD c0, at_map (f := ckD) (l := c0 :: r0) (k := 0) rfl, _, rfl, hk n5 (c0.1, 1 + g, x) h5 (fin _ hc.p0 hc.p1)⟩
      refine bS (fun q => ?_) fun q => ?_
      · refine ⟨sh1, sh0, ?_⟩
        cases cs with
        | nil => exact xnF rfl (elseW _ (by omega))
        | cons c0 r0 =>
          refine xnT rfl ?_
          have hml : (((c0 :: r0).map ckD).length : Int) = (c0 :: r0).length := by rw [List.length_map]
          have hpos : 0 < (c0 :: r0).length := by rw [List.length_cons]; omega
          refine ⟨nd1, rfl, by omega, divA 8 (by omega) (by omega), fun u u0 u1 => ⟨rfl, ?_⟩⟩
          rw [hml] at u1
          try dsimp only [DL.S.sE, DL.S.sM, DL.S.aM, DL.S.cM, DL.st, DL.gt, DL.sm, DL.gm, DL.putM, DL.pick, DL.muks, DL.nthN, DL.bkE, DL.st0, DL.nos, List.cons_append, List.nil_append, List.append_nil, List.drop_succ_cons, List.drop_nil, List.drop_zero, List.drop, DL.a1, DL.a2, DL.a3, DL.cMin3, DL.aNil, DL.aCons, DL.dVar, DL.dC, DL.iI, DL.i1, DL.isB, DL.daI, DL.onE, DL.gN, List.length_cons, List.length_nil, Nat.reduceAdd, Nat.zero_add]
          obtain ⟨o, ho, hat⟩ := ck_at u0 u1
          have hc := hcs o ho
          refine ⟨_, hat, ?_⟩
          try dsimp only [DL.S.sE, DL.S.sM, DL.S.aM, DL.S.cM, DL.st, DL.gt, DL.sm, DL.gm, DL.putM, DL.pick, DL.muks, DL.nthN, DL.bkE, DL.st0, DL.nos, List.cons_append, List.nil_append, List.append_nil, List.drop_succ_cons, List.drop_nil, List.drop_zero, List.drop, DL.a1, DL.a2, DL.a3, DL.cMin3, DL.aNil, DL.aCons, DL.dVar, DL.dC, DL.iI, DL.i1, DL.isB, DL.daI, DL.onE, DL.gN, List.length_cons, List.length_nil, Nat.reduceAdd, Nat.zero_add]
          refine ⟨nd1, rfl, by omega, divA 3 (by decide) (by decide), fun w w0 w1 => ⟨rfl, ?_⟩⟩
          try dsimp only [DL.S.sE, DL.S.sM, DL.S.aM, DL.S.cM, DL.st, DL.gt, DL.sm, DL.gm, DL.putM, DL.pick, DL.muks, DL.nthN, DL.bkE, DL.st0, DL.nos, List.cons_append, List.nil_append, List.append_nil, List.drop_succ_cons, List.drop_nil, List.drop_zero, List.drop, DL.a1, DL.a2, DL.a3, DL.cMin3, DL.aNil, DL.aCons, DL.dVar, DL.dC, DL.iI, DL.i1, DL.isB, DL.daI, DL.onE, DL.gN, List.length_cons, List.length_nil, Nat.reduceAdd, Nat.zero_add]
          refine ⟨_, rfl, nd1, rfl, by omega, divA 2 (by decide) (by decide), fun z z0 z1 => ⟨rfl, ?_⟩⟩
          try dsimp only [DL.S.sE, DL.S.sM, DL.S.aM, DL.S.cM, DL.st, DL.gt, DL.sm, DL.gm, DL.putM, DL.pick, DL.muks, DL.nthN, DL.bkE, DL.st0, DL.nos, List.cons_append, List.nil_append, List.append_nil, List.drop_succ_cons, List.drop_nil, List.drop_zero, List.drop, DL.a1, DL.a2, DL.a3, DL.cMin3, DL.aNil, DL.aCons, DL.dVar, DL.dC, DL.iI, DL.i1, DL.isB, DL.daI, DL.onE, DL.gN, List.length_cons, List.length_nil, Nat.reduceAdd, Nat.zero_add]
          have c1 := hc.p0
          have c2 := hc.p1
          have c3 := hc.b0
          have c4 := hc.b1
          have c5 := hc.u0
          have c6 := hc.u1
          have big : B * 10 ^ 30 ≤ 5 ^ 8 * 10 ^ 30 := Int.mul_le_mul_of_nonneg_right hB1 (by decide)
          have w2 : 0 ≤ w * o.2.1 := Int.mul_nonneg w0 (by omega)
          have w3 : w * o.2.1 ≤ 4 * o.2.1 := Int.mul_le_mul_of_nonneg_right (by omega) (by omega)
          have w4 : 0 ≤ w * o.2.2 := Int.mul_nonneg w0 c5
          have w5 : o.2.2 * w ≤ 10000 * o.2.1 * w := Int.mul_le_mul_of_nonneg_right c6 w0
          refine ⟨_, rfl, mulA 130 4 (by omega) (by omega), _, rfl, mulA 140 4 (by omega) (by omega), ?_⟩
          refine hk _ (o.1 + z, o.2.1 * (1 + w), o.2.2 * (1 + w)) (by omega) ⟨?_, ?_, ?_, ?_, ?_, ?_⟩
          · show 0 ≤ o.1 + z; omega
          · show o.1 + z < _; omega
          · show 1 ≤ o.2.1 * (1 + w); rw [Int.mul_add, Int.mul_comm o.2.1 w]; omega
          · show o.2.1 * (1 + w) ≤ _; rw [Int.mul_add, Int.mul_comm o.2.1 w]; omega
          · show 0 ≤ o.2.2 * (1 + w); rw [Int.mul_add, Int.mul_comm o.2.2 w]; omega
          · show o.2.2 * (1 + w) ≤ 10000 * (o.2.1 * (1 + w)); rw [← Int.mul_assoc]; exact Int.mul_le_mul_of_nonneg_right c6 (by omega)
      · exact ff (elseW _ (by omega))
  · exact h.elim
def sp_filled : SpD := fun xs ms Ks => match xs, ms with
  | [.da x, .da (.int B), .da (.bool su)], [] => ∃ cs : List Ck, x = .list (cs.map ckD) ∧ CsOk cs ∧ 0 ≤ B ∧ B ≤ allB cs ∧ Ks [] (.da (qD (pur cs (if su = true then highA cs B else lowA cs B))))
  | _, _ => False
theorem ok_filled (T : Tx K mg) (o_low : Ok P w K mg base 1 "_law_low" s_low ["_law_over", "_law_under"] 2 sp_low) (o_plus : Ok P w K mg base 2 "_law_plus" s_plus ["_law_one", "_law_other"] 2 sp_plus) : Ok P w K mg base 3 "_law_filled" s_filled ["_law_casks_here", "_law_bulk", "_law_strongest"] 3 sp_filled := by
  refine ok_data (n0 := 7) T.d_filled sc_filled _ (fun f cdv A outer s H E hr =>
  (dss_cons (ds_par3 (i := 3) (j := 4) (l := 5) rfl sc_filled.nd rfl rfl rfl (by decide) (by decide) (by decide) rfl rfl rfl (da_cons (dv 1) (da_cons (de_tup (dan_cons de_int (dan_cons de_int dan_nil))) (da_cons (de_listM (by rfl) (T.b_list) (dv 0)) da_nil))) rfl)
  (dss_cons (ds_while [0, 1, 6, 7, 8, 9] 1 PassesOwn.never (dt_neD (hu64 hr) (dv 5) (de_lst dan_nil))
    (dss_cons (ds_set (i := 6) sc_filled.nd rfl (by first | exact .inl rfl | exact .inr rfl) (de_ix (dv 5) de_int))
    (dss_cons (ds_forL [0, 1, 7, 8, 9] PassesOwn.never rfl (dv 5) (dg_name (i := 7) sc_filled.nd rfl (by first | exact .inl rfl | exact .inr rfl))
      (dss_cons (ds_set (i := 8) sc_filled.nd rfl (by first | exact .inl rfl | exact .inr rfl) (de_if (dt_val (dv 2)) (de_gt (de_mul (de_ix (dv 7) de_int) (de_ix (dv 6) de_int)) (de_mul (de_ix (dv 6) de_int) (de_ix (dv 7) de_int))) (de_lt (de_mul (de_ix (dv 7) de_int) (de_ix (dv 6) de_int)) (de_mul (de_ix (dv 6) de_int) (de_ix (dv 7) de_int)))))
      (dss_one (ds_if (dt_val (dv 8))
        (dss_one (ds_set (i := 6) sc_filled.nd rfl (by first | exact .inl rfl | exact .inr rfl) (dv 7)))
        dss_nil))))
    (dss_cons (ds_exp (de_met PySem.F.slot_list_remove PySem.F.type_list_remove (mt_removeD (hu65 hr)) md_remove (dv 5) (da_cons (dv 6) da_nil)))
    (dss_cons (ds_set (i := 9) sc_filled.nd rfl (by first | exact .inl rfl | exact .inr rfl) (de_min rfl (by rfl) (T.b_min) (dv 3) (de_ix (dv 6) de_int)))
    (dss_cons (ds_set (i := 4) sc_filled.nd rfl (by first | exact .inl rfl | exact .inr rfl) (de_callV o_plus (hr.mono (by omega)) (by rfl) (dan_cons (dv 4) (dan_cons (de_callV o_low (hr.mono (by omega)) (by rfl) (dan_cons (de_mul (dv 9) (de_ix (dv 6) de_int)) (dan_cons (de_ix (dv 6) de_int) dan_nil))) dan_nil))))
    (dss_one (ds_set (i := 3) sc_filled.nd rfl (by first | exact .inl rfl | exact .inr rfl) (de_sub (dv 3) (dv 9))))))))))
  (dss_one (ds_ret (dv 4)))))) (fun xs ms Ks h hl => ?_)
  unfold sp_filled at h
  split at h
  · rename_i x B su
    obtain ⟨cs, rfl, hc, hB0, hB1, hk⟩ := h
    have hW := wh_lt8 hc.ok hc.len
    have hW0 := wh_pos hc.ok
    refine ⟨fun s => ∃ (l : Int) (t : Rat) (w : List Ck) (done : List Ck), s = ⟨[.no, .no, .da (.bool su), .da (.int l), .da (qD t), .mu 0, .no, .no, .no, .no], [.lst (w.map ckD)], 0⟩ ∧ (done ++ w).Perm cs ∧ 0 ≤ l ∧ pt done B = t ∧ l = lft done B ∧ Cd (wh cs).natAbs (done.length * 2 ^ 1260) t ∧ (done.Pairwise fun c d => ¬ ahd su d c) ∧ (∀ c ∈ done, ∀ d ∈ w, ¬ ahd su d c), fun s => match gm s.ms 0 with | .lst ds => ds.length | _ => 0, ⟨Nat.zero_le _, B, 0, cs, [], ?_, List.Perm.refl _, hB0, rfl, rfl, Cd.zero _ _, List.Pairwise.nil, fun _ h => nomatch h⟩, ?_⟩
    · rfl
    · rintro s ⟨l, t, w, done, rfl, hp, hl, ht, hlf, hcd, hpw, hdw⟩
      have hlen : done.length + w.length = cs.length := by have := hp.length_eq; rw [List.length_append] at this; exact this
      have h8 := hc.len
      have hwo : ∀ c ∈ w, CkOk c := fun c h => hc.ok c (hp.mem_iff.mp (List.mem_append_right _ h))
      refine ⟨cks_sh (cs := w) (by omega), cks_sh (cs := []) (by decide), ?_⟩
      cases w with
      | nil =>
        refine xnF rfl ?_
        rw [List.append_nil] at hp
        have e : pur cs (if su = true then highA cs B else lowA cs B) = t := by
          rw [← ht]
          cases su with
          | true => exact (pt_high hc.ok hp hB0 hB1 (hpw.imp fun h => fun z => h (by unfold ahd; exact z))).symm
          | false => exact (pt_low hc.ok hp hB0 hB1 (hpw.imp fun h => fun z => h (by unfold ahd; exact z))).symm
        rw [e] at hk
        exact hk
      | cons c0 r0 =>
        refine xnT rfl ?_
        refine ⟨ckD c0, at_map (f := ckD) (l := c0 :: r0) (k := 0) rfl, ?_⟩
        try dsimp only [DL.S.sE, DL.S.sM, DL.S.aM, DL.S.cM, DL.st, DL.gt, DL.sm, DL.gm, DL.putM, DL.pick, DL.muks, DL.nthN, DL.bkE, DL.st0, DL.nos, List.cons_append, List.nil_append, List.append_nil, List.drop_succ_cons, List.drop_nil, List.drop_zero, List.drop, DL.a1, DL.a2, DL.a3, DL.cMin3, DL.aNil, DL.aCons, DL.dVar, DL.dC, DL.iI, DL.i1, DL.isB, DL.daI, DL.onE, DL.gN, List.length_cons, List.length_nil, Nat.reduceAdd, Nat.zero_add]
        generalize hw : c0 :: r0 = w at *
        have hm0 : c0 ∈ w := by rw [← hw]; exact List.mem_cons_self
        have hw1 : 1 ≤ w.length := by rw [← hw, List.length_cons]; omega
        refine ⟨0, w.map ckD, rfl, rfl, fun (j : Nat) (s : S) => ∃ b, s = ⟨[.no, .no, .da (.bool su), .da (.int l), .da (qD t), .mu 0, .da (ckD b), .no, .no, .no], [.lst (w.map ckD)], 1⟩ ∧ b ∈ w ∧ ∀ c ∈ w.take j, ¬ ahd su c b, fun i s2 ⟨b, e, _⟩ => by rw [e]; rfl, ⟨c0, rfl, hm0, fun c h => by simp at h⟩, ?_, ?_⟩
        · rintro j e s hj ⟨b, rfl, hb, hbe⟩
          obtain ⟨c, hci, rfl⟩ := map_get hj
          have hcm := List.mem_of_getElem? hci
          have k1 := hwo c hcm
          have k2 := hwo b hb
          have i1 : c.2.2.natAbs < 2 ^ 138 := by have := k1.u0; have := k1.u1; omega
          have i2 : c.2.1.natAbs < 2 ^ 124 := by have := k1.b0; have := k1.b1; omega
          have i3 : b.2.2.natAbs < 2 ^ 138 := by have := k2.u0; have := k2.u1; omega
          have i4 : b.2.1.natAbs < 2 ^ 124 := by have := k2.b0; have := k2.b1; omega
          have yes : ahd su c b → ∀ x ∈ w.take (j + 1), ¬ ahd su x c := fun q x hx => by
            rw [take_snoc hci] at hx
            rcases List.mem_append.mp hx with z | z
            · exact ahd_tr q (hbe x z)
            · rw [List.mem_singleton.mp z]; exact ahd_irr
          have no : ¬ ahd su c b → ∀ x ∈ w.take (j + 1), ¬ ahd su x b := fun q x hx => by
            rw [take_snoc hci] at hx
            rcases List.mem_append.mp hx with z | z
            · exact hbe x z
            · rw [List.mem_singleton.mp z]; exact q
          cases su with
          | true =>
            refine tt ?_
            refine ⟨_, rfl, _, rfl, mulA 138 124 i1 i4, _, rfl, _, rfl, mulA 138 124 i3 i2, ?_⟩
            try dsimp only [DL.S.sE, DL.S.sM, DL.S.aM, DL.S.cM, DL.st, DL.gt, DL.sm, DL.gm, DL.putM, DL.pick, DL.muks, DL.nthN, DL.bkE, DL.st0, DL.nos, List.cons_append, List.nil_append, List.append_nil, List.drop_succ_cons, List.drop_nil, List.drop_zero, List.drop, DL.a1, DL.a2, DL.a3, DL.cMin3, DL.aNil, DL.aCons, DL.dVar, DL.dC, DL.iI, DL.i1, DL.isB, DL.daI, DL.onE, DL.gN, List.length_cons, List.length_nil, Nat.reduceAdd, Nat.zero_add]
            refine bS (fun q => ?_) fun q => ?_
            · exact ⟨c, rfl, hcm, yes ((ahd_t k1 k2).mpr q)⟩
            · exact ⟨b, rfl, hb, no fun z => q ((ahd_t k1 k2).mp z)⟩
          | false =>
            refine ff ?_
            refine ⟨_, rfl, _, rfl, mulA 138 124 i1 i4, _, rfl, _, rfl, mulA 138 124 i3 i2, ?_⟩
            try dsimp only [DL.S.sE, DL.S.sM, DL.S.aM, DL.S.cM, DL.st, DL.gt, DL.sm, DL.gm, DL.putM, DL.pick, DL.muks, DL.nthN, DL.bkE, DL.st0, DL.nos, List.cons_append, List.nil_append, List.append_nil, List.drop_succ_cons, List.drop_nil, List.drop_zero, List.drop, DL.a1, DL.a2, DL.a3, DL.cMin3, DL.aNil, DL.aCons, DL.dVar, DL.dC, DL.iI, DL.i1, DL.isB, DL.daI, DL.onE, DL.gN, List.length_cons, List.length_nil, Nat.reduceAdd, Nat.zero_add]
            refine bS (fun q => ?_) fun q => ?_
            · exact ⟨c, rfl, hcm, yes ((ahd_f k1 k2).mpr q)⟩
            · exact ⟨b, rfl, hb, no fun z => q ((ahd_f k1 k2).mp z)⟩
        · rintro s ⟨b, rfl, hb, hbe⟩
          rw [List.length_map, List.take_length] at hbe
          have kb := hwo b hb
          obtain ⟨i, z, hz, he, hno, hi⟩ := first_at hb
          refine ⟨cks_sh (cs := w) (by omega), ck_sh b, i, z, hz, he, hno, ?_⟩
          rw [erase_map]
          try dsimp only [DL.S.sE, DL.S.sM, DL.S.aM, DL.S.cM, DL.st, DL.gt, DL.sm, DL.gm, DL.putM, DL.pick, DL.muks, DL.nthN, DL.bkE, DL.st0, DL.nos, List.cons_append, List.nil_append, List.append_nil, List.drop_succ_cons, List.drop_nil, List.drop_zero, List.drop, DL.a1, DL.a2, DL.a3, DL.cMin3, DL.aNil, DL.aCons, DL.dVar, DL.dC, DL.iI, DL.i1, DL.isB, DL.daI, DL.onE, DL.gN, List.length_cons, List.length_nil, Nat.reduceAdd, Nat.zero_add]
          refine ⟨_, rfl, ?_⟩
          try dsimp only [DL.S.sE, DL.S.sM, DL.S.aM, DL.S.cM, DL.st, DL.gt, DL.sm, DL.gm, DL.putM, DL.pick, DL.muks, DL.nthN, DL.bkE, DL.st0, DL.nos, List.cons_append, List.nil_append, List.append_nil, List.drop_succ_cons, List.drop_nil, List.drop_zero, List.drop, DL.a1, DL.a2, DL.a3, DL.cMin3, DL.aNil, DL.aCons, DL.dVar, DL.dC, DL.iI, DL.i1, DL.isB, DL.daI, DL.onE, DL.gN, List.length_cons, List.length_nil, Nat.reduceAdd, Nat.zero_add]
          have m0 : 0 ≤ min l b.2.1 := by have := kb.b0; omega
          have m1 : (min l b.2.1).natAbs < 2 ^ 124 := by have := kb.b0; have := kb.b1; omega
          have u1 : b.2.2.natAbs < 2 ^ 138 := by have := kb.u0; have := kb.u1; omega
          have b1 : b.2.1.natAbs < 2 ^ 124 := by have := kb.b0; have := kb.b1; omega
          have bne : b.2.1 ≠ 0 := by have := kb.b0; omega
          have mp := mul_na m1 u1
          refine ⟨_, rfl, mulA 124 138 m1 u1, _, rfl, List.nodup_nil, rfl, (by have := kb.b0; omega), Nat.lt_of_lt_of_le b1 (Nat.pow_le_pow_right (by decide) (by decide)), rfl, ?_⟩
          have q := quot_le (o := min l b.2.1 * b.2.2) (u := b.2.1) bne
          have ft : Fr 4000 t := hcd.fr (by omega) (Nat.lt_of_lt_of_le hW (Nat.pow_le_pow_right (by decide) (by decide))) (Nat.lt_of_le_of_lt (Nat.mul_le_mul_right _ (show done.length ≤ 8 by omega)) (by decide))
          have fq : Fr 3999 (((min l b.2.1 * b.2.2 : Int) : Rat) / (b.2.1 : Rat)) := ⟨Nat.lt_of_le_of_lt q.1 (Nat.lt_of_lt_of_le mp (Nat.pow_le_pow_right (by decide) (by decide))), Nat.lt_of_le_of_lt q.2 (Nat.lt_of_lt_of_le b1 (Nat.pow_le_pow_right (by decide) (by decide)))⟩
          refine ⟨List.nodup_nil, rfl, t, _, rfl, rfl, ft, fq, rfl, ?_⟩
          try dsimp only [DL.S.sE, DL.S.sM, DL.S.aM, DL.S.cM, DL.st, DL.gt, DL.sm, DL.gm, DL.putM, DL.pick, DL.muks, DL.nthN, DL.bkE, DL.st0, DL.nos, List.cons_append, List.nil_append, List.append_nil, List.drop_succ_cons, List.drop_nil, List.drop_zero, List.drop, DL.a1, DL.a2, DL.a3, DL.cMin3, DL.aNil, DL.aCons, DL.dVar, DL.dC, DL.iI, DL.i1, DL.isB, DL.daI, DL.onE, DL.gN, List.length_cons, List.length_nil, Nat.reduceAdd, Nat.zero_add]
          have hbw : b ∈ cs := hp.mem_iff.mp (List.mem_append_right _ hb)
          refine ⟨Nat.zero_le _, ⟨l - min l b.2.1, t + ((min l b.2.1 * b.2.2 : Int) : Rat) / (b.2.1 : Rat), w.eraseIdx i, done ++ [b], rfl, ?_, by omega, ?_, ?_, ?_, ?_, ?_⟩, ?_⟩
          · rw [List.append_assoc]
            exact (List.Perm.append_left _ (erase_perm hi).symm).trans hp
          · rw [pt_snoc, ht, ← hlf, quot_mul]
            rfl
          · rw [lft_snoc, ← hlf]
          · rw [List.length_append, show done.length + [b].length = done.length + 1 from rfl, Nat.add_mul, Nat.one_mul]
            refine hcd.add (cd_term hW0 (wh_dvd hbw) bne ?_)
            exact Nat.le_of_lt (Nat.lt_of_lt_of_le (Nat.mul_lt_mul'' mp hW) (by decide))
          · rw [List.pairwise_append]
            exact ⟨hpw, by simp, fun c hc d hd => by rw [List.mem_singleton.mp hd]; exact hdw c hc b hb⟩
          · intro c hc d hd
            have hd' := List.mem_of_mem_eraseIdx hd
            rcases List.mem_append.mp hc with z | z
            · exact hdw c z d hd'
            · rw [List.mem_singleton.mp z]; exact hbe d hd'
          · show ((w.eraseIdx i).map ckD).length < (w.map ckD).length
            have := (erase_perm hi).length_eq
            rw [List.length_cons] at this
            rw [List.length_map, List.length_map]
            omega
  · exact h.elim
def sp_drawn_pure : SpD := fun xs ms Ks => match xs, ms with
  | [.mu 0, .da x, .da (.int B)], [.rnd n] => ∃ cs : List Ck, x = .list (cs.map ckD) ∧ CsOk cs ∧ 0 ≤ B ∧ 10 ≤ n ∧ ∀ (m : Nat) (L : List Ck), n ≤ m + 10 → L.Perm cs → Ks [.rnd m] (.da (qD (pt L B)))
  | _, _ => False
theorem ok_drawn_pure (T : Tx K mg) (o_low : Ok P w K mg base 1 "_law_low" s_low ["_law_over", "_law_under"] 2 sp_low) (o_plus : Ok P w K mg base 2 "_law_plus" s_plus ["_law_one", "_law_other"] 2 sp_plus) (o_take : Ok P w K mg base 1 "_law_take" s_take ["_law_state", "_law_many"] 2 spTake) : Ok P w K mg base 3 "_law_drawn_pure" s_drawn_pure ["_law_state", "_law_casks_here", "_law_bulk"] 3 sp_drawn_pure := by
  refine ok_data (n0 := 5) T.d_drawn_pure sc_drawn_pure _ (fun f cdv A outer s H E hr =>
  (dss_cons (ds_par3 (i := 3) (j := 4) (l := 5) rfl sc_drawn_pure.nd rfl rfl rfl (by decide) (by decide) (by decide) rfl rfl rfl (da_cons (de_listM (by rfl) (T.b_list) (dv 1)) (da_cons (dv 2) (da_cons (de_tup (dan_cons de_int (dan_cons de_int dan_nil))) da_nil))) rfl)
  (dss_cons (ds_while [1, 2, 6, 7] 2 PassesOwn.never (dt_neD (hu64 hr) (dv 3) (de_lst dan_nil))
    (dss_cons (ds_set (i := 6) sc_drawn_pure.nd rfl (by first | exact .inl rfl | exact .inr rfl) (de_met PySem.F.slot_list_pop PySem.F.type_list_pop mt_popAt md_popAt (dv 3) (da_cons (de_callV o_take (hr.mono (by omega)) (by rfl) (dan_cons (dv 0) (dan_cons (de_len (x := "") (by rfl) (T.b_len) (dv 3)) dan_nil))) da_nil)))
    (dss_cons (ds_set (i := 7) sc_drawn_pure.nd rfl (by first | exact .inl rfl | exact .inr rfl) (de_min rfl (by rfl) (T.b_min) (dv 4) (de_ix (dv 6) de_int)))
    (dss_cons (ds_set (i := 5) sc_drawn_pure.nd rfl (by first | exact .inl rfl | exact .inr rfl) (de_callV o_plus (hr.mono (by omega)) (by rfl) (dan_cons (dv 5) (dan_cons (de_callV o_low (hr.mono (by omega)) (by rfl) (dan_cons (de_mul (dv 7) (de_ix (dv 6) de_int)) (dan_cons (de_ix (dv 6) de_int) dan_nil))) dan_nil))))
    (dss_one (ds_set (i := 4) sc_drawn_pure.nd rfl (by first | exact .inl rfl | exact .inr rfl) (de_sub (dv 4) (dv 7))))))))
  (dss_one (ds_ret (dv 5)))))) (fun xs ms Ks h hl => ?_)
  unfold sp_drawn_pure at h
  split at h
  · rename_i x B n
    obtain ⟨cs, rfl, hc, hB0, hn, hk⟩ := h
    have hW := wh_lt8 hc.ok hc.len
    have hW0 := wh_pos hc.ok
    refine ⟨fun s => ∃ (m : Nat) (l : Int) (t : Rat) (w : List Ck) (done : List Ck), s = ⟨[.mu 0, .no, .no, .mu 1, .da (.int l), .da (qD t), .no, .no], [.rnd m, .lst (w.map ckD)], 1⟩ ∧ (done ++ w).Perm cs ∧ 0 ≤ l ∧ pt done B = t ∧ l = lft done B ∧ Cd (wh cs).natAbs (done.length * 2 ^ 1260) t ∧ n ≤ m + done.length, fun s => match gm s.ms 1 with | .lst ds => ds.length | _ => 0, ⟨Nat.le_succ 1, n, B, 0, cs, [], ?_, List.Perm.refl _, hB0, rfl, rfl, Cd.zero _ _, Nat.le_refl _⟩, ?_⟩
    · rfl
    · rintro s ⟨m, l, t, w, done, rfl, hp, hl, ht, hlf, hcd, hm⟩
      have hlen : done.length + w.length = cs.length := by have := hp.length_eq; rw [List.length_append] at this; exact this
      have h8 := hc.len
      have hwo : ∀ c ∈ w, CkOk c := fun c h => hc.ok c (hp.mem_iff.mp (List.mem_append_right _ h))
      refine ⟨cks_sh (cs := w) (by omega), cks_sh (cs := []) (by decide), ?_⟩
      by_cases hw : w = []
      · subst hw
        refine xnF rfl ?_
        rw [List.append_nil] at hp
        rw [← ht]
        exact hk m done (by omega) hp
      · have hw1 : 0 < w.length := by cases w with | nil => exact absurd rfl hw | cons _ _ => simp
        refine xnT (by cases w with | nil => exact absurd rfl hw | cons _ _ => rfl) ?_
        have hml : ((w.map ckD).length : Int) = w.length := by rw [List.length_map]
        refine ⟨nd1, rfl, by omega, divA 8 (by omega) (by omega), fun u u0 u1 => ⟨rfl, ?_⟩⟩
        rw [hml] at u1
        try dsimp only [DL.S.sE, DL.S.sM, DL.S.aM, DL.S.cM, DL.st, DL.gt, DL.sm, DL.gm, DL.putM, DL.pick, DL.muks, DL.nthN, DL.bkE, DL.st0, DL.nos, List.cons_append, List.nil_append, List.append_nil, List.drop_succ_cons, List.drop_nil, List.drop_zero, List.drop, DL.a1, DL.a2, DL.a3, DL.cMin3, DL.aNil, DL.aCons, DL.dVar, DL.dC, DL.iI, DL.i1, DL.isB, DL.daI, DL.onE, DL.gN, List.length_cons, List.length_nil, Nat.reduceAdd, Nat.zero_add]
        have hz : w[u.toNat]? = some w[u.toNat] := List.getElem?_eq_getElem (by omega)
        generalize w[u.toNat]'(by omega) = b at hz
        have hbm := List.mem_of_getElem? hz
        have kb := hwo b hbm
        refine ⟨by omega, by omega, u.toNat, ckD b, seqI (by rw [List.length_map]; omega) u0, by rw [List.getElem?_map, hz]; rfl, ?_⟩
        rw [show eraseN (w.map ckD) u.toNat = (w.map ckD).eraseIdx u.toNat from (eraseIdx_eq _ _).symm, erase_map]
        try dsimp only [DL.S.sE, DL.S.sM, DL.S.aM, DL.S.cM, DL.st, DL.gt, DL.sm, DL.gm, DL.putM, DL.pick, DL.muks, DL.nthN, DL.bkE, DL.st0, DL.nos, List.cons_append, List.nil_append, List.append_nil, List.drop_succ_cons, List.drop_nil, List.drop_zero, List.drop, DL.a1, DL.a2, DL.a3, DL.cMin3, DL.aNil, DL.aCons, DL.dVar, DL.dC, DL.iI, DL.i1, DL.isB, DL.daI, DL.onE, DL.gN, List.length_cons, List.length_nil, Nat.reduceAdd, Nat.zero_add]
        refine ⟨_, rfl, ?_⟩
        try dsimp only [DL.S.sE, DL.S.sM, DL.S.aM, DL.S.cM, DL.st, DL.gt, DL.sm, DL.gm, DL.putM, DL.pick, DL.muks, DL.nthN, DL.bkE, DL.st0, DL.nos, List.cons_append, List.nil_append, List.append_nil, List.drop_succ_cons, List.drop_nil, List.drop_zero, List.drop, DL.a1, DL.a2, DL.a3, DL.cMin3, DL.aNil, DL.aCons, DL.dVar, DL.dC, DL.iI, DL.i1, DL.isB, DL.daI, DL.onE, DL.gN, List.length_cons, List.length_nil, Nat.reduceAdd, Nat.zero_add]
        have m0 : 0 ≤ min l b.2.1 := by have := kb.b0; omega
        have m1 : (min l b.2.1).natAbs < 2 ^ 124 := by have := kb.b0; have := kb.b1; omega
        have u1 : b.2.2.natAbs < 2 ^ 138 := by have := kb.u0; have := kb.u1; omega
        have b1 : b.2.1.natAbs < 2 ^ 124 := by have := kb.b0; have := kb.b1; omega
        have bne : b.2.1 ≠ 0 := by have := kb.b0; omega
        have mp := mul_na m1 u1
        refine ⟨_, rfl, mulA 124 138 m1 u1, _, rfl, List.nodup_nil, rfl, (by have := kb.b0; omega), Nat.lt_of_lt_of_le b1 (Nat.pow_le_pow_right (by decide) (by decide)), rfl, ?_⟩
        have q := quot_le (o := min l b.2.1 * b.2.2) (u := b.2.1) bne
        have ft : Fr 4000 t := hcd.fr (by omega) (Nat.lt_of_lt_of_le hW (Nat.pow_le_pow_right (by decide) (by decide))) (Nat.lt_of_le_of_lt (Nat.mul_le_mul_right _ (show done.length ≤ 8 by omega)) (by decide))
        have fq : Fr 3999 (((min l b.2.1 * b.2.2 : Int) : Rat) / (b.2.1 : Rat)) := ⟨Nat.lt_of_le_of_lt q.1 (Nat.lt_of_lt_of_le mp (Nat.pow_le_pow_right (by decide) (by decide))), Nat.lt_of_le_of_lt q.2 (Nat.lt_of_lt_of_le b1 (Nat.pow_le_pow_right (by decide) (by decide)))⟩
        refine ⟨List.nodup_nil, rfl, t, _, rfl, rfl, ft, fq, rfl, ?_⟩
        try dsimp only [DL.S.sE, DL.S.sM, DL.S.aM, DL.S.cM, DL.st, DL.gt, DL.sm, DL.gm, DL.putM, DL.pick, DL.muks, DL.nthN, DL.bkE, DL.st0, DL.nos, List.cons_append, List.nil_append, List.append_nil, List.drop_succ_cons, List.drop_nil, List.drop_zero, List.drop, DL.a1, DL.a2, DL.a3, DL.cMin3, DL.aNil, DL.aCons, DL.dVar, DL.dC, DL.iI, DL.i1, DL.isB, DL.daI, DL.onE, DL.gN, List.length_cons, List.length_nil, Nat.reduceAdd, Nat.zero_add]
        have hbw : b ∈ cs := hp.mem_iff.mp (List.mem_append_right _ hbm)
        refine ⟨Nat.le_succ 1, ⟨m - 1, l - min l b.2.1, t + ((min l b.2.1 * b.2.2 : Int) : Rat) / (b.2.1 : Rat), w.eraseIdx u.toNat, done ++ [b], rfl, ?_, by omega, ?_, ?_, ?_, ?_⟩, ?_⟩
        · rw [List.append_assoc]
          exact (List.Perm.append_left _ (erase_perm hz).symm).trans hp
        · rw [pt_snoc, ht, ← hlf, quot_mul]
          rfl
        · rw [lft_snoc, ← hlf]
        · rw [List.length_append, show done.length + [b].length = done.length + 1 from rfl, Nat.add_mul, Nat.one_mul]
          refine hcd.add (cd_term hW0 (wh_dvd hbw) bne ?_)
          exact Nat.le_of_lt (Nat.lt_of_lt_of_le (Nat.mul_lt_mul'' mp hW) (by decide))
        · rw [List.length_append, show [b].length = 1 from rfl]; omega
        · show ((w.eraseIdx u.toNat).map ckD).length < (w.map ckD).length
          have := (erase_perm hz).length_eq
          rw [List.length_cons] at this
          rw [List.length_map, List.length_map]
          omega
  · exact h.elim
theorem can_ints (l : List Int) (hl : l.length ≤ 100) : canSort (l.map PyData.int) := by
  refine ⟨fun d hd d' hd' => ?_, .inr fun d hd => ?_, ?_, ?_⟩
  · obtain ⟨x, _, rfl⟩ := List.mem_map.mp hd
    obtain ⟨y, _, rfl⟩ := List.mem_map.mp hd'
    rfl
  · obtain ⟨x, _, rfl⟩ := List.mem_map.mp hd
    exact ⟨(by intro z; cases z), (by intro xs z; cases z)⟩
  · exact lay_ints l
  · refine depth_of fun d hd => ?_
    obtain ⟨x, _, rfl⟩ := List.mem_map.mp hd
    show (PyData.int x).depth ≤ _
    simp [PyData.depth]
def keyOf (g : Nat → D) : D → D
  | .int i => g i.toNat
  | _ => .none
theorem sort_by (f g : Nat → Int) (n : Nat) (key : Nat → D) (h : ∀ p q : Nat, PySem.W.dataLe false key p q = decide (f p < f q ∨ (f p = f q ∧ g p ≤ g q))) : sortKD (keyOf key) (rngD n) = (ordKK f g n).map natD := by
  unfold sortKD ordKK rngD
  refine (List.map_mergeSort fun i _ j _ => ?_).symm
  rw [← h i j]
  rfl
theorem sort_by1 (f : Nat → Int) (n : Nat) : sortKD (keyOf fun i => .int (f i)) (rngD n) = (ordKK f (fun _ => 0) n).map natD := by
  refine sort_by _ _ _ _ fun p q => ?_
  rw [congrFun (congrFun (PySem.W.dataLe_int f) p) q]
  exact decide_eq_decide.mpr (by omega)
theorem rngD_mem {n : Nat} {d : D} (h : d ∈ rngD n) : ∃ i : Nat, i < n ∧ d = .int (i : Nat) := by
  unfold rngD at h
  obtain ⟨i, hi, rfl⟩ := List.mem_map.mp h
  exact ⟨i, List.mem_range.mp hi, rfl⟩
def sp_by_strength : SpD := fun xs ms Ks => match xs, ms with
  | [.da x], [.tab q] => q = "by_strength" ∧ ∃ (ss : List Int), x = .list (ss.map .int) ∧ ss.length ≤ 8 ∧ Ks [.tab "by_strength"] (.da (.list ((ordKK (gz ss) (fun _ => 0) ss.length).map natD)))
  | _, _ => False
theorem ok_by_strength (T : Tx K mg) (TB : TbX K mg base)  : Ok P w K mg base 4 "by_strength" s_by_strength ["strengths"] 1 sp_by_strength := by
  refine ok_dataLD (n0 := 0) T.d_by_strength TB.t_by_strength sc_by_strength _ (fun f cdv P0 A outer s H E hC hTB hr =>
  (dss_one (ds_ret (de_sortLm (k := 0) (n := 0) (N := ["number", "strengths"]) (fr := ["strengths"]) [0] hC hTB rfl rfl (NdefX.nscope_by (by decide +kernel)) rfl (fun _ _ _ _ => rfl) (free_ok (sc := defScope s_by_strength) (by decide +kernel)) (by decide +kernel) rfl (hr.mono (by omega)) (by rfl) (T.b_sorted) (de_listRg rfl (by rfl) (T.b_list) (by rfl) (T.b_range) (de_len (x := "") (by rfl) (T.b_len) (dv 0))) (fun _ _ _ _ _ _ _ hr => (de_ix (dv 1) (dv 0))))))) (fun xs ms Ks h hl => ?_)
  unfold sp_by_strength at h
  split at h
  · rename_i x q
    obtain ⟨rfl, ss, rfl, h8, hk⟩ := h
    have hlm : ((ss.map PyData.int).length : Int) = ss.length := by rw [List.length_map]
    refine ⟨by omega, by omega, ?_⟩
    rw [hlm, Int.toNat_natCast]
    refine ⟨rngD ss.length, keyOf fun i => .int (gz ss i), 0, rfl, rfl, fun d hd => ?_, ?_, ?_⟩
    · obtain ⟨i, hi, rfl⟩ := rngD_mem hd
      refine ⟨_, at_map (x := ss[i]) (List.getElem?_eq_getElem hi), ?_⟩
      show En.da (.int ss[i]) = .da (.int (gz ss (Int.toNat (i : Nat))))
      rw [Int.toNat_natCast]
      unfold gz
      rw [List.getD_eq_getElem?_getD, List.getElem?_eq_getElem hi]
      rfl
    · have : (rngD ss.length).map (keyOf fun i => PyData.int (gz ss i)) = ((List.range ss.length).map (gz ss)).map PyData.int := by
        unfold rngD
        rw [List.map_map, List.map_map]
        rfl
      rw [this]
      exact can_ints _ (by rw [List.length_map, List.length_range]; omega)
    · rw [sort_by1]
      exact hk
  · exact h.elim
def sp_casks : SpD := fun xs ms Ks => match xs, ms with
  | [.mu 0, .da (.int most)], [.rnd n] => 1 ≤ most ∧ most ≤ 8 ∧ 200 ≤ n ∧ ∀ (m : Nat) (cs : List Ck), n ≤ m + 200 → (∀ c ∈ cs, CkG (5 ^ 8) c) → 1 ≤ cs.length → (cs.length : Int) ≤ most → Ks [.rnd m] (.da (.list (cs.map ckD)))
  | _, _ => False
theorem ok_casks (T : Tx K mg) (o_cask : Ok P w K mg base 3 "_law_cask" s_cask ["_law_state", "_law_like"] 2 sp_cask) (o_take : Ok P w K mg base 1 "_law_take" s_take ["_law_state", "_law_many"] 2 spTake) : Ok P w K mg base 4 "_law_casks" s_casks ["_law_state", "_law_most"] 2 sp_casks := by
  refine ok_data (n0 := 2) T.d_casks sc_casks _ (fun f cdv A outer s H E hr =>
  (dss_cons (ds_set (i := 2) sc_casks.nd rfl (by first | exact .inl rfl | exact .inr rfl) (de_lstM dan_nil))
  (dss_cons (ds_for [1, 3] 2 PassesOwn.never rfl (di_range1 (by rfl) (T.b_range) (da_cons (de_ix (de_lst (dan_cons (dv 1) (dan_cons (de_add de_int (de_callV o_take (hr.mono (by omega)) (by rfl) (dan_cons (dv 0) (dan_cons (dv 1) dan_nil)))) dan_nil))) (de_callV o_take (hr.mono (by omega)) (by rfl) (dan_cons (dv 0) (dan_cons de_int dan_nil)))) da_nil)) (dg_name (i := 3) sc_casks.nd rfl (by first | exact .inl rfl | exact .inr rfl))
    (dss_one (ds_exp (de_append (dv 2) (de_callV o_cask (hr.mono (by omega)) (by rfl) (dan_cons (dv 0) (dan_cons (dv 2) dan_nil)))))))
  (dss_frzV 2 (dss_one (ds_ret (dv 2))))))) (fun xs ms Ks h hl => ?_)
  unfold sp_casks at h
  split at h
  · rename_i most n
    obtain ⟨m0, m1, h1, hk⟩ := h
    refine ⟨nd1, rfl, by omega, divA 8 (by omega) (by omega), fun a a0 a1 => ⟨rfl, ?_⟩⟩
    try dsimp only [DL.S.sE, DL.S.sM, DL.S.aM, DL.S.cM, DL.st, DL.gt, DL.sm, DL.gm, DL.putM, DL.pick, DL.muks, DL.nthN, DL.bkE, DL.st0, DL.nos, List.cons_append, List.nil_append, List.append_nil, List.drop_succ_cons, List.drop_nil, List.drop_zero, List.drop, DL.a1, DL.a2, DL.a3, DL.cMin3, DL.aNil, DL.aCons, DL.dVar, DL.dC, DL.iI, DL.i1, DL.isB, DL.daI, DL.onE, DL.gN, List.length_cons, List.length_nil, Nat.reduceAdd, Nat.zero_add]
    refine ⟨nd1, rfl, by omega, divA 8 (by decide) (by decide), fun c c0 c1 => ⟨rfl, ?_⟩⟩
    try dsimp only [DL.S.sE, DL.S.sM, DL.S.aM, DL.S.cM, DL.st, DL.gt, DL.sm, DL.gm, DL.putM, DL.pick, DL.muks, DL.nthN, DL.bkE, DL.st0, DL.nos, List.cons_append, List.nil_append, List.append_nil, List.drop_succ_cons, List.drop_nil, List.drop_zero, List.drop, DL.a1, DL.a2, DL.a3, DL.cMin3, DL.aNil, DL.aCons, DL.dVar, DL.dC, DL.iI, DL.i1, DL.isB, DL.daI, DL.onE, DL.gN, List.length_cons, List.length_nil, Nat.reduceAdd, Nat.zero_add]
    obtain ⟨many, hm, y0, y1⟩ : ∃ many : Int, atI [PyData.int most, PyData.int (1 + a)] c = some (.int many) ∧ 1 ≤ many ∧ many ≤ most := by
      obtain rfl | rfl : c = 0 ∨ c = 1 := by omega
      · exact ⟨_, rfl, by omega, by omega⟩
      · exact ⟨_, rfl, by omega, by omega⟩
    refine ⟨_, hm, by omega, by omega, fun (i : Nat) (s : S) => ∃ q cs, s = ⟨[.mu 0, .no, .mu 1, .no], [.rnd q, .lst (cs.map ckD)], 1⟩ ∧ n ≤ q + 20 * i + 2 ∧ cs.length = i ∧ ∀ c ∈ cs, CkG (5 ^ i) c, ⟨Nat.le_succ 1, n - 1 - 1, [], rfl, by omega, rfl, fun c hc => nomatch hc⟩, ?_, ?_⟩
    · rintro i d s hi ⟨q, cs, rfl, hq, hl, hcs⟩
      have hi2 : i < 8 := by
        have := (List.getElem?_eq_some_iff.mp hi).1
        rw [rng_length] at this
        omega
      have p0 : (1 : Int) ≤ 5 ^ i := by exact_mod_cast Nat.pow_pos (by decide : 0 < 5)
      have p1 : (5 : Int) ^ i ≤ 5 ^ 8 := by exact_mod_cast Nat.pow_le_pow_right (by decide : 0 < 5) (by omega : i ≤ 8)
      refine ⟨(by decide : [0, 1].Nodup), rfl, cs, 5 ^ i, .inr ⟨rfl, rfl⟩, by omega, p0, p1, hcs, by omega, fun q2 c h2 hc => ⟨rfl, ?_⟩⟩
      try dsimp only [DL.S.sE, DL.S.sM, DL.S.aM, DL.S.cM, DL.st, DL.gt, DL.sm, DL.gm, DL.putM, DL.pick, DL.muks, DL.nthN, DL.bkE, DL.st0, DL.nos, List.cons_append, List.nil_append, List.append_nil, List.drop_succ_cons, List.drop_nil, List.drop_zero, List.drop, DL.a1, DL.a2, DL.a3, DL.cMin3, DL.aNil, DL.aCons, DL.dVar, DL.dC, DL.iI, DL.i1, DL.isB, DL.daI, DL.onE, DL.gN, List.length_cons, List.length_nil, Nat.reduceAdd, Nat.zero_add]
      refine ⟨by rw [List.length_map]; exact sz (by omega), Nat.le_succ 1, q2, cs ++ [c], by rw [List.map_append]; rfl, by omega, by rw [List.length_append, hl]; rfl, fun x hx => ?_⟩
      rw [Int.pow_succ]
      rcases List.mem_append.mp hx with z | z
      · exact (hcs x z).up (by omega)
      · rw [List.mem_singleton.mp z]; exact hc
    · rintro s ⟨q, cs, rfl, hq, hl, hcs⟩
      rw [rng_length] at hq hl
      have hl2 : (cs.length : Int) = many := by omega
      try dsimp only [DL.S.sE, DL.S.sM, DL.S.aM, DL.S.cM, DL.st, DL.gt, DL.sm, DL.gm, DL.putM, DL.pick, DL.muks, DL.nthN, DL.bkE, DL.st0, DL.nos, List.cons_append, List.nil_append, List.append_nil, List.drop_succ_cons, List.drop_nil, List.drop_zero, List.drop, DL.a1, DL.a2, DL.a3, DL.cMin3, DL.aNil, DL.aCons, DL.dVar, DL.dC, DL.iI, DL.i1, DL.isB, DL.daI, DL.onE, DL.gN, List.length_cons, List.length_nil, Nat.reduceAdd, Nat.zero_add]
      refine ⟨Nat.le_refl 1, ?_⟩
      refine hk q cs (by omega) (fun c hc => (hcs c hc).up ?_) (by omega) (by omega)
      exact_mod_cast Nat.pow_le_pow_right (by decide : 0 < 5) (by rw [rng_length]; omega)
  · exact h.elim
def sp_pure_range : SpD := fun xs ms Ks => match xs, ms with
  | [.da x, .da (.int B)], [.tab q] => q = "by_strength" ∧ ∃ (cs : List Ck), isL ckD cs x ∧ CsOk cs ∧ 0 ≤ B ∧ (∀ d, (allB cs < B → d = .none) → (B ≤ allB cs → d = .tuple [qD (pur cs (lowA cs B)), qD (pur cs (highA cs B))]) → Ks [.tab "by_strength"] (.da d))
  | _, _ => False
theorem ok_pure_range (T : Tx K mg) (o_by_strength : Ok P w K mg base 4 "by_strength" s_by_strength ["strengths"] 1 sp_by_strength) (o_lowest : Ok P w K mg base 2 "lowest" s_lowest ["over", "under"] 2 sp_lowest) (o_pure_in : Ok P w K mg base 1 "pure_in" s_pure_in ["amounts", "strengths"] 2 sp_pure_in) (o_strengths_of : Ok P w K mg base 1 "strengths_of" s_strengths_of ["casks"] 1 sp_strengths_of) (o_taken_by : Ok P w K mg base 1 "taken_by" s_taken_by ["order", "casks", "bulk"] 3 sp_taken_by) : Ok P w K mg base 5 "pure_range" s_pure_range ["casks", "bulk"] 2 sp_pure_range := by
  refine ok_data (n0 := 8) T.d_pure_range sc_pure_range _ (fun f cdv A outer s H E hr =>
  (dss_cons (ds_if (dt_gt (dv 1) (de_sum rfl (by rfl) (T.b_sum) (de_lc [("price", 7), ("most", 8), ("pure", 9)] rfl sc_pure_range.nd (di_seq (dv 0)) (BlkOk.mk (N := ["casks", "bulk", "whole", "strengths", "order", "least", "greatest", "price", "most", "pure"]) (sc := defScope s_pure_range) rfl (by decide +kernel) (by decide +kernel) (by decide +kernel) (by decide +kernel)) (by decide) (fun _ _ _ _ _ => (dg_tup (n := 3) rfl (dgs_cons (dg_name (i := 7) sc_pure_range.nd rfl (by first | exact .inl rfl | exact .inr rfl)) (dgs_cons (dg_name (i := 8) sc_pure_range.nd rfl (by first | exact .inl rfl | exact .inr rfl)) (dgs_cons (dg_name (i := 9) sc_pure_range.nd rfl (by first | exact .inl rfl | exact .inr rfl)) dgs_nil))))) (fun _ _ _ _ _ => dts_nil) (fun _ _ _ _ _ => (dv 8)))))
    (dss_one (ds_ret de_non))
    dss_nil)
  (dss_cons (ds_asg (de_callV o_strengths_of (hr.mono (by omega)) (by rfl) (dan_cons (dv 0) dan_nil)) (dg_tup (n := 2) rfl (dgs_cons (dg_name (i := 2) sc_pure_range.nd rfl (by first | exact .inl rfl | exact .inr rfl)) (dgs_cons (dg_name (i := 3) sc_pure_range.nd rfl (by first | exact .inl rfl | exact .inr rfl)) dgs_nil))))
  (dss_cons (ds_set (i := 4) sc_pure_range.nd rfl (by first | exact .inl rfl | exact .inr rfl) (de_callH [0] o_by_strength (hr.mono (by omega)) (by rfl) (dan_cons (dv 3) dan_nil)))
  (dss_cons (ds_set (i := 5) sc_pure_range.nd rfl (by first | exact .inl rfl | exact .inr rfl) (de_callV o_pure_in (hr.mono (by omega)) (by rfl) (dan_cons (de_callV o_taken_by (hr.mono (by omega)) (by rfl) (dan_cons (dv 4) (dan_cons (dv 0) (dan_cons (dv 1) dan_nil)))) (dan_cons (dv 3) dan_nil))))
  (dss_cons (ds_set (i := 6) sc_pure_range.nd rfl (by first | exact .inl rfl | exact .inr rfl) (de_callV o_pure_in (hr.mono (by omega)) (by rfl) (dan_cons (de_callV o_taken_by (hr.mono (by omega)) (by rfl) (dan_cons (de_revL (dv 4)) (dan_cons (dv 0) (dan_cons (dv 1) dan_nil)))) (dan_cons (dv 3) dan_nil))))
  (dss_one (ds_ret (de_tup (dan_cons (de_callV o_lowest (hr.mono (by omega)) (by rfl) (dan_cons (dv 5) (dan_cons (dv 2) dan_nil))) (dan_cons (de_callV o_lowest (hr.mono (by omega)) (by rfl) (dan_cons (dv 6) (dan_cons (dv 2) dan_nil))) dan_nil))))))))))) (fun xs ms Ks h hl => ?_)
  unfold sp_pure_range at h
  split at h
  · rename_i x B q
    obtain ⟨rfl, cs, hx, hc, hB, hk⟩ := h
    have hx0 := hx
    have h8 := hc.len
    have sl := stg_len cs
    have bl := bks_len cs
    have hw0 := wh_pos hc.ok
    have hw1 := wh_lt8 hc.ok hc.len
    rcases hx with rfl | rfl
    all_goals
      refine ⟨fun (i : Nat) (mo : List MO) (acc : List D) => mo = [.tab "by_strength"] ∧ acc = ((cs.take i).map (·.2.1)).map PyData.int, ⟨rfl, rfl⟩, ?_, ?_⟩
      · rintro i e mo acc hi ⟨rfl, rfl⟩ _
        obtain ⟨c, hci, rfl⟩ := map_get hi
        have hi8 : i < 8 := by have := (List.getElem?_eq_some_iff.mp hci).1; omega
        refine ⟨rfl, tt ?_⟩
        try dsimp only [DL.S.sE, DL.S.sM, DL.S.aM, DL.S.cM, DL.st, DL.gt, DL.sm, DL.gm, DL.putM, DL.pick, DL.muks, DL.nthN, DL.bkE, DL.st0, DL.nos, List.cons_append, List.nil_append, List.append_nil, List.drop_succ_cons, List.drop_nil, List.drop_zero, List.drop, DL.a1, DL.a2, DL.a3, DL.cMin3, DL.aNil, DL.aCons, DL.dVar, DL.dC, DL.iI, DL.i1, DL.isB, DL.daI, DL.onE, DL.gN, List.length_cons, List.length_nil, Nat.reduceAdd, Nat.zero_add]
        refine ⟨by rw [List.length_map, List.length_map, List.length_take]; exact sz (by omega), rfl, rfl, ?_⟩
        rw [take_snoc hci, List.map_append, List.map_append]
        rfl
      · rintro mo acc ⟨rfl, rfl⟩ _
        rw [List.length_map, List.take_length]
        refine ⟨_, rfl, ?_⟩
        refine bS (fun q => ?_) fun q => ?_
        · exact hk _ (fun _ => rfl) (fun z => absurd z (by have q : allB cs < B := q; omega))
        have hle : B ≤ allB cs := by have q : ¬ allB cs < B := q; omega
        have LT := low_taken hc.ok hB hle
        have HT := high_taken hc.ok hB hle
        have ll : (lowA cs B).length = cs.length := by rw [LT.len, bl]
        have hl : (highA cs B).length = cs.length := by rw [HT.len, bl]
        refine ⟨List.nodup_nil, rfl, cs, hx0, hc, rfl, rfl, ?_⟩
        try dsimp only [DL.S.sE, DL.S.sM, DL.S.aM, DL.S.cM, DL.st, DL.gt, DL.sm, DL.gm, DL.putM, DL.pick, DL.muks, DL.nthN, DL.bkE, DL.st0, DL.nos, List.cons_append, List.nil_append, List.append_nil, List.drop_succ_cons, List.drop_nil, List.drop_zero, List.drop, DL.a1, DL.a2, DL.a3, DL.cMin3, DL.aNil, DL.aCons, DL.dVar, DL.dC, DL.iI, DL.i1, DL.isB, DL.daI, DL.onE, DL.gN, List.length_cons, List.length_nil, Nat.reduceAdd, Nat.zero_add]
        refine ⟨nd1, rfl, rfl, stg cs, rfl, by omega, rfl, ?_⟩
        rw [sl]
        try dsimp only [DL.S.sE, DL.S.sM, DL.S.aM, DL.S.cM, DL.st, DL.gt, DL.sm, DL.gm, DL.putM, DL.pick, DL.muks, DL.nthN, DL.bkE, DL.st0, DL.nos, List.cons_append, List.nil_append, List.append_nil, List.drop_succ_cons, List.drop_nil, List.drop_zero, List.drop, DL.a1, DL.a2, DL.a3, DL.cMin3, DL.aNil, DL.aCons, DL.dVar, DL.dC, DL.iI, DL.i1, DL.isB, DL.daI, DL.onE, DL.gN, List.length_cons, List.length_nil, Nat.reduceAdd, Nat.zero_add]
        refine ⟨List.nodup_nil, rfl, stO cs, cs, rfl, hx0, h8, stO_lt, rfl, ?_⟩
        try dsimp only [DL.S.sE, DL.S.sM, DL.S.aM, DL.S.cM, DL.st, DL.gt, DL.sm, DL.gm, DL.putM, DL.pick, DL.muks, DL.nthN, DL.bkE, DL.st0, DL.nos, List.cons_append, List.nil_append, List.append_nil, List.drop_succ_cons, List.drop_nil, List.drop_zero, List.drop, DL.a1, DL.a2, DL.a3, DL.cMin3, DL.aNil, DL.aCons, DL.dVar, DL.dC, DL.iI, DL.i1, DL.isB, DL.daI, DL.onE, DL.gN, List.length_cons, List.length_nil, Nat.reduceAdd, Nat.zero_add]
        refine ⟨List.nodup_nil, rfl, lowA cs B, stg cs, rfl, rfl, by omega, by omega, LT.sizes hc, stg_size hc, rfl, ?_⟩
        try dsimp only [DL.S.sE, DL.S.sM, DL.S.aM, DL.S.cM, DL.st, DL.gt, DL.sm, DL.gm, DL.putM, DL.pick, DL.muks, DL.nthN, DL.bkE, DL.st0, DL.nos, List.cons_append, List.nil_append, List.append_nil, List.drop_succ_cons, List.drop_nil, List.drop_zero, List.drop, DL.a1, DL.a2, DL.a3, DL.cMin3, DL.aNil, DL.aCons, DL.dVar, DL.dC, DL.iI, DL.i1, DL.isB, DL.daI, DL.onE, DL.gN, List.length_cons, List.length_nil, Nat.reduceAdd, Nat.zero_add]
        refine ⟨List.nodup_nil, rfl, (stO cs).reverse, cs, congrArg PyData.list List.map_reverse.symm, hx0, h8, fun k hk => stO_lt k (List.mem_reverse.mp hk), rfl, ?_⟩
        try dsimp only [DL.S.sE, DL.S.sM, DL.S.aM, DL.S.cM, DL.st, DL.gt, DL.sm, DL.gm, DL.putM, DL.pick, DL.muks, DL.nthN, DL.bkE, DL.st0, DL.nos, List.cons_append, List.nil_append, List.append_nil, List.drop_succ_cons, List.drop_nil, List.drop_zero, List.drop, DL.a1, DL.a2, DL.a3, DL.cMin3, DL.aNil, DL.aCons, DL.dVar, DL.dC, DL.iI, DL.i1, DL.isB, DL.daI, DL.onE, DL.gN, List.length_cons, List.length_nil, Nat.reduceAdd, Nat.zero_add]
        refine ⟨List.nodup_nil, rfl, highA cs B, stg cs, rfl, rfl, by omega, by omega, HT.sizes hc, stg_size hc, rfl, ?_⟩
        try dsimp only [DL.S.sE, DL.S.sM, DL.S.aM, DL.S.cM, DL.st, DL.gt, DL.sm, DL.gm, DL.putM, DL.pick, DL.muks, DL.nthN, DL.bkE, DL.st0, DL.nos, List.cons_append, List.nil_append, List.append_nil, List.drop_succ_cons, List.drop_nil, List.drop_zero, List.drop, DL.a1, DL.a2, DL.a3, DL.cMin3, DL.aNil, DL.aCons, DL.dVar, DL.dC, DL.iI, DL.i1, DL.isB, DL.daI, DL.onE, DL.gN, List.length_cons, List.length_nil, Nat.reduceAdd, Nat.zero_add]
        refine ⟨List.nodup_nil, rfl, by omega, Nat.lt_of_lt_of_le hw1 (Nat.pow_le_pow_right (by decide) (by decide)), rfl, ?_⟩
        try dsimp only [DL.S.sE, DL.S.sM, DL.S.aM, DL.S.cM, DL.st, DL.gt, DL.sm, DL.gm, DL.putM, DL.pick, DL.muks, DL.nthN, DL.bkE, DL.st0, DL.nos, List.cons_append, List.nil_append, List.append_nil, List.drop_succ_cons, List.drop_nil, List.drop_zero, List.drop, DL.a1, DL.a2, DL.a3, DL.cMin3, DL.aNil, DL.aCons, DL.dVar, DL.dC, DL.iI, DL.i1, DL.isB, DL.daI, DL.onE, DL.gN, List.length_cons, List.length_nil, Nat.reduceAdd, Nat.zero_add]
        refine ⟨List.nodup_nil, rfl, by omega, Nat.lt_of_lt_of_le hw1 (Nat.pow_le_pow_right (by decide) (by decide)), rfl, ?_⟩
        rw [pur_quot hc.ok ll, pur_quot hc.ok hl]
        exact hk _ (fun z => absurd hle (by omega)) (fun _ => rfl)
  · exact h.elim
abbrev sp_same : SpD := spSame false 8
theorem ok_same_step {n : Nat} (T : Tx K mg) (o_same : Ok P w K mg base n "_law_same" s_same ["_law_found", "_law_due"] 2 (spSame false n)) : Ok P w K mg base (n + 1) "_law_same" s_same ["_law_found", "_law_due"] 2 (spSame false (n + 1)) := by
  refine ok_data (n0 := 2) T.d_same sc_same _ (fun f cdv A outer s H E hr =>
  (dss_cons (ds_if (dt_isN (dv 1) de_non)
    (dss_one (ds_ret (de_isN (dv 0) de_non)))
    dss_nil)
  (dss_cons (ds_if (dt_bool (dw_or (dt_val (de_isi .list (by rfl) (T.b_isinstance) (by rfl) (T.b_list) (by decide +kernel) (dv 1))) (dw_or1 (dt_val (de_isi .tuple (by rfl) (T.b_isinstance) (by rfl) (T.b_tuple) (by decide +kernel) (dv 1))))))
    (dss_cons (ds_if (dt_bool (dw_or (dt_neS (de_isi .list (by rfl) (T.b_isinstance) (by rfl) (T.b_list) (by decide +kernel) (dv 0)) (de_isi .list (by rfl) (T.b_isinstance) (by rfl) (T.b_list) (by decide +kernel) (dv 1))) (dw_or1 (dt_neS (de_isi .tuple (by rfl) (T.b_isinstance) (by rfl) (T.b_tuple) (by decide +kernel) (dv 0)) (de_isi .tuple (by rfl) (T.b_isinstance) (by rfl) (T.b_tuple) (by decide +kernel) (dv 1))))))
      (dss_one (ds_ret de_bl))
      dss_nil)
    (dss_one (ds_ret (de_and (de_eqS (de_len (x := "") (by rfl) (T.b_len) (dv 0)) (de_len (x := "") (by rfl) (T.b_len) (dv 1))) (de_one (de_all rfl (by rfl) (T.b_all) (de_lc [("_law_one", 2), ("_law_other", 3)] rfl sc_same.nd (di_zip (by rfl) (T.b_zip) (da_cons (dv 0) (da_cons (dv 1) da_nil))) (BlkOk.mk (N := ["_law_found", "_law_due", "_law_one", "_law_other"]) (sc := defScope s_same) rfl (by decide +kernel) (by decide +kernel) (by decide +kernel) (by decide +kernel)) (by decide) (fun _ _ _ _ _ => (dg_tup (n := 2) rfl (dgs_cons (dg_name (i := 2) sc_same.nd rfl (by first | exact .inl rfl | exact .inr rfl)) (dgs_cons (dg_name (i := 3) sc_same.nd rfl (by first | exact .inl rfl | exact .inr rfl)) dgs_nil)))) (fun _ _ _ _ _ => dts_nil) (fun _ _ _ _ _ => (de_callV o_same (hr.mono (by omega)) (by rfl) (dan_cons (dv 2) (dan_cons (dv 3) dan_nil)))))))))))
    dss_nil)
  (dss_cons (ds_if (dt_val (de_isi .str (by rfl) (T.b_isinstance) (by rfl) (T.b_str) (by decide +kernel) (dv 1)))
    (dss_one (ds_ret (de_and (de_isi .str (by rfl) (T.b_isinstance) (by rfl) (T.b_str) (by decide +kernel) (dv 0)) (de_one (de_eqD (hu64 hr) (dv 0) (dv 1))))))
    dss_nil)
  (dss_cons (ds_if (dt_val (de_isi .bool (by rfl) (T.b_isinstance) (by rfl) (T.b_bool) (by decide +kernel) (dv 1)))
    (dss_one (ds_ret (de_and (de_isi .bool (by rfl) (T.b_isinstance) (by rfl) (T.b_bool) (by decide +kernel) (dv 0)) (de_one (de_eqD (hu64 hr) (dv 0) (dv 1))))))
    dss_nil)
  (dss_one (ds_ret (de_and (de_isi .int (by rfl) (T.b_isinstance) (by rfl) (T.b_int) (by decide +kernel) (dv 0)) (de_and (de_not (de_isi .bool (by rfl) (T.b_isinstance) (by rfl) (T.b_bool) (by decide +kernel) (dv 0))) (de_one (de_eqD (hu64 hr) (dv 0) (dv 1)))))))))))) (fun xs ms Ks h hl => ?_)
  unfold spSame at h
  split at h
  · rename_i d e
    obtain ⟨rfl, hs, hd, hn, hk⟩ := h
    cases d with
    | none => exact tt hk
    | bool b => cases hs
    | dict kvs => cases hs
    | int i =>
      refine ff (ff (ff (ff (ff (tt (tt ?_))))))
      refine ⟨rfl, rfl, ?_⟩
      show Ks [] (.da (.bool (PyData.eqv (.int i) (.int i))))
      rw [SeqAt.eqv_refl _ (okS_lay hs)]
      exact hk
    | str x =>
      have hsh := shaped_of hs (by simp [PyData.depth])
      refine ff (ff (ff (tt (tt ?_))))
      refine ⟨hsh, hsh, ?_⟩
      show Ks [] (.da (.bool (PyData.eqv (.str x) (.str x))))
      rw [SeqAt.eqv_refl _ (okS_lay hs)]
      exact hk
    | list ds =>
      have hs' := hs
      simp only [okS, Bool.and_eq_true, decide_eq_true_eq] at hs
      refine ff ?_
      refine tt ?_
      refine tt ?_
      refine ff ?_
      refine ff ?_
      refine bT (p := ((ds.length : Int) = (ds.length : Int))) rfl ?_
      refine ⟨fun (i : Nat) (ms : List MO) (acc : List D) => ms = [] ∧ acc = (List.replicate i true).map .bool, ⟨rfl, rfl⟩, ?_, ?_⟩
      · rintro i z ms acc hz ⟨rfl, rfl⟩ _
        obtain ⟨x, y, hx, hy, rfl⟩ := zipD_get hz
        have e := Option.some.inj (hx.symm.trans hy)
        subst e
        have hlt : i < ds.length := (List.getElem?_eq_some_iff.mp hx).1
        have hdx := depth_get hx
        simp only [PyData.depth] at hd
        refine ⟨rfl, ?_⟩
        refine tt ?_
        refine ⟨List.nodup_nil, rfl, rfl, okSs_get hs.1 hx, by omega, by omega, rfl, ?_⟩
        refine ⟨by rw [List.length_map, List.length_replicate]; omega, rfl, rfl, ?_⟩
        rw [List.replicate_succ', List.map_append]
        rfl
      · rintro ms acc ⟨rfl, rfl⟩ _
        refine ⟨_, rfl, ?_⟩
        rw [all_true]
        exact hk
    | tuple ds =>
      have hs' := hs
      simp only [okS, Bool.and_eq_true, decide_eq_true_eq] at hs
      refine ff ?_
      refine ff ?_
      refine tt ?_
      refine ff ?_
      refine ff ?_
      refine bT (p := ((ds.length : Int) = (ds.length : Int))) rfl ?_
      refine ⟨fun (i : Nat) (ms : List MO) (acc : List D) => ms = [] ∧ acc = (List.replicate i true).map .bool, ⟨rfl, rfl⟩, ?_, ?_⟩
      · rintro i z ms acc hz ⟨rfl, rfl⟩ _
        obtain ⟨x, y, hx, hy, rfl⟩ := zipD_get hz
        have e := Option.some.inj (hx.symm.trans hy)
        subst e
        have hlt : i < ds.length := (List.getElem?_eq_some_iff.mp hx).1
        have hdx := depth_get hx
        simp only [PyData.depth] at hd
        refine ⟨rfl, ?_⟩
        refine tt ?_
        refine ⟨List.nodup_nil, rfl, rfl, okSs_get hs.1 hx, by omega, by omega, rfl, ?_⟩
        refine ⟨by rw [List.length_map, List.length_replicate]; omega, rfl, rfl, ?_⟩
        rw [List.replicate_succ', List.map_append]
        rfl
      · rintro ms acc ⟨rfl, rfl⟩ _
        refine ⟨_, rfl, ?_⟩
        rw [all_true]
        exact hk
  · exact h.elim
theorem ok_same (T : Tx K mg) : Ok P w K mg base 8 "_law_same" s_same ["_law_found", "_law_due"] 2 sp_same := by
  have all : ∀ n : Nat, Ok P w K mg base n "_law_same" s_same ["_law_found", "_law_due"] 2 (spSame false n) := fun n => by
    induction n with
    | zero =>
      refine Ok.none T.d_same fun xs ms Ks h => ?_
      unfold spSame at h
      split at h
      · exact absurd h.2.2.1 (Nat.not_lt_zero _)
      · exact h
    | succ n ih => exact ok_same_step T ih
  exact all 8
theorem ok_law' {f : Addr} {fd : FuncData} (F : Fun K "law" "law" s_law f fd) (T : Tx K mg) {c0 P0 : Addr} (tc0 : TabC K "by_strength" c0 P0) (nd : [P0].Nodup) (o_casks : Ok P w K mg base 4 "_law_casks" s_casks ["_law_state", "_law_most"] 2 sp_casks) (o_drawn_pure : Ok P w K mg base 3 "_law_drawn_pure" s_drawn_pure ["_law_state", "_law_casks_here", "_law_bulk"] 3 sp_drawn_pure) (o_filled : Ok P w K mg base 3 "_law_filled" s_filled ["_law_casks_here", "_law_bulk", "_law_strongest"] 3 sp_filled) (o_great : Ok P w K mg base 2 "_law_great" s_great ["_law_state"] 1 sp_great) (o_less : Ok P w K mg base 1 "_law_less" s_less ["_law_one", "_law_other"] 2 sp_less) (o_same : Ok P w K mg base 8 "_law_same" s_same ["_law_found", "_law_due"] 2 sp_same) (o_take : Ok P w K mg base 1 "_law_take" s_take ["_law_state", "_law_many"] 2 spTake) (o_pure_range : Ok P w K mg base 5 "pure_range" s_pure_range ["casks", "bulk"] 2 sp_pure_range) : FnOkG P w K mg base CX0 9 f fd ["_law_script"] (spLawT K [("by_strength", c0, P0)]) := by
  obtain ⟨fB, fdB, aB⟩ := T.d_begin
  have GB : FnOk P w K mg base CX0 8 fB fdB ["_law_script"] (spBeginH K) := ok_begin aB.F T.b_list
  refine ok_lawT (n := 12) F sc_law rfl rfl rfl (by first | exact .inl rfl | exact .inr rfl) (by first | exact .inl rfl | exact .inr (.inl rfl)) rfl GB aB.kp aB.b aB.g (fun t ht => by
    repeat (first | (rcases List.mem_cons.mp ht with rfl | ht; · assumption) | (cases ht))) nd (fun cdv A outer s H E hr =>
  (dss_cons (ds_for [0, 2, 3, 4, 5, 6, 7, 8, 9, 10, 11, 12, 13] 2 PassesOwn.never rfl (di_range1 (by rfl) (T.b_range) (da_cons de_int da_nil)) (dg_name (i := 2) sc_law.nd rfl (by first | exact .inl rfl | exact .inr rfl))
    (dss_cons (ds_set (i := 3) sc_law.nd rfl (by first | exact .inl rfl | exact .inr rfl) (de_callV o_casks (hr.mono (by omega)) (by rfl) (dan_cons (dv 1) (dan_cons de_int dan_nil))))
    (dss_cons (ds_set (i := 6) sc_law.nd rfl (by first | exact .inl rfl | exact .inr rfl) (de_sum rfl (by rfl) (T.b_sum) (de_lc [("_law_price", 13), ("_law_bulk", 4), ("_law_pure", 5)] rfl sc_law.nd (di_list (dv 3)) (BlkOk.mk (N := ["_law_script", "_law_state", "_law_turn", "_law_casks_here", "_law_bulk", "_law_pure", "_law_whole", "_law_kind", "_law_drawn", "_law_handed", "_law_kept", "_law_due", "_law_again", "_law_price"]) (sc := defScope s_law) rfl (by decide +kernel) (by decide +kernel) (by decide +kernel) (by decide +kernel)) (by decide) (fun _ _ _ _ _ => (dg_tup (n := 3) rfl (dgs_cons (dg_name (i := 13) sc_law.nd rfl (by first | exact .inl rfl | exact .inr rfl)) (dgs_cons (dg_name (i := 4) sc_law.nd rfl (by first | exact .inl rfl | exact .inr rfl)) (dgs_cons (dg_name (i := 5) sc_law.nd rfl (by first | exact .inl rfl | exact .inr rfl)) dgs_nil))))) (fun _ _ _ _ _ => dts_nil) (fun _ _ _ _ _ => (dv 4)))))
    (dss_cons (ds_par (i := 7) (j := 8) rfl sc_law.nd rfl rfl (by decide) rfl rfl (da_cons (de_callV o_take (hr.mono (by omega)) (by rfl) (dan_cons (dv 1) (dan_cons de_int dan_nil))) (da_cons (de_mod (de_callV o_great (hr.mono (by omega)) (by rfl) (dan_cons (dv 1) dan_nil)) (de_add (dv 6) de_int)) da_nil)) rfl)
    (dss_cons (ds_set (i := 4) sc_law.nd rfl (by first | exact .inl rfl | exact .inr rfl) (de_ix (de_lst (dan_cons de_int (dan_cons (dv 8) (dan_cons (dv 6) (dan_cons (de_add (de_add (dv 6) de_int) (de_callV o_great (hr.mono (by omega)) (by rfl) (dan_cons (dv 1) dan_nil))) (dan_cons (dv 8) dan_nil)))))) (dv 7)))
    (dss_cons (ds_set (i := 9) sc_law.nd rfl (by first | exact .inl rfl | exact .inr rfl) (de_ix (de_lst (dan_cons (de_list (by rfl) (T.b_list) (dv 3)) (dan_cons (de_tuple (by rfl) (T.b_tuple) (dv 3)) dan_nil))) (de_callV o_take (hr.mono (by omega)) (by rfl) (dan_cons (dv 1) (dan_cons de_int dan_nil)))))
    (dss_cons (ds_set (i := 10) sc_law.nd rfl (by first | exact .inl rfl | exact .inr rfl) (de_strD hr (by rfl) (T.b_str) (dv 9)))
    (dss_cons (ds_set (i := 11) sc_law.nd rfl (by first | exact .inl rfl | exact .inr rfl) de_non)
    (dss_cut [0, 2, 5, 6, 7, 8, 12, 13] 2 (ds_if (dt_le (dv 4) (dv 6))
      (dss_one (ds_set (i := 11) sc_law.nd rfl (by first | exact .inl rfl | exact .inr rfl) (de_tup (dan_cons (de_callV o_filled (hr.mono (by omega)) (by rfl) (dan_cons (dv 3) (dan_cons (dv 4) (dan_cons de_bl dan_nil)))) (dan_cons (de_callV o_filled (hr.mono (by omega)) (by rfl) (dan_cons (dv 3) (dan_cons (dv 4) (dan_cons de_bl dan_nil)))) dan_nil)))))
      dss_nil)
    (dss_cons (ds_for [0, 2, 5, 6, 7, 8, 12, 13] 2 PassesOwn.never rfl (di_range1 (by rfl) (T.b_range) (da_cons de_int da_nil)) (dg_name (i := 12) sc_law.nd rfl (by first | exact .inl rfl | exact .inr rfl))
      (dss_one (ds_if (dt_bool (dw_or (dt_not (dt_val (de_callV o_same (hr.mono (by omega)) (by rfl) (dan_cons (de_callH [0] o_pure_range (hr.mono (by omega)) (by rfl) (dan_cons (dv 9) (dan_cons (dv 4) dan_nil))) (dan_cons (dv 11) dan_nil))))) (dw_or1 (dt_neS (de_strD hr (by rfl) (T.b_str) (dv 9)) (dv 10)))))
        (dss_one (ds_ret de_bl))
        dss_nil)))
    (dss_one (ds_if (dt_notN (dv 11) de_non)
      (dss_cons (ds_set (i := 5) sc_law.nd rfl (by first | exact .inl rfl | exact .inr rfl) (de_callV o_drawn_pure (hr.mono (by omega)) (by rfl) (dan_cons (dv 1) (dan_cons (dv 3) (dan_cons (dv 4) dan_nil)))))
      (dss_one (ds_if (dt_bool (dw_or (dt_val (de_callV o_less (hr.mono (by omega)) (by rfl) (dan_cons (dv 5) (dan_cons (de_ix (dv 11) de_int) dan_nil)))) (dw_or1 (dt_val (de_callV o_less (hr.mono (by omega)) (by rfl) (dan_cons (de_ix (dv 11) de_int) (dan_cons (dv 5) dan_nil)))))))
        (dss_one (ds_ret de_bl))
        dss_nil)))
      dss_nil))))))))))))
  (dss_one (ds_ret de_bl)))) ?_
  refine (show ∀ W : WS, W (S.mk (.no :: .mu 1 :: nos 12) [.tab "by_strength", .rnd fuel0] 1) endLaw → W ⟨.no :: .mu ([("by_strength", c0, P0)] : List (Str × Addr × Addr)).length :: nos 12, ([("by_strength", c0, P0)] : List (Str × Addr × Addr)).map (fun t => MO.tab t.1) ++ [.rnd fuel0], ([("by_strength", c0, P0)] : List (Str × Addr × Addr)).length⟩ endLaw from fun _ h => h) _ ?_
  refine ⟨by decide, by decide, fun (i : Nat) (s : S) => ∃ m, s = ⟨[.no, .mu 1, .no, .no, .no, .no, .no, .no, .no, .no, .no, .no, .no, .no], [.tab "by_strength", .rnd m], 1⟩ ∧ fuel0 ≤ m + 1000 * i, ⟨by decide, fuel0, by (simp only [DL.clS, DL.killL, DL.limL, DL.limE_mu, DL.limE_da, DL.limE_no, DL.takM, DL.limM, DL.frzS, DL.subL, DL.subE_mu, DL.subE_da, DL.subE_no, DL.subS, DL.subM, DL.S.sE, DL.S.sM, DL.S.aM, DL.S.cM, DL.st, DL.gt, DL.sm, DL.gm, DL.putM, DL.pick, DL.muks, DL.nthN, DL.bkE, DL.st0, DL.nos, List.cons_append, List.nil_append, List.append_nil, List.drop_succ_cons, List.drop_nil, List.drop_zero, List.length_cons, List.length_nil, List.map_cons, List.map_nil, List.map_append, Nat.reduceAdd, Nat.zero_add, Nat.reduceLT, Nat.reduceEqDiff, if_true, if_false, ↓reduceIte, Nat.lt_irrefl, Nat.not_lt_zero] <;> rfl), by omega⟩, ?_, ?_⟩
  · rintro i d s hi ⟨m, rfl, hm⟩
    have hi4 : i < 4 := by
      have := (List.getElem?_eq_some_iff.mp hi).1
      rwa [rng_length] at this
    have hm2 : 1000 ≤ m := by unfold fuel0 at hm; omega
    refine ⟨nd1, rfl, by decide, by decide, by omega, fun m1 cs hm1 hcs hl1 hl8 => ⟨rfl, ?_⟩⟩
    try dsimp only [DL.S.sE, DL.S.sM, DL.S.aM, DL.S.cM, DL.st, DL.gt, DL.sm, DL.gm, DL.putM, DL.pick, DL.muks, DL.nthN, DL.bkE, DL.st0, DL.nos, List.cons_append, List.nil_append, List.append_nil, List.drop_succ_cons, List.drop_nil, List.drop_zero, List.drop, DL.a1, DL.a2, DL.a3, DL.cMin3, DL.aNil, DL.aCons, DL.dVar, DL.dC, DL.iI, DL.i1, DL.isB, DL.daI, DL.onE, DL.gN, List.length_cons, List.length_nil, Nat.reduceAdd, Nat.zero_add]
    have hl8' : cs.length ≤ 8 := by omega
    have hc : CsOk cs := ⟨fun c h => (hcs c h).ok, hl8'⟩
    refine ⟨fun (i : Nat) (mo : List MO) (acc : List D) => mo = [.tab "by_strength", .rnd m1] ∧ acc = ((cs.take i).map (·.2.1)).map PyData.int, ⟨rfl, rfl⟩, ?_, ?_⟩
    · rintro i e mo acc hi ⟨rfl, rfl⟩ _
      obtain ⟨c, hci, rfl⟩ := map_get hi
      have hi8 : i < 8 := by have := (List.getElem?_eq_some_iff.mp hci).1; omega
      refine ⟨rfl, tt ?_⟩
      try dsimp only [DL.S.sE, DL.S.sM, DL.S.aM, DL.S.cM, DL.st, DL.gt, DL.sm, DL.gm, DL.putM, DL.pick, DL.muks, DL.nthN, DL.bkE, DL.st0, DL.nos, List.cons_append, List.nil_append, List.append_nil, List.drop_succ_cons, List.drop_nil, List.drop_zero, List.drop, DL.a1, DL.a2, DL.a3, DL.cMin3, DL.aNil, DL.aCons, DL.dVar, DL.dC, DL.iI, DL.i1, DL.isB, DL.daI, DL.onE, DL.gN, List.length_cons, List.length_nil, Nat.reduceAdd, Nat.zero_add]
      refine ⟨by rw [List.length_map, List.length_map, List.length_take]; exact sz (by omega), rfl, rfl, ?_⟩
      rw [take_snoc hci, List.map_append, List.map_append]
      rfl
    rintro mo acc ⟨rfl, rfl⟩ _
    rw [List.length_map, List.take_length]
    refine ⟨_, rfl, ?_⟩
    try dsimp only [DL.S.sE, DL.S.sM, DL.S.aM, DL.S.cM, DL.st, DL.gt, DL.sm, DL.gm, DL.putM, DL.pick, DL.muks, DL.nthN, DL.bkE, DL.st0, DL.nos, List.cons_append, List.nil_append, List.append_nil, List.drop_succ_cons, List.drop_nil, List.drop_zero, List.drop, DL.a1, DL.a2, DL.a3, DL.cMin3, DL.aNil, DL.aCons, DL.dVar, DL.dC, DL.iI, DL.i1, DL.isB, DL.daI, DL.onE, DL.gN, List.length_cons, List.length_nil, Nat.reduceAdd, Nat.zero_add]
    rw [show (List.map (fun c : Ck => c.2.1) cs).sum = allB cs from rfl]
    have hA := allB_lt hc
    refine ⟨nd1, rfl, by omega, divA 3 (by decide) (by decide), fun kind k0 k1 => ⟨rfl, ?_⟩⟩
    try dsimp only [DL.S.sE, DL.S.sM, DL.S.aM, DL.S.cM, DL.st, DL.gt, DL.sm, DL.gm, DL.putM, DL.pick, DL.muks, DL.nthN, DL.bkE, DL.st0, DL.nos, List.cons_append, List.nil_append, List.append_nil, List.drop_succ_cons, List.drop_nil, List.drop_zero, List.drop, DL.a1, DL.a2, DL.a3, DL.cMin3, DL.aNil, DL.aCons, DL.dVar, DL.dC, DL.iI, DL.i1, DL.isB, DL.daI, DL.onE, DL.gN, List.length_cons, List.length_nil, Nat.reduceAdd, Nat.zero_add]
    refine ⟨nd1, rfl, by omega, fun m2 g hg g0 g1 => ⟨rfl, ?_⟩⟩
    try dsimp only [DL.S.sE, DL.S.sM, DL.S.aM, DL.S.cM, DL.st, DL.gt, DL.sm, DL.gm, DL.putM, DL.pick, DL.muks, DL.nthN, DL.bkE, DL.st0, DL.nos, List.cons_append, List.nil_append, List.append_nil, List.drop_succ_cons, List.drop_nil, List.drop_zero, List.drop, DL.a1, DL.a2, DL.a3, DL.cMin3, DL.aNil, DL.aCons, DL.dVar, DL.dC, DL.iI, DL.i1, DL.isB, DL.daI, DL.onE, DL.gN, List.length_cons, List.length_nil, Nat.reduceAdd, Nat.zero_add]
    refine ⟨by omega, ?_⟩
    have r0 := Int.emod_nonneg g (show allB cs + 1 ≠ 0 by omega)
    have r1 := Int.emod_lt_of_pos g (show 0 < allB cs + 1 by omega)
    generalize g % (allB cs + 1) = dr at *
    try dsimp only [DL.S.sE, DL.S.sM, DL.S.aM, DL.S.cM, DL.st, DL.gt, DL.sm, DL.gm, DL.putM, DL.pick, DL.muks, DL.nthN, DL.bkE, DL.st0, DL.nos, List.cons_append, List.nil_append, List.append_nil, List.drop_succ_cons, List.drop_nil, List.drop_zero, List.drop, DL.a1, DL.a2, DL.a3, DL.cMin3, DL.aNil, DL.aCons, DL.dVar, DL.dC, DL.iI, DL.i1, DL.isB, DL.daI, DL.onE, DL.gN, List.length_cons, List.length_nil, Nat.reduceAdd, Nat.zero_add]
    refine ⟨nd1, rfl, by omega, fun m3 g' hg' g0' g1' => ⟨rfl, ?_⟩⟩
    try dsimp only [DL.S.sE, DL.S.sM, DL.S.aM, DL.S.cM, DL.st, DL.gt, DL.sm, DL.gm, DL.putM, DL.pick, DL.muks, DL.nthN, DL.bkE, DL.st0, DL.nos, List.cons_append, List.nil_append, List.append_nil, List.drop_succ_cons, List.drop_nil, List.drop_zero, List.drop, DL.a1, DL.a2, DL.a3, DL.cMin3, DL.aNil, DL.aCons, DL.dVar, DL.dC, DL.iI, DL.i1, DL.isB, DL.daI, DL.onE, DL.gN, List.length_cons, List.length_nil, Nat.reduceAdd, Nat.zero_add]
    obtain ⟨B, hB, B0, B1⟩ : ∃ B : Int, atI [PyData.int 0, .int dr, .int (allB cs), .int (allB cs + 1 + g'), .int dr] kind = some (.int B) ∧ 0 ≤ B ∧ B < 2 ^ 130 := by
      obtain rfl | rfl | rfl | rfl | rfl : kind = 0 ∨ kind = 1 ∨ kind = 2 ∨ kind = 3 ∨ kind = 4 := by omega
      · exact ⟨_, rfl, by omega, by omega⟩
      · exact ⟨_, rfl, by omega, by omega⟩
      · exact ⟨_, rfl, by omega, by omega⟩
      · exact ⟨_, rfl, by omega, by omega⟩
      · exact ⟨_, rfl, by omega, by omega⟩
    refine ⟨_, hB, ?_⟩
    try dsimp only [DL.S.sE, DL.S.sM, DL.S.aM, DL.S.cM, DL.st, DL.gt, DL.sm, DL.gm, DL.putM, DL.pick, DL.muks, DL.nthN, DL.bkE, DL.st0, DL.nos, List.cons_append, List.nil_append, List.append_nil, List.drop_succ_cons, List.drop_nil, List.drop_zero, List.drop, DL.a1, DL.a2, DL.a3, DL.cMin3, DL.aNil, DL.aCons, DL.dVar, DL.dC, DL.iI, DL.i1, DL.isB, DL.daI, DL.onE, DL.gN, List.length_cons, List.length_nil, Nat.reduceAdd, Nat.zero_add]
    refine ⟨nd1, rfl, by omega, divA 2 (by decide) (by decide), fun w w0 w1 => ⟨rfl, ?_⟩⟩
    try dsimp only [DL.S.sE, DL.S.sM, DL.S.aM, DL.S.cM, DL.st, DL.gt, DL.sm, DL.gm, DL.putM, DL.pick, DL.muks, DL.nthN, DL.bkE, DL.st0, DL.nos, List.cons_append, List.nil_append, List.append_nil, List.drop_succ_cons, List.drop_nil, List.drop_zero, List.drop, DL.a1, DL.a2, DL.a3, DL.cMin3, DL.aNil, DL.aCons, DL.dVar, DL.dC, DL.iI, DL.i1, DL.isB, DL.daI, DL.onE, DL.gN, List.length_cons, List.length_nil, Nat.reduceAdd, Nat.zero_add]
    obtain ⟨x, hx, hx0⟩ : ∃ x : D, atI [PyData.list (cs.map ckD), .tuple (cs.map ckD)] w = some x ∧ isL ckD cs x := by
      obtain rfl | rfl : w = 0 ∨ w = 1 := by omega
      · exact ⟨_, rfl, .inl rfl⟩
      · exact ⟨_, rfl, .inr rfl⟩
    refine ⟨_, hx, ?_⟩
    try dsimp only [DL.S.sE, DL.S.sM, DL.S.aM, DL.S.cM, DL.st, DL.gt, DL.sm, DL.gm, DL.putM, DL.pick, DL.muks, DL.nthN, DL.bkE, DL.st0, DL.nos, List.cons_append, List.nil_append, List.append_nil, List.drop_succ_cons, List.drop_nil, List.drop_zero, List.drop, DL.a1, DL.a2, DL.a3, DL.cMin3, DL.aNil, DL.aCons, DL.dVar, DL.dC, DL.iI, DL.i1, DL.isB, DL.daI, DL.onE, DL.gN, List.length_cons, List.length_nil, Nat.reduceAdd, Nat.zero_add]
    have W := ck_shw hcs hl8' hx0
    refine str_go W (by decide) (by decide) ?_
    try dsimp only [DL.S.sE, DL.S.sM, DL.S.aM, DL.S.cM, DL.st, DL.gt, DL.sm, DL.gm, DL.putM, DL.pick, DL.muks, DL.nthN, DL.bkE, DL.st0, DL.nos, List.cons_append, List.nil_append, List.append_nil, List.drop_succ_cons, List.drop_nil, List.drop_zero, List.drop, DL.a1, DL.a2, DL.a3, DL.cMin3, DL.aNil, DL.aCons, DL.dVar, DL.dC, DL.iI, DL.i1, DL.isB, DL.daI, DL.onE, DL.gN, List.length_cons, List.length_nil, Nat.reduceAdd, Nat.zero_add]
    refine ⟨fun s => ∃ (due : D) (m4 : Nat), s = ⟨[.no, .mu 1, .no, .da (.list (cs.map ckD)), .da (.int B), .no, .no, .no, .no, .da x, .da (.str (strD x)), .da due, .no, .no], [.tab "by_strength", .rnd m4], 1⟩ ∧ m ≤ m4 + 500 ∧ (allB cs < B → due = .none) ∧ (B ≤ allB cs → due = .tuple [qD (pur cs (lowA cs B)), qD (pur cs (highA cs B))]), ?_, ?_⟩
    · refine bS (fun q => ?_) fun q => ?_
      · refine ⟨List.nodup_nil, rfl, cs, rfl, hc, B0, q, rfl, ?_⟩
        refine ⟨List.nodup_nil, rfl, cs, rfl, hc, B0, q, rfl, ?_⟩
        exact ⟨Nat.le_succ 1, _, m3 - 1, by (simp only [DL.clS, DL.killL, DL.limL, DL.limE_mu, DL.limE_da, DL.limE_no, DL.takM, DL.limM, DL.frzS, DL.subL, DL.subE_mu, DL.subE_da, DL.subE_no, DL.subS, DL.subM, DL.S.sE, DL.S.sM, DL.S.aM, DL.S.cM, DL.st, DL.gt, DL.sm, DL.gm, DL.putM, DL.pick, DL.muks, DL.nthN, DL.bkE, DL.st0, DL.nos, List.cons_append, List.nil_append, List.append_nil, List.drop_succ_cons, List.drop_nil, List.drop_zero, List.length_cons, List.length_nil, List.map_cons, List.map_nil, List.map_append, Nat.reduceAdd, Nat.zero_add, Nat.reduceLT, Nat.reduceEqDiff, if_true, if_false, ↓reduceIte, Nat.lt_irrefl, Nat.not_lt_zero] <;> rfl), by omega, fun z => by omega, fun _ => rfl⟩
      · exact ⟨Nat.le_succ 1, _, m3 - 1, by (simp only [DL.clS, DL.killL, DL.limL, DL.limE_mu, DL.limE_da, DL.limE_no, DL.takM, DL.limM, DL.frzS, DL.subL, DL.subE_mu, DL.subE_da, DL.subE_no, DL.subS, DL.subM, DL.S.sE, DL.S.sM, DL.S.aM, DL.S.cM, DL.st, DL.gt, DL.sm, DL.gm, DL.putM, DL.pick, DL.muks, DL.nthN, DL.bkE, DL.st0, DL.nos, List.cons_append, List.nil_append, List.append_nil, List.drop_succ_cons, List.drop_nil, List.drop_zero, List.length_cons, List.length_nil, List.map_cons, List.map_nil, List.map_append, Nat.reduceAdd, Nat.zero_add, Nat.reduceLT, Nat.reduceEqDiff, if_true, if_false, ↓reduceIte, Nat.lt_irrefl, Nat.not_lt_zero] <;> rfl), by omega, fun _ => rfl, fun z => by omega⟩
    rintro s ⟨due, m4, rfl, hm4, du1, du2⟩
    have dok : okS false due = true ∧ due.depth ≤ 2 := by
      by_cases q : B ≤ allB cs
      · rw [du2 q]
        refine ⟨rfl, ?_⟩
        unfold qD
        simp [PyData.depth, PyData.depthAll]
      · rw [du1 (by omega)]
        exact ⟨rfl, by simp [PyData.depth]⟩
    refine ⟨by decide, by decide, fun (i : Nat) (s : S) => s = ⟨[.no, .mu 1, .no, .da (.list (cs.map ckD)), .da (.int B), .no, .no, .no, .no, .da x, .da (.str (strD x)), .da due, .no, .no], [.tab "by_strength", .rnd m4], 1⟩, ⟨Nat.le_succ 1, rfl⟩, ?_, ?_⟩
    · rintro j e s hj rfl
      refine ⟨nd1, rfl, rfl, cs, hx0, hc, B0, fun d1 h1 h2 => ⟨rfl, ?_⟩⟩
      have ed : d1 = due := by
        by_cases q : B ≤ allB cs
        · rw [du2 q, h2 q]
        · rw [du1 (by omega), h1 (by omega)]
      subst ed
      refine ⟨List.nodup_nil, rfl, rfl, dok.1, by have := dok.2; omega, by decide, rfl, ?_⟩
      refine ff ?_
      refine str_go W (by decide) (by decide) ?_
      refine nF rfl ?_
      exact ⟨Nat.le_succ 1, by (simp only [DL.clS, DL.killL, DL.limL, DL.limE_mu, DL.limE_da, DL.limE_no, DL.takM, DL.limM, DL.frzS, DL.subL, DL.subE_mu, DL.subE_da, DL.subE_no, DL.subS, DL.subM, DL.S.sE, DL.S.sM, DL.S.aM, DL.S.cM, DL.st, DL.gt, DL.sm, DL.gm, DL.putM, DL.pick, DL.muks, DL.nthN, DL.bkE, DL.st0, DL.nos, List.cons_append, List.nil_append, List.append_nil, List.drop_succ_cons, List.drop_nil, List.drop_zero, List.length_cons, List.length_nil, List.map_cons, List.map_nil, List.map_append, Nat.reduceAdd, Nat.zero_add, Nat.reduceLT, Nat.reduceEqDiff, if_true, if_false, ↓reduceIte, Nat.lt_irrefl, Nat.not_lt_zero] <;> rfl)⟩
    · rintro s rfl
      by_cases q : B ≤ allB cs
      · rw [du2 q]
        have f1 := pur_fr (low_taken hc.ok B0 q) hc
        have f2 := pur_fr (high_taken hc.ok B0 q) hc
        try dsimp only [DL.S.sE, DL.S.sM, DL.S.aM, DL.S.cM, DL.st, DL.gt, DL.sm, DL.gm, DL.putM, DL.pick, DL.muks, DL.nthN, DL.bkE, DL.st0, DL.nos, List.cons_append, List.nil_append, List.append_nil, List.drop_succ_cons, List.drop_nil, List.drop_zero, List.drop, DL.a1, DL.a2, DL.a3, DL.cMin3, DL.aNil, DL.aCons, DL.dVar, DL.dC, DL.iI, DL.i1, DL.isB, DL.daI, DL.onE, DL.gN, List.length_cons, List.length_nil, Nat.reduceAdd, Nat.zero_add]
        refine tt ?_
        refine ⟨nd1, rfl, cs, rfl, hc, B0, by omega, fun m5 L hm5 hL => ⟨rfl, ?_⟩⟩
        try dsimp only [DL.S.sE, DL.S.sM, DL.S.aM, DL.S.cM, DL.st, DL.gt, DL.sm, DL.gm, DL.putM, DL.pick, DL.muks, DL.nthN, DL.bkE, DL.st0, DL.nos, List.cons_append, List.nil_append, List.append_nil, List.drop_succ_cons, List.drop_nil, List.drop_zero, List.drop, DL.a1, DL.a2, DL.a3, DL.cMin3, DL.aNil, DL.aCons, DL.dVar, DL.dC, DL.iI, DL.i1, DL.isB, DL.daI, DL.onE, DL.gN, List.length_cons, List.length_nil, Nat.reduceAdd, Nat.zero_add]
        have f3 := pt_fr hc hL B0 q
        have bt := pt_between hc.ok hL B0 q
        refine ⟨_, rfl, List.nodup_nil, rfl, _, _, rfl, rfl, f3.up (by decide), f1.up (by decide), rfl, ?_⟩
        refine DL.bF (Rat.not_lt.mpr bt.1) ?_
        refine ⟨_, rfl, List.nodup_nil, rfl, _, _, rfl, rfl, f2.up (by decide), f3.up (by decide), rfl, ?_⟩
        refine DL.bF (Rat.not_lt.mpr bt.2) ?_
        exact ⟨Nat.le_succ 1, m5, by (simp only [DL.clS, DL.killL, DL.limL, DL.limE_mu, DL.limE_da, DL.limE_no, DL.takM, DL.limM, DL.frzS, DL.subL, DL.subE_mu, DL.subE_da, DL.subE_no, DL.subS, DL.subM, DL.S.sE, DL.S.sM, DL.S.aM, DL.S.cM, DL.st, DL.gt, DL.sm, DL.gm, DL.putM, DL.pick, DL.muks, DL.nthN, DL.bkE, DL.st0, DL.nos, List.cons_append, List.nil_append, List.append_nil, List.drop_succ_cons, List.drop_nil, List.drop_zero, List.length_cons, List.length_nil, List.map_cons, List.map_nil, List.map_append, Nat.reduceAdd, Nat.zero_add, Nat.reduceLT, Nat.reduceEqDiff, if_true, if_false, ↓reduceIte, Nat.lt_irrefl, Nat.not_lt_zero] <;> rfl), by omega⟩
      · rw [du1 (by omega)]
        try dsimp only [DL.S.sE, DL.S.sM, DL.S.aM, DL.S.cM, DL.st, DL.gt, DL.sm, DL.gm, DL.putM, DL.pick, DL.muks, DL.nthN, DL.bkE, DL.st0, DL.nos, List.cons_append, List.nil_append, List.append_nil, List.drop_succ_cons, List.drop_nil, List.drop_zero, List.drop, DL.a1, DL.a2, DL.a3, DL.cMin3, DL.aNil, DL.aCons, DL.dVar, DL.dC, DL.iI, DL.i1, DL.isB, DL.daI, DL.onE, DL.gN, List.length_cons, List.length_nil, Nat.reduceAdd, Nat.zero_add]
        refine ff ?_
        exact ⟨Nat.le_succ 1, m4, by (simp only [DL.clS, DL.killL, DL.limL, DL.limE_mu, DL.limE_da, DL.limE_no, DL.takM, DL.limM, DL.frzS, DL.subL, DL.subE_mu, DL.subE_da, DL.subE_no, DL.subS, DL.subM, DL.S.sE, DL.S.sM, DL.S.aM, DL.S.cM, DL.st, DL.gt, DL.sm, DL.gm, DL.putM, DL.pick, DL.muks, DL.nthN, DL.bkE, DL.st0, DL.nos, List.cons_append, List.nil_append, List.append_nil, List.drop_succ_cons, List.drop_nil, List.drop_zero, List.length_cons, List.length_nil, List.map_cons, List.map_nil, List.map_append, Nat.reduceAdd, Nat.zero_add, Nat.reduceLT, Nat.reduceEqDiff, if_true, if_false, ↓reduceIte, Nat.lt_irrefl, Nat.not_lt_zero] <;> rfl), by omega⟩
  · exact fun s ⟨m, e, _⟩ => by subst e; rfl
end
theorem law_all {f : Addr} {fd : FuncData} {P : Program} {w : World} {K : PySem.W.Frag} {mg : Str → Option Value} {base : Heap} (F : Fun K "law" "law" s_law f fd) (T : Tx K mg) (TB : TbX K mg base) {c0 P0 : Addr} (tc0 : TabC K "by_strength" c0 P0) (nd : [P0].Nodup) : FnOkG P w K mg base CX0 9 f fd ["_law_script"] (spLawT K [("by_strength", c0, P0)]) := by
  have h_take : Ok P w K mg base 1 "_law_take" s_take ["_law_state", "_law_many"] 2 spTake := o_take' T
  have h_common := ok_common (P := P) (w := w) (base := base) T 
  have h_strengths_of := ok_strengths_of (P := P) (w := w) (base := base) T 
  have h_taken_by := ok_taken_by (P := P) (w := w) (base := base) T 
  have h_pure_in := ok_pure_in (P := P) (w := w) (base := base) T 
  have h_low := ok_low (P := P) (w := w) (base := base) T 
  have h_less := ok_less (P := P) (w := w) (base := base) T 
  have h_lowest := ok_lowest (P := P) (w := w) (base := base) T h_common
  have h_plus := ok_plus (P := P) (w := w) (base := base) T h_low
  have h_great := ok_great (P := P) (w := w) (base := base) T h_take
  have h_cask := ok_cask (P := P) (w := w) (base := base) T h_great h_take
  have h_filled := ok_filled (P := P) (w := w) (base := base) T h_low h_plus
  have h_drawn_pure := ok_drawn_pure (P := P) (w := w) (base := base) T h_low h_plus h_take
  have h_by_strength := ok_by_strength (P := P) (w := w) (base := base) T TB 
  have h_casks := ok_casks (P := P) (w := w) (base := base) T h_cask h_take
  have h_pure_range := ok_pure_range (P := P) (w := w) (base := base) T h_by_strength h_lowest h_pure_in h_strengths_of h_taken_by
  have h_same := ok_same (P := P) (w := w) (base := base) T 
  exact ok_law' F T tc0 nd h_casks h_drawn_pure h_filled h_great h_less h_same h_take h_pure_range
theorem all_mk {l : PySem.W.OpenLaw} {w : World} {K : PySem.W.Frag} {h : Heap} {mg : Str → Option Value} {fa : Addr} (X : K.In h) (G : h.Ns mainGlobals mg) (hfa : mg "law" = some (.ref fa))
    {f0 : Addr} {od0 an0 : Option Addr} {sl0 : Array (Option Value)} {oc0 kV0 dc0 pm0 cd0 ct0 : Value}
    {f1 : Addr} {od1 an1 : Option Addr} {sl1 : Array (Option Value)} {oc1 kV1 dc1 pm1 cd1 ct1 : Value}
    {f2 : Addr} {od2 an2 : Option Addr} {sl2 : Array (Option Value)} {oc2 kV2 dc2 pm2 cd2 ct2 : Value}
    {f3 : Addr} {od3 an3 : Option Addr} {sl3 : Array (Option Value)} {oc3 kV3 dc3 pm3 cd3 ct3 : Value}
    {f4 : Addr} {od4 an4 : Option Addr} {sl4 : Array (Option Value)} {oc4 kV4 dc4 pm4 cd4 ct4 : Value}
    {f5 : Addr} {od5 an5 : Option Addr} {sl5 : Array (Option Value)} {oc5 kV5 dc5 pm5 ct5 : Value}
    {y5 Q5 : Addr} {cc5 : Value} {cx5 : Option Addr} {cv5 : Array Value} {cs5 : Array (Option Value)}
    {f6 : Addr} {od6 an6 : Option Addr} {sl6 : Array (Option Value)} {oc6 kV6 dc6 pm6 cd6 ct6 : Value}
    {f7 : Addr} {od7 an7 : Option Addr} {sl7 : Array (Option Value)} {oc7 kV7 dc7 pm7 cd7 ct7 : Value}
    {f8 : Addr} {od8 an8 : Option Addr} {sl8 : Array (Option Value)} {oc8 kV8 dc8 pm8 cd8 ct8 : Value}
    {f9 : Addr} {od9 an9 : Option Addr} {sl9 : Array (Option Value)} {oc9 kV9 dc9 pm9 cd9 ct9 : Value}
    {f10 : Addr} {od10 an10 : Option Addr} {sl10 : Array (Option Value)} {oc10 kV10 dc10 pm10 cd10 ct10 : Value}
    {f11 : Addr} {od11 an11 : Option Addr} {sl11 : Array (Option Value)} {oc11 kV11 dc11 pm11 cd11 ct11 : Value}
    {f12 : Addr} {od12 an12 : Option Addr} {sl12 : Array (Option Value)} {oc12 kV12 dc12 pm12 cd12 ct12 : Value}
    {f13 : Addr} {od13 an13 : Option Addr} {sl13 : Array (Option Value)} {oc13 kV13 dc13 pm13 cd13 ct13 : Value}
    {f14 : Addr} {od14 an14 : Option Addr} {sl14 : Array (Option Value)} {oc14 kV14 dc14 pm14 cd14 ct14 : Value}
    {f15 : Addr} {od15 an15 : Option Addr} {sl15 : Array (Option Value)} {oc15 kV15 dc15 pm15 cd15 ct15 : Value}
    {f16 : Addr} {od16 an16 : Option Addr} {sl16 : Array (Option Value)} {oc16 kV16 dc16 pm16 cd16 ct16 : Value}
    {f17 : Addr} {od17 an17 : Option Addr} {sl17 : Array (Option Value)} {oc17 kV17 dc17 pm17 cd17 ct17 : Value}
    {f18 : Addr} {od18 an18 : Option Addr} {sl18 : Array (Option Value)} {oc18 kV18 dc18 pm18 cd18 ct18 : Value}
    (a0 : PySem.W.nsIn K mainGlobals "common" = some (some (.ref f0))) (l0 : K.lookup f0 = some ⟨oc0, od0, .func (PySem.W.fnOf "common" "common" (defArgs s_common) (defBody s_common) (defScope s_common) .none kV0 dc0 pm0 an0 cd0 ct0), sl0⟩) (c0 : PySem.W.codeIn K cd0 "common" = true) (k0 : PySem.W.keepIn K (.ref f0) = true)
    (a1 : PySem.W.nsIn K mainGlobals "lowest" = some (some (.ref f1))) (l1 : K.lookup f1 = some ⟨oc1, od1, .func (PySem.W.fnOf "lowest" "lowest" (defArgs s_lowest) (defBody s_lowest) (defScope s_lowest) .none kV1 dc1 pm1 an1 cd1 ct1), sl1⟩) (c1 : PySem.W.codeIn K cd1 "lowest" = true) (k1 : PySem.W.keepIn K (.ref f1) = true)
    (a2 : PySem.W.nsIn K mainGlobals "strengths_of" = some (some (.ref f2))) (l2 : K.lookup f2 = some ⟨oc2, od2, .func (PySem.W.fnOf "strengths_of" "strengths_of" (defArgs s_strengths_of) (defBody s_strengths_of) (defScope s_strengths_of) .none kV2 dc2 pm2 an2 cd2 ct2), sl2⟩) (c2 : PySem.W.codeIn K cd2 "strengths_of" = true) (k2 : PySem.W.keepIn K (.ref f2) = true)
    (a3 : PySem.W.nsIn K mainGlobals "taken_by" = some (some (.ref f3))) (l3 : K.lookup f3 = some ⟨oc3, od3, .func (PySem.W.fnOf "taken_by" "taken_by" (defArgs s_taken_by) (defBody s_taken_by) (defScope s_taken_by) .none kV3 dc3 pm3 an3 cd3 ct3), sl3⟩) (c3 : PySem.W.codeIn K cd3 "taken_by" = true) (k3 : PySem.W.keepIn K (.ref f3) = true)
    (a4 : PySem.W.nsIn K mainGlobals "pure_in" = some (some (.ref f4))) (l4 : K.lookup f4 = some ⟨oc4, od4, .func (PySem.W.fnOf "pure_in" "pure_in" (defArgs s_pure_in) (defBody s_pure_in) (defScope s_pure_in) .none kV4 dc4 pm4 an4 cd4 ct4), sl4⟩) (c4 : PySem.W.codeIn K cd4 "pure_in" = true) (k4 : PySem.W.keepIn K (.ref f4) = true)
    (a5 : PySem.W.nsIn K mainGlobals "by_strength" = some (some (.ref f5))) (l5 : K.lookup f5 = some ⟨oc5, od5, .func (PySem.W.fnOf "by_strength" "by_strength" (defArgs s_by_strength) (defBody s_by_strength) (defScope s_by_strength) .none kV5 dc5 pm5 an5 (.ref y5) ct5), sl5⟩) (c5 : PySem.W.codeIn K (.ref y5) "by_strength" = true) (k5 : PySem.W.keepIn K (.ref f5) = true)
    (v5 : K.lookup y5 = some ⟨cc5, cx5, .fields cv5, cs5⟩) (p5 : cv5[11]? = some (.ref Q5)) (u5 : PySem.W.codeHdIn K y5 Q5 = true) (n5 : K.lookup Q5 = none) (g5 : h.get? Q5 = some { cls := .none, data := .fields #[] })
    (a6 : PySem.W.nsIn K mainGlobals "pure_range" = some (some (.ref f6))) (l6 : K.lookup f6 = some ⟨oc6, od6, .func (PySem.W.fnOf "pure_range" "pure_range" (defArgs s_pure_range) (defBody s_pure_range) (defScope s_pure_range) .none kV6 dc6 pm6 an6 cd6 ct6), sl6⟩) (c6 : PySem.W.codeIn K cd6 "pure_range" = true) (k6 : PySem.W.keepIn K (.ref f6) = true)
    (a7 : PySem.W.nsIn K mainGlobals "_law_begin" = some (some (.ref f7))) (l7 : K.lookup f7 = some ⟨oc7, od7, .func (PySem.W.fnOf "_law_begin" "_law_begin" (defArgs s_begin) (defBody s_begin) (defScope s_begin) .none kV7 dc7 pm7 an7 cd7 ct7), sl7⟩) (c7 : PySem.W.codeIn K cd7 "_law_begin" = true) (k7 : PySem.W.keepIn K (.ref f7) = true)
    (a8 : PySem.W.nsIn K mainGlobals "_law_take" = some (some (.ref f8))) (l8 : K.lookup f8 = some ⟨oc8, od8, .func (PySem.W.fnOf "_law_take" "_law_take" (defArgs s_take) (defBody s_take) (defScope s_take) .none kV8 dc8 pm8 an8 cd8 ct8), sl8⟩) (c8 : PySem.W.codeIn K cd8 "_law_take" = true) (k8 : PySem.W.keepIn K (.ref f8) = true)
    (a9 : PySem.W.nsIn K mainGlobals "_law_same" = some (some (.ref f9))) (l9 : K.lookup f9 = some ⟨oc9, od9, .func (PySem.W.fnOf "_law_same" "_law_same" (defArgs s_same) (defBody s_same) (defScope s_same) .none kV9 dc9 pm9 an9 cd9 ct9), sl9⟩) (c9 : PySem.W.codeIn K cd9 "_law_same" = true) (k9 : PySem.W.keepIn K (.ref f9) = true)
    (a10 : PySem.W.nsIn K mainGlobals "_law_low" = some (some (.ref f10))) (l10 : K.lookup f10 = some ⟨oc10, od10, .func (PySem.W.fnOf "_law_low" "_law_low" (defArgs s_low) (defBody s_low) (defScope s_low) .none kV10 dc10 pm10 an10 cd10 ct10), sl10⟩) (c10 : PySem.W.codeIn K cd10 "_law_low" = true) (k10 : PySem.W.keepIn K (.ref f10) = true)
    (a11 : PySem.W.nsIn K mainGlobals "_law_plus" = some (some (.ref f11))) (l11 : K.lookup f11 = some ⟨oc11, od11, .func (PySem.W.fnOf "_law_plus" "_law_plus" (defArgs s_plus) (defBody s_plus) (defScope s_plus) .none kV11 dc11 pm11 an11 cd11 ct11), sl11⟩) (c11 : PySem.W.codeIn K cd11 "_law_plus" = true) (k11 : PySem.W.keepIn K (.ref f11) = true)
    (a12 : PySem.W.nsIn K mainGlobals "_law_less" = some (some (.ref f12))) (l12 : K.lookup f12 = some ⟨oc12, od12, .func (PySem.W.fnOf "_law_less" "_law_less" (defArgs s_less) (defBody s_less) (defScope s_less) .none kV12 dc12 pm12 an12 cd12 ct12), sl12⟩) (c12 : PySem.W.codeIn K cd12 "_law_less" = true) (k12 : PySem.W.keepIn K (.ref f12) = true)
    (a13 : PySem.W.nsIn K mainGlobals "_law_great" = some (some (.ref f13))) (l13 : K.lookup f13 = some ⟨oc13, od13, .func (PySem.W.fnOf "_law_great" "_law_great" (defArgs s_great) (defBody s_great) (defScope s_great) .none kV13 dc13 pm13 an13 cd13 ct13), sl13⟩) (c13 : PySem.W.codeIn K cd13 "_law_great" = true) (k13 : PySem.W.keepIn K (.ref f13) = true)
    (a14 : PySem.W.nsIn K mainGlobals "_law_cask" = some (some (.ref f14))) (l14 : K.lookup f14 = some ⟨oc14, od14, .func (PySem.W.fnOf "_law_cask" "_law_cask" (defArgs s_cask) (defBody s_cask) (defScope s_cask) .none kV14 dc14 pm14 an14 cd14 ct14), sl14⟩) (c14 : PySem.W.codeIn K cd14 "_law_cask" = true) (k14 : PySem.W.keepIn K (.ref f14) = true)
    (a15 : PySem.W.nsIn K mainGlobals "_law_casks" = some (some (.ref f15))) (l15 : K.lookup f15 = some ⟨oc15, od15, .func (PySem.W.fnOf "_law_casks" "_law_casks" (defArgs s_casks) (defBody s_casks) (defScope s_casks) .none kV15 dc15 pm15 an15 cd15 ct15), sl15⟩) (c15 : PySem.W.codeIn K cd15 "_law_casks" = true) (k15 : PySem.W.keepIn K (.ref f15) = true)
    (a16 : PySem.W.nsIn K mainGlobals "_law_filled" = some (some (.ref f16))) (l16 : K.lookup f16 = some ⟨oc16, od16, .func (PySem.W.fnOf "_law_filled" "_law_filled" (defArgs s_filled) (defBody s_filled) (defScope s_filled) .none kV16 dc16 pm16 an16 cd16 ct16), sl16⟩) (c16 : PySem.W.codeIn K cd16 "_law_filled" = true) (k16 : PySem.W.keepIn K (.ref f16) = true)
    (a17 : PySem.W.nsIn K mainGlobals "_law_drawn_pure" = some (some (.ref f17))) (l17 : K.lookup f17 = some ⟨oc17, od17, .func (PySem.W.fnOf "_law_drawn_pure" "_law_drawn_pure" (defArgs s_drawn_pure) (defBody s_drawn_pure) (defScope s_drawn_pure) .none kV17 dc17 pm17 an17 cd17 ct17), sl17⟩) (c17 : PySem.W.codeIn K cd17 "_law_drawn_pure" = true) (k17 : PySem.W.keepIn K (.ref f17) = true)
    (a18 : PySem.W.nsIn K mainGlobals "law" = some (some (.ref f18))) (l18 : K.lookup f18 = some ⟨oc18, od18, .func (PySem.W.fnOf "law" "law" (defArgs s_law) (defBody s_law) (defScope s_law) .none kV18 dc18 pm18 an18 cd18 ct18), sl18⟩) (c18 : PySem.W.codeIn K cd18 "law" = true) (k18 : PySem.W.keepIn K (.ref f18) = true)
    (z_abs : PySem.W.nsIn K mainGlobals "abs" = some none)
    (z_all : PySem.W.nsIn K mainGlobals "all" = some none)
    (z_bool : PySem.W.nsIn K mainGlobals "bool" = some none)
    (z_divmod : PySem.W.nsIn K mainGlobals "divmod" = some none)
    (z_int : PySem.W.nsIn K mainGlobals "int" = some none)
    (z_isinstance : PySem.W.nsIn K mainGlobals "isinstance" = some none)
    (z_len : PySem.W.nsIn K mainGlobals "len" = some none)
    (z_list : PySem.W.nsIn K mainGlobals "list" = some none)
    (z_max : PySem.W.nsIn K mainGlobals "max" = some none)
    (z_min : PySem.W.nsIn K mainGlobals "min" = some none)
    (z_range : PySem.W.nsIn K mainGlobals "range" = some none)
    (z_sorted : PySem.W.nsIn K mainGlobals "sorted" = some none)
    (z_str : PySem.W.nsIn K mainGlobals "str" = some none)
    (z_sum : PySem.W.nsIn K mainGlobals "sum" = some none)
    (z_tuple : PySem.W.nsIn K mainGlobals "tuple" = some none)
    (z_zip : PySem.W.nsIn K mainGlobals "zip" = some none)
    (nd : [Q5].Nodup)
    : LawT l w K 9 "_law_script" mg fa h := by
  have e := hfa.symm.trans (PySem.W.mg_of X G a18)
  cases e
  have FL := fun_mk (st := s_law) l18 c18 k18
  have tc0 : TabC K "by_strength" y5 Q5 := ⟨_, _, _, _, _, a5, l5, rfl, u5⟩
  have F0 := fun_mk (st := s_common) l0 c0 k0
  have b0 := F0.binds (ps := ["one", "other"]) fun _ _ _ _ _ _ us hl => match us, hl with | [_, _], _ => rfl
  have F1 := fun_mk (st := s_lowest) l1 c1 k1
  have b1 := F1.binds (ps := ["over", "under"]) fun _ _ _ _ _ _ us hl => match us, hl with | [_, _], _ => rfl
  have F2 := fun_mk (st := s_strengths_of) l2 c2 k2
  have b2 := F2.binds (ps := ["casks"]) fun _ _ _ _ _ _ us hl => match us, hl with | [_], _ => rfl
  have F3 := fun_mk (st := s_taken_by) l3 c3 k3
  have b3 := F3.binds (ps := ["order", "casks", "bulk"]) fun _ _ _ _ _ _ us hl => match us, hl with | [_, _, _], _ => rfl
  have F4 := fun_mk (st := s_pure_in) l4 c4 k4
  have b4 := F4.binds (ps := ["amounts", "strengths"]) fun _ _ _ _ _ _ us hl => match us, hl with | [_, _], _ => rfl
  have F5 := fun_mk (st := s_by_strength) l5 c5 k5
  have b5 := F5.binds (ps := ["strengths"]) fun _ _ _ _ _ _ us hl => match us, hl with | [_], _ => rfl
  have F6 := fun_mk (st := s_pure_range) l6 c6 k6
  have b6 := F6.binds (ps := ["casks", "bulk"]) fun _ _ _ _ _ _ us hl => match us, hl with | [_, _], _ => rfl
  have F7 := fun_mk (st := s_begin) l7 c7 k7
  have b7 := F7.binds (ps := ["_law_script"]) fun _ _ _ _ _ _ us hl => match us, hl with | [_], _ => rfl
  have F8 := fun_mk (st := s_take) l8 c8 k8
  have b8 := F8.binds (ps := ["_law_state", "_law_many"]) fun _ _ _ _ _ _ us hl => match us, hl with | [_, _], _ => rfl
  have F9 := fun_mk (st := s_same) l9 c9 k9
  have b9 := F9.binds (ps := ["_law_found", "_law_due"]) fun _ _ _ _ _ _ us hl => match us, hl with | [_, _], _ => rfl
  have F10 := fun_mk (st := s_low) l10 c10 k10
  have b10 := F10.binds (ps := ["_law_over", "_law_under"]) fun _ _ _ _ _ _ us hl => match us, hl with | [_, _], _ => rfl
  have F11 := fun_mk (st := s_plus) l11 c11 k11
  have b11 := F11.binds (ps := ["_law_one", "_law_other"]) fun _ _ _ _ _ _ us hl => match us, hl with | [_, _], _ => rfl
  have F12 := fun_mk (st := s_less) l12 c12 k12
  have b12 := F12.binds (ps := ["_law_one", "_law_other"]) fun _ _ _ _ _ _ us hl => match us, hl with | [_, _], _ => rfl
  have F13 := fun_mk (st := s_great) l13 c13 k13
  have b13 := F13.binds (ps := ["_law_state"]) fun _ _ _ _ _ _ us hl => match us, hl with | [_], _ => rfl
  have F14 := fun_mk (st := s_cask) l14 c14 k14
  have b14 := F14.binds (ps := ["_law_state", "_law_like"]) fun _ _ _ _ _ _ us hl => match us, hl with | [_, _], _ => rfl
  have F15 := fun_mk (st := s_casks) l15 c15 k15
  have b15 := F15.binds (ps := ["_law_state", "_law_most"]) fun _ _ _ _ _ _ us hl => match us, hl with | [_, _], _ => rfl
  have F16 := fun_mk (st := s_filled) l16 c16 k16
  have b16 := F16.binds (ps := ["_law_casks_here", "_law_bulk", "_law_strongest"]) fun _ _ _ _ _ _ us hl => match us, hl with | [_, _, _], _ => rfl
  have F17 := fun_mk (st := s_drawn_pure) l17 c17 k17
  have b17 := F17.binds (ps := ["_law_state", "_law_casks_here", "_law_bulk"]) fun _ _ _ _ _ _ us hl => match us, hl with | [_, _, _], _ => rfl
  have T : Tx K mg := ⟨⟨_, _, F0, PySem.W.mg_of X G a0, k0, b0⟩,
    ⟨_, _, F1, PySem.W.mg_of X G a1, k1, b1⟩,
    ⟨_, _, F2, PySem.W.mg_of X G a2, k2, b2⟩,
    ⟨_, _, F3, PySem.W.mg_of X G a3, k3, b3⟩,
    ⟨_, _, F4, PySem.W.mg_of X G a4, k4, b4⟩,
    ⟨_, _, _, _, ⟨F5, PySem.W.mg_of X G a5, k5, b5⟩, ⟨_, _, _, _, _, _, _, _, rfl, l5, c5⟩, tc0⟩,
    ⟨_, _, F6, PySem.W.mg_of X G a6, k6, b6⟩,
    ⟨_, _, F7, PySem.W.mg_of X G a7, k7, b7⟩,
    ⟨_, _, F8, PySem.W.mg_of X G a8, k8, b8⟩,
    ⟨_, _, F9, PySem.W.mg_of X G a9, k9, b9⟩,
    ⟨_, _, F10, PySem.W.mg_of X G a10, k10, b10⟩,
    ⟨_, _, F11, PySem.W.mg_of X G a11, k11, b11⟩,
    ⟨_, _, F12, PySem.W.mg_of X G a12, k12, b12⟩,
    ⟨_, _, F13, PySem.W.mg_of X G a13, k13, b13⟩,
    ⟨_, _, F14, PySem.W.mg_of X G a14, k14, b14⟩,
    ⟨_, _, F15, PySem.W.mg_of X G a15, k15, b15⟩,
    ⟨_, _, F16, PySem.W.mg_of X G a16, k16, b16⟩,
    ⟨_, _, F17, PySem.W.mg_of X G a17, k17, b17⟩,
    PySem.W.mg_none_of X G z_abs,
    PySem.W.mg_none_of X G z_all,
    PySem.W.mg_none_of X G z_bool,
    PySem.W.mg_none_of X G z_divmod,
    PySem.W.mg_none_of X G z_int,
    PySem.W.mg_none_of X G z_isinstance,
    PySem.W.mg_none_of X G z_len,
    PySem.W.mg_none_of X G z_list,
    PySem.W.mg_none_of X G z_max,
    PySem.W.mg_none_of X G z_min,
    PySem.W.mg_none_of X G z_range,
    PySem.W.mg_none_of X G z_sorted,
    PySem.W.mg_none_of X G z_str,
    PySem.W.mg_none_of X G z_sum,
    PySem.W.mg_none_of X G z_tuple,
    PySem.W.mg_none_of X G z_zip⟩
  refine ⟨PySem.W.fnOf "law" "law" (defArgs s_law) (defBody s_law) (defScope s_law) .none kV18 dc18 pm18 an18 cd18 ct18, [("by_strength", y5, Q5)], ⟨fun t ht => ?_, fun t ht => ?_, fun t ht => ?_, nd⟩, fun s v => .of_eq rfl, fun base _ _ hB => law_all FL T ⟨fun c P tc => by obtain ⟨rfl, rfl⟩ := tc.inj tc0; exact hB ("by_strength", _, _) (by simp)⟩ tc0 nd⟩
  · repeat (first | (rcases List.mem_cons.mp ht with rfl | ht; · assumption) | (cases ht))
  · repeat (first | (rcases List.mem_cons.mp ht with rfl | ht; · assumption) | (cases ht))
  · repeat (first | (rcases List.mem_cons.mp ht with rfl | ht; · assumption) | (cases ht))
end K12
open PySem PySem.W PyProof.Rows
set_option maxHeartbeats 0 in
theorem PySem.Challenge.cw_strengthbond_k12_ranges_of_pure_holds : PySem.Challenge.rw_strengthbond_k12_ranges_of_pure.Holds := by
  w_on; o_law; k_head; (case hw => w_witness2)
  k_fill
  refine DL.walk_byT (l := PySem.Challenge.rw_strengthbond_k12_ranges_of_pure) (k := 9) (x := "_law_script") rfl rfl ⟨rfl, by decide, by decide⟩ (fun w h Y => PySem.W.km_in_of Y) ?F
  case F =>
    intro w mg fa h Y KX G hmg
    refine' K12.all_mk KX G hmg ?a0 ?l0 ?c0 ?k0 ?a1 ?l1 ?c1 ?k1 ?a2 ?l2 ?c2 ?k2 ?a3 ?l3 ?c3 ?k3 ?a4 ?l4 ?c4 ?k4 ?a5 ?l5 ?c5 ?k5 ?v5 ?p5 ?u5 ?n5 ?g5 ?a6 ?l6 ?c6 ?k6 ?a7 ?l7 ?c7 ?k7 ?a8 ?l8 ?c8 ?k8 ?a9 ?l9 ?c9 ?k9 ?a10 ?l10 ?c10 ?k10 ?a11 ?l11 ?c11 ?k11 ?a12 ?l12 ?c12 ?k12 ?a13 ?l13 ?c13 ?k13 ?a14 ?l14 ?c14 ?k14 ?a15 ?l15 ?c15 ?k15 ?a16 ?l16 ?c16 ?k16 ?a17 ?l17 ?c17 ?k17 ?a18 ?l18 ?c18 ?k18 ?z_abs ?z_all ?z_bool ?z_divmod ?z_int ?z_isinstance ?z_len ?z_list ?z_max ?z_min ?z_range ?z_sorted ?z_str ?z_sum ?z_tuple ?z_zip ?nd
    (case a0 => k_is)
    (case l0 => k_is)
    (case c0 => k_is)
    (case k0 => k_is)
    (case a1 => k_is)
    (case l1 => k_is)
    (case c1 => k_is)
    (case k1 => k_is)
    (case a2 => k_is)
    (case l2 => k_is)
    (case c2 => k_is)
    (case k2 => k_is)
    (case a3 => k_is)
    (case l3 => k_is)
    (case c3 => k_is)
    (case k3 => k_is)
    (case a4 => k_is)
    (case l4 => k_is)
    (case c4 => k_is)
    (case k4 => k_is)
    (case a5 => k_is)
    (case l5 => k_is)
    (case c5 => k_is)
    (case k5 => k_is)
    (case v5 => k_is)
    (case p5 => rfl)
    (case u5 => kernel_rfl)
    (case n5 => kernel_rfl)
    (case g5 => exact PySem.W.km_tabs_of Y _ (by k_mem))
    (case a6 => k_is)
    (case l6 => k_is)
    (case c6 => k_is)
    (case k6 => k_is)
    (case a7 => k_is)
    (case l7 => k_is)
    (case c7 => k_is)
    (case k7 => k_is)
    (case a8 => k_is)
    (case l8 => k_is)
    (case c8 => k_is)
    (case k8 => k_is)
    (case a9 => k_is)
    (case l9 => k_is)
    (case c9 => k_is)
    (case k9 => k_is)
    (case a10 => k_is)
    (case l10 => k_is)
    (case c10 => k_is)
    (case k10 => k_is)
    (case a11 => k_is)
    (case l11 => k_is)
    (case c11 => k_is)
    (case k11 => k_is)
    (case a12 => k_is)
    (case l12 => k_is)
    (case c12 => k_is)
    (case k12 => k_is)
    (case a13 => k_is)
    (case l13 => k_is)
    (case c13 => k_is)
    (case k13 => k_is)
    (case a14 => k_is)
    (case l14 => k_is)
    (case c14 => k_is)
    (case k14 => k_is)
    (case a15 => k_is)
    (case l15 => k_is)
    (case c15 => k_is)
    (case k15 => k_is)
    (case a16 => k_is)
    (case l16 => k_is)
    (case c16 => k_is)
    (case k16 => k_is)
    (case a17 => k_is)
    (case l17 => k_is)
    (case c17 => k_is)
    (case k17 => k_is)
    (case a18 => k_is)
    (case l18 => k_is)
    (case c18 => k_is)
    (case k18 => k_is)
    (case z_abs => k_is)
    (case z_all => k_is)
    (case z_bool => k_is)
    (case z_divmod => k_is)
    (case z_int => k_is)
    (case z_isinstance => k_is)
    (case z_len => k_is)
    (case z_list => k_is)
    (case z_max => k_is)
    (case z_min => k_is)
    (case z_range => k_is)
    (case z_sorted => k_is)
    (case z_str => k_is)
    (case z_sum => k_is)
    (case z_tuple => k_is)
    (case z_zip => k_is)
    (case nd => decide)
