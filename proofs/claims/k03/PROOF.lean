import PyProof.Rows.All
import Wide.All
import OpenK.AllK
import Wide.FinOn
import HandS.ForMost
import HandS.Lambda
import HandS.Wide
import HandS.WideBits
import HandS.IsInst
import HandS.Style
import HandS.NoneIn
import HandS.Zip
import HandS.Rev
import HandS.TupAny
import HandS.SortInts
import HandS.Small
import HandS.Ends
import HandS.Words
import HandS.Flt
import KE.DataMinMax
import KE.DataCmp
import KE.DataAny
import KE.SortKeyHeap
import HandS.Deep
import HandS.Steps
import HandS.DictTup
import HandS.ListItems
import HandS.More
import HandS.WordsDict
import KE.GoesEnum
import KE.GoesZip
import HandS.Text
import PyProof.IsRules
import HandS.SortKw
import HandS.Keys
import HandS.TupSets
import HandS.SetFor
import PyProof.ReprRoads
import PyProof.StrLawsRepr
import PyProof.FitsInt
import PyProof.CallStr
import HandS.RaiseMore
import PyProof.ReprText
import PyProof.Rows.ReprOcc
import PyProof.TwoTypes
import PyProof.TwoTypesSub
import PyProof.Rows.RuleB_bool
import PyProof.Walk
import PyProof.WalkLemmas
import PyProof.FactsAll.bool
import PyProof.FactsAll.int
import PyProof.FactsAll.subtypes_1
import HandS.StrMore
import HandS.Codes
import PyProof.FactsAll.str_7
import PyProof.FactsAll.str_8
import PyProof.StrOps2
import HandS.Exc
import HandS.ExcOwn
import HandS.ExcIs
import HandS.WordsExc
import HandS.Replace
import PySem.Challenge.RW_strengthbond_k03_measures_spoilt_anywher
set_option Elab.async false
set_option linter.all false
set_option maxRecDepth 100000
set_option maxHeartbeats 4000000
namespace DL
open PySem L2
abbrev D := PyData
/-! ### data read through the heap, off the avoided addresses -/
def LsR (A : Addr → Prop) (H : Hp) (a : Addr) (xs : List V) : Prop := H a = some (.lst xs) ∧ ¬ A a
def TuR (K : PySem.W.Frag) (A : Addr → Prop) (H : Hp) (a : Addr) (xs : List V) : Prop := (H a = some (.tup xs) ∧ ¬ A a) ∨ ∀ H' : Hp, SqT K H' a xs
theorem LsR.sq {K : PySem.W.Frag} {A : Addr → Prop} {H : Hp} {a : Addr} {xs : List V} (h : LsR A H a xs) : SqL K H a xs := .inl (.inl h.1)
theorem TuR.sq {K : PySem.W.Frag} {A : Addr → Prop} {H : Hp} {a : Addr} {xs : List V} (h : TuR K A H a xs) : SqT K H a xs := h.elim (fun q => .inl (.inl q.1)) fun q => q H
/-- a key as data -/
def kD : Key → D
  | .inl i => .int i
  | .inr x => .str x
mutual
inductive Rp (K : PySem.W.Frag) (A : Addr → Prop) (H : Hp) : V → D → Prop
  | non : Rp K A H .non .none
  | bl (b : Bool) : Rp K A H (.bl b) (.bool b)
  | int (i : Int) : Rp K A H (.int i) (.int i)
  | str (x : Str) : Rp K A H (.str x) (.str x)
  | lst {a : Addr} {xs : List V} {ds : List D} : LsR A H a xs → RpL K A H xs ds → Rp K A H (.ref a) (.list ds)
  | tup {a : Addr} {xs : List V} {ds : List D} : TuR K A H a xs → RpL K A H xs ds → Rp K A H (.ref a) (.tuple ds)
  | dct {a : Addr} {o : Obj} {ws : List (Key × V)} {kvs : List (Key × D)} : H a = some (.frz o (.dK ws)) → ¬ A a → RpK K A H ws kvs → Rp K A H (.ref a) (.dict (kvs.map fun z => (kD z.1, z.2)))
inductive RpL (K : PySem.W.Frag) (A : Addr → Prop) (H : Hp) : List V → List D → Prop
  | nil : RpL K A H [] []
  | cons {v : V} {vs : List V} {d : D} {ds : List D} : Rp K A H v d → RpL K A H vs ds → RpL K A H (v :: vs) (d :: ds)
inductive RpK (K : PySem.W.Frag) (A : Addr → Prop) (H : Hp) : List (Key × V) → List (Key × D) → Prop
  | nil : RpK K A H [] []
  | cons {k : Key} {v : V} {vs : List (Key × V)} {d : D} {ds : List (Key × D)} : Rp K A H v d → RpK K A H vs ds → RpK K A H ((k, v) :: vs) ((k, d) :: ds)
end
section
variable {K : PySem.W.Frag} {A A' : Addr → Prop} {H H' : Hp}
/-- what stands off A is kept, and stands off A' -/
def Kp (A : Addr → Prop) (H : Hp) (A' : Addr → Prop) (H' : Hp) : Prop := ∀ a u, ¬ A a → H a = some u → H' a = some u ∧ ¬ A' a
theorem Kp.refl : Kp A H A H := fun _ _ n r => ⟨r, n⟩
theorem Kp.trans {A'' : Addr → Prop} {H'' : Hp} (p : Kp A H A' H') (q : Kp A' H' A'' H'') : Kp A H A'' H'' := fun a u n r => q a u (p a u n r).2 (p a u n r).1
mutual
theorem Rp.mono (h : Kp A H A' H') : ∀ {v : V} {d : D}, Rp K A H v d → Rp K A' H' v d
  | _, _, .non => .non
  | _, _, .bl b => .bl b
  | _, _, .int i => .int i
  | _, _, .str x => .str x
  | _, _, .lst l r => .lst (h _ _ l.2 l.1) (RpL.mono h r)
  | _, _, .tup l r => .tup (l.elim (fun q => .inl (h _ _ q.2 q.1)) .inr) (RpL.mono h r)
  | _, _, .dct l n r => .dct (h _ _ n l).1 (h _ _ n l).2 (RpK.mono h r)
theorem RpL.mono (h : Kp A H A' H') : ∀ {v : List V} {d : List D}, RpL K A H v d → RpL K A' H' v d
  | _, _, .nil => .nil
  | _, _, .cons a b => .cons (Rp.mono h a) (RpL.mono h b)
theorem RpK.mono (h : Kp A H A' H') : ∀ {v : List (Key × V)} {d : List (Key × D)}, RpK K A H v d → RpK K A' H' v d
  | _, _, .nil => .nil
  | _, _, .cons a b => .cons (Rp.mono h a) (RpK.mono h b)
end
mutual
theorem Rp.dp : ∀ {v : V} {d : D}, Rp K A H v d → d.canLay0 = true → Dp K H v d
  | _, _, .non, _ => .non
  | _, _, .bl b, _ => .bl b
  | _, _, .int i, _ => .int i
  | _, _, .str x, _ => .str x
  | _, _, .lst l r, h => .lst l.sq (RpL.dp r (by simpa only [PyData.canLay0] using h))
  | _, _, .tup l r, h => .tup l.sq (RpL.dp r (by simpa only [PyData.canLay0] using h))
  | _, _, .dct _ _ _, h => by simp [PyData.canLay0] at h
theorem RpL.dp : ∀ {v : List V} {d : List D}, RpL K A H v d → PyData.canLayAll0 d = true → DpAll K H v d
  | _, _, .nil, _ => .nil
  | _, _, .cons a b, h => by
    rw [PyData.canLayAll0, Bool.and_eq_true] at h
    exact .cons (Rp.dp a h.1) (RpL.dp b h.2)
end
theorem lay_ints : ∀ ns : List Int, PyData.canLayAll0 (ns.map PyData.int) = true
  | [] => rfl
  | n :: ns => by rw [List.map_cons, PyData.canLayAll0, lay_ints ns]; rfl
theorem RpL.length : ∀ {v : List V} {d : List D}, RpL K A H v d → v.length = d.length
  | _, _, .nil => rfl
  | _, _, .cons _ b => congrArg (· + 1) (RpL.length b)
theorem RpL.get : ∀ {v : List V} {d : List D} {i : Nat} {x : D}, RpL K A H v d → d[i]? = some x → ∃ y, v[i]? = some y ∧ Rp K A H y x
  | _, _, _, _, .nil, e => by simp at e
  | _, _, 0, _, .cons a _, e => ⟨_, rfl, by simp at e; subst e; exact a⟩
  | _, _, i + 1, _, .cons _ b, e => by
    obtain ⟨y, h1, h2⟩ := RpL.get (i := i) b (by simpa using e)
    exact ⟨y, by simpa using h1, h2⟩
theorem RpL.get' : ∀ {v : List V} {d : List D} {i : Nat} {y : V}, RpL K A H v d → v[i]? = some y → ∃ x, d[i]? = some x ∧ Rp K A H y x
  | _, _, _, _, .nil, e => by simp at e
  | _, _, 0, _, .cons a _, e => ⟨_, rfl, by simp at e; subst e; exact a⟩
  | _, _, i + 1, _, .cons _ b, e => by
    obtain ⟨y, h1, h2⟩ := RpL.get' (i := i) b (by simpa using e)
    exact ⟨y, by simpa using h1, h2⟩
theorem RpL.append : ∀ {v w : List V} {d e : List D}, RpL K A H v d → RpL K A H w e → RpL K A H (v ++ w) (d ++ e)
  | _, _, _, _, .nil, r => r
  | _, _, _, _, .cons a b, r => .cons a (RpL.append b r)
theorem RpL.take : ∀ {v : List V} {d : List D} (n : Nat), RpL K A H v d → RpL K A H (v.take n) (d.take n)
  | _, _, 0, _ => .nil
  | _, _, _ + 1, .nil => .nil
  | _, _, n + 1, .cons a b => .cons a (RpL.take n b)
theorem RpL.drop : ∀ {v : List V} {d : List D} (n : Nat), RpL K A H v d → RpL K A H (v.drop n) (d.drop n)
  | _, _, 0, r => r
  | _, _, _ + 1, .nil => .nil
  | _, _, n + 1, .cons _ b => RpL.drop n b
theorem RpL.set {x : V} {u : D} (r : Rp K A H x u) : ∀ {v : List V} {d : List D} (i : Nat), RpL K A H v d → RpL K A H (v.set i x) (d.set i u)
  | _, _, _, .nil => .nil
  | _, _, 0, .cons _ b => .cons r b
  | _, _, i + 1, .cons a b => .cons a (RpL.set r i b)
theorem RpL.reverse : ∀ {v : List V} {d : List D}, RpL K A H v d → RpL K A H v.reverse d.reverse
  | _, _, .nil => .nil
  | _, _, .cons a b => by
    rw [List.reverse_cons, List.reverse_cons]
    exact (RpL.reverse b).append (.cons a .nil)
theorem RpL.ints : ∀ {ns : List Int}, RpL K A H (ns.map V.int) (ns.map PyData.int)
  | [] => .nil
  | n :: ns => .cons (.int n) RpL.ints
theorem RpL.ofInts : ∀ {ns : List Int} {vs : List V}, RpL K A H vs (ns.map PyData.int) → vs = ns.map V.int
  | [], _, .nil => rfl
  | n :: ns, _, .cons (.int _) b => by rw [RpL.ofInts b]; rfl
theorem RpL.ofBools : ∀ {ns : List Bool} {vs : List V}, RpL K A H vs (ns.map PyData.bool) → vs = ns.map V.bl
  | [], _, .nil => rfl
  | n :: ns, _, .cons (.bl _) b => by rw [RpL.ofBools b]; rfl
theorem RpL.ofStrs : ∀ {ns : List Str} {vs : List V}, RpL K A H vs (ns.map PyData.str) → vs = ns.map V.str
  | [], _, .nil => rfl
  | n :: ns, _, .cons (.str _) b => by rw [RpL.ofStrs b]; rfl
theorem RpL.strs : ∀ {ns : List Str}, RpL K A H (ns.map V.str) (ns.map PyData.str)
  | [] => .nil
  | n :: ns => .cons (.str n) RpL.strs
end
/-! ### what a name or a field holds: unknown, data, a thing that changes -/
inductive En where
  | no
  | da (d : D)
  | mu (k : Nat)
/-- an own class's object (by the class's name), a list, a tuple, a dict of texts: of things that may change -/
inductive Sh where
  | obj (c : Str)
  | lst
  | tup
  | dct
  | fzd (o : Obj)
  | exc (c : Str)
inductive MO where
  | gone
  | lst (ds : List D)
  | dct (kvs : List (Key × D))
  | rnd (n : Nat)
  | box (n : Nat)
  | tab (q : Str)
  | ins (C : Sh) (fs : List (Str × En))
structure S where
  es : List En
  ms : List MO
  np : Nat
def gt : List En → Nat → En
  | [], _ => .no
  | x :: _, 0 => x
  | _ :: r, i + 1 => gt r i
def st : List En → Nat → En → List En
  | [], _, _ => []
  | _ :: r, 0, y => y :: r
  | x :: r, i + 1, y => x :: st r i y
def gm : List MO → Nat → MO
  | [], _ => .gone
  | x :: _, 0 => x
  | _ :: r, i + 1 => gm r i
def sm : List MO → Nat → MO → List MO
  | [], _, _ => []
  | _ :: r, 0, y => y :: r
  | x :: r, i + 1, y => x :: sm r i y
def go : List (List Addr) → Nat → List Addr
  | [], _ => []
  | x :: _, 0 => x
  | _ :: r, i + 1 => go r i
def S.sE (s : S) (i : Nat) (x : En) : S := ⟨st s.es i x, s.ms, s.np⟩
def S.sM (s : S) (j : Nat) (m : MO) : S := ⟨s.es, sm s.ms j m, s.np⟩
def S.aM (s : S) (m : MO) : S := ⟨s.es, s.ms ++ [m], s.np⟩
theorem st_length : ∀ (l : List En) (i : Nat) (y : En), (st l i y).length = l.length
  | [], _, _ => rfl
  | _ :: _, 0, _ => rfl
  | _ :: r, i + 1, y => congrArg (· + 1) (st_length r i y)
theorem gt_st : ∀ (l : List En) (i j : Nat) (y : En), gt (st l i y) j = if i = j ∧ i < l.length then y else gt l j
  | [], i, j, y => by simp [st, gt]
  | x :: r, 0, 0, y => by simp [st, gt]
  | x :: r, 0, j + 1, y => by simp [st, gt]
  | x :: r, i + 1, 0, y => by simp [st, gt]
  | x :: r, i + 1, j + 1, y => by
    show gt (st r i y) j = _
    rw [gt_st r i j y]
    simp [gt]
theorem gt_ge : ∀ (l : List En) (i : Nat), l.length ≤ i → gt l i = .no
  | [], _, _ => rfl
  | _ :: r, 0, h => by simp at h
  | _ :: r, i + 1, h => gt_ge r i (by simpa using h)
theorem sm_length : ∀ (l : List MO) (i : Nat) (y : MO), (sm l i y).length = l.length
  | [], _, _ => rfl
  | _ :: _, 0, _ => rfl
  | _ :: r, i + 1, y => congrArg (· + 1) (sm_length r i y)
theorem gm_sm : ∀ (l : List MO) (i j : Nat) (y : MO), gm (sm l i y) j = if i = j ∧ i < l.length then y else gm l j
  | [], i, j, y => by simp [sm, gm]
  | x :: r, 0, 0, y => by simp [sm, gm]
  | x :: r, 0, j + 1, y => by simp [sm, gm]
  | x :: r, i + 1, 0, y => by simp [sm, gm]
  | x :: r, i + 1, j + 1, y => by
    show gm (sm r i y) j = _
    rw [gm_sm r i j y]
    simp [gm]
theorem gm_ge : ∀ (l : List MO) (i : Nat), l.length ≤ i → gm l i = .gone
  | [], _, _ => rfl
  | _ :: r, 0, h => by simp at h
  | _ :: r, i + 1, h => gm_ge r i (by simpa using h)
theorem gm_app : ∀ (l r : List MO) (i : Nat), gm (l ++ r) i = if i < l.length then gm l i else gm r (i - l.length)
  | [], r, i => by simp
  | x :: l, r, 0 => by simp [gm]
  | x :: l, r, i + 1 => by
    show gm (l ++ r) i = _
    rw [gm_app l r i]
    simp [gm]
theorem go_app : ∀ (l r : List (List Addr)) (i : Nat), go (l ++ r) i = if i < l.length then go l i else go r (i - l.length)
  | [], r, i => by simp
  | x :: l, r, 0 => by simp [go]
  | x :: l, r, i + 1 => by
    show go (l ++ r) i = _
    rw [go_app l r i]
    simp [go]
theorem go_ge : ∀ (l : List (List Addr)) (i : Nat), l.length ≤ i → go l i = []
  | [], _, _ => rfl
  | _ :: r, 0, h => by simp at h
  | _ :: r, i + 1, h => go_ge r i (by simpa using h)
theorem go_mem : ∀ (l : List (List Addr)) (i : Nat), i < l.length → go l i ∈ l
  | [], _, h => by simp at h
  | x :: r, 0, _ => List.mem_cons_self
  | x :: r, i + 1, h => List.mem_cons_of_mem _ (go_mem r i (by simpa using h))
theorem go_of_mem : ∀ (l : List (List Addr)) (x : List Addr), x ∈ l → ∃ i, i < l.length ∧ go l i = x
  | [], _, h => by simp at h
  | y :: r, x, h => by
    rcases List.mem_cons.mp h with rfl | h
    · exact ⟨0, by simp, rfl⟩
    · obtain ⟨i, h1, h2⟩ := go_of_mem r x h
      exact ⟨i + 1, by simpa using h1, h2⟩
theorem go_take : ∀ (l : List (List Addr)) (n i : Nat), go (l.take n) i = if i < n then go l i else []
  | [], n, i => by simp [go]
  | x :: r, 0, i => by simp [go]
  | x :: r, n + 1, 0 => by simp [go]
  | x :: r, n + 1, i + 1 => by
    show go (r.take n) i = _
    rw [go_take r n i]
    simp [go]
theorem gm_take : ∀ (l : List MO) (n i : Nat), gm (l.take n) i = if i < n then gm l i else .gone
  | [], n, i => by simp [gm]
  | x :: r, 0, i => by simp [gm]
  | x :: r, n + 1, 0 => by simp [gm]
  | x :: r, n + 1, i + 1 => by
    show gm (r.take n) i = _
    rw [gm_take r n i]
    simp [gm]
section
variable (K : PySem.W.Frag) (A : Addr → Prop) (own : List (List Addr)) (H : Hp)
def ER (v : V) : En → Prop
  | .no => True
  | .da d => Rp K A H v d
  | .mu k => ∃ a r, go own k = a :: r ∧ v = .ref a
def ERL : List V → List En → Prop
  | [], [] => True
  | v :: vs, x :: xs => ER K A own H v x ∧ ERL vs xs
  | _, _ => False
def RKV : List (Key × V) → List (Key × D) → Prop
  | [], [] => True
  | p :: ws, q :: kvs => p.1 = q.1 ∧ Rp K A H p.2 q.2 ∧ RKV ws kvs
  | _, _ => False
def RKE : List (Str × V) → List (Str × En) → Prop
  | [], [] => True
  | p :: ws, q :: kvs => p.1 = q.1 ∧ ER K A own H p.2 q.2 ∧ RKE ws kvs
  | _, _ => False
def turnMax : Int := 2 ^ 60
def boxMax : Int := 2 ^ 48
/-- the code object's table: what it tells are code objects of the name q -/
def TabA (P : Addr) (q : Str) : Prop := ∃ ps : Array Value, H P = some (.tbl ps) ∧ PySem.TriplesOk ps.toList ∧ ∀ (pos : Pos) (cv : Value), PySem.codeAmong pos ps.toList = some cv → ∃ c, cv = .ref c ∧ H c = some (LamX.CodeO c q) ∧ ¬ A c
/-- where the function of the name q stands: at the module's top, or the one method that makes a lambda -/
def fnAt (q : Str) : Option (Option Value) := if q = Str.ofString "Book.heap" then (match PySem.W.nsIn K mainGlobals "Book" with | some (some (.ref C)) => PySem.W.findIn K (.ref C) "heap" | _ => none) else PySem.W.nsIn K mainGlobals q
/-- an error that was caught -/
def ExV (cls : Value) (a : Addr) : HO := .ext fun h => ∃ (oe : Obj) (vs : Array Value), h.get? a = some oe ∧ oe.cls = cls ∧ oe.dict = none ∧ oe.data = .fields vs
/-- the def q's own code object and its table -/
def TabC (q : Str) (c P : Addr) : Prop := ∃ (f : Addr) (oc : Value) (od : Option Addr) (fd : FuncData) (osl : Array (Option Value)), fnAt K q = some (some (.ref f)) ∧ K.lookup f = some ⟨oc, od, .func fd, osl⟩ ∧ fd.code = .ref c ∧ PySem.W.codeHdIn K c P = true
def HOb (a : Addr) (r : List Addr) (ws : List (Str × V)) : Sh → Prop
  | .obj c => ∃ C dx, PySem.W.nsIn K mainGlobals c = some (some (.ref C)) ∧ r = [dx] ∧ H a = some (.ins C dx ws) ∧ H dx = some (.own a)
  | .lst => r = [] ∧ H a = some (.lst (ws.map (·.2)))
  | .tup => r = [] ∧ H a = some (.tup (ws.map (·.2)))
  | .dct => r = [] ∧ H a = some (.dK (ws.map fun p => (.inr p.1, p.2)))
  | .fzd o => r = [] ∧ H a = some (.frz o (.dK (ws.map fun p => (.inr p.1, p.2))))
  | .exc c => r = [] ∧ ∃ C, PySem.W.nsIn K mainGlobals c = some (some (.ref C)) ∧ H a = some (ExV (.ref C) a)
def MR : List Addr → MO → Prop
  | _, .gone => True
  | l, .lst ds => ∃ a vs, l = [a] ∧ H a = some (.lst vs) ∧ RpL K A H vs ds
  | l, .dct kvs => ∃ a ws, l = [a] ∧ H a = some (.dK ws) ∧ RKV K A H ws kvs
  | l, .rnd n => ∃ (a c : Addr) (cs : List Int) (t : Int), l = [a, c] ∧ H a = some (.dK [(.inr "cells", .ref c), (.inr "turn", .int t)]) ∧ H c = some (.lst (cs.map V.int)) ∧ 1 ≤ cs.length ∧ cs.length ≤ 63 ∧ 0 ≤ t ∧ t + (n : Int) ≤ turnMax
  | l, .box n => ∃ (a : Addr) (x y z : Int), l = [a] ∧ H a = some (.lst [.int x, .int y, .int z]) ∧ 0 ≤ x ∧ 0 ≤ y ∧ y < 2 ^ 62 ∧ 0 ≤ z ∧ z + (n : Int) ≤ boxMax
  | l, .tab q => ∃ P c, l = [P] ∧ TabC K q c P ∧ TabA A H P (q ++ ".<locals>." ++ "<lambda>")
  | l, .ins C fs => ∃ (a : Addr) (r : List Addr) (ws : List (Str × V)), l = a :: r ∧ HOb K H a r ws C ∧ RKE K A own H ws fs
end
section
variable {K : PySem.W.Frag} {A A' : Addr → Prop} {own own' : List (List Addr)} {H H' : Hp}
/-- further on: what is known of values is kept -/
structure Up (A : Addr → Prop) (own : List (List Addr)) (H : Hp) (A' : Addr → Prop) (own' : List (List Addr)) (H' : Hp) : Prop where
  kp : Kp A H A' H'
  ow : ∀ k a r, go own k = a :: r → go own' k = a :: r
theorem Up.refl : Up A own H A own H := ⟨Kp.refl, fun _ _ _ h => h⟩
theorem Up.trans {A'' : Addr → Prop} {own'' : List (List Addr)} {H'' : Hp} (p : Up A own H A' own' H') (q : Up A' own' H' A'' own'' H'') : Up A own H A'' own'' H'' :=
  ⟨p.kp.trans q.kp, fun k a r h => q.ow k a r (p.ow k a r h)⟩
theorem ER.up (u : Up A own H A' own' H') {v : V} : ∀ {x : En}, ER K A own H v x → ER K A' own' H' v x
  | .no, _ => trivial
  | .da _, h => Rp.mono u.kp h
  | .mu k, ⟨a, r, e, h⟩ => ⟨a, r, u.ow k a r e, h⟩
theorem ERL.up (u : Up A own H A' own' H') : ∀ {vs : List V} {xs : List En}, ERL K A own H vs xs → ERL K A' own' H' vs xs
  | [], [], _ => trivial
  | _ :: _, _ :: _, ⟨h, t⟩ => ⟨h.up u, ERL.up u t⟩
theorem RKV.up (u : Kp A H A' H') : ∀ {ws : List (Key × V)} {kvs : List (Key × D)}, RKV K A H ws kvs → RKV K A' H' ws kvs
  | [], [], _ => trivial
  | _ :: _, _ :: _, ⟨e, h, t⟩ => ⟨e, Rp.mono u h, RKV.up u t⟩
theorem RKE.up (u : Up A own H A' own' H') : ∀ {ws : List (Str × V)} {kvs : List (Str × En)}, RKE K A own H ws kvs → RKE K A' own' H' ws kvs
  | [], [], _ => trivial
  | _ :: _, _ :: _, ⟨e, h, t⟩ => ⟨e, h.up u, RKE.up u t⟩
theorem HOb.up {a : Addr} {r : List Addr} {ws : List (Str × V)} {C : Sh} (h : HOb K H a r ws C) (hl : ∀ b o, b ∈ a :: r → H b = some o → H' b = some o) : HOb K H' a r ws C := by
  cases C with
  | obj C =>
    obtain ⟨C', dx, h0, rfl, h1, h2⟩ := h
    exact ⟨C', dx, h0, rfl, hl _ _ (by simp) h1, hl _ _ (by simp) h2⟩
  | dct => exact ⟨h.1, hl _ _ (by simp) h.2⟩
  | fzd o => exact ⟨h.1, hl _ _ (by simp) h.2⟩
  | exc c =>
    obtain ⟨h0, C, h1, h2⟩ := h
    exact ⟨h0, C, h1, hl _ _ (by simp) h2⟩
  | lst => exact ⟨h.1, hl _ _ (by simp) h.2⟩
  | tup => exact ⟨h.1, hl _ _ (by simp) h.2⟩
/-- an object whose own addresses are kept -/
theorem MR.up (u : Up A own H A' own' H') {l : List Addr} {m : MO} (h : MR K A own H l m) (hl : ∀ a o, a ∈ l → H a = some o → H' a = some o) : MR K A' own' H' l m := by
  cases m with
  | gone => trivial
  | lst ds =>
    obtain ⟨a, vs, rfl, h1, h2⟩ := h
    exact ⟨a, vs, rfl, hl _ _ (by simp) h1, RpL.mono u.kp h2⟩
  | dct kvs =>
    obtain ⟨a, ws, rfl, h1, h2⟩ := h
    exact ⟨a, ws, rfl, hl _ _ (by simp) h1, h2.up u.kp⟩
  | rnd n =>
    obtain ⟨a, c, cs, t, rfl, h1, h2, h3⟩ := h
    exact ⟨a, c, cs, t, rfl, hl _ _ (by simp) h1, hl _ _ (by simp) h2, h3⟩
  | box n =>
    obtain ⟨a, x, y, z, rfl, h1, h3⟩ := h
    exact ⟨a, x, y, z, rfl, hl _ _ (by simp) h1, h3⟩
  | tab q =>
    obtain ⟨P, c, rfl, hc, ps, h1, h2, h3⟩ := h
    refine ⟨P, c, rfl, hc, ps, hl _ _ (by simp) h1, h2, fun pos cv e => ?_⟩
    obtain ⟨c', e1, e2, e3⟩ := h3 pos cv e
    exact ⟨c', e1, u.kp _ _ e3 e2⟩
  | ins C fs =>
    obtain ⟨a, r, ws, rfl, h1, h3⟩ := h
    exact ⟨a, r, ws, rfl, h1.up hl, h3.up u⟩
/-- the objects that change, each at its own addresses -/
structure Own (K : PySem.W.Frag) (A : Addr → Prop) (own : List (List Addr)) (H : Hp) (ms : List MO) : Prop where
  ol : own.length = ms.length
  mr : ∀ k, MR K A own H (go own k) (gm ms k)
  dj : ∀ k j a, a ∈ go own k → a ∈ go own j → k = j
  ld : ∀ k, (go own k).Nodup
  oa : ∀ k a, a ∈ go own k → A a
  al : ∀ a, A a → H a ≠ none
structure Bd where
  H0 : Hp
  own0 : List (List Addr)
  A0 : Addr → Prop
structure Rel (K : PySem.W.Frag) (b : Bd) (A : Addr → Prop) (own : List (List Addr)) (H : Hp) (σ : L2.St) (s : S) : Prop extends Own K A own H s.ms where
  len : σ.length = s.es.length
  sl : ∀ i, gt s.es i = .no ∨ ∃ v, σ[i]? = some (some v) ∧ ER K A own H v (gt s.es i)
  ge : ∀ a, b.A0 a → A a
  fr : ∀ a o, (∀ k, a ∉ go b.own0 k) → b.H0 a = some o → H a = some o
  fo : ∀ k a, a ∈ go own k → (∃ j, a ∈ go b.own0 j) ∨ b.H0 a = none
  pre : own.take s.np = b.own0
  npl : s.np ≤ own.length
  lim : ∀ a, A a → b.A0 a ∨ b.H0 a = none
  a0 : ∀ a, b.A0 a → b.H0 a ≠ none
variable {b : Bd} {σ : L2.St} {s : S}
theorem Rel.np (r : Rel K b A own H σ s) : b.own0.length = s.np := by
  rw [← r.pre, List.length_take]
  have := r.npl
  omega
/-- the heap has grown at an untracked place -/
theorem Rel.ext (r : Rel K b A own H σ s) (hx : ∀ a o, H a = some o → H' a = some o) : Rel K b A own H' σ s ∧ Up A own H A own H' := by
  have u : Up A own H A own H' := ⟨fun a o n h => ⟨hx _ _ h, n⟩, fun _ _ _ h => h⟩
  exact ⟨{ r with
    mr := fun k => (r.mr k).up u fun a o _ h => hx a o h
    al := fun a h z => by
      cases q : H a with
      | none => exact r.al a h q
      | some o => rw [hx a o q] at z; cases z
    sl := fun i => (r.sl i).imp id fun ⟨v, e, h⟩ => ⟨v, e, h.up u⟩
    fr := fun a o n h => hx _ _ (r.fr a o n h) }, u⟩
theorem Rel.new (r : Rel K b A own H σ s) {p : Addr} {o : HO} (hp : H p = none) : Rel K b A own (upd H p o) σ s ∧ Up A own H A own (upd H p o) :=
  r.ext fun a u h => by rw [upd_ne (ne_of_none h hp)]; exact h
theorem Rel.freshA (r : Rel K b A own H σ s) {p : Addr} (hp : H p = none) : ¬ A p := fun h => r.al p h hp
theorem Rel.own0A (r : Rel K b A own H σ s) {j : Nat} {a : Addr} (h : a ∈ go b.own0 j) : A a := by
  rw [← r.pre, go_take] at h
  split at h
  · exact r.oa _ _ h
  · cases h
theorem Rel.fresh0 (r : Rel K b A own H σ s) {p : Addr} (hp : H p = none) : b.H0 p = none := by
  cases q : b.H0 p with
  | none => rfl
  | some o =>
    refine absurd (r.fr p o (fun k hk => r.al p (r.own0A hk) hp) q) ?_
    rw [hp]; intro z; cases z
/-- a new object that may change -/
theorem Rel.newMu (r : Rel K b A own H σ s) {p : Addr} {o : HO} (hp : H p = none) (m : MO) (hm : ∀ (A' : Addr → Prop) (own' : List (List Addr)), Up A own H A' own' (upd H p o) → MR K A' own' (upd H p o) [p] m) :
    Rel K b (fun a => A a ∨ a = p) (own ++ [[p]]) (upd H p o) σ { s with ms := s.ms ++ [m] } ∧ Up A own H (fun a => A a ∨ a = p) (own ++ [[p]]) (upd H p o) ∧ go (own ++ [[p]]) s.ms.length = [p] := by
  have hx : ∀ a u, H a = some u → upd H p o a = some u := fun a u h => by rw [upd_ne (ne_of_none h hp)]; exact h
  have gl : ∀ k, go (own ++ [[p]]) k = if k < own.length then go own k else if k = own.length then [p] else [] := fun k => by
    rw [go_app]
    by_cases h : k < own.length
    · rw [if_pos h, if_pos h]
    · rw [if_neg h, if_neg h]
      by_cases h2 : k = own.length
      · subst h2; rw [Nat.sub_self, if_pos rfl]; rfl
      · rw [if_neg h2]; exact go_ge _ _ (by simp; omega)
  have gml : ∀ k, gm (s.ms ++ [m]) k = if k < own.length then gm s.ms k else if k = own.length then m else .gone := fun k => by
    rw [gm_app, ← r.ol]
    by_cases h : k < own.length
    · rw [if_pos h, if_pos h]
    · rw [if_neg h, if_neg h]
      by_cases h2 : k = own.length
      · subst h2; rw [Nat.sub_self, if_pos rfl]; rfl
      · rw [if_neg h2]; exact gm_ge _ _ (by simp; omega)
  have u : Up A own H (fun a => A a ∨ a = p) (own ++ [[p]]) (upd H p o) := ⟨fun a o n h => ⟨hx _ _ h, fun z => by
      rcases z with z | z
      · exact n z
      · subst z
        rw [hp] at h; cases h⟩, fun k a q h => by
      rw [gl]
      by_cases h1 : k < own.length
      · rw [if_pos h1]; exact h
      · rw [go_ge _ _ (by omega)] at h; cases h⟩
  have np : ∀ k, p ∉ go own k := fun k h => r.al p (r.oa k p h) hp
  refine ⟨⟨⟨by simp [r.ol], fun k => ?_, fun k j a h1 h2 => ?_, fun k => ?_, fun k a h => ?_, fun a h => ?_⟩, r.len, fun i => (r.sl i).imp id fun ⟨v, e, h⟩ => ⟨v, e, h.up u⟩, fun a h => .inl (r.ge a h), fun a o n h => hx _ _ (r.fr a o n h), fun k a h => ?_, ?_, ?_, fun a h => ?_, r.a0⟩, u, ?_⟩
  · rw [gl, gml]
    by_cases h1 : k < own.length
    · rw [if_pos h1, if_pos h1]; exact (r.mr k).up u fun a o _ h => hx a o h
    · rw [if_neg h1, if_neg h1]
      by_cases h2 : k = own.length
      · rw [if_pos h2, if_pos h2]; exact hm _ _ u
      · rw [if_neg h2, if_neg h2]; trivial
  · rw [gl] at h1 h2
    by_cases k1 : k < own.length
    · rw [if_pos k1] at h1
      by_cases j1 : j < own.length
      · rw [if_pos j1] at h2; exact r.dj k j a h1 h2
      · rw [if_neg j1] at h2
        by_cases j2 : j = own.length
        · rw [if_pos j2] at h2; cases List.mem_singleton.mp h2; exact (np _ h1).elim
        · rw [if_neg j2] at h2; cases h2
    · rw [if_neg k1] at h1
      by_cases k2 : k = own.length
      · rw [if_pos k2] at h1
        cases List.mem_singleton.mp h1
        by_cases j1 : j < own.length
        · rw [if_pos j1] at h2; exact (np _ h2).elim
        · rw [if_neg j1] at h2
          by_cases j2 : j = own.length
          · omega
          · rw [if_neg j2] at h2; cases h2
      · rw [if_neg k2] at h1; cases h1
  · rw [gl]
    split
    · exact r.ld k
    · split <;> simp
  · rw [gl] at h
    split at h
    · exact .inl (r.oa k a h)
    · split at h
      · exact .inr (List.mem_singleton.mp h)
      · cases h
  · rcases h with h | h
    · intro z
      cases q : H a with
      | none => exact r.al a h q
      | some o => rw [hx a o q] at z; cases z
    · subst h; rw [upd_same]; intro z; cases z
  · rw [gl] at h
    split at h
    · exact r.fo k a h
    · split at h
      · cases List.mem_singleton.mp h
        exact .inr (r.fresh0 hp)
      · cases h
  · rw [List.take_append_of_le_length r.npl]; exact r.pre
  · rw [List.length_append]; have := r.npl; show s.np ≤ _; omega
  · rcases h with h | h
    · exact r.lim a h
    · subst h; exact .inr (r.fresh0 hp)
  · rw [gl, ← r.ol, if_neg (Nat.lt_irrefl _), if_pos rfl]
/-- an object that may change has changed -/
theorem Rel.chg (r : Rel K b A own H σ s) (k : Nat) (m : MO) (hk : ∀ a o, a ∉ go own k → H a = some o → H' a = some o) (ha : ∀ a, a ∈ go own k → H' a ≠ none)
    (hm : Up A own H A own H' → MR K A own H' (go own k) m) (hl : k < s.ms.length) :
    Rel K b A own H' σ { s with ms := sm s.ms k m } ∧ Up A own H A own H' := by
  have u : Up A own H A own H' := ⟨fun a o n h => ⟨hk _ _ (fun z => n (r.oa k a z)) h, n⟩, fun _ _ _ h => h⟩
  refine ⟨⟨⟨by rw [sm_length]; exact r.ol, fun j => ?_, r.dj, r.ld, r.oa, fun a h => ?_⟩, r.len, fun i => (r.sl i).imp id fun ⟨v, e, h⟩ => ⟨v, e, h.up u⟩, r.ge, fun a o n h => ?_, r.fo, r.pre, r.npl, r.lim, r.a0⟩, u⟩
  · rw [gm_sm]
    by_cases h : k = j
    · subst h; rw [if_pos ⟨rfl, hl⟩]; exact hm u
    · rw [if_neg fun z => h z.1]
      exact (r.mr j).up u fun a o h1 h2 => hk a o (fun z => h (r.dj k j a z h1)) h2
  · by_cases q : a ∈ go own k
    · exact ha a q
    · intro z
      cases e : H a with
      | none => exact r.al a h e
      | some o => rw [hk a o q e] at z; cases z
  · by_cases q : a ∈ go own k
    · rcases r.fo k a q with ⟨j, z⟩ | z
      · exact (n j z).elim
      · rw [z] at h; cases h
    · exact hk a o q (r.fr a o n h)
/-- a slot is stored -/
theorem Rel.slot (r : Rel K b A own H σ s) {i : Nat} {v : V} {x : En} (h : ER K A own H v x) : Rel K b A own H (σ.set i (some v)) { s with es := st s.es i x } := by
  refine { r with len := by rw [List.length_set, st_length]; exact r.len, sl := fun j => ?_ }
  show gt (st s.es i x) j = .no ∨ _
  rw [gt_st]
  by_cases e : i = j ∧ i < s.es.length
  · obtain ⟨e1, e2⟩ := e
    subst e1
    refine .inr ⟨v, ?_, ?_⟩
    · rw [List.getElem?_set_self (by rw [r.len]; exact e2)]
    · rw [if_pos ⟨rfl, e2⟩]; exact h
  · rw [if_neg e]
    rcases r.sl j with q | ⟨v', e', q⟩
    · exact .inl q
    · by_cases hij : i = j
      · subst hij
        have : ¬ i < s.es.length := fun z => e ⟨rfl, z⟩
        rw [gt_ge _ _ (by omega)]
        exact .inl rfl
      · exact .inr ⟨v', by rw [List.getElem?_set_ne hij]; exact e', q⟩
end
end DL
namespace DL
open PySem L2
abbrev WE := S → (S → En → Prop) → Prop
abbrev WT := S → (S → Bool → Prop) → Prop
abbrev WA := S → (S → List En → Prop) → Prop
abbrev WG := En → S → (S → Prop) → Prop
structure Dn where
  nx : S → Prop
  rt : S → En → Prop
  bk : S → Prop
  ct : S → Prop
abbrev WS := S → Dn → Prop
section
variable (K : PySem.W.Frag) (b : Bd) (A : Addr → Prop) (own : List (List Addr)) (H : Hp) (σ : L2.St)
def PostE (Ks : S → En → Prop) (Q : VK) : Prop := ∀ (A' : Addr → Prop) (own' : List (List Addr)) (H' : Hp) (v : V) (s' : S) (x : En), Rel K b A' own' H' σ s' → Up A own H A' own' H' → ER K A' own' H' v x → Ks s' x → Q v H'
def PostT (Ks : S → Bool → Prop) (Q : Bool → Hp → Prop) : Prop := ∀ (A' : Addr → Prop) (own' : List (List Addr)) (H' : Hp) (s' : S) (c : Bool), Rel K b A' own' H' σ s' → Up A own H A' own' H' → Ks s' c → Q c H'
def PostA (Ks : S → List En → Prop) (Q : List V → Hp → Prop) : Prop := ∀ (A' : Addr → Prop) (own' : List (List Addr)) (H' : Hp) (vs : List V) (s' : S) (xs : List En), Rel K b A' own' H' σ s' → Up A own H A' own' H' → ERL K A' own' H' vs xs → Ks s' xs → Q vs H'
/-- σ' is σ but for the slots js -/
def Sto (js : List Nat) (σ σ' : L2.St) : Prop := σ'.length = σ.length ∧ ∀ i, i ∉ js → σ'[i]? = σ[i]?
def PostG (js : List Nat) (Ks : S → Prop) (Q : L2.St → Hp → Prop) : Prop := ∀ (A' : Addr → Prop) (own' : List (List Addr)) (H' : Hp) (σ' : L2.St) (s' : S), Rel K b A' own' H' σ' s' → Up A own H A' own' H' → Sto js σ σ' → Ks s' → Q σ' H'
/-- the ends of a block -/
structure Mt (D : Dn) (E : Ends) : Prop where
  nx : ∀ (A' : Addr → Prop) (own' : List (List Addr)) (H' : Hp) (σ' : L2.St) (s' : S), Rel K b A' own' H' σ' s' → Kp A H A' H' → D.nx s' → E.nx σ' H'
  rt : ∀ (A' : Addr → Prop) (own' : List (List Addr)) (H' : Hp) (σ' : L2.St) (s' : S) (v : V) (x : En), Rel K b A' own' H' σ' s' → Kp A H A' H' → ER K A' own' H' v x → D.rt s' x → E.rt v H'
  bk : ∀ (A' : Addr → Prop) (own' : List (List Addr)) (H' : Hp) (σ' : L2.St) (s' : S), Rel K b A' own' H' σ' s' → Kp A H A' H' → D.bk s' → E.bk σ' H'
  ct : ∀ (A' : Addr → Prop) (own' : List (List Addr)) (H' : Hp) (σ' : L2.St) (s' : S), Rel K b A' own' H' σ' s' → Kp A H A' H' → D.ct s' → E.ct σ' H'
end
structure DE (X : Cx) (e : Expr) (w : WE) : Prop where
  ex : ∃ te, PE X e te ∧ ∀ (b : Bd) (A : Addr → Prop) (own : List (List Addr)) (H : Hp) (σ : L2.St) (s : S) (Ks : S → En → Prop) (Q : VK), Rel X.K b A own H σ s → w s Ks → PostE X.K b A own H σ Ks Q → te σ H Q
structure DT (X : Cx) (e : Expr) (w : WT) : Prop where
  ex : ∃ tt, PT X e tt ∧ ∀ (b : Bd) (A : Addr → Prop) (own : List (List Addr)) (H : Hp) (σ : L2.St) (s : S) (Ks : S → Bool → Prop) (Q : Bool → Hp → Prop), Rel X.K b A own H σ s → w s Ks → PostT X.K b A own H σ Ks Q → tt σ H Q
structure DW (X : Cx) (e : Expr) (w : WT) : Prop where
  ex : ∃ tt, PW X e tt ∧ ∀ (b : Bd) (A : Addr → Prop) (own : List (List Addr)) (H : Hp) (σ : L2.St) (s : S) (Ks : S → Bool → Prop) (Q : Bool → Hp → Prop), Rel X.K b A own H σ s → w s Ks → PostT X.K b A own H σ Ks Q → tt σ H Q
structure DA (X : Cx) (es : List Expr) (w : WA) : Prop where
  ex : ∃ ta, PA X es ta ∧ ∀ (b : Bd) (A : Addr → Prop) (own : List (List Addr)) (H : Hp) (σ : L2.St) (s : S) (Ks : S → List En → Prop) (Q : List V → Hp → Prop), Rel X.K b A own H σ s → w s Ks → PostA X.K b A own H σ Ks Q → ta σ H Q
structure DG (X : Cx) (tg : Expr) (js : List Nat) (w : WG) : Prop where
  ex : ∃ g, PG X tg g ∧ ∀ (b : Bd) (A : Addr → Prop) (own : List (List Addr)) (H : Hp) (σ : L2.St) (s : S) (v : V) (x : En) (Ks : S → Prop) (Q : L2.St → Hp → Prop), Rel X.K b A own H σ s → ER X.K A own H v x → w x s Ks → PostG X.K b A own H σ js Ks Q → g v σ H Q
structure DS (X : Cx) (st : Stmt) (w : WS) : Prop where
  ex : ∃ t, PS X st t ∧ ∀ (b : Bd) (A : Addr → Prop) (own : List (List Addr)) (H : Hp) (σ : L2.St) (s : S) (D : Dn) (E : Ends), Rel X.K b A own H σ s → w s D → Mt X.K b A H D E → t E σ H
structure DSs (X : Cx) (st : List Stmt) (w : WS) : Prop where
  ex : ∃ t, PSs X st t ∧ ∀ (b : Bd) (A : Addr → Prop) (own : List (List Addr)) (H : Hp) (σ : L2.St) (s : S) (D : Dn) (E : Ends), Rel X.K b A own H σ s → w s D → Mt X.K b A H D E → t E σ H
section
variable {K : PySem.W.Frag} {b : Bd} {A A' : Addr → Prop} {own own' : List (List Addr)} {H H' : Hp} {σ : L2.St}
theorem PostE.up {Ks : S → En → Prop} {Q : VK} (p : PostE K b A own H σ Ks Q) (u : Up A own H A' own' H') : PostE K b A' own' H' σ Ks Q := fun _ _ _ _ _ _ r u' => p _ _ _ _ _ _ r (u.trans u')
theorem PostE.da {Ks : S → En → Prop} {Q : VK} {v : V} {d : D} {s' : S} (k : PostE K b A own H σ Ks Q) (r : Rel K b A' own' H' σ s') (u : Up A own H A' own' H') (h : Rp K A' H' v d) (q : Ks s' (.da d)) : Q v H' := k _ _ _ _ _ (.da d) r u h q
theorem PostT.up {Ks : S → Bool → Prop} {Q : Bool → Hp → Prop} (p : PostT K b A own H σ Ks Q) (u : Up A own H A' own' H') : PostT K b A' own' H' σ Ks Q := fun _ _ _ _ _ r u' => p _ _ _ _ _ r (u.trans u')
theorem PostA.up {Ks : S → List En → Prop} {Q : List V → Hp → Prop} (p : PostA K b A own H σ Ks Q) (u : Up A own H A' own' H') : PostA K b A' own' H' σ Ks Q := fun _ _ _ _ _ _ r u' => p _ _ _ _ _ _ r (u.trans u')
theorem Mt.up {D : Dn} {E : Ends} (p : Mt K b A H D E) (u : Kp A H A' H') : Mt K b A' H' D E :=
  ⟨fun _ _ _ _ _ r q => p.nx _ _ _ _ _ r (u.trans q), fun _ _ _ _ _ _ _ r q => p.rt _ _ _ _ _ _ _ r (u.trans q), fun _ _ _ _ _ r q => p.bk _ _ _ _ _ r (u.trans q), fun _ _ _ _ _ r q => p.ct _ _ _ _ _ r (u.trans q)⟩
end
section
variable {X : Cx} {a b c e : Expr} {wa wb wc we : WE} {pos : Pos}
/-! ### names, constants -/
def onE (x : En) (k : En → Prop) : Prop := match x with | .no => False | .da d => k (.da d) | .mu j => k (.mu j)
theorem onE_inv {x : En} {k : En → Prop} (h : onE x k) : x ≠ .no ∧ k x := by
  cases x with
  | no => exact h.elim
  | da d => exact ⟨fun z => (nomatch z), h⟩
  | mu j => exact ⟨fun z => (nomatch z), h⟩
def dVar (i : Nat) : WE := fun s Ks => onE (gt s.es i) (Ks s)
theorem dv (i : Nat) {x : Str} {pos : Pos} (hN : X.N[i]? = some x := by rfl) (hv : Vis X.env.scope x := by first | exact Or.inl rfl | exact Or.inr (Or.inl rfl) | exact Or.inr (Or.inr rfl)) (hd : (x == ("__debug__" : Str)) = false := by decide)
    (hcd : (x == ("__classdict__" : Str)) = false := by decide) : DE X (.Name x pos) (dVar i) := ⟨tVar i, pe_var hN hv hd hcd, fun b A own H σ s Ks Q r h k => by
  obtain ⟨n, h⟩ := onE_inv h
  rcases r.sl i with z | ⟨v, e, q⟩
  · exact (n z).elim
  · exact ⟨v, e, k _ _ _ _ _ _ r Up.refl q h⟩⟩
def dC (d : D) : WE := fun s Ks => Ks s (.da d)
theorem de_c {v : V} {d : D} (h : PE X e (tC v)) (hr : ∀ A H, Rp X.K A H v d) : DE X e (dC d) := ⟨_, h, fun b A own H σ s Ks Q r q k => k.da r Up.refl (hr _ _) q⟩
theorem de_int {i : Int} {j pos} : DE X (.Constant (.int i) j pos) (dC (.int i)) := de_c pe_int fun _ _ => .int i
theorem de_bl {c : Bool} {j pos} : DE X (.Constant (.bool c) j pos) (dC (.bool c)) := de_c pe_bl fun _ _ => .bl c
theorem de_non {j pos} : DE X (.Constant .none j pos) (dC .none) := de_c pe_non fun _ _ => .non
theorem de_str {x j pos} : DE X (.Constant (.str x) j pos) (dC (.str x)) := de_c pe_str fun _ _ => .str x
/-- a constant of the module -/
theorem de_gint {x : Str} {i : Int} {pos} (hg : Gl X x) (hm : ∃ t, X.mg x = some (.int i t)) (hd : (x == ("__debug__" : Str)) = false := by decide) : DE X (.Name x pos) (dC (.int i)) :=
  de_c (pe_glob hg hm.choose_spec (show RelV (.int i) _ from ⟨_, rfl⟩) hd) fun _ _ => .int i
theorem de_gstr {x : Str} {i : Str} {pos} (hg : Gl X x) (hm : ∃ t, X.mg x = some (.str i t)) (hd : (x == ("__debug__" : Str)) = false := by decide) : DE X (.Name x pos) (dC (.str i)) :=
  de_c (pe_glob hg hm.choose_spec (show RelV (.str i) _ from ⟨_, rfl⟩) hd) fun _ _ => .str i
/-! ### two values -/
def OpD (K : PySem.W.Frag) (r : R2) (rd : S → En → En → (S → En → Prop) → Prop) : Prop := ∀ (b : Bd) (A : Addr → Prop) (own : List (List Addr)) (H : Hp) (σ : L2.St) (s : S) (vx vy : V) (x y : En) (Ks : S → En → Prop) (Q : VK),
  Rel K b A own H σ s → ER K A own H vx x → ER K A own H vy y → rd s x y Ks → PostE K b A own H σ Ks Q → r vx vy H Q
def d2 (rd : S → En → En → (S → En → Prop) → Prop) (wa wb : WE) : WE := fun s Ks => wa s fun s1 x => wb s1 fun s2 y => rd s2 x y Ks
theorem d2_run {r : R2} {rd : S → En → En → (S → En → Prop) → Prop} {ta tb : TE} (hd : OpD X.K r rd)
    (qa : ∀ (b : Bd) (A : Addr → Prop) (own : List (List Addr)) (H : Hp) (σ : L2.St) (s : S) (Ks : S → En → Prop) (Q : VK), Rel X.K b A own H σ s → wa s Ks → PostE X.K b A own H σ Ks Q → ta σ H Q)
    (qb : ∀ (b : Bd) (A : Addr → Prop) (own : List (List Addr)) (H : Hp) (σ : L2.St) (s : S) (Ks : S → En → Prop) (Q : VK), Rel X.K b A own H σ s → wb s Ks → PostE X.K b A own H σ Ks Q → tb σ H Q)
    (b : Bd) (A : Addr → Prop) (own : List (List Addr)) (H : Hp) (σ : L2.St) (s : S) (Ks : S → En → Prop) (Q : VK) (R : Rel X.K b A own H σ s) (h : d2 rd wa wb s Ks) (k : PostE X.K b A own H σ Ks Q) : tOp r ta tb σ H Q := by
  show ta σ H fun x H1 => tb σ H1 fun y H2 => r x y H2 Q
  refine qa _ _ _ _ _ _ _ _ R h fun A1 o1 H1 v1 s1 x1 R1 U1 E1 h1 => ?_
  refine qb _ _ _ _ _ _ _ _ R1 h1 fun A2 o2 H2 v2 s2 x2 R2 U2 E2 h2 => ?_
  exact hd _ _ _ _ _ _ _ _ _ _ _ _ R2 (E1.up U2) E2 h2 (k.up (U1.trans U2))
theorem de_op {op : Operator} {r : R2} {rd} (ho : OpR X (binaryOp op) r) (hd : OpD X.K r rd) (ha : DE X a wa) (hb : DE X b wb) : DE X (.BinOp a op b pos) (d2 rd wa wb) := by
  obtain ⟨ta, pa, qa⟩ := ha.ex
  obtain ⟨tb, pb, qb⟩ := hb.ex
  exact ⟨_, pe_op ho pa pb, d2_run hd qa qb⟩
theorem de_cmp {op : CmpOp} {r : R2} {rd} (ho : OpR X (compareOp op) r) (hd : OpD X.K r rd) (ha : DE X a wa) (hb : DE X b wb) (hm : behindInMarks op b = false) : DE X (.Compare a [op] [b] pos) (d2 rd wa wb) := by
  obtain ⟨ta, pa, qa⟩ := ha.ex
  obtain ⟨tb, pb, qb⟩ := hb.ex
  exact ⟨_, pe_cmpR ho pa pb hm, d2_run hd qa qb⟩
def isB (x : En) (k : Bool → Prop) : Prop := match x with | .da (.bool c) => k c | _ => False
theorem isB_inv {x : En} {k : Bool → Prop} (h : isB x k) : ∃ c, x = .da (.bool c) ∧ k c := by
  unfold isB at h
  split at h
  · exact ⟨_, rfl, h⟩
  · exact h.elim
def tT (w : WE) : WT := fun s Ks => w s fun s1 x => isB x (Ks s1)
theorem tT_run {te : TE} {w : WE} (qa : ∀ (b : Bd) (A : Addr → Prop) (own : List (List Addr)) (H : Hp) (σ : L2.St) (s : S) (Ks : S → En → Prop) (Q : VK), Rel X.K b A own H σ s → w s Ks → PostE X.K b A own H σ Ks Q → te σ H Q)
    (b : Bd) (A : Addr → Prop) (own : List (List Addr)) (H : Hp) (σ : L2.St) (s : S) (Ks : S → Bool → Prop) (Q : Bool → Hp → Prop) (R : Rel X.K b A own H σ s) (h : tT w s Ks) (k : PostT X.K b A own H σ Ks Q) : te σ H fun x H' => ∃ c, x = .bl c ∧ Q c H' := by
  refine qa _ _ _ _ _ _ _ _ R h fun A1 o1 H1 v1 s1 x1 R1 U1 E1 h1 => ?_
  obtain ⟨c, rfl, h2⟩ := isB_inv h1
  cases E1
  exact ⟨c, rfl, k _ _ _ _ _ R1 U1 h2⟩
theorem dt_cmp {op : CmpOp} {r : R2} {rd} (ho : OpR X (compareOp op) r) (hd : OpD X.K r rd) (ha : DE X a wa) (hb : DE X b wb) (hm : behindInMarks op b = false) : DT X (.Compare a [op] [b] pos) (tT (d2 rd wa wb)) := by
  obtain ⟨ta, pa, qa⟩ := ha.ex
  obtain ⟨tb, pb, qb⟩ := hb.ex
  exact ⟨_, pt_cmpR ho pa pb hm, tT_run (d2_run hd qa qb)⟩
theorem dt_val (h : DE X e we) (he : ∀ whole, isTrue e X.env whole = (do let v ← whole; standAt e.pos; holding [v] (truthy v)) := by intro _; rfl) : DT X e (tT we) := by
  obtain ⟨te, pe, qe⟩ := h.ex
  exact ⟨_, pt_val pe he, tT_run qe⟩
/-! ### tests -/
def tAnd (u w : WT) : WT := fun s Ks => u s fun s1 c => (c = true → w s1 Ks) ∧ (c = false → Ks s1 false)
def tOr (u w : WT) : WT := fun s Ks => u s fun s1 c => (c = true → Ks s1 true) ∧ (c = false → w s1 Ks)
def tNot (u : WT) : WT := fun s Ks => u s fun s1 c => Ks s1 (!c)
variable {wt wu : WT} {rest : List Expr}
theorem dw_and1 (h : DT X a wt) : DW X (.BoolOp .And [a] pos) wt := by
  obtain ⟨ta, pa, qa⟩ := h.ex
  exact ⟨_, pw_and1 pa, qa⟩
theorem dw_or1 (h : DT X a wt) : DW X (.BoolOp .Or [a] pos) wt := by
  obtain ⟨ta, pa, qa⟩ := h.ex
  exact ⟨_, pw_or1 pa, qa⟩
theorem dw_and (h : DT X a wt) (h2 : DW X (.BoolOp .And (b :: rest) pos) wu) : DW X (.BoolOp .And (a :: b :: rest) pos) (tAnd wt wu) := by
  obtain ⟨ta, pa, qa⟩ := h.ex
  obtain ⟨tb, pb, qb⟩ := h2.ex
  refine ⟨_, pw_and pa pb, fun b A own H σ s Ks Q R h k => ?_⟩
  show ta σ H fun c H1 => if c = true then tb σ H1 Q else Q false H1
  refine qa _ _ _ _ _ _ _ _ R h fun A1 o1 H1 s1 c R1 U1 h1 => ?_
  cases c with
  | true => rw [if_pos rfl]; exact qb _ _ _ _ _ _ _ _ R1 (h1.1 rfl) (k.up U1)
  | false => rw [if_neg (by decide)]; exact k _ _ _ _ _ R1 U1 (h1.2 rfl)
theorem dw_or (h : DT X a wt) (h2 : DW X (.BoolOp .Or (b :: rest) pos) wu) : DW X (.BoolOp .Or (a :: b :: rest) pos) (tOr wt wu) := by
  obtain ⟨ta, pa, qa⟩ := h.ex
  obtain ⟨tb, pb, qb⟩ := h2.ex
  refine ⟨_, pw_or pa pb, fun b A own H σ s Ks Q R h k => ?_⟩
  show ta σ H fun c H1 => if c = true then Q true H1 else tb σ H1 Q
  refine qa _ _ _ _ _ _ _ _ R h fun A1 o1 H1 s1 c R1 U1 h1 => ?_
  cases c with
  | true => rw [if_pos rfl]; exact k _ _ _ _ _ R1 U1 (h1.1 rfl)
  | false => rw [if_neg (by decide)]; exact qb _ _ _ _ _ _ _ _ R1 (h1.2 rfl) (k.up U1)
theorem dt_bool (h : DW X a wt) : DT X a wt := by
  obtain ⟨ta, pa, qa⟩ := h.ex
  exact ⟨_, pa.pt, qa⟩
theorem dt_not (h : DT X a wt) : DT X (.UnaryOp .Not a pos) (tNot wt) := by
  obtain ⟨ta, pa, qa⟩ := h.ex
  exact ⟨_, pt_not pa, fun b A own H σ s Ks Q R h k => qa _ _ _ _ _ _ _ _ R h fun A1 o1 H1 s1 c R1 U1 h1 => k _ _ _ _ _ R1 U1 h1⟩
/-! values of and, or, not: truths -/
def dAnd (wa wb : WE) : WE := fun s Ks => wa s fun s1 x => isB x fun c => (c = true → wb s1 Ks) ∧ (c = false → Ks s1 (.da (.bool false)))
def dOr (wa wb : WE) : WE := fun s Ks => wa s fun s1 x => isB x fun c => (c = true → Ks s1 (.da (.bool true))) ∧ (c = false → wb s1 Ks)
def dNot (wa : WE) : WE := fun s Ks => wa s fun s1 x => isB x fun c => Ks s1 (.da (.bool (!c)))
theorem de_one {op} (h : DE X a wa) : DE X (.BoolOp op [a] pos) wa := by
  obtain ⟨ta, pa, qa⟩ := h.ex
  exact ⟨_, pe_one pa, qa⟩
theorem de_and (h : DE X a wa) (h2 : DE X (.BoolOp .And (b :: rest) pos) wb) : DE X (.BoolOp .And (a :: b :: rest) pos) (dAnd wa wb) := by
  obtain ⟨ta, pa, qa⟩ := h.ex
  obtain ⟨tb, pb, qb⟩ := h2.ex
  refine ⟨_, pe_and pa pb, fun b A own H σ s Ks Q R h k => ?_⟩
  show ta σ H fun x H1 => ∃ c, x = .bl c ∧ if c = true then tb σ H1 Q else Q (.bl false) H1
  refine qa _ _ _ _ _ _ _ _ R h fun A1 o1 H1 v1 s1 x1 R1 U1 E1 h1 => ?_
  obtain ⟨c, rfl, h2⟩ := isB_inv h1
  cases E1
  refine ⟨c, rfl, ?_⟩
  cases c with
  | true => rw [if_pos rfl]; exact qb _ _ _ _ _ _ _ _ R1 (h2.1 rfl) (k.up U1)
  | false => rw [if_neg (by decide)]; exact k.da R1 U1 (.bl _) (h2.2 rfl)
theorem de_or (h : DE X a wa) (h2 : DE X (.BoolOp .Or (b :: rest) pos) wb) : DE X (.BoolOp .Or (a :: b :: rest) pos) (dOr wa wb) := by
  obtain ⟨ta, pa, qa⟩ := h.ex
  obtain ⟨tb, pb, qb⟩ := h2.ex
  refine ⟨_, pe_or pa pb, fun b A own H σ s Ks Q R h k => ?_⟩
  show ta σ H fun x H1 => ∃ c, x = .bl c ∧ if c = true then Q (.bl true) H1 else tb σ H1 Q
  refine qa _ _ _ _ _ _ _ _ R h fun A1 o1 H1 v1 s1 x1 R1 U1 E1 h1 => ?_
  obtain ⟨c, rfl, h2⟩ := isB_inv h1
  cases E1
  refine ⟨c, rfl, ?_⟩
  cases c with
  | true => rw [if_pos rfl]; exact k.da R1 U1 (.bl _) (h2.1 rfl)
  | false => rw [if_neg (by decide)]; exact qb _ _ _ _ _ _ _ _ R1 (h2.2 rfl) (k.up U1)
theorem de_not (h : DE X a wa) : DE X (.UnaryOp .Not a pos) (dNot wa) := by
  obtain ⟨ta, pa, qa⟩ := h.ex
  refine ⟨_, pe_not pa, fun b A own H σ s Ks Q R h k => ?_⟩
  refine qa _ _ _ _ _ _ _ _ R h fun A1 o1 H1 v1 s1 x1 R1 U1 E1 h1 => ?_
  obtain ⟨c, rfl, h2⟩ := isB_inv h1
  cases E1
  exact ⟨c, rfl, k.da R1 U1 (.bl _) h2⟩
def dIf (wt : WT) (wa wb : WE) : WE := fun s Ks => wt s fun s1 c => (c = true → wa s1 Ks) ∧ (c = false → wb s1 Ks)
theorem de_if (hc : DT X c wt) (ha : DE X a wa) (hb : DE X b wb) : DE X (.IfExp c a b pos) (dIf wt wa wb) := by
  obtain ⟨tc, pc, qc⟩ := hc.ex
  obtain ⟨ta, pa, qa⟩ := ha.ex
  obtain ⟨tb, pb, qb⟩ := hb.ex
  refine ⟨_, pe_ifExp pc pa pb, fun b A own H σ s Ks Q R h k => ?_⟩
  show tc σ H fun c H1 => if c = true then ta σ H1 Q else tb σ H1 Q
  refine qc _ _ _ _ _ _ _ _ R h fun A1 o1 H1 s1 c R1 U1 h1 => ?_
  cases c with
  | true => rw [if_pos rfl]; exact qa _ _ _ _ _ _ _ _ R1 (h1.1 rfl) (k.up U1)
  | false => rw [if_neg (by decide)]; exact qb _ _ _ _ _ _ _ _ R1 (h1.2 rfl) (k.up U1)
/-! ### ints -/
def iI (x y : En) (k : Int → Int → Prop) : Prop := match x, y with | .da (.int i), .da (.int j) => k i j | _, _ => False
theorem iI_inv {x y : En} {k : Int → Int → Prop} (h : iI x y k) : ∃ i j, x = .da (.int i) ∧ y = .da (.int j) ∧ k i j := by
  unfold iI at h
  split at h
  · exact ⟨_, _, rfl, rfl, h⟩
  · exact h.elim
def i1 (x : En) (k : Int → Prop) : Prop := match x with | .da (.int i) => k i | _ => False
theorem i1_inv {x : En} {k : Int → Prop} (h : i1 x k) : ∃ i, x = .da (.int i) ∧ k i := by
  unfold i1 at h
  split at h
  · exact ⟨_, rfl, h⟩
  · exact h.elim
theorem opd_int {K : PySem.W.Frag} {C : Int → Int → Prop} {g : Int → Int → Int} : OpD K (rI C fun i j => .int (g i j)) (fun s x y Ks => iI x y fun i j => C i j ∧ Ks s (.da (.int (g i j)))) := by
  intro b A own H σ s vx vy x y Ks Q R ex ey h k
  obtain ⟨i, j, rfl, rfl, hc, h⟩ := iI_inv h
  cases ex
  cases ey
  exact ⟨i, j, rfl, rfl, hc, k.da R Up.refl (.int _) h⟩
theorem opd_int0 {K : PySem.W.Frag} {g : Int → Int → Int} : OpD K (rI0 fun i j => .int (g i j)) (fun s x y Ks => iI x y fun i j => Ks s (.da (.int (g i j)))) := by
  intro b A own H σ s vx vy x y Ks Q R ex ey h k
  obtain ⟨i, j, rfl, rfl, h⟩ := iI_inv h
  cases ex
  cases ey
  exact ⟨i, j, rfl, rfl, k.da R Up.refl (.int _) h⟩
theorem opd_intB {K : PySem.W.Frag} {g : Int → Int → Bool} : OpD K (rI0 fun i j => .bl (g i j)) (fun s x y Ks => iI x y fun i j => Ks s (.da (.bool (g i j)))) := by
  intro b A own H σ s vx vy x y Ks Q R ex ey h k
  obtain ⟨i, j, rfl, rfl, h⟩ := iI_inv h
  cases ex
  cases ey
  exact ⟨i, j, rfl, rfl, k.da R Up.refl (.bl _) h⟩
def dAdd : WE → WE → WE := d2 fun s x y Ks => iI x y fun i j => Ks s (.da (.int (i + j)))
def dSub : WE → WE → WE := d2 fun s x y Ks => iI x y fun i j => Ks s (.da (.int (i - j)))
def dMul : WE → WE → WE := d2 fun s x y Ks => iI x y fun i j => CMulX i j ∧ Ks s (.da (.int (i * j)))
def dDiv : WE → WE → WE := d2 fun s x y Ks => iI x y fun i j => CDivW i j ∧ Ks s (.da (.int (i / j)))
def dMod : WE → WE → WE := d2 fun s x y Ks => iI x y fun i j => 0 < j ∧ Ks s (.da (.int (i % j)))
def dPow : WE → WE → WE := d2 fun s x y Ks => iI x y fun i j => CPow i j ∧ Ks s (.da (.int (i ^ j.toNat)))
def dLt : WE → WE → WE := d2 fun s x y Ks => iI x y fun i j => Ks s (.da (.bool (decide (i < j))))
def dLe : WE → WE → WE := d2 fun s x y Ks => iI x y fun i j => Ks s (.da (.bool (decide (i ≤ j))))
def dGt : WE → WE → WE := d2 fun s x y Ks => iI x y fun i j => Ks s (.da (.bool (decide (j < i))))
def dGe : WE → WE → WE := d2 fun s x y Ks => iI x y fun i j => Ks s (.da (.bool (decide (j ≤ i))))
theorem de_add (ha : DE X a wa) (hb : DE X b wb) : DE X (.BinOp a .Add b pos) (dAdd wa wb) := de_op op_add opd_int0 ha hb
theorem de_sub (ha : DE X a wa) (hb : DE X b wb) : DE X (.BinOp a .Sub b pos) (dSub wa wb) := de_op op_sub opd_int0 ha hb
theorem de_mul (ha : DE X a wa) (hb : DE X b wb) : DE X (.BinOp a .Mult b pos) (dMul wa wb) := de_op op_mulX opd_int ha hb
theorem de_div (ha : DE X a wa) (hb : DE X b wb) : DE X (.BinOp a .FloorDiv b pos) (dDiv wa wb) := de_op op_fdivW opd_int ha hb
theorem de_mod (ha : DE X a wa) (hb : DE X b wb) : DE X (.BinOp a .Mod b pos) (dMod wa wb) := de_op op_mod opd_int ha hb
theorem de_pow (ha : DE X a wa) (hb : DE X b wb) : DE X (.BinOp a .Pow b pos) (dPow wa wb) := de_op op_pow opd_int ha hb
theorem de_lt (ha : DE X a wa) (hb : DE X b wb) : DE X (.Compare a [.Lt] [b] pos) (dLt wa wb) := de_cmp op_lt opd_intB ha hb (nomark _)
theorem de_le (ha : DE X a wa) (hb : DE X b wb) : DE X (.Compare a [.LtE] [b] pos) (dLe wa wb) := de_cmp op_le opd_intB ha hb (nomark _)
theorem de_gt (ha : DE X a wa) (hb : DE X b wb) : DE X (.Compare a [.Gt] [b] pos) (dGt wa wb) := de_cmp op_gt opd_intB ha hb (nomark _)
theorem de_ge (ha : DE X a wa) (hb : DE X b wb) : DE X (.Compare a [.GtE] [b] pos) (dGe wa wb) := de_cmp op_ge opd_intB ha hb (nomark _)
theorem dt_lt (ha : DE X a wa) (hb : DE X b wb) : DT X (.Compare a [.Lt] [b] pos) (tT (dLt wa wb)) := dt_cmp op_lt opd_intB ha hb (nomark _)
theorem dt_le (ha : DE X a wa) (hb : DE X b wb) : DT X (.Compare a [.LtE] [b] pos) (tT (dLe wa wb)) := dt_cmp op_le opd_intB ha hb (nomark _)
theorem dt_gt (ha : DE X a wa) (hb : DE X b wb) : DT X (.Compare a [.Gt] [b] pos) (tT (dGt wa wb)) := dt_cmp op_gt opd_intB ha hb (nomark _)
theorem dt_ge (ha : DE X a wa) (hb : DE X b wb) : DT X (.Compare a [.GtE] [b] pos) (tT (dGe wa wb)) := dt_cmp op_ge opd_intB ha hb (nomark _)
def dNeg (wa : WE) : WE := fun s Ks => wa s fun s1 x => i1 x fun i => Ks s1 (.da (.int (-i)))
theorem de_neg (ha : DE X a wa) : DE X (.UnaryOp .USub a pos) (dNeg wa) := by
  obtain ⟨ta, pa, qa⟩ := ha.ex
  refine ⟨_, pe_un un_neg pa, fun b A own H σ s Ks Q R h k => ?_⟩
  refine qa _ _ _ _ _ _ _ _ R h fun A1 o1 H1 v1 s1 x1 R1 U1 E1 h1 => ?_
  obtain ⟨i, rfl, h2⟩ := i1_inv h1
  cases E1
  exact ⟨i, rfl, k.da R1 U1 (.int _) h2⟩
/-! ### what is read of a thing that may change, too -/
def vw (s : S) : En → Option D
  | .da d => some d
  | .mu k => match gm s.ms k with | .lst ds => some (.list ds) | _ => none
  | .no => none
theorem vw_dp {K : PySem.W.Frag} {b : Bd} {A : Addr → Prop} {own : List (List Addr)} {H : Hp} {σ : L2.St} {s : S} (R : Rel K b A own H σ s) {v : V} {x : En} {d : D} (h : ER K A own H v x) (e : vw s x = some d) (hl : d.canLay0 = true) : Dp K H v d := by
  cases x with
  | no => cases e
  | da d' => cases e; exact Rp.dp h hl
  | mu k =>
    obtain ⟨a, r, g, rfl⟩ := h
    have m := R.mr k
    unfold vw at e
    simp only at e
    cases q : gm s.ms k with
    | lst ds =>
      rw [q] at e m
      cases e
      obtain ⟨a', vs, e1, e2, e3⟩ := m
      rw [e1] at g
      cases g
      exact .lst (.inl (.inl e2)) (RpL.dp e3 (by simpa only [PyData.canLay0] using hl))
    | _ => rw [q] at e; cases e
theorem vw_lst {K : PySem.W.Frag} {b : Bd} {A : Addr → Prop} {own : List (List Addr)} {H : Hp} {σ : L2.St} {s : S} (R : Rel K b A own H σ s) {v : V} {x : En} {ds : List D} (h : ER K A own H v x) (e : vw s x = some (.list ds)) :
    ∃ a vs, v = .ref a ∧ SqL K H a vs ∧ RpL K A H vs ds := by
  cases x with
  | no => cases e
  | da d' => cases e; cases h with | lst l r => exact ⟨_, _, rfl, l.sq, r⟩
  | mu k =>
    obtain ⟨a, r, g, rfl⟩ := h
    have m := R.mr k
    unfold vw at e
    simp only at e
    cases q : gm s.ms k with
    | lst ds =>
      rw [q] at e m
      cases e
      obtain ⟨a', vs, e1, e2, e3⟩ := m
      rw [e1] at g
      cases g
      exact ⟨_, _, rfl, .inl (.inl e2), e3⟩
    | _ => rw [q] at e; cases e
theorem vw_tup {K : PySem.W.Frag} {b : Bd} {A : Addr → Prop} {own : List (List Addr)} {H : Hp} {σ : L2.St} {s : S} (R : Rel K b A own H σ s) {v : V} {x : En} {ds : List D} (h : ER K A own H v x) (e : vw s x = some (.tuple ds)) :
    ∃ a vs, v = .ref a ∧ SqT K H a vs ∧ RpL K A H vs ds := by
  cases x with
  | no => cases e
  | da d' => cases e; cases h with | tup l r => exact ⟨_, _, rfl, l.sq, r⟩
  | mu k =>
    unfold vw at e
    simp only at e
    cases q : gm s.ms k with
    | _ => rw [q] at e; cases e
theorem vw_str {K : PySem.W.Frag} {b : Bd} {A : Addr → Prop} {own : List (List Addr)} {H : Hp} {σ : L2.St} {s : S} (R : Rel K b A own H σ s) {v : V} {x : En} {z : Str} (h : ER K A own H v x) (e : vw s x = some (.str z)) : v = .str z := by
  cases x with
  | no => cases e
  | da d' =>
    cases e
    cases (show Rp K A H v (.str z) from h)
    rfl
  | mu k =>
    unfold vw at e
    simp only at e
    cases q : gm s.ms k with
    | _ => rw [q] at e; cases e
/-! ### == -/
def eqS : D → D → Option Bool
  | .int i, .int j => some (decide (i = j))
  | .str i, .str j => some (decide (i = j))
  | .bool i, .bool j => some (decide (i = j))
  | .none, .none => some true
  | .none, .int _ => some false
  | .none, .str _ => some false
  | .none, .bool _ => some false
  | .int _, .none => some false
  | .str _, .none => some false
  | .bool _, .none => some false
  | .int _, .str _ => some false
  | .str _, .int _ => some false
  | .bool _, .str _ => some false
  | .str _, .bool _ => some false
  | _, _ => none
def onO {α : Type} (o : Option α) (k : α → Prop) : Prop := match o with | some x => k x | none => False
theorem onO_inv {α : Type} {o : Option α} {k : α → Prop} (h : onO o k) : ∃ x, o = some x ∧ k x := by
  cases o with
  | none => exact h.elim
  | some x => exact ⟨x, rfl, h⟩
def da2 (x y : En) (k : D → D → Prop) : Prop := match x, y with | .da d, .da e => k d e | _, _ => False
theorem da2_inv {x y : En} {k : D → D → Prop} (h : da2 x y k) : ∃ d e, x = .da d ∧ y = .da e ∧ k d e := by
  unfold da2 at h
  split at h
  · exact ⟨_, _, rfl, rfl, h⟩
  · exact h.elim
def xr (neg c : Bool) : Bool := match neg with | true => !c | false => c
def rdEqS (neg : Bool) : S → En → En → (S → En → Prop) → Prop := fun s x y Ks => da2 x y fun d e => onO (eqS d e) fun c => Ks s (.da (.bool (xr neg c)))
theorem eqS_rel {K : PySem.W.Frag} {A : Addr → Prop} {H : Hp} {d e : D} {c : Bool} {v u : V} (hv : Rp K A H v d) (hu : Rp K A H u e) (h : eqS d e = some c) : scal v u = true ∧ decide (v = u) = c := by
  cases hv <;> cases hu <;> simp only [eqS, Option.some.injEq, reduceCtorEq] at h <;> subst h <;> refine ⟨rfl, ?_⟩ <;> simp
theorem opd_eqS {K : PySem.W.Frag} : OpD K rEq (rdEqS false) := by
  intro b A own H σ s vx vy x y Ks Q R ex ey h k
  obtain ⟨d, e, rfl, rfl, h⟩ := da2_inv h
  obtain ⟨c, hc, h⟩ := onO_inv h
  obtain ⟨h1, h2⟩ := eqS_rel ex ey hc
  refine ⟨h1, ?_⟩
  rw [h2]
  exact k.da R Up.refl (.bl _) h
theorem opd_neS {K : PySem.W.Frag} : OpD K rNe (rdEqS true) := by
  intro b A own H σ s vx vy x y Ks Q R ex ey h k
  obtain ⟨d, e, rfl, rfl, h⟩ := da2_inv h
  obtain ⟨c, hc, h⟩ := onO_inv h
  obtain ⟨h1, h2⟩ := eqS_rel ex ey hc
  refine ⟨h1, ?_⟩
  rw [h2]
  exact k.da R Up.refl (.bl _) h
def dEqS : WE → WE → WE := d2 (rdEqS false)
def dNeS : WE → WE → WE := d2 (rdEqS true)
theorem de_eqS (ha : DE X a wa) (hb : DE X b wb) : DE X (.Compare a [.Eq] [b] pos) (dEqS wa wb) := de_cmp op_eq opd_eqS ha hb (nomark _)
theorem de_neS (ha : DE X a wa) (hb : DE X b wb) : DE X (.Compare a [.NotEq] [b] pos) (dNeS wa wb) := de_cmp op_ne opd_neS ha hb (nomark _)
theorem dt_eqS (ha : DE X a wa) (hb : DE X b wb) : DT X (.Compare a [.Eq] [b] pos) (tT (dEqS wa wb)) := dt_cmp op_eq opd_eqS ha hb (nomark _)
theorem dt_neS (ha : DE X a wa) (hb : DE X b wb) : DT X (.Compare a [.NotEq] [b] pos) (tT (dNeS wa wb)) := dt_cmp op_ne opd_neS ha hb (nomark _)
/-- of data at any depth -/
def vw2 (s : S) (x y : En) (k : D → D → Prop) : Prop := onO (vw s x) fun d => onO (vw s y) fun e => k d e
def rdEqD (neg : Bool) : S → En → En → (S → En → Prop) → Prop := fun s x y Ks => vw2 s x y fun d e => SeqAt.shaped d = true ∧ SeqAt.shaped e = true ∧ Ks s (.da (.bool (xr neg (PyData.eqv d e))))
theorem opd_eqD {K : PySem.W.Frag} : OpD K (rEqD K) (rdEqD false) := by
  intro b A own H σ s vx vy x y Ks Q R ex ey h k
  obtain ⟨d, hd, h⟩ := onO_inv h
  obtain ⟨e, he, h1, h2, h⟩ := onO_inv h
  exact ⟨d, e, vw_dp R ex hd (SeqAt.canLay_of_shaped h1), vw_dp R ey he (SeqAt.canLay_of_shaped h2), h1, h2, k.da R Up.refl (.bl _) h⟩
theorem opd_neD {K : PySem.W.Frag} : OpD K (rNeD K) (rdEqD true) := by
  intro b A own H σ s vx vy x y Ks Q R ex ey h k
  obtain ⟨d, hd, h⟩ := onO_inv h
  obtain ⟨e, he, h1, h2, h⟩ := onO_inv h
  exact ⟨d, e, vw_dp R ex hd (SeqAt.canLay_of_shaped h1), vw_dp R ey he (SeqAt.canLay_of_shaped h2), h1, h2, k.da R Up.refl (.bl _) h⟩
def dEqD : WE → WE → WE := d2 (rdEqD false)
def dNeD : WE → WE → WE := d2 (rdEqD true)
theorem de_eqD (hu : X.A.units + 64 < cLine) (ha : DE X a wa) (hb : DE X b wb) : DE X (.Compare a [.Eq] [b] pos) (dEqD wa wb) := de_cmp (op_eqD hu) opd_eqD ha hb (nomark _)
theorem de_neD (hu : X.A.units + 64 < cLine) (ha : DE X a wa) (hb : DE X b wb) : DE X (.Compare a [.NotEq] [b] pos) (dNeD wa wb) := de_cmp (op_neD hu) opd_neD ha hb (nomark _)
theorem dt_eqD (hu : X.A.units + 64 < cLine) (ha : DE X a wa) (hb : DE X b wb) : DT X (.Compare a [.Eq] [b] pos) (tT (dEqD wa wb)) := dt_cmp (op_eqD hu) opd_eqD ha hb (nomark _)
theorem dt_neD (hu : X.A.units + 64 < cLine) (ha : DE X a wa) (hb : DE X b wb) : DT X (.Compare a [.NotEq] [b] pos) (tT (dNeD wa wb)) := dt_cmp (op_neD hu) opd_neD ha hb (nomark _)
/-- is None, is not None -/
def isNone : D → Bool | .none => true | _ => false
def rdIsN (neg : Bool) : S → En → En → (S → En → Prop) → Prop := fun s x y Ks => match x, y with | .da d, .da .none => Ks s (.da (.bool (xr neg (isNone d)))) | _, _ => False
theorem isN_rel {K : PySem.W.Frag} {A : Addr → Prop} {H : Hp} {d : D} {v : V} (hv : Rp K A H v d) : decide (v = .non) = isNone d := by
  cases hv <;> simp [isNone]
theorem opd_isN {K : PySem.W.Frag} : OpD K (fun x y H Q => y = .non ∧ Q (.bl (decide (x = .non))) H) (rdIsN false) := by
  intro b A own H σ s vx vy x y Ks Q R ex ey h k
  unfold rdIsN at h
  split at h
  · cases ey
    refine ⟨rfl, ?_⟩
    rw [isN_rel ex]
    exact k.da R Up.refl (.bl _) h
  · exact h.elim
theorem opd_notN {K : PySem.W.Frag} : OpD K (fun x y H Q => y = .non ∧ Q (.bl (!decide (x = .non))) H) (rdIsN true) := by
  intro b A own H σ s vx vy x y Ks Q R ex ey h k
  unfold rdIsN at h
  split at h
  · cases ey
    refine ⟨rfl, ?_⟩
    rw [isN_rel ex]
    exact k.da R Up.refl (.bl _) h
  · exact h.elim
def dIsN : WE → WE → WE := d2 (rdIsN false)
def dNotN : WE → WE → WE := d2 (rdIsN true)
theorem de_isN (ha : DE X a wa) (hb : DE X b wb) : DE X (.Compare a [.Is] [b] pos) (dIsN wa wb) := de_cmp op_isN opd_isN ha hb (nomark _)
theorem de_notN (ha : DE X a wa) (hb : DE X b wb) : DE X (.Compare a [.IsNot] [b] pos) (dNotN wa wb) := de_cmp op_notN opd_notN ha hb (nomark _)
theorem dt_isN (ha : DE X a wa) (hb : DE X b wb) : DT X (.Compare a [.Is] [b] pos) (tT (dIsN wa wb)) := dt_cmp op_isN opd_isN ha hb (nomark _)
theorem dt_notN (ha : DE X a wa) (hb : DE X b wb) : DT X (.Compare a [.IsNot] [b] pos) (tT (dNotN wa wb)) := dt_cmp op_notN opd_notN ha hb (nomark _)
end
end DL
namespace DL
open PySem L2
section
variable {X : Cx} {a b c e : Expr} {wa wb wc we : WE} {pos : Pos}
/-! ### items -/
theorem RpL.atI {K : PySem.W.Frag} {A : Addr → Prop} {H : Hp} {vs : List V} {ds : List D} {i : Int} {d : D} (r : RpL K A H vs ds) (h : L2.atI ds i = some d) : ∃ v, L2.atI vs i = some v ∧ Rp K A H v d := by
  unfold L2.atI at h ⊢
  rw [r.length]
  cases q : ixN ds.length i with
  | none => rw [q] at h; cases h
  | some j => rw [q] at h; exact r.get h
def ixD (d : D) (i : Int) (k : D → Prop) : Prop := match d with
  | .list ds => ∃ e, L2.atI ds i = some e ∧ k e
  | .tuple ds => ∃ e, L2.atI ds i = some e ∧ k e
  | .str z => ∃ c, L2.atI z.cps.toList i = some c ∧ z.length ≤ sizeLine ∧ k (.str ⟨#[c]⟩)
  | _ => False
def rdIx : S → En → En → (S → En → Prop) → Prop := fun s x y Ks => onO (vw s x) fun d => i1 y fun i => ixD d i fun e => Ks s (.da e)
theorem opd_ix {K : PySem.W.Frag} : OpD K (rIx K) rdIx := by
  intro b A own H σ s vx vy x y Ks Q R ex ey h k
  obtain ⟨d, hd, h⟩ := onO_inv h
  obtain ⟨i, rfl, h⟩ := i1_inv h
  cases ey
  unfold ixD at h
  split at h
  · obtain ⟨d', h1, h2⟩ := h
    obtain ⟨a, vs, rfl, q, r⟩ := vw_lst R ex hd
    obtain ⟨v, h3, h4⟩ := r.atI h1
    exact .inl ⟨a, vs, i, v, rfl, rfl, q, h3, k.da R Up.refl h4 h2⟩
  · obtain ⟨d', h1, h2⟩ := h
    obtain ⟨a, vs, rfl, q, r⟩ := vw_tup R ex hd
    obtain ⟨v, h3, h4⟩ := r.atI h1
    exact .inr (.inl ⟨a, vs, i, v, rfl, rfl, q, h3, k.da R Up.refl h4 h2⟩)
  · obtain ⟨c, h1, h0, h2⟩ := h
    cases vw_str R ex hd
    exact .inr (.inr ⟨_, i, c, rfl, rfl, h0, h1, k.da R Up.refl (.str _) h2⟩)
  · exact h.elim
def dIx : WE → WE → WE := d2 rdIx
theorem de_ix (ha : DE X a wa) (hb : DE X b wb) (hs : PlainIx b := by exact fun _ _ => rfl) : DE X (.Subscript a b pos) (dIx wa wb) := by
  obtain ⟨ta, pa, qa⟩ := ha.ex
  obtain ⟨tb, pb, qb⟩ := hb.ex
  exact ⟨_, pe_ix ix_seq pa pb hs, d2_run opd_ix qa qb⟩
/-! ### slices -/
abbrev WO := S → (S → Option Int → Prop) → Prop
def PostO (K : PySem.W.Frag) (b : Bd) (A : Addr → Prop) (own : List (List Addr)) (H : Hp) (σ : L2.St) (Ks : S → Option Int → Prop) (Q : Option Int → Hp → Prop) : Prop := ∀ (A' : Addr → Prop) (own' : List (List Addr)) (H' : Hp) (s' : S) (c : Option Int), Rel K b A' own' H' σ s' → Up A own H A' own' H' → Ks s' c → Q c H'
structure DO (X : Cx) (e : Option Expr) (w : WO) : Prop where
  ex : ∃ t, PO X e t ∧ ∀ (b : Bd) (A : Addr → Prop) (own : List (List Addr)) (H : Hp) (σ : L2.St) (s : S) (Ks : S → Option Int → Prop) (Q : Option Int → Hp → Prop), Rel X.K b A own H σ s → w s Ks → PostO X.K b A own H σ Ks Q → t σ H Q
def oNone : WO := fun s Ks => Ks s none
def oSome (w : WE) : WO := fun s Ks => w s fun s1 x => i1 x fun i => Ks s1 (some i)
theorem do_none : DO X none oNone := ⟨_, po_none, fun b A own H σ s Ks Q R h k => k _ _ _ _ _ R Up.refl h⟩
theorem do_some (h : DE X e we) : DO X (some e) (oSome we) := by
  obtain ⟨te, pe, qe⟩ := h.ex
  refine ⟨_, po_some pe, fun b A own H σ s Ks Q R h k => ?_⟩
  refine qe _ _ _ _ _ _ _ _ R h fun A1 o1 H1 v1 s1 x1 R1 U1 E1 h1 => ?_
  obtain ⟨i, rfl, h2⟩ := i1_inv h1
  cases E1
  exact ⟨i, rfl, k _ _ _ _ _ R1 U1 h2⟩
def cutD {α : Type} (xs : List α) (lo hi : Option Int) : List α := (xs.drop (HT.sIx xs.length 0 lo)).take (HT.sIx xs.length xs.length hi - HT.sIx xs.length 0 lo)
theorem RpL.cut {K : PySem.W.Frag} {A : Addr → Prop} {H : Hp} {vs : List V} {ds : List D} (r : RpL K A H vs ds) (lo hi : Option Int) : RpL K A H (cutV vs lo hi) (cutD ds lo hi) := by
  unfold cutV cutD
  rw [r.length]
  exact (r.drop _).take _
def dSl (rd : S → En → Option Int → Option Int → (S → En → Prop) → Prop) (we : WE) (wl wh : WO) : WE := fun s Ks => we s fun s1 x => wl s1 fun s2 l => wh s2 fun s3 u => rd s3 x l u Ks
theorem de_slice {r : V → Option Int → Option Int → Hp → VK → Prop} {rd} {lo hi : Option Expr} {wl wh : WO} {p2 : Pos} (hr : SlR X r)
    (hd : ∀ (b : Bd) (A : Addr → Prop) (own : List (List Addr)) (H : Hp) (σ : L2.St) (s : S) (v : V) (x : En) (l u : Option Int) (Ks : S → En → Prop) (Q : VK), Rel X.K b A own H σ s → ER X.K A own H v x → rd s x l u Ks → PostE X.K b A own H σ Ks Q → r v l u H Q)
    (he : DE X e we) (hl : DO X lo wl) (hh : DO X hi wh) : DE X (.Subscript e (.Slice lo hi none p2) pos) (dSl rd we wl wh) := by
  obtain ⟨te, pe, qe⟩ := he.ex
  obtain ⟨tl, pl, ql⟩ := hl.ex
  obtain ⟨th, ph, qh⟩ := hh.ex
  refine ⟨_, pe_slice hr pe pl ph, fun b A own H σ s Ks Q R h k => ?_⟩
  show te σ H fun x H1 => tl σ H1 fun l H2 => th σ H2 fun u H3 => r x l u H3 Q
  refine qe _ _ _ _ _ _ _ _ R h fun A1 o1 H1 v1 s1 x1 R1 U1 E1 h1 => ?_
  refine ql _ _ _ _ _ _ _ _ R1 h1 fun A2 o2 H2 s2 l R2 U2 h2 => ?_
  refine qh _ _ _ _ _ _ _ _ R2 h2 fun A3 o3 H3 s3 u R3 U3 h3 => ?_
  exact hd _ _ _ _ _ _ _ _ _ _ _ _ R3 (E1.up (U2.trans U3)) h3 (k.up ((U1.trans U2).trans U3))
/-- a new data list at a new place -/
theorem new_lst {K : PySem.W.Frag} {b : Bd} {A : Addr → Prop} {own : List (List Addr)} {H : Hp} {σ : L2.St} {s : S} {Ks : S → En → Prop} {Q : VK} {p : Addr} {vs : List V} {ds : List D} (R : Rel K b A own H σ s) (k : PostE K b A own H σ Ks Q) (r : RpL K A H vs ds) (hp : H p = none) (h : Ks s (.da (.list ds))) : Q (.ref p) (upd H p (.lst vs)) := by
  obtain ⟨R1, U1⟩ := R.new (o := .lst vs) hp
  exact k.da R1 U1 (.lst ⟨upd_same, R.freshA hp⟩ (RpL.mono U1.kp r)) h
theorem new_tup {K : PySem.W.Frag} {b : Bd} {A : Addr → Prop} {own : List (List Addr)} {H : Hp} {σ : L2.St} {s : S} {Ks : S → En → Prop} {Q : VK} {p : Addr} {vs : List V} {ds : List D} (R : Rel K b A own H σ s) (k : PostE K b A own H σ Ks Q) (r : RpL K A H vs ds) (hp : H p = none) (h : Ks s (.da (.tuple ds))) : Q (.ref p) (upd H p (.tup vs)) := by
  obtain ⟨R1, U1⟩ := R.new (o := .tup vs) hp
  exact k.da R1 U1 (.tup (.inl ⟨upd_same, R.freshA hp⟩) (RpL.mono U1.kp r)) h
/-- a new list that may change -/
theorem new_mu {K : PySem.W.Frag} {b : Bd} {A : Addr → Prop} {own : List (List Addr)} {H : Hp} {σ : L2.St} {s : S} {Ks : S → En → Prop} {Q : VK} {p : Addr} {vs : List V} {ds : List D} (R : Rel K b A own H σ s) (k : PostE K b A own H σ Ks Q) (r : RpL K A H vs ds) (hp : H p = none) (h : Ks (s.aM (.lst ds)) (.mu s.ms.length)) : Q (.ref p) (upd H p (.lst vs)) := by
  obtain ⟨R1, U1, g⟩ := R.newMu (o := .lst vs) hp (.lst ds) fun A' own' u => ⟨p, vs, rfl, upd_same, RpL.mono u.kp r⟩
  exact k _ _ _ _ _ (.mu s.ms.length) R1 U1 ⟨p, [], g, rfl⟩ h
def rdSlL : S → En → Option Int → Option Int → (S → En → Prop) → Prop := fun s x l u Ks => onO (vw s x) fun d => match d with | .list ds => Ks s (.da (.list (cutD ds l u))) | _ => False
def rdSlM : S → En → Option Int → Option Int → (S → En → Prop) → Prop := fun s x l u Ks => onO (vw s x) fun d => match d with | .list ds => Ks (s.aM (.lst (cutD ds l u))) (.mu s.ms.length) | _ => False
def rdSlT : S → En → Option Int → Option Int → (S → En → Prop) → Prop := fun s x l u Ks => match x with | .da (.tuple ds) => Ks s (.da (.tuple (cutD ds l u))) | _ => False
def rdSlS : S → En → Option Int → Option Int → (S → En → Prop) → Prop := fun s x l u Ks => match x with | .da (.str z) => z.length ≤ sizeLine ∧ Ks s (.da (.str (cutS z l u))) | _ => False
theorem de_slL {lo hi : Option Expr} {wl wh : WO} {p2 : Pos} (he : DE X e we) (hl : DO X lo wl) (hh : DO X hi wh) : DE X (.Subscript e (.Slice lo hi none p2) pos) (dSl rdSlL we wl wh) :=
  de_slice sl_list (fun b A own H σ s v x l u Ks Q R E h k => by
    obtain ⟨d, hd, h⟩ := onO_inv h
    split at h
    · obtain ⟨a, vs, rfl, q, r⟩ := vw_lst R E hd
      exact ⟨a, vs, rfl, q, fun p hp => new_lst R k (r.cut l u) hp h⟩
    · exact h.elim) he hl hh
theorem de_slM {lo hi : Option Expr} {wl wh : WO} {p2 : Pos} (he : DE X e we) (hl : DO X lo wl) (hh : DO X hi wh) : DE X (.Subscript e (.Slice lo hi none p2) pos) (dSl rdSlM we wl wh) :=
  de_slice sl_list (fun b A own H σ s v x l u Ks Q R E h k => by
    obtain ⟨d, hd, h⟩ := onO_inv h
    split at h
    · obtain ⟨a, vs, rfl, q, r⟩ := vw_lst R E hd
      exact ⟨a, vs, rfl, q, fun p hp => new_mu R k (r.cut l u) hp h⟩
    · exact h.elim) he hl hh
theorem cutD_all {α : Type} (xs : List α) {lo hi : Option Int} (h1 : HT.sIx xs.length 0 lo = 0) (h2 : HT.sIx xs.length xs.length hi = xs.length) : cutD xs lo hi = xs := by
  unfold cutD
  rw [h1, h2, List.drop_zero, Nat.sub_zero, List.take_length]
theorem de_slT {lo hi : Option Expr} {wl wh : WO} {p2 : Pos} (he : DE X e we) (hl : DO X lo wl) (hh : DO X hi wh) : DE X (.Subscript e (.Slice lo hi none p2) pos) (dSl rdSlT we wl wh) :=
  de_slice sl_tupA (fun b A own H σ s v x l u Ks Q R E h k => by
    unfold rdSlT at h
    split at h
    · rename_i ds
      obtain ⟨a, vs, rfl, q, r⟩ := vw_tup R E rfl
      refine ⟨a, vs, rfl, q, fun z => ?_, fun _ p hp => new_tup R k (r.cut l u) hp h⟩
      rw [r.length] at z
      rw [cutD_all _ z.1 z.2] at h
      exact k.da R Up.refl E h
    · exact h.elim) he hl hh
theorem de_slS {lo hi : Option Expr} {wl wh : WO} {p2 : Pos} (he : DE X e we) (hl : DO X lo wl) (hh : DO X hi wh) : DE X (.Subscript e (.Slice lo hi none p2) pos) (dSl rdSlS we wl wh) :=
  de_slice sl_str (fun b A own H σ s v x l u Ks Q R E h k => by
    unfold rdSlS at h
    split at h
    · cases E
      exact ⟨_, rfl, h.1, k.da R Up.refl (.str _) h.2⟩
    · exact h.elim) he hl hh
/-! ### arguments, displays -/
def aNil : WA := fun s Ks => Ks s []
def aCons (we : WE) (wr : WA) : WA := fun s Ks => we s fun s1 x => wr s1 fun s2 xs => Ks s2 (x :: xs)
theorem da_nil : DA X [] aNil := ⟨_, pa_nil, fun b A own H σ s Ks Q R h k => k _ _ _ _ _ [] R Up.refl trivial h⟩
theorem da_cons {es : List Expr} {wr : WA} (h : DE X e we) (t : DA X es wr) (hs : starEach (e :: es) X.env = (false, eval e X.env) :: starEach es X.env := by rfl) : DA X (e :: es) (aCons we wr) := by
  obtain ⟨te, pe, qe⟩ := h.ex
  obtain ⟨tr, pr, qr⟩ := t.ex
  refine ⟨_, pa_cons pe pr hs, fun b A own H σ s Ks Q R h k => ?_⟩
  show te σ H fun x H1 => tr σ H1 fun xs H2 => Q (x :: xs) H2
  refine qe _ _ _ _ _ _ _ _ R h fun A1 o1 H1 v1 s1 x1 R1 U1 E1 h1 => ?_
  refine qr _ _ _ _ _ _ _ _ R1 h1 fun A2 o2 H2 vs s2 xs R2 U2 E2 h2 => ?_
  exact k _ _ _ _ _ (x1 :: xs) R2 (U1.trans U2) ⟨E1.up U2, E2⟩ h2
/-- all of them data -/
def allD : List En → Option (List D)
  | [] => some []
  | .da d :: xs => match allD xs with | some ds => some (d :: ds) | none => none
  | _ :: _ => none
theorem allD_rp {K : PySem.W.Frag} {A : Addr → Prop} {own : List (List Addr)} {H : Hp} : ∀ {vs : List V} {xs : List En} {ds : List D}, ERL K A own H vs xs → allD xs = some ds → RpL K A H vs ds
  | [], [], _, _, e => by cases e; exact .nil
  | v :: vs, .da d :: xs, ds, ⟨h, t⟩, e => by
    unfold allD at e
    cases q : allD xs with
    | none => rw [q] at e; cases e
    | some es => rw [q] at e; cases e; exact .cons h (allD_rp t q)
  | v :: vs, .no :: xs, ds, _, e => by cases e
  | v :: vs, .mu k :: xs, ds, _, e => by cases e
theorem ERL.len {K : PySem.W.Frag} {A : Addr → Prop} {own : List (List Addr)} {H : Hp} : ∀ {vs : List V} {xs : List En}, ERL K A own H vs xs → vs.length = xs.length
  | [], [], _ => rfl
  | _ :: _, _ :: _, ⟨_, t⟩ => congrArg (· + 1) (ERL.len t)
variable {es : List Expr} {wr : WA}
def dTup (wr : WA) : WE := fun s Ks => wr s fun s1 xs => onO (allD xs) fun ds => Ks s1 (.da (.tuple ds))
def dLst (wr : WA) : WE := fun s Ks => wr s fun s1 xs => onO (allD xs) fun ds => Ks s1 (.da (.list ds))
def dLstM (wr : WA) : WE := fun s Ks => wr s fun s1 xs => onO (allD xs) fun ds => Ks (s1.aM (.lst ds)) (.mu s1.ms.length)
theorem allD_len : ∀ {xs : List En} {ds : List D}, allD xs = some ds → ds.length = xs.length
  | [], _, e => by cases e; rfl
  | .da d :: xs, ds, e => by
    unfold allD at e
    cases q : allD xs with
    | none => rw [q] at e; cases e
    | some es => rw [q] at e; cases e; exact congrArg (· + 1) (allD_len q)
  | .no :: xs, ds, e => by cases e
  | .mu k :: xs, ds, e => by cases e
/-- as many values as there are arguments: for the size -/
structure DAn (X : Cx) (es : List Expr) (n : Nat) (w : WA) : Prop where
  ex : ∃ ta, PA X es ta ∧ ∀ (b : Bd) (A : Addr → Prop) (own : List (List Addr)) (H : Hp) (σ : L2.St) (s : S) (Ks : S → List En → Prop) (Q : List V → Hp → Prop), Rel X.K b A own H σ s → w s Ks → PostA X.K b A own H σ (fun s xs => xs.length = n ∧ Ks s xs) Q → ta σ H Q
theorem dan_nil : DAn X [] 0 aNil := ⟨_, pa_nil, fun b A own H σ s Ks Q R h k => k _ _ _ _ _ [] R Up.refl trivial ⟨rfl, h⟩⟩
theorem dan_cons {n : Nat} (h : DE X e we) (t : DAn X es n wr) (hs : starEach (e :: es) X.env = (false, eval e X.env) :: starEach es X.env := by rfl) : DAn X (e :: es) (n + 1) (aCons we wr) := by
  obtain ⟨te, pe, qe⟩ := h.ex
  obtain ⟨tr, pr, qr⟩ := t.ex
  refine ⟨_, pa_cons pe pr hs, fun b A own H σ s Ks Q R h k => ?_⟩
  show te σ H fun x H1 => tr σ H1 fun xs H2 => Q (x :: xs) H2
  refine qe _ _ _ _ _ _ _ _ R h fun A1 o1 H1 v1 s1 x1 R1 U1 E1 h1 => ?_
  refine qr _ _ _ _ _ _ _ _ R1 h1 fun A2 o2 H2 vs s2 xs R2 U2 E2 h2 => ?_
  exact k _ _ _ _ _ (x1 :: xs) R2 (U1.trans U2) ⟨E1.up U2, E2⟩ ⟨congrArg (· + 1) h2.1, h2.2⟩
theorem de_tup {n : Nat} {x1} (h : DAn X es n wr) (hn : n ≤ 1000 := by decide) : DE X (.Tuple es x1 pos) (dTup wr) := by
  obtain ⟨ta, pa, qa⟩ := h.ex
  refine ⟨_, pe_tup pa, fun b A own H σ s Ks Q R h k => ?_⟩
  refine qa _ _ _ _ _ _ _ _ R h fun A1 o1 H1 vs s1 xs R1 U1 E1 h1 => ?_
  obtain ⟨hl, h1⟩ := h1
  obtain ⟨ds, hd, h2⟩ := onO_inv h1
  refine ⟨?_, fun p hp => new_tup R1 (k.up U1) (allD_rp E1 hd) hp h2⟩
  rw [E1.len, hl]
  exact Nat.le_trans hn (by decide)
theorem de_lst {n : Nat} (h : DAn X es n wr) (hn : n ≤ 1000 := by decide) : DE X (.List es pos) (dLst wr) := by
  obtain ⟨ta, pa, qa⟩ := h.ex
  refine ⟨_, pe_lst pa, fun b A own H σ s Ks Q R h k => ?_⟩
  refine qa _ _ _ _ _ _ _ _ R h fun A1 o1 H1 vs s1 xs R1 U1 E1 h1 => ?_
  obtain ⟨hl, h1⟩ := h1
  obtain ⟨ds, hd, h2⟩ := onO_inv h1
  refine ⟨?_, fun p hp => new_lst R1 (k.up U1) (allD_rp E1 hd) hp h2⟩
  rw [E1.len, hl]
  exact Nat.le_trans hn (by decide)
theorem de_lstM {n : Nat} (h : DAn X es n wr) (hn : n ≤ 1000 := by decide) : DE X (.List es pos) (dLstM wr) := by
  obtain ⟨ta, pa, qa⟩ := h.ex
  refine ⟨_, pe_lst pa, fun b A own H σ s Ks Q R h k => ?_⟩
  refine qa _ _ _ _ _ _ _ _ R h fun A1 o1 H1 vs s1 xs R1 U1 E1 h1 => ?_
  obtain ⟨hl, h1⟩ := h1
  obtain ⟨ds, hd, h2⟩ := onO_inv h1
  refine ⟨?_, fun p hp => new_mu R1 (k.up U1) (allD_rp E1 hd) hp h2⟩
  rw [E1.len, hl]
  exact Nat.le_trans hn (by decide)
/-! ### calls of built-ins -/
def CallD (K : PySem.W.Frag) (r : List V → Hp → VK → Prop) (rd : S → List En → (S → En → Prop) → Prop) : Prop := ∀ (b : Bd) (A : Addr → Prop) (own : List (List Addr)) (H : Hp) (σ : L2.St) (s : S) (vs : List V) (xs : List En) (Ks : S → En → Prop) (Q : VK),
  Rel K b A own H σ s → ERL K A own H vs xs → rd s xs Ks → PostE K b A own H σ Ks Q → r vs H Q
def dCall (rd : S → List En → (S → En → Prop) → Prop) (wr : WA) : WE := fun s Ks => wr s fun s1 xs => rd s1 xs Ks
theorem dCall_run {r : List V → Hp → VK → Prop} {rd} {ta : TA} (hd : CallD X.K r rd)
    (qa : ∀ (b : Bd) (A : Addr → Prop) (own : List (List Addr)) (H : Hp) (σ : L2.St) (s : S) (Ks : S → List En → Prop) (Q : List V → Hp → Prop), Rel X.K b A own H σ s → wr s Ks → PostA X.K b A own H σ Ks Q → ta σ H Q)
    (b : Bd) (A : Addr → Prop) (own : List (List Addr)) (H : Hp) (σ : L2.St) (s : S) (Ks : S → En → Prop) (Q : VK) (R : Rel X.K b A own H σ s) (h : dCall rd wr s Ks) (k : PostE X.K b A own H σ Ks Q) : ta σ H fun vs H1 => r vs H1 Q :=
  qa _ _ _ _ _ _ _ _ R h fun A1 o1 H1 vs s1 xs R1 U1 E1 h1 => hd _ _ _ _ _ _ _ _ _ _ R1 E1 h1 (k.up U1)
theorem de_callB {x : Str} {id : String} {p : Pos} {r : List V → Hp → VK → Prop} {rd} (hc : CallR X (.builtin id) r) (hd : CallD X.K r rd) (hg : Gl X x) (hm : X.mg x = none) (hv : bootBuiltins x = some (.builtin id)) (ha : DA X (e :: es) wr) (hn : x ≠ "__name__" := by decide) (hdb : (x == ("__debug__" : Str)) = false := by decide)
    (he : starEach (e :: es) X.env = (false, eval e X.env) :: starEach es X.env := by rfl) (hpl : (backTo pos (starEach es X.env)).any (·.1) = false := by rfl) : DE X (.Call (.Name x p) (e :: es) [] pos) (dCall rd wr) := by
  obtain ⟨ta, pa, qa⟩ := ha.ex
  exact ⟨_, pe_callB hc hg hm hv pa hn hdb he hpl, dCall_run hd qa⟩
theorem de_callTy {x : Str} {T : String} {p : Pos} {r : List V → Hp → VK → Prop} {rd} (hc : CallR X (.type T) r) (hd : CallD X.K r rd) (hg : Gl X x) (hm : X.mg x = none) (hv : bootBuiltins x = some (.type T)) (ha : DA X (e :: es) wr) (hn : x ≠ "__name__" := by decide) (hdb : (x == ("__debug__" : Str)) = false := by decide)
    (he : starEach (e :: es) X.env = (false, eval e X.env) :: starEach es X.env := by rfl) (hpl : (backTo pos (starEach es X.env)).any (·.1) = false := by rfl) : DE X (.Call (.Name x p) (e :: es) [] pos) (dCall rd wr) := by
  obtain ⟨ta, pa, qa⟩ := ha.ex
  exact ⟨_, pe_callTy hc hg hm hv pa hn hdb he hpl, dCall_run hd qa⟩
def a1 (xs : List En) (k : En → Prop) : Prop := match xs with | [x] => k x | _ => False
def a2 (xs : List En) (k : En → En → Prop) : Prop := match xs with | [x, y] => k x y | _ => False
theorem a1_inv {K : PySem.W.Frag} {A : Addr → Prop} {own : List (List Addr)} {H : Hp} {vs : List V} {xs : List En} {k : En → Prop} (e : ERL K A own H vs xs) (h : a1 xs k) : ∃ v x, vs = [v] ∧ ER K A own H v x ∧ k x := by
  unfold a1 at h
  split at h
  · match vs, e with
    | [v], ⟨e1, _⟩ => exact ⟨v, _, rfl, e1, h⟩
  · exact h.elim
theorem a2_inv {K : PySem.W.Frag} {A : Addr → Prop} {own : List (List Addr)} {H : Hp} {vs : List V} {xs : List En} {k : En → En → Prop} (e : ERL K A own H vs xs) (h : a2 xs k) : ∃ v u x y, vs = [v, u] ∧ ER K A own H v x ∧ ER K A own H u y ∧ k x y := by
  unfold a2 at h
  split at h
  · match vs, e with
    | [v, u], ⟨e1, e2, _⟩ => exact ⟨v, u, _, _, rfl, e1, e2, h⟩
  · exact h.elim
/-- len -/
def lenD : D → (Nat → Prop) → Prop
  | .list ds, k => k ds.length
  | .tuple ds, k => k ds.length
  | .str z, k => z.length ≤ sizeLine ∧ k z.length
  | _, _ => False
def cLen : S → List En → (S → En → Prop) → Prop := fun s xs Ks => a1 xs fun x => onO (vw s x) fun d => lenD d fun n => Ks s (.da (.int (n : Int)))
theorem cd_len {K : PySem.W.Frag} : CallD K (fun xs H Q => ∃ x n, xs = [x] ∧ LenV K x H n ∧ Q (.int n) H) cLen := by
  intro b A own H σ s vs xs Ks Q R E h k
  obtain ⟨v, x, rfl, E, h⟩ := a1_inv E h
  obtain ⟨d, hd, h⟩ := onO_inv h
  unfold lenD at h
  split at h
  · obtain ⟨a, vs, rfl, q, r⟩ := vw_lst R E hd
    exact ⟨_, _, rfl, .inl ⟨vs, q, r.length.symm⟩, k.da R Up.refl (.int _) h⟩
  · obtain ⟨a, vs, rfl, q, r⟩ := vw_tup R E hd
    exact ⟨_, _, rfl, .inr ⟨vs, q, r.length.symm⟩, k.da R Up.refl (.int _) h⟩
  · cases vw_str R E hd
    exact ⟨_, _, rfl, ⟨h.1, rfl⟩, k.da R Up.refl (.int _) h.2⟩
  · exact h.elim
theorem de_len {x : Str} {p : Pos} (hg : Gl X "len") (hm : X.mg "len" = none) (ha : DE X a wa)
    (he : starEach (a :: []) X.env = (false, eval a X.env) :: starEach [] X.env := by rfl) : DE X (.Call (.Name "len" p) [a] [] pos) (dCall cLen (aCons wa aNil)) := de_callB call_len cd_len hg hm PySem.boot_len (da_cons ha da_nil he) (he := he)
/-- min, max of two; abs -/
def cMin : S → List En → (S → En → Prop) → Prop := fun s xs Ks => a2 xs fun x y => iI x y fun i j => Ks s (.da (.int (min i j)))
def cMax : S → List En → (S → En → Prop) → Prop := fun s xs Ks => a2 xs fun x y => iI x y fun i j => Ks s (.da (.int (max i j)))
def cAbs : S → List En → (S → En → Prop) → Prop := fun s xs Ks => a1 xs fun x => i1 x fun i => Ks s (.da (.int (i.natAbs : Int)))
theorem cd_min {K : PySem.W.Frag} : CallD K (fun xs H Q => ∃ i j, xs = [.int i, .int j] ∧ Q (.int (if j < i then j else i)) H) cMin := by
  intro b A own H σ s vs xs Ks Q R E h k
  obtain ⟨v, u, x, y, rfl, E1, E2, h⟩ := a2_inv E h
  obtain ⟨i, j, rfl, rfl, h⟩ := iI_inv h
  cases E1; cases E2
  refine ⟨i, j, rfl, ?_⟩
  rw [show (if j < i then j else i) = min i j by omega]
  exact k.da R Up.refl (.int _) h
theorem cd_max {K : PySem.W.Frag} : CallD K (fun xs H Q => ∃ i j, xs = [.int i, .int j] ∧ Q (.int (if j > i then j else i)) H) cMax := by
  intro b A own H σ s vs xs Ks Q R E h k
  obtain ⟨v, u, x, y, rfl, E1, E2, h⟩ := a2_inv E h
  obtain ⟨i, j, rfl, rfl, h⟩ := iI_inv h
  cases E1; cases E2
  refine ⟨i, j, rfl, ?_⟩
  rw [show (if j > i then j else i) = max i j by omega]
  exact k.da R Up.refl (.int _) h
theorem cd_abs {K : PySem.W.Frag} : CallD K (fun xs H Q => ∃ i, xs = [.int i] ∧ Q (.int (if i < 0 then -i else i)) H) cAbs := by
  intro b A own H σ s vs xs Ks Q R E h k
  obtain ⟨v, x, rfl, E1, h⟩ := a1_inv E h
  obtain ⟨i, rfl, h⟩ := i1_inv h
  cases E1
  refine ⟨i, rfl, ?_⟩
  rw [show (if i < 0 then -i else i) = (i.natAbs : Int) by omega]
  exact k.da R Up.refl (.int _) h
theorem de_min {p : Pos} (hc : X.calm = true) (hg : Gl X "min") (hm : X.mg "min" = none) (ha : DE X a wa) (hb : DE X b wb)
    (he : starEach (a :: [b]) X.env = (false, eval a X.env) :: starEach [b] X.env := by rfl) (he2 : starEach (b :: []) X.env = (false, eval b X.env) :: starEach [] X.env := by rfl) (hpl : (backTo pos (starEach [b] X.env)).any (·.1) = false := by rfl) : DE X (.Call (.Name "min" p) [a, b] [] pos) (dCall cMin (aCons wa (aCons wb aNil))) := de_callB (call_min2 hc) cd_min hg hm (by decide +kernel) (da_cons ha (da_cons hb da_nil he2) he) (he := he) (hpl := hpl)
theorem de_max {p : Pos} (hc : X.calm = true) (hg : Gl X "max") (hm : X.mg "max" = none) (ha : DE X a wa) (hb : DE X b wb)
    (he : starEach (a :: [b]) X.env = (false, eval a X.env) :: starEach [b] X.env := by rfl) (he2 : starEach (b :: []) X.env = (false, eval b X.env) :: starEach [] X.env := by rfl) (hpl : (backTo pos (starEach [b] X.env)).any (·.1) = false := by rfl) : DE X (.Call (.Name "max" p) [a, b] [] pos) (dCall cMax (aCons wa (aCons wb aNil))) := de_callB (call_max2 hc) cd_max hg hm (by decide +kernel) (da_cons ha (da_cons hb da_nil he2) he) (he := he) (hpl := hpl)
theorem de_abs {p : Pos} (hg : Gl X "abs") (hm : X.mg "abs" = none) (ha : DE X a wa)
    (he : starEach (a :: []) X.env = (false, eval a X.env) :: starEach [] X.env := by rfl) : DE X (.Call (.Name "abs" p) [a] [] pos) (dCall cAbs (aCons wa aNil)) := de_callB call_abs cd_abs hg hm (by decide +kernel) (da_cons ha da_nil he) (he := he)
/-- divmod -/
def cDivmod : S → List En → (S → En → Prop) → Prop := fun s xs Ks => a2 xs fun x y => iI x y fun i j => CDivW i j ∧ Ks s (.da (.tuple [.int (i / j), .int (i % j)]))
theorem cd_divmod {K : PySem.W.Frag} : CallD K (fun xs H Q => ∃ i j, xs = [.int i, .int j] ∧ CDivP i j ∧ ∀ p, H p = none → Q (.ref p) (upd H p (.tup [.int (i / j), .int (i % j)]))) cDivmod := by
  intro b A own H σ s vs xs Ks Q R E h k
  obtain ⟨v, u, x, y, rfl, E1, E2, h⟩ := a2_inv E h
  obtain ⟨i, j, rfl, rfl, hc, h⟩ := iI_inv h
  cases E1; cases E2
  exact ⟨i, j, rfl, ⟨hc.1, PyProof.noPylong_of_log2 hc.2⟩, fun p hp => new_tup R k (.cons (.int _) (.cons (.int _) .nil)) hp h⟩
theorem de_divmod {p : Pos} (hg : Gl X "divmod") (hm : X.mg "divmod" = none) (ha : DE X a wa) (hb : DE X b wb)
    (he : starEach (a :: [b]) X.env = (false, eval a X.env) :: starEach [b] X.env := by rfl) (he2 : starEach (b :: []) X.env = (false, eval b X.env) :: starEach [] X.env := by rfl) (hpl : (backTo pos (starEach [b] X.env)).any (·.1) = false := by rfl) : DE X (.Call (.Name "divmod" p) [a, b] [] pos) (dCall cDivmod (aCons wa (aCons wb aNil))) := de_callB call_divmodW cd_divmod hg hm (by decide +kernel) (da_cons ha (da_cons hb da_nil he2) he) (he := he) (hpl := hpl)
/-- sum, all, any of a list; sorted of ints -/
def cSum : S → List En → (S → En → Prop) → Prop := fun s xs Ks => a1 xs fun x => ∃ ns : List Int, vw s x = some (.list (ns.map .int)) ∧ Ks s (.da (.int ns.sum))
def cAll : S → List En → (S → En → Prop) → Prop := fun s xs Ks => a1 xs fun x => ∃ ns : List Bool, vw s x = some (.list (ns.map .bool)) ∧ Ks s (.da (.bool (ns.all id)))
def cAny : S → List En → (S → En → Prop) → Prop := fun s xs Ks => a1 xs fun x => ∃ ns : List Bool, vw s x = some (.list (ns.map .bool)) ∧ Ks s (.da (.bool (ns.any id)))
def cMinL : S → List En → (S → En → Prop) → Prop := fun s xs Ks => a1 xs fun x => ∃ ns : List Int, vw s x = some (.list (ns.map .int)) ∧ 0 < ns.length ∧ ∀ m, m ∈ ns → (∀ y, y ∈ ns → m ≤ y) → Ks s (.da (.int m))
def cMaxL : S → List En → (S → En → Prop) → Prop := fun s xs Ks => a1 xs fun x => ∃ ns : List Int, vw s x = some (.list (ns.map .int)) ∧ 0 < ns.length ∧ ∀ m, m ∈ ns → (∀ y, y ∈ ns → y ≤ m) → Ks s (.da (.int m))
def cSortI : S → List En → (S → En → Prop) → Prop := fun s xs Ks => a1 xs fun x => ∃ ns : List Int, vw s x = some (.list (ns.map .int)) ∧ ∀ ns' : List Int, ns'.Perm ns → ns'.Pairwise (· ≤ ·) → Ks s (.da (.list (ns'.map .int)))
theorem cd_sum {K : PySem.W.Frag} : CallD K (rSum K) cSum := by
  intro b A own H σ s vs xs Ks Q R E h k
  obtain ⟨v, x, rfl, E, ns, hd, h⟩ := a1_inv E h
  obtain ⟨a, vs, rfl, q, r⟩ := vw_lst R E hd
  rw [RpL.ofInts r] at q
  exact ⟨a, ns, rfl, q, k.da R Up.refl (.int _) h⟩
theorem cd_all {K : PySem.W.Frag} : CallD K (rAll K) cAll := by
  intro b A own H σ s vs xs Ks Q R E h k
  obtain ⟨v, x, rfl, E, ns, hd, h⟩ := a1_inv E h
  obtain ⟨a, vs, rfl, q, r⟩ := vw_lst R E hd
  rw [RpL.ofBools r] at q
  exact ⟨a, ns, rfl, q, k.da R Up.refl (.bl _) h⟩
theorem cd_any {K : PySem.W.Frag} : CallD K (rAny K) cAny := by
  intro b A own H σ s vs xs Ks Q R E h k
  obtain ⟨v, x, rfl, E, ns, hd, h⟩ := a1_inv E h
  obtain ⟨a, vs, rfl, q, r⟩ := vw_lst R E hd
  rw [RpL.ofBools r] at q
  exact ⟨a, ns, rfl, q, k.da R Up.refl (.bl _) h⟩
theorem cd_minL {K : PySem.W.Frag} : CallD K (rMin K) cMinL := by
  intro b A own H σ s vs xs Ks Q R E h k
  obtain ⟨v, x, rfl, E, ns, hd, h0, h⟩ := a1_inv E h
  obtain ⟨a, vs, rfl, q, r⟩ := vw_lst R E hd
  rw [RpL.ofInts r] at q
  exact ⟨a, ns, rfl, q, h0, fun m m1 m2 => k.da R Up.refl (.int _) (h m m1 m2)⟩
theorem cd_maxL {K : PySem.W.Frag} : CallD K (rMax K) cMaxL := by
  intro b A own H σ s vs xs Ks Q R E h k
  obtain ⟨v, x, rfl, E, ns, hd, h0, h⟩ := a1_inv E h
  obtain ⟨a, vs, rfl, q, r⟩ := vw_lst R E hd
  rw [RpL.ofInts r] at q
  exact ⟨a, ns, rfl, q, h0, fun m m1 m2 => k.da R Up.refl (.int _) (h m m1 m2)⟩
theorem cd_sortI {K : PySem.W.Frag} : CallD K (rSortedI K) cSortI := by
  intro b A own H σ s vs xs Ks Q R E h k
  obtain ⟨v, x, rfl, E, ns, hd, h⟩ := a1_inv E h
  obtain ⟨a, vs, rfl, q, r⟩ := vw_lst R E hd
  rw [RpL.ofInts r] at q
  exact ⟨a, ns, rfl, q, fun ns' p h1 h2 hp => new_lst R k RpL.ints hp (h ns' h1 h2)⟩
theorem de_sum {p : Pos} (hc : X.calm = true) (hg : Gl X "sum") (hm : X.mg "sum" = none) (ha : DE X a wa) (he : starEach (a :: []) X.env = (false, eval a X.env) :: starEach [] X.env := by rfl) : DE X (.Call (.Name "sum" p) [a] [] pos) (dCall cSum (aCons wa aNil)) := de_callB (cr_sum hc) cd_sum hg hm (by decide +kernel) (da_cons ha da_nil he) (he := he)
theorem de_all {p : Pos} (hc : X.calm = true) (hg : Gl X "all") (hm : X.mg "all" = none) (ha : DE X a wa) (he : starEach (a :: []) X.env = (false, eval a X.env) :: starEach [] X.env := by rfl) : DE X (.Call (.Name "all" p) [a] [] pos) (dCall cAll (aCons wa aNil)) := de_callB (cr_all hc) cd_all hg hm (by decide +kernel) (da_cons ha da_nil he) (he := he)
theorem de_any {p : Pos} (hc : X.calm = true) (hg : Gl X "any") (hm : X.mg "any" = none) (ha : DE X a wa) (he : starEach (a :: []) X.env = (false, eval a X.env) :: starEach [] X.env := by rfl) : DE X (.Call (.Name "any" p) [a] [] pos) (dCall cAny (aCons wa aNil)) := de_callB (cr_any hc) cd_any hg hm (by decide +kernel) (da_cons ha da_nil he) (he := he)
theorem de_minL {p : Pos} (hc : X.calm = true) (hg : Gl X "min") (hm : X.mg "min" = none) (ha : DE X a wa) (he : starEach (a :: []) X.env = (false, eval a X.env) :: starEach [] X.env := by rfl) : DE X (.Call (.Name "min" p) [a] [] pos) (dCall cMinL (aCons wa aNil)) := de_callB (cr_min hc) cd_minL hg hm (by decide +kernel) (da_cons ha da_nil he) (he := he)
theorem de_maxL {p : Pos} (hc : X.calm = true) (hg : Gl X "max") (hm : X.mg "max" = none) (ha : DE X a wa) (he : starEach (a :: []) X.env = (false, eval a X.env) :: starEach [] X.env := by rfl) : DE X (.Call (.Name "max" p) [a] [] pos) (dCall cMaxL (aCons wa aNil)) := de_callB (cr_max hc) cd_maxL hg hm (by decide +kernel) (da_cons ha da_nil he) (he := he)
theorem de_sortI {p : Pos} (hg : Gl X "sorted") (hm : X.mg "sorted" = none) (ha : DE X a wa) (he : starEach (a :: []) X.env = (false, eval a X.env) :: starEach [] X.env := by rfl) : DE X (.Call (.Name "sorted" p) [a] [] pos) (dCall cSortI (aCons wa aNil)) := de_callB cr_sortedI cd_sortI hg hm (by decide +kernel) (da_cons ha da_nil he) (he := he)
/-- list(..), tuple(..) of a list or a tuple -/
def seqD : D → Option (List D) | .list ds => some ds | .tuple ds => some ds | _ => none
def cList : S → List En → (S → En → Prop) → Prop := fun s xs Ks => a1 xs fun x => onO (vw s x) fun d => onO (seqD d) fun ds => Ks s (.da (.list ds))
def cListM : S → List En → (S → En → Prop) → Prop := fun s xs Ks => a1 xs fun x => onO (vw s x) fun d => onO (seqD d) fun ds => Ks (s.aM (.lst ds)) (.mu s.ms.length)
def cTuple : S → List En → (S → En → Prop) → Prop := fun s xs Ks => a1 xs fun x => onO (vw s x) fun d => onO (seqD d) fun ds => Ks s (.da (.tuple ds))
theorem cd_list {K : PySem.W.Frag} : CallD K (fun xs H Q => ∃ p ys, xs = [.ref p] ∧ (SqL K H p ys ∨ SqT K H p ys) ∧ ∀ l, H l = none → Q (.ref l) (upd H l (.lst ys))) cList := by
  intro b A own H σ s vs xs Ks Q R E h k
  obtain ⟨v, x, rfl, E, h⟩ := a1_inv E h
  obtain ⟨d, hd, h⟩ := onO_inv h
  obtain ⟨ds, hs, h⟩ := onO_inv h
  unfold seqD at hs
  split at hs <;> cases hs
  · obtain ⟨a, vs, rfl, q, r⟩ := vw_lst R E hd
    exact ⟨a, vs, rfl, .inl q, fun l hl => new_lst R k r hl h⟩
  · obtain ⟨a, vs, rfl, q, r⟩ := vw_tup R E hd
    exact ⟨a, vs, rfl, .inr q, fun l hl => new_lst R k r hl h⟩
theorem cd_listM {K : PySem.W.Frag} : CallD K (fun xs H Q => ∃ p ys, xs = [.ref p] ∧ (SqL K H p ys ∨ SqT K H p ys) ∧ ∀ l, H l = none → Q (.ref l) (upd H l (.lst ys))) cListM := by
  intro b A own H σ s vs xs Ks Q R E h k
  obtain ⟨v, x, rfl, E, h⟩ := a1_inv E h
  obtain ⟨d, hd, h⟩ := onO_inv h
  obtain ⟨ds, hs, h⟩ := onO_inv h
  unfold seqD at hs
  split at hs <;> cases hs
  · obtain ⟨a, vs, rfl, q, r⟩ := vw_lst R E hd
    exact ⟨a, vs, rfl, .inl q, fun l hl => new_mu R k r hl h⟩
  · obtain ⟨a, vs, rfl, q, r⟩ := vw_tup R E hd
    exact ⟨a, vs, rfl, .inr q, fun l hl => new_mu R k r hl h⟩
theorem cd_tuple {K : PySem.W.Frag} : CallD K (fun xs H Q => ∃ p ys, xs = [.ref p] ∧ ((SqL K H p ys ∧ ∀ l, H l = none → Q (.ref l) (upd H l (.tup ys))) ∨ (SqT K H p ys ∧ Q (.ref p) H))) cTuple := by
  intro b A own H σ s vs xs Ks Q R E h k
  obtain ⟨v, x, rfl, E, h⟩ := a1_inv E h
  obtain ⟨d, hd, h⟩ := onO_inv h
  obtain ⟨ds, hs, h⟩ := onO_inv h
  unfold seqD at hs
  split at hs <;> cases hs
  · obtain ⟨a, vs, rfl, q, r⟩ := vw_lst R E hd
    exact ⟨a, vs, rfl, .inl ⟨q, fun l hl => new_tup R k r hl h⟩⟩
  · obtain ⟨a, vs, rfl, q, r⟩ := vw_tup R E hd
    refine ⟨a, vs, rfl, .inr ⟨q, ?_⟩⟩
    cases x with
    | da d => cases hd; exact k.da R Up.refl E h
    | mu j =>
      unfold vw at hd
      simp only at hd
      cases q : gm s.ms j <;> (rw [q] at hd; cases hd)
    | no => cases hd
theorem de_list {p : Pos} (hg : Gl X "list") (hm : X.mg "list" = none) (ha : DE X a wa) (he : starEach (a :: []) X.env = (false, eval a X.env) :: starEach [] X.env := by rfl) : DE X (.Call (.Name "list" p) [a] [] pos) (dCall cList (aCons wa aNil)) := de_callTy call_list_of cd_list hg hm (by decide +kernel) (da_cons ha da_nil he) (he := he)
theorem de_listM {p : Pos} (hg : Gl X "list") (hm : X.mg "list" = none) (ha : DE X a wa) (he : starEach (a :: []) X.env = (false, eval a X.env) :: starEach [] X.env := by rfl) : DE X (.Call (.Name "list" p) [a] [] pos) (dCall cListM (aCons wa aNil)) := de_callTy call_list_of cd_listM hg hm (by decide +kernel) (da_cons ha da_nil he) (he := he)
theorem de_tuple {p : Pos} (hg : Gl X "tuple") (hm : X.mg "tuple" = none) (ha : DE X a wa) (he : starEach (a :: []) X.env = (false, eval a X.env) :: starEach [] X.env := by rfl) : DE X (.Call (.Name "tuple" p) [a] [] pos) (dCall cTuple (aCons wa aNil)) := de_callTy call_tuple_of cd_tuple hg hm (by decide +kernel) (da_cons ha da_nil he) (he := he)
/-- str(int), int(str), int(int) -/
def cStrI : S → List En → (S → En → Prop) → Prop := fun s xs Ks => a1 xs fun x => i1 x fun i => i.natAbs.log2 < 1920 ∧ Ks s (.da (.str (toString i : String)))
end
end DL
namespace DL
open PySem L2
section
variable {X : Cx} {a b c e : Expr} {wa wb wc we : WE} {pos : Pos} {es : List Expr}
/-! ### targets -/
def gN (i : Nat) : WG := fun x s Ks => Ks (s.sE i x)
theorem Sto.refl {js : List Nat} {σ : L2.St} : Sto js σ σ := ⟨rfl, fun _ _ => rfl⟩
theorem Sto.trans {js ks : List Nat} {σ τ υ : L2.St} (h : Sto js σ τ) (k : Sto ks τ υ) : Sto (js ++ ks) σ υ :=
  ⟨k.1.trans h.1, fun i n => (k.2 i fun z => n (List.mem_append_right _ z)).trans (h.2 i fun z => n (List.mem_append_left _ z))⟩
theorem dg_name {i : Nat} {x : Str} (hN : X.N.Nodup) (hi : X.N[i]? = some x) (hx : Loc X.env.scope x) (hf : X.fn x = true ∨ X.env.scope.names.lookup x = some .local := by first | exact .inl rfl | exact .inr rfl | assumption) : DG X (.Name x pos) [i] (gN i) :=
  ⟨_, pg_name hN hi hx hf, fun b A own H σ s v x Ks Q R E h k => k _ _ _ _ _ (R.slot E) Up.refl ⟨List.length_set .., fun j n => List.getElem?_set_ne (fun z => n (by simp [z]))⟩ h⟩
abbrev WGs := List D → S → (S → Prop) → Prop
structure DGs (X : Cx) (ts : List Expr) (js : List Nat) (w : WGs) : Prop where
  ex : ∃ g, PGs X ts g ∧ ∀ (b : Bd) (A : Addr → Prop) (own : List (List Addr)) (H : Hp) (σ : L2.St) (s : S) (vs : List V) (ds : List D) (Ks : S → Prop) (Q : L2.St → Hp → Prop), Rel X.K b A own H σ s → RpL X.K A H vs ds → w ds s Ks → PostG X.K b A own H σ js Ks Q → g vs σ H Q
def gsNil : WGs := fun ds s Ks => match ds with | [] => Ks s | _ => False
def gsCons (g : WG) (r : WGs) : WGs := fun ds s Ks => match ds with | d :: ds => g (.da d) s fun s1 => r ds s1 Ks | [] => False
theorem dgs_nil : DGs X [] [] gsNil := ⟨_, pgs_nil, fun b A own H σ s vs ds Ks Q R E h k => by
  unfold gsNil at h
  split at h
  · cases E; exact ⟨rfl, k _ _ _ _ _ R Up.refl Sto.refl h⟩
  · exact h.elim⟩
theorem dgs_cons {js ks : List Nat} {g : WG} {r : WGs} (h1 : DG X e js g) (h2 : DGs X es ks r) (hs : (assignEach (e :: es) X.env).map (·.2) = assign e X.env :: (assignEach es X.env).map (·.2) := by rfl) : DGs X (e :: es) (js ++ ks) (gsCons g r) := by
  obtain ⟨g1, p1, q1⟩ := h1.ex
  obtain ⟨g2, p2, q2⟩ := h2.ex
  refine ⟨_, pgs_cons p1 p2 hs, fun b A own H σ s vs ds Ks Q R E h k => ?_⟩
  unfold gsCons at h
  split at h
  · cases E with
    | cons e1 e2 =>
      refine ⟨_, _, rfl, ?_⟩
      refine q1 _ _ _ _ _ _ _ _ _ _ R (show ER X.K A own H _ (.da _) from e1) h fun A1 o1 H1 σ1 s1 R1 U1 S1 h1 => ?_
      exact q2 _ _ _ _ _ _ _ _ _ _ R1 (RpL.mono U1.kp e2) h1 fun A2 o2 H2 σ2 s2 R2 U2 S2 h2 => k _ _ _ _ _ R2 (U1.trans U2) (S1.trans S2) h2
  · exact h.elim
def gT (n : Nat) (r : WGs) : WG := fun x s Ks => match x with | .da (.tuple ds) => ds.length = n ∧ r ds s Ks | _ => False
def gL (n : Nat) (r : WGs) : WG := fun x s Ks => onO (vw s x) fun d => match d with | .list ds => ds.length = n ∧ r ds s Ks | _ => False
theorem dg_tup {js : List Nat} {r : WGs} {n : Nat} {kk : Nat} (hc : X.calm = true) (h : DGs X es js r) (hn : (assignEach es X.env).length = n := by rfl) (hst : (assignEach es X.env).findIdx? (·.1) = none := by rfl) : DG X (.Tuple es kk pos) js (gT n r) := by
  obtain ⟨g, p, q⟩ := h.ex
  refine ⟨_, pg_tup hc p hn hst, fun b A own H σ s v x Ks Q R E h k => ?_⟩
  unfold gT at h
  split at h
  · obtain ⟨a, vs, rfl, t, r⟩ := vw_tup R E rfl
    exact ⟨a, vs, rfl, t, r.length.trans h.1, q _ _ _ _ _ _ _ _ _ _ R r h.2 k⟩
  · exact h.elim
theorem dg_lst {js : List Nat} {r : WGs} {n : Nat} {kk : Nat} (hc : X.calm = true) (h : DGs X es js r) (hn : (assignEach es X.env).length = n := by rfl) (hst : (assignEach es X.env).findIdx? (·.1) = none := by rfl) : DG X (.Tuple es kk pos) js (gL n r) := by
  obtain ⟨g, p, q⟩ := h.ex
  refine ⟨_, pg_unl hc p hn hst, fun b A own H σ s v x Ks Q R E h k => ?_⟩
  unfold gL at h
  obtain ⟨d, hd, h⟩ := onO_inv h
  split at h
  · obtain ⟨a, vs, rfl, t, r⟩ := vw_lst R E hd
    exact ⟨a, vs, rfl, t, r.length.trans h.1, q _ _ _ _ _ _ _ _ _ _ R r h.2 k⟩
  · exact h.elim
/-- x[i] = d, x a list that changes -/
def mu1 (s : S) (x : En) (k : Nat → List D → Prop) : Prop := match x with | .mu j => (match gm s.ms j with | .lst ds => k j ds | _ => False) | _ => False
theorem mu1_inv {s : S} {x : En} {k : Nat → List D → Prop} (h : mu1 s x k) : ∃ j ds, x = .mu j ∧ gm s.ms j = .lst ds ∧ k j ds := by
  unfold mu1 at h
  split at h
  · split at h
    · exact ⟨_, _, rfl, by assumption, h⟩
    · exact h.elim
  · exact h.elim
theorem gm_lt {ms : List MO} {j : Nat} (h : gm ms j ≠ .gone) : j < ms.length := Nat.lt_of_not_le fun z => h (gm_ge _ _ z)
/-- a list that changes: read, and written -/
theorem mu_at {K : PySem.W.Frag} {b : Bd} {A : Addr → Prop} {own : List (List Addr)} {H : Hp} {σ : L2.St} {s : S} (R : Rel K b A own H σ s) {v : V} {j : Nat} {ds : List D} (E : ER K A own H v (.mu j)) (g : gm s.ms j = .lst ds) :
    ∃ p vs, v = .ref p ∧ H p = some (.lst vs) ∧ RpL K A H vs ds ∧ go own j = [p] ∧ ∀ vs' ds', RpL K A H vs' ds' → Rel K b A own (upd H p (.lst vs')) σ (s.sM j (.lst ds')) ∧ Up A own H A own (upd H p (.lst vs')) := by
  have m := R.mr j
  rw [g] at m
  obtain ⟨p, vs, e1, e2, e3⟩ := m
  obtain ⟨p', r, e4, rfl⟩ := E
  rw [e1] at e4
  cases e4
  refine ⟨p, vs, rfl, e2, e3, e1, fun vs' ds' r' => ?_⟩
  refine R.chg j (.lst ds') (fun a o n h => ?_) (fun a h => ?_) (fun u => ?_) (gm_lt (by rw [g]; intro z; cases z))
  · rw [upd_ne]; exact h
    intro z; subst z; exact n (by rw [e1]; simp)
  · rw [e1] at h
    cases List.mem_singleton.mp h
    rw [upd_same]; intro z; cases z
  · rw [e1]; exact ⟨p, vs', rfl, upd_same, RpL.mono u.kp r'⟩
def daI (x : En) (k : D → Prop) : Prop := match x with | .da d => k d | _ => False
theorem daI_inv {x : En} {k : D → Prop} (h : daI x k) : ∃ d, x = .da d ∧ k d := by
  unfold daI at h
  split at h
  · exact ⟨_, rfl, h⟩
  · exact h.elim
def gSetL (wo wi : WE) : WG := fun x s Ks => wo s fun s1 o => wi s1 fun s2 i => mu1 s2 o fun j ds => i1 i fun z => daI x fun d => ∃ n, ixN ds.length z = some n ∧ Ks (s2.sM j (.lst (ds.set n d)))
theorem dg_setL (ho : DE X a wa) (hi : DE X b wb) (hh : ∀ v, assign (.Subscript a b pos) X.env v = (do
      let ov ← holding [v] (eval a X.env)
      let iv ← holding [v, ov] (eval b X.env)
      standAt pos
      holding [v, ov, iv] (setItem ov iv v)
      release [v, ov, iv] []) := by intro _; rfl) : DG X (.Subscript a b pos) [] (gSetL wa wb) := by
  obtain ⟨ta, pa, qa⟩ := ho.ex
  obtain ⟨tb, pb, qb⟩ := hi.ex
  refine ⟨_, pg_sub pa pb set_list hh, fun b A own H σ s v x Ks Q R E h k => ?_⟩
  show ta σ H fun o H1 => tb σ H1 fun i H2 => rSetL o i v H2 fun H3 => Q σ H3
  refine qa _ _ _ _ _ _ _ _ R h fun A1 o1 H1 v1 s1 x1 R1 U1 E1 h1 => ?_
  refine qb _ _ _ _ _ _ _ _ R1 h1 fun A2 o2 H2 v2 s2 x2 R2 U2 E2 h2 => ?_
  obtain ⟨j, ds, rfl, g, h2⟩ := mu1_inv h2
  obtain ⟨z, rfl, h2⟩ := i1_inv h2
  obtain ⟨d, rfl, n, hn, h2⟩ := daI_inv h2
  cases E2
  obtain ⟨p, vs, rfl, e2, e3, _, up⟩ := mu_at R2 (E1.up U2) g
  have r : Rp X.K A2 H2 v d := E.up (U1.trans U2)
  obtain ⟨R3, U3⟩ := up (vs.set n v) (ds.set n d) (e3.set r n)
  exact ⟨p, vs, z, n, rfl, rfl, e2, by rw [e3.length]; exact hn, k _ _ _ _ _ R3 ((U1.trans U2).trans U3) Sto.refl h2⟩
/-! ### dicts that change -/
def keyD : D → Option Key | .int i => some (.inl i) | .str x => some (.inr x) | _ => none
def findD (kvs : List (Key × D)) (k : Key) : Option D := (kvs.find? fun kv => decide (kv.1 = k)).map (·.2)
def putD (kvs : List (Key × D)) (k : Key) (d : D) : List (Key × D) :=
  if (kvs.any fun kv => decide (kv.1 = k)) = true then kvs.map (fun kv => if kv.1 = k then (kv.1, d) else kv) else kvs ++ [(k, d)]
theorem keyD_rp {K : PySem.W.Frag} {A : Addr → Prop} {H : Hp} {v : V} {d : D} {k : Key} (r : Rp K A H v d) (h : keyD d = some k) : v = kV k := by
  cases r <;> simp only [keyD, Option.some.injEq, reduceCtorEq] at h <;> subst h <;> rfl
section
variable {K : PySem.W.Frag} {A : Addr → Prop} {H : Hp}
theorem RKV.len : ∀ {ws : List (Key × V)} {kvs : List (Key × D)}, RKV K A H ws kvs → ws.length = kvs.length
  | [], [], _ => rfl
  | _ :: _, _ :: _, ⟨_, _, t⟩ => congrArg (· + 1) (RKV.len t)
theorem RKV.keys : ∀ {ws : List (Key × V)} {kvs : List (Key × D)}, RKV K A H ws kvs → ws.map (·.1) = kvs.map (·.1)
  | [], [], _ => rfl
  | _ :: _, _ :: _, ⟨e, _, t⟩ => by rw [List.map_cons, List.map_cons, e, RKV.keys t]
theorem RKV.vals : ∀ {ws : List (Key × V)} {kvs : List (Key × D)}, RKV K A H ws kvs → RpL K A H (ws.map (·.2)) (kvs.map (·.2))
  | [], [], _ => .nil
  | _ :: _, _ :: _, ⟨_, r, t⟩ => .cons r (RKV.vals t)
theorem RKV.any {k : Key} : ∀ {ws : List (Key × V)} {kvs : List (Key × D)}, RKV K A H ws kvs → (ws.any fun kv => decide (kv.1 = k)) = (kvs.any fun kv => decide (kv.1 = k))
  | [], [], _ => rfl
  | _ :: _, _ :: _, ⟨e, _, t⟩ => by rw [List.any_cons, List.any_cons, e, RKV.any t]
theorem RKV.map {k : Key} {v : V} {d : D} (r : Rp K A H v d) : ∀ {ws : List (Key × V)} {kvs : List (Key × D)}, RKV K A H ws kvs → RKV K A H (ws.map fun kv => if kv.1 = k then (kv.1, v) else kv) (kvs.map fun kv => if kv.1 = k then (kv.1, d) else kv)
  | [], [], _ => trivial
  | p :: _, q :: _, ⟨e, r', t⟩ => by
    rw [List.map_cons, List.map_cons]
    by_cases h : q.1 = k
    · rw [if_pos h, if_pos (e.trans h)]; exact ⟨e, r, RKV.map r t⟩
    · rw [if_neg h, if_neg (fun z => h (e.symm.trans z))]; exact ⟨e, r', RKV.map r t⟩
theorem RKV.snoc {k : Key} {v : V} {d : D} (r : Rp K A H v d) : ∀ {ws : List (Key × V)} {kvs : List (Key × D)}, RKV K A H ws kvs → RKV K A H (ws ++ [(k, v)]) (kvs ++ [(k, d)])
  | [], [], _ => ⟨rfl, r, trivial⟩
  | _ :: _, _ :: _, ⟨e, r', t⟩ => ⟨e, r', RKV.snoc r t⟩
theorem RKV.put {k : Key} {v : V} {d : D} (r : Rp K A H v d) {ws : List (Key × V)} {kvs : List (Key × D)} (h : RKV K A H ws kvs) : RKV K A H (putK ws k v) (putD kvs k d) := by
  unfold putK putD
  rw [h.any]
  split
  · exact h.map r
  · exact h.snoc r
theorem RKV.find {k : Key} : ∀ {ws : List (Key × V)} {kvs : List (Key × D)}, RKV K A H ws kvs → (findD kvs k = none ∧ valV ws k = none) ∨ ∃ d v, findD kvs k = some d ∧ valV ws k = some v ∧ Rp K A H v d
  | [], [], _ => .inl ⟨rfl, rfl⟩
  | p :: ws, q :: kvs, ⟨e, r, t⟩ => by
    unfold findD
    rw [List.find?_cons]
    by_cases h : q.1 = k
    · rw [decide_eq_true h, valV_pos (e.trans h)]; exact .inr ⟨_, _, rfl, rfl, r⟩
    · rw [decide_eq_false h, valV_neg (fun z => h (e.symm.trans z))]; exact RKV.find t
end
def mu2 (s : S) (x : En) (k : Nat → List (Key × D) → Prop) : Prop := match x with | .mu j => (match gm s.ms j with | .dct ds => k j ds | _ => False) | _ => False
theorem mu2_inv {s : S} {x : En} {k : Nat → List (Key × D) → Prop} (h : mu2 s x k) : ∃ j ds, x = .mu j ∧ gm s.ms j = .dct ds ∧ k j ds := by
  unfold mu2 at h
  split at h
  · split at h
    · exact ⟨_, _, rfl, by assumption, h⟩
    · exact h.elim
  · exact h.elim
theorem mud_at {K : PySem.W.Frag} {b : Bd} {A : Addr → Prop} {own : List (List Addr)} {H : Hp} {σ : L2.St} {s : S} (R : Rel K b A own H σ s) {v : V} {j : Nat} {ds : List (Key × D)} (E : ER K A own H v (.mu j)) (g : gm s.ms j = .dct ds) :
    ∃ p vs, v = .ref p ∧ H p = some (.dK vs) ∧ RKV K A H vs ds ∧ go own j = [p] ∧ ∀ vs' ds', RKV K A H vs' ds' → Rel K b A own (upd H p (.dK vs')) σ (s.sM j (.dct ds')) ∧ Up A own H A own (upd H p (.dK vs')) := by
  have m := R.mr j
  rw [g] at m
  obtain ⟨p, vs, e1, e2, e3⟩ := m
  obtain ⟨p', r, e4, rfl⟩ := E
  rw [e1] at e4
  cases e4
  refine ⟨p, vs, rfl, e2, e3, e1, fun vs' ds' r' => ?_⟩
  refine R.chg j (.dct ds') (fun a o n h => ?_) (fun a h => ?_) (fun u => ?_) (gm_lt (by rw [g]; intro z; cases z))
  · rw [upd_ne]; exact h
    intro z; subst z; exact n (by rw [e1]; simp)
  · rw [e1] at h
    cases List.mem_singleton.mp h
    rw [upd_same]; intro z; cases z
  · rw [e1]; exact ⟨p, vs', rfl, upd_same, RKV.up u.kp r'⟩
def gSetD (wo wi : WE) : WG := fun x s Ks => wo s fun s1 o => wi s1 fun s2 i => mu2 s2 o fun j kvs => daI i fun kd => onO (keyD kd) fun key => daI x fun d => kvs.length < sizeLine ∧ Ks (s2.sM j (.dct (putD kvs key d)))
theorem dg_setD (hu : X.A.units + 1 < cLine) (ho : DE X a wa) (hi : DE X b wb) (hh : ∀ v, assign (.Subscript a b pos) X.env v = (do
      let ov ← holding [v] (eval a X.env)
      let iv ← holding [v, ov] (eval b X.env)
      standAt pos
      holding [v, ov, iv] (setItem ov iv v)
      release [v, ov, iv] []) := by intro _; rfl) : DG X (.Subscript a b pos) [] (gSetD wa wb) := by
  obtain ⟨ta, pa, qa⟩ := ho.ex
  obtain ⟨tb, pb, qb⟩ := hi.ex
  refine ⟨_, pg_sub pa pb (set_dict hu) hh, fun b A own H σ s v x Ks Q R E h k => ?_⟩
  show ta σ H fun o H1 => tb σ H1 fun i H2 => rSetD o i v H2 fun H3 => Q σ H3
  refine qa _ _ _ _ _ _ _ _ R h fun A1 o1 H1 v1 s1 x1 R1 U1 E1 h1 => ?_
  refine qb _ _ _ _ _ _ _ _ R1 h1 fun A2 o2 H2 v2 s2 x2 R2 U2 E2 h2 => ?_
  obtain ⟨j, ds, rfl, g, h2⟩ := mu2_inv h2
  obtain ⟨kd, rfl, h2⟩ := daI_inv h2
  obtain ⟨key, hk, h2⟩ := onO_inv h2
  obtain ⟨d, rfl, hl, h2⟩ := daI_inv h2
  obtain ⟨p, vs, rfl, e2, e3, _, up⟩ := mud_at R2 (E1.up U2) g
  have r : Rp X.K A2 H2 v d := E.up (U1.trans U2)
  obtain ⟨R3, U3⟩ := up _ _ (e3.put (k := key) r)
  rw [keyD_rp E2 hk]
  exact ⟨p, _, rfl, DPut.k e2 (by rw [e3.len]; exact hl), k _ _ _ _ _ R3 ((U1.trans U2).trans U3) Sto.refl h2⟩
/-- {} -/
def dNewD : WE := fun s Ks => Ks (s.aM (.dct [])) (.mu s.ms.length)
theorem de_newD : DE X (.Dict [] [] pos) dNewD := ⟨_, pe_dnewK, fun b A own H σ s Ks Q R h k => by
  intro p hp
  obtain ⟨R1, U1, g⟩ := R.newMu (o := .dK []) hp (.dct []) fun A' own' u => ⟨p, [], rfl, upd_same, trivial⟩
  exact k _ _ _ _ _ (.mu s.ms.length) R1 U1 ⟨p, [], g, rfl⟩ h⟩
/-- d.get(k, x), d[k], k in d -/
def dGet2 (wd wk wx : WE) : WE := fun s Ks => wd s fun s1 o => mu2 s1 o fun j _ => wk s1 fun s2 i => wx s2 fun s3 x => mu2 s3 (.mu j) fun _ kvs => daI i fun kd => onO (keyD kd) fun key => daI x fun d => ∃ e, (findD kvs key).getD d = e ∧ Ks s3 (.da e)
theorem de_get2 {apos cpos : Pos} (hu : X.A.units + 1 < cLine) (ho : DE X a wa) (hi : DE X b wb) (hx : DE X c wc) (m : M2 X a "get" apos b c cpos := by exact ⟨rfl, rfl, rfl, rfl⟩) : DE X (.Call (.Attribute a "get" apos) [b, c] [] cpos) (dGet2 wa wb wc) := by
  obtain ⟨ta, pa, qa⟩ := ho.ex
  obtain ⟨tb, pb, qb⟩ := hi.ex
  obtain ⟨tc, pc, qc⟩ := hx.ex
  refine ⟨_, pe_dget2 hu pa pb pc m, fun b A own H σ s Ks Q R h k => ?_⟩
  show ta σ H fun x H1 => ∃ a, x = .ref a ∧ IsD H1 a ∧ tb σ H1 fun y H2 => tc σ H2 fun z H3 => ∃ o, DGet H3 a y o ∧ Q (o.getD z) H3
  refine qa _ _ _ _ _ _ _ _ R h fun A1 o1 H1 v1 s1 x1 R1 U1 E1 h1 => ?_
  obtain ⟨j, kvs, rfl, g, h1⟩ := mu2_inv h1
  obtain ⟨p, vs, rfl, e2, e3, e4, _⟩ := mud_at R1 E1 g
  refine ⟨p, rfl, .inl ⟨_, .inl e2⟩, ?_⟩
  refine qb _ _ _ _ _ _ _ _ R1 h1 fun A2 o2 H2 v2 s2 x2 R2 U2 E2 h2 => ?_
  refine qc _ _ _ _ _ _ _ _ R2 h2 fun A3 o3 H3 v3 s3 x3 R3 U3 E3 h3 => ?_
  obtain ⟨j', kvs', ej, g', h3⟩ := mu2_inv h3
  cases ej
  obtain ⟨kd, rfl, h3⟩ := daI_inv h3
  obtain ⟨key, hk, h3⟩ := onO_inv h3
  obtain ⟨d, rfl, h3⟩ := daI_inv h3
  obtain ⟨_, rfl, h3⟩ := h3
  obtain ⟨p', vs', ep, f2, f3, _, _⟩ := mud_at R3 (E1.up (U2.trans U3)) g'
  cases ep
  have E2' : Rp X.K A3 H3 v2 kd := E2.up U3
  rw [keyD_rp E2' hk]
  refine ⟨_, DGet.k f2, ?_⟩
  rcases f3.find (k := key) with ⟨q1, q2⟩ | ⟨d', v', q1, q2, q3⟩
  · rw [q2]; rw [q1] at h3; exact (k.up ((U1.trans U2).trans U3)).da R3 Up.refl E3 h3
  · rw [q2]; rw [q1] at h3; exact (k.up ((U1.trans U2).trans U3)).da R3 Up.refl q3 h3
def dDget (wd wk : WE) : WE := fun s Ks => wd s fun s1 o => wk s1 fun s2 i => mu2 s2 o fun j kvs => daI i fun kd => onO (keyD kd) fun key => ∃ d, findD kvs key = some d ∧ Ks s2 (.da d)
theorem de_dget (hu : X.A.units + 1 < cLine) (ho : DE X a wa) (hi : DE X b wb) (hs : NoSl b := by exact fun _ _ => rfl) : DE X (.Subscript a b pos) (dDget wa wb) := by
  obtain ⟨ta, pa, qa⟩ := ho.ex
  obtain ⟨tb, pb, qb⟩ := hi.ex
  refine ⟨_, pe_dget hu pa pb hs, fun b A own H σ s Ks Q R h k => ?_⟩
  show ta σ H fun x H1 => tb σ H1 fun y H2 => ∃ a v, x = .ref a ∧ DGet H2 a y (some v) ∧ Q v H2
  refine qa _ _ _ _ _ _ _ _ R h fun A1 o1 H1 v1 s1 x1 R1 U1 E1 h1 => ?_
  refine qb _ _ _ _ _ _ _ _ R1 h1 fun A2 o2 H2 v2 s2 x2 R2 U2 E2 h2 => ?_
  obtain ⟨j, kvs, rfl, g, h2⟩ := mu2_inv h2
  obtain ⟨kd, rfl, h2⟩ := daI_inv h2
  obtain ⟨key, hk, d, hd, h2⟩ := onO_inv h2
  obtain ⟨p, vs, rfl, e2, e3, _, _⟩ := mud_at R2 (E1.up U2) g
  rw [keyD_rp E2 hk]
  rcases e3.find (k := key) with ⟨q1, q2⟩ | ⟨d', v', q1, q2, q3⟩
  · rw [q1] at hd; cases hd
  · rw [q1] at hd; cases hd
    exact ⟨p, v', rfl, by rw [← q2]; exact DGet.k e2, (k.up (U1.trans U2)).da R2 Up.refl q3 h2⟩
def dDin (neg : Bool) (wk wd : WE) : WE := fun s Ks => wk s fun s1 i => wd s1 fun s2 o => mu2 s2 o fun j kvs => daI i fun kd => onO (keyD kd) fun key => Ks s2 (.da (.bool (xr neg (findD kvs key).isSome)))
theorem din_run {ta tb : TE} (qa : ∀ (b : Bd) (A : Addr → Prop) (own : List (List Addr)) (H : Hp) (σ : L2.St) (s : S) (Ks : S → En → Prop) (Q : VK), Rel X.K b A own H σ s → wa s Ks → PostE X.K b A own H σ Ks Q → ta σ H Q)
    (qb : ∀ (b : Bd) (A : Addr → Prop) (own : List (List Addr)) (H : Hp) (σ : L2.St) (s : S) (Ks : S → En → Prop) (Q : VK), Rel X.K b A own H σ s → wb s Ks → PostE X.K b A own H σ Ks Q → tb σ H Q)
    (b : Bd) (A : Addr → Prop) (own : List (List Addr)) (H : Hp) (σ : L2.St) (s : S) (Ks : S → En → Prop) (Q : VK) (R : Rel X.K b A own H σ s) (h : dDin false wb wa s Ks) (k : PostE X.K b A own H σ Ks Q) : tDIn tb ta σ H Q := by
  show tb σ H fun y H1 => ta σ H1 fun x H2 => ∃ a o, x = .ref a ∧ DGet H2 a y o ∧ Q (.bl o.isSome) H2
  refine qb _ _ _ _ _ _ _ _ R h fun A1 o1 H1 v1 s1 x1 R1 U1 E1 h1 => ?_
  refine qa _ _ _ _ _ _ _ _ R1 h1 fun A2 o2 H2 v2 s2 x2 R2 U2 E2 h2 => ?_
  obtain ⟨j, kvs, rfl, g, h2⟩ := mu2_inv h2
  obtain ⟨kd, rfl, h2⟩ := daI_inv h2
  obtain ⟨key, hk, h2⟩ := onO_inv h2
  obtain ⟨p, vs, rfl, e2, e3, _, _⟩ := mud_at R2 E2 g
  rw [keyD_rp (E1.up U2) hk]
  refine ⟨p, _, rfl, DGet.k e2, ?_⟩
  rcases e3.find (k := key) with ⟨q1, q2⟩ | ⟨d', v', q1, q2, q3⟩
  · rw [q2]; rw [q1] at h2; exact (k.up (U1.trans U2)).da R2 Up.refl (.bl _) h2
  · rw [q2]; rw [q1] at h2; exact (k.up (U1.trans U2)).da R2 Up.refl (.bl _) h2
theorem de_din (hu : X.A.units + 1 < cLine) (hi : DE X b wb) (ho : DE X a wa) (hm : behindInMarks .In a = false := by rfl) : DE X (.Compare b [.In] [a] pos) (dDin false wb wa) := by
  obtain ⟨ta, pa, qa⟩ := ho.ex
  obtain ⟨tb, pb, qb⟩ := hi.ex
  exact ⟨_, pe_cmp (pc_din hu pb pa) hm, fun b A own H σ s Ks Q R h k => din_run qa qb b A own H σ s Ks Q R h k⟩
theorem dnotin_run {ta tb : TE} (qa : ∀ (b : Bd) (A : Addr → Prop) (own : List (List Addr)) (H : Hp) (σ : L2.St) (s : S) (Ks : S → En → Prop) (Q : VK), Rel X.K b A own H σ s → wa s Ks → PostE X.K b A own H σ Ks Q → ta σ H Q)
    (qb : ∀ (b : Bd) (A : Addr → Prop) (own : List (List Addr)) (H : Hp) (σ : L2.St) (s : S) (Ks : S → En → Prop) (Q : VK), Rel X.K b A own H σ s → wb s Ks → PostE X.K b A own H σ Ks Q → tb σ H Q)
    (b : Bd) (A : Addr → Prop) (own : List (List Addr)) (H : Hp) (σ : L2.St) (s : S) (Ks : S → En → Prop) (Q : VK) (R : Rel X.K b A own H σ s) (h : dDin true wb wa s Ks) (k : PostE X.K b A own H σ Ks Q) : tDNotIn tb ta σ H Q := by
  show tb σ H fun y H1 => ta σ H1 fun x H2 => ∃ a o, x = .ref a ∧ DGet H2 a y o ∧ Q (.bl (!o.isSome)) H2
  refine qb _ _ _ _ _ _ _ _ R h fun A1 o1 H1 v1 s1 x1 R1 U1 E1 h1 => ?_
  refine qa _ _ _ _ _ _ _ _ R1 h1 fun A2 o2 H2 v2 s2 x2 R2 U2 E2 h2 => ?_
  obtain ⟨j, kvs, rfl, g, h2⟩ := mu2_inv h2
  obtain ⟨kd, rfl, h2⟩ := daI_inv h2
  obtain ⟨key, hk, h2⟩ := onO_inv h2
  obtain ⟨p, vs, rfl, e2, e3, _, _⟩ := mud_at R2 E2 g
  rw [keyD_rp (E1.up U2) hk]
  refine ⟨p, _, rfl, DGet.k e2, ?_⟩
  rcases e3.find (k := key) with ⟨q1, q2⟩ | ⟨d', v', q1, q2, q3⟩
  · rw [q2]; rw [q1] at h2; exact (k.up (U1.trans U2)).da R2 Up.refl (.bl _) h2
  · rw [q2]; rw [q1] at h2; exact (k.up (U1.trans U2)).da R2 Up.refl (.bl _) h2
theorem de_dnotin (hu : X.A.units + 1 < cLine) (hi : DE X b wb) (ho : DE X a wa) (hm : behindInMarks .NotIn a = false := by rfl) : DE X (.Compare b [.NotIn] [a] pos) (dDin true wb wa) := by
  obtain ⟨ta, pa, qa⟩ := ho.ex
  obtain ⟨tb, pb, qb⟩ := hi.ex
  exact ⟨_, pe_cmp (pc_dnotin hu pb pa) hm, fun b A own H σ s Ks Q R h k => dnotin_run qa qb b A own H σ s Ks Q R h k⟩
theorem dt_din (hu : X.A.units + 1 < cLine) (hi : DE X b wb) (ho : DE X a wa) (hm : behindInMarks .In a = false := by rfl) : DT X (.Compare b [.In] [a] pos) (tT (dDin false wb wa)) := by
  obtain ⟨ta, pa, qa⟩ := ho.ex
  obtain ⟨tb, pb, qb⟩ := hi.ex
  exact ⟨_, pt_cmp (pc_din hu pb pa) hm, tT_run fun b A own H σ s Ks Q R h k => din_run qa qb b A own H σ s Ks Q R h k⟩
theorem dt_dnotin (hu : X.A.units + 1 < cLine) (hi : DE X b wb) (ho : DE X a wa) (hm : behindInMarks .NotIn a = false := by rfl) : DT X (.Compare b [.NotIn] [a] pos) (tT (dDin true wb wa)) := by
  obtain ⟨ta, pa, qa⟩ := ho.ex
  obtain ⟨tb, pb, qb⟩ := hi.ex
  exact ⟨_, pt_cmp (pc_dnotin hu pb pa) hm, tT_run fun b A own H σ s Ks Q R h k => dnotin_run qa qb b A own H σ s Ks Q R h k⟩
/-! ### methods of a list that changes -/
def dMet (rd : S → Nat → List D → List En → (S → En → Prop) → Prop) (wo : WE) (wr : WA) : WE := fun s Ks => wo s fun s1 o => mu1 s1 o fun j _ => wr s1 fun s2 xs => mu1 s2 (.mu j) fun _ ds => rd s2 j ds xs Ks
/-- what a method does at a list that changes -/
def MetD (K : PySem.W.Frag) (r : V → List V → Hp → VK → Prop) (rd : S → Nat → List D → List En → (S → En → Prop) → Prop) : Prop := ∀ (b : Bd) (A : Addr → Prop) (own : List (List Addr)) (H : Hp) (σ : L2.St) (s : S) (p : Addr) (j : Nat) (us : List V) (ds : List D) (vs : List V) (xs : List En) (Ks : S → En → Prop) (Q : VK),
  Rel K b A own H σ s → H p = some (.lst us) → RpL K A H us ds → gm s.ms j = .lst ds → (∀ vs' ds', RpL K A H vs' ds' → Rel K b A own (upd H p (.lst vs')) σ (s.sM j (.lst ds')) ∧ Up A own H A own (upd H p (.lst vs'))) → ERL K A own H vs xs → rd s j ds xs Ks → PostE K b A own H σ Ks Q → r (.ref p) vs H Q
theorem de_met {wr : WA} {name : Str} {id : String} {apos cpos : Pos} {r rd} (slot : Slot "list" name id) (hty : typeOf (.builtin id) = pure (.type "method_descriptor")) (hm : MtR X id r) (hd : MetD X.K r rd) (ho : DE X a wa) (ha : DA X (e :: es) wr)
    (hbase : attributeBase a name X.env (eval a X.env) = eval a X.env := by rfl)
    (hfew : ((backTo cpos (starEach (e :: es) X.env)).all (fun x => !x.1) && (backToKw cpos (keywordEach [] X.env)).all (fun x => x.1.isSome)
      && decide ((e :: es).length + ([] : List Keyword).length + (if ([] : List Keyword).isEmpty then 0 else 1) < 30)) = true := by rfl)
    (hline : (apos.endLine == cpos.line) = true := by rfl) (hs : starEach (e :: es) X.env = (false, eval e X.env) :: starEach es X.env := by rfl) (hplain : (backTo cpos (starEach es X.env)).any (·.1) = false := by rfl) :
    DE X (.Call (.Attribute a name apos) (e :: es) [] cpos) (dMet rd wa wr) := by
  obtain ⟨ta, pa, qa⟩ := ho.ex
  obtain ⟨tr, pr, qr⟩ := ha.ex
  refine ⟨_, pe_bm PySem.F.plainAttrs_list slot hty hm pa pr hbase hfew hline hs hplain, fun b A own H σ s Ks Q R h k => ?_⟩
  show ta σ H fun x H1 => tyV X.K "list" x H1 ∧ tr σ H1 fun xs H2 => r x xs H2 Q
  refine qa _ _ _ _ _ _ _ _ R h fun A1 o1 H1 v1 s1 x1 R1 U1 E1 h1 => ?_
  obtain ⟨j, ds, rfl, g, h1⟩ := mu1_inv h1
  obtain ⟨p, us, rfl, e2, e3, e4, _⟩ := mu_at R1 E1 g
  refine ⟨.inl ⟨rfl, us, .inl (.inl e2)⟩, ?_⟩
  refine qr _ _ _ _ _ _ _ _ R1 h1 fun A2 o2 H2 vs s2 xs R2 U2 E2 h2 => ?_
  obtain ⟨j', ds', ej, g', h2⟩ := mu1_inv h2
  cases ej
  obtain ⟨p', us', ep, f2, f3, f4, up⟩ := mu_at R2 (E1.up U2) g'
  cases ep
  exact hd _ _ _ _ _ _ _ _ _ _ _ _ _ _ R2 f2 f3 g' up E2 h2 (k.up (U1.trans U2))
theorem de_met0 {name : Str} {id : String} {apos cpos : Pos} {r rd} (slot : Slot "list" name id) (hty : typeOf (.builtin id) = pure (.type "method_descriptor")) (hm : MtR X id r) (hd : MetD X.K r rd) (ho : DE X a wa)
    (hbase : attributeBase a name X.env (eval a X.env) = eval a X.env := by rfl) (hline : (apos.endLine == cpos.line) = true := by rfl) :
    DE X (.Call (.Attribute a name apos) [] [] cpos) (dMet rd wa aNil) := by
  obtain ⟨ta, pa, qa⟩ := ho.ex
  refine ⟨_, pe_bm0 PySem.F.plainAttrs_list slot hty hm pa hbase hline, fun b A own H σ s Ks Q R h k => ?_⟩
  show ta σ H fun x H1 => tyV X.K "list" x H1 ∧ r x [] H1 Q
  refine qa _ _ _ _ _ _ _ _ R h fun A1 o1 H1 v1 s1 x1 R1 U1 E1 h1 => ?_
  obtain ⟨j, ds, rfl, g, h1⟩ := mu1_inv h1
  have h1 : mu1 s1 (.mu j) (fun _ ds => rd s1 j ds [] Ks) := h1
  obtain ⟨j', ds', ej, g', h1⟩ := mu1_inv h1
  cases ej
  rw [g] at g'
  cases g'
  obtain ⟨p, us, rfl, e2, e3, e4, up⟩ := mu_at R1 E1 g
  exact ⟨.inl ⟨rfl, us, .inl (.inl e2)⟩, hd _ _ _ _ _ _ _ _ _ _ _ _ _ _ R1 e2 e3 g up (show ERL X.K A1 o1 H1 [] [] from trivial) h1 (k.up U1)⟩
def mAppend : S → Nat → List D → List En → (S → En → Prop) → Prop := fun s j ds xs Ks => a1 xs fun x => daI x fun d => ds.length < sizeLine ∧ Ks (s.sM j (.lst (ds ++ [d]))) (.da .none)
theorem md_append {K : PySem.W.Frag} : MetD K rAppend mAppend := by
  intro b A own H σ s p j us ds vs xs Ks Q R hp r g up E h k
  obtain ⟨v, x, rfl, E, h⟩ := a1_inv E h
  obtain ⟨d, rfl, hl, h⟩ := daI_inv h
  obtain ⟨R1, U1⟩ := up _ _ (r.append (.cons (show Rp K A H v d from E) .nil))
  exact ⟨p, us, v, rfl, rfl, hp, by rw [r.length]; exact hl, k.da R1 U1 .non h⟩
theorem de_append {apos cpos : Pos} (ho : DE X a wa) (hi : DE X b wb)
    (hbase : attributeBase a "append" X.env (eval a X.env) = eval a X.env := by rfl)
    (hfew : ((backTo cpos (starEach (b :: []) X.env)).all (fun x => !x.1) && (backToKw cpos (keywordEach [] X.env)).all (fun x => x.1.isSome)
      && decide ((b :: []).length + ([] : List Keyword).length + (if ([] : List Keyword).isEmpty then 0 else 1) < 30)) = true := by rfl)
    (hline : (apos.endLine == cpos.line) = true := by rfl) (hs : starEach (b :: []) X.env = (false, eval b X.env) :: starEach [] X.env := by rfl) :
    DE X (.Call (.Attribute a "append" apos) [b] [] cpos) (dMet mAppend wa (aCons wb aNil)) := de_met PySem.F.slot_list_append PySem.F.type_list_append mt_append md_append ho (da_cons hi da_nil hs) hbase hfew hline hs
end
end DL
namespace DL
open PySem L2
/-! ### more methods -/
section
variable {K : PySem.W.Frag}
def mPop : S → Nat → List D → List En → (S → En → Prop) → Prop := fun s j ds xs Ks => match xs with | [] => ∃ d, ds[ds.length - 1]? = some d ∧ Ks (s.sM j (.lst ds.dropLast)) (.da d) | _ => False
theorem RpL.dropLast {A : Addr → Prop} {H : Hp} {vs : List V} {ds : List D} (r : RpL K A H vs ds) : RpL K A H vs.dropLast ds.dropLast := by
  rw [List.dropLast_eq_take, List.dropLast_eq_take, r.length]
  exact r.take _
theorem md_pop : MetD K rPop mPop := by
  intro b A own H σ s p j us ds vs xs Ks Q R hp r g up E h k
  unfold mPop at h
  split at h
  · obtain ⟨d, e, h⟩ := h
    cases vs with
    | cons _ _ => exact E.elim
    | nil =>
      obtain ⟨v, e', r'⟩ := r.get e
      obtain ⟨R1, U1⟩ := up _ _ r.dropLast
      exact ⟨p, us, v, rfl, rfl, hp, by rw [r.length]; exact e', k.da R1 U1 (Rp.mono U1.kp r') h⟩
  · exact h.elim
def mReverse : S → Nat → List D → List En → (S → En → Prop) → Prop := fun s j ds xs Ks => match xs with | [] => Ks (s.sM j (.lst ds.reverse)) (.da .none) | _ => False
theorem md_reverse : MetD K rReverse mReverse := by
  intro b A own H σ s p j us ds vs xs Ks Q R hp r g up E h k
  unfold mReverse at h
  split at h
  · cases vs with
    | cons _ _ => exact E.elim
    | nil =>
      obtain ⟨R1, U1⟩ := up _ _ r.reverse
      exact ⟨p, us, rfl, rfl, hp, k.da R1 U1 .non h⟩
  · exact h.elim
def mExtend : S → Nat → List D → List En → (S → En → Prop) → Prop := fun s j ds xs Ks => a1 xs fun x => onO (vw s x) fun d => match d with | .list es => ds.length + es.length ≤ sizeLine ∧ Ks (s.sM j (.lst (ds ++ es))) (.da .none) | _ => False
theorem vw_lstH {b : Bd} {A : Addr → Prop} {own : List (List Addr)} {H : Hp} {σ : L2.St} {s : S} (R : Rel K b A own H σ s) {v : V} {x : En} {ds : List D} (h : ER K A own H v x) (e : vw s x = some (.list ds)) :
    ∃ a vs, v = .ref a ∧ H a = some (.lst vs) ∧ RpL K A H vs ds := by
  cases x with
  | no => cases e
  | da d' => cases e; cases h with | lst l r => exact ⟨_, _, rfl, l.1, r⟩
  | mu k =>
    obtain ⟨a, r, g, rfl⟩ := h
    have m := R.mr k
    unfold vw at e
    simp only at e
    cases q : gm s.ms k with
    | lst ds =>
      rw [q] at e m
      cases e
      obtain ⟨a', vs, e1, e2, e3⟩ := m
      rw [e1] at g
      cases g
      exact ⟨_, _, rfl, e2, e3⟩
    | _ => rw [q] at e; cases e
theorem md_extend : MetD K rExtend mExtend := by
  intro b A own H σ s p j us ds vs xs Ks Q R hp r g up E h k
  obtain ⟨v, x, rfl, E, h⟩ := a1_inv E h
  obtain ⟨d, hd, h⟩ := onO_inv h
  split at h
  · obtain ⟨a, vs, rfl, q, r'⟩ := vw_lstH R E hd
    obtain ⟨R1, U1⟩ := up _ _ (r.append r')
    exact ⟨p, a, us, vs, rfl, rfl, hp, q, by rw [r.length, r'.length]; exact h.1, k.da R1 U1 .non h.2⟩
  · exact h.elim
def mInsert : S → Nat → List D → List En → (S → En → Prop) → Prop := fun s j ds xs Ks => a2 xs fun i x => i1 i fun i => daI x fun d => ds.length < sizeLine ∧ 0 ≤ i ∧ i < 2 ^ 63 ∧ Ks (s.sM j (.lst (ds.take i.toNat ++ [d] ++ ds.drop i.toNat))) (.da .none)
theorem md_insert : MetD K (fun x vs H Q => ∃ (l : Addr) (xs : List V) (i : Int) (y : V), x = .ref l ∧ vs = [.int i, y] ∧ H l = some (.lst xs) ∧ xs.length < sizeLine ∧ 0 ≤ i ∧ i < 2 ^ 63 ∧ Q .non (upd H l (.lst (xs.take i.toNat ++ [y] ++ xs.drop i.toNat)))) mInsert := by
  intro b A own H σ s p j us ds vs xs Ks Q R hp r g up E h k
  obtain ⟨v, u, x, y, rfl, E1, E2, h⟩ := a2_inv E h
  obtain ⟨i, rfl, h⟩ := i1_inv h
  obtain ⟨d, rfl, hl, h1, h2, h⟩ := daI_inv h
  cases E1
  obtain ⟨R1, U1⟩ := up _ _ (((r.take i.toNat).append (.cons (show Rp K A H u d from E2) .nil)).append (r.drop i.toNat))
  exact ⟨p, us, i, u, rfl, rfl, hp, by rw [r.length]; exact hl, h1, h2, k.da R1 U1 .non h⟩
def eraseN {α : Type} (l : List α) (n : Nat) : List α := l.take n ++ l.drop (n + 1)
theorem eraseIdx_eq {α : Type} : ∀ (l : List α) (n : Nat), l.eraseIdx n = eraseN l n
  | [], n => by simp [eraseN]
  | x :: l, 0 => by simp [eraseN]
  | x :: l, n + 1 => by
    show x :: l.eraseIdx n = _
    rw [eraseIdx_eq l n]; rfl
def mPopAt : S → Nat → List D → List En → (S → En → Prop) → Prop := fun s j ds xs Ks => a1 xs fun i => i1 i fun i => -(2 ^ 63) ≤ i ∧ i < 2 ^ 63 ∧ ∃ n d, seqIndex? i ds.length = some n ∧ ds[n]? = some d ∧ Ks (s.sM j (.lst (eraseN ds n))) (.da d)
theorem md_popAt : MetD K rPopAt mPopAt := by
  intro b A own H σ s p j us ds vs xs Ks Q R hp r g up E h k
  obtain ⟨v, x, rfl, E, h⟩ := a1_inv E h
  obtain ⟨i, rfl, h1, h2, n, d, h3, h4, h⟩ := i1_inv h
  cases E
  obtain ⟨w, e', r'⟩ := r.get h4
  have re : RpL K A H (us.eraseIdx n) (eraseN ds n) := by
    rw [eraseIdx_eq]; exact (r.take n).append (r.drop (n + 1))
  obtain ⟨R1, U1⟩ := up _ _ re
  exact ⟨p, us, i, n, w, rfl, rfl, hp, h1, h2, by rw [r.length]; exact h3, e', k.da R1 U1 (Rp.mono U1.kp r') h⟩
def mClear : S → Nat → List D → List En → (S → En → Prop) → Prop := fun s j ds xs Ks => match xs with | [] => Ks (s.sM j (.lst [])) (.da .none) | _ => False
theorem md_clear : MetD K rClear mClear := by
  intro b A own H σ s p j us ds vs xs Ks Q R hp r g up E h k
  unfold mClear at h
  split at h
  · cases vs with
    | cons _ _ => exact E.elim
    | nil =>
      obtain ⟨R1, U1⟩ := up [] [] .nil
      exact ⟨p, us, rfl, rfl, hp, k.da R1 U1 .non h⟩
  · exact h.elim
end
/-! ### calls of own defs -/
abbrev SpD := List En → List MO → (List MO → En → Prop) → Prop
/-- the promise of a def, by data -/
def spOf (K : PySem.W.Frag) (n : Nat) (sp : SpD) : Sp := fun vs H Q _ => ∃ (A : Addr → Prop) (own : List (List Addr)) (xs : List En) (ms : List MO) (Ks : List MO → En → Prop), vs.length = n ∧ ERL K A own H vs xs ∧ Own K A own H ms ∧ sp xs ms Ks ∧
  ∀ (A' : Addr → Prop) (own' : List (List Addr)) (H' : Hp) (v : V) (ms' : List MO) (x : En), Own K A' own' H' ms' → own'.take own.length = own → (∀ a, A a → A' a) → (∀ a, A' a → A a ∨ H a = none) → (∀ a o, (∀ k, a ∉ go own k) → H a = some o → H' a = some o) →
    (∀ k a, a ∈ go own' k → (∃ j, a ∈ go own j) ∨ H a = none) → ER K A' own' H' v x → Ks ms' x → Q v H'
def plainM : MO → Bool
  | .lst _ => true
  | .dct _ => true
  | .rnd _ => true
  | .box _ => true
  | .tab _ => true
  | _ => false
theorem MR.plain {K : PySem.W.Frag} {A : Addr → Prop} {own own' : List (List Addr)} {H : Hp} {l : List Addr} {m : MO} (h : MR K A own H l m) (p : plainM m = true) : MR K A own' H l m := by
  cases m with
  | gone => cases p
  | ins _ _ => cases p
  | tab _ => exact h
  | lst ds => exact h
  | dct ds => exact h
  | rnd ds => exact h
  | box ds => exact h
def posOf : List Nat → Nat → Option Nat
  | [], _ => none
  | k :: ks, j => if k = j then some 0 else (posOf ks j).map (· + 1)
theorem posOf_some : ∀ {ks : List Nat} {j i : Nat}, posOf ks j = some i → ks[i]? = some j
  | [], _, _, h => by cases h
  | k :: ks, j, i, h => by
    unfold posOf at h
    split at h
    · cases h; subst_vars; rfl
    · cases q : posOf ks j with
      | none => rw [q] at h; cases h
      | some i' => rw [q] at h; cases h; show (k :: ks)[i' + 1]? = some j; rw [List.getElem?_cons_succ]; exact posOf_some (ks := ks) q
def renE (ks : List Nat) : En → Option En
  | .no => some .no
  | .da d => some (.da d)
  | .mu j => match posOf ks j with | some i => some (.mu i) | none => none
def renL (ks : List Nat) : List En → Option (List En)
  | [] => some []
  | x :: xs => match renE ks x with | some y => (match renL ks xs with | some ys => some (y :: ys) | none => none) | none => none
def pick : List Nat → List MO → List MO
  | [], _ => []
  | k :: ks, ms => gm ms k :: pick ks ms
def pickO : List Nat → List (List Addr) → List (List Addr)
  | [], _ => []
  | k :: ks, own => go own k :: pickO ks own
def putM : List Nat → List MO → List MO → List MO
  | k :: ks, m :: r, ms => putM ks r (sm ms k m)
  | _, _, ms => ms
def allP : List MO → Bool
  | [] => true
  | m :: ms => plainM m && allP ms
def nthN : List Nat → Nat → Nat
  | [], _ => 0
  | k :: _, 0 => k
  | _ :: ks, i + 1 => nthN ks i
def bkE (ks : List Nat) (n : Nat) : En → En
  | .mu j => bif Nat.blt j ks.length then .mu (nthN ks j) else .mu (n + (j - ks.length))
  | x => x
theorem pickO_length : ∀ (ks : List Nat) (own : List (List Addr)), (pickO ks own).length = ks.length
  | [], _ => rfl
  | _ :: ks, own => congrArg (· + 1) (pickO_length ks own)
theorem pick_length : ∀ (ks : List Nat) (ms : List MO), (pick ks ms).length = ks.length
  | [], _ => rfl
  | _ :: ks, own => congrArg (· + 1) (pick_length ks own)
theorem go_pickO : ∀ (ks : List Nat) (own : List (List Addr)) (i j : Nat), ks[i]? = some j → go (pickO ks own) i = go own j
  | k :: ks, own, 0, j, h => by cases h; rfl
  | k :: ks, own, i + 1, j, h => go_pickO ks own i j (by simpa using h)
theorem gm_pick : ∀ (ks : List Nat) (ms : List MO) (i j : Nat), ks[i]? = some j → gm (pick ks ms) i = gm ms j
  | k :: ks, own, 0, j, h => by cases h; rfl
  | k :: ks, own, i + 1, j, h => gm_pick ks own i j (by simpa using h)
theorem nthN_get : ∀ (ks : List Nat) (i : Nat), i < ks.length → ks[i]? = some (nthN ks i)
  | k :: ks, 0, _ => rfl
  | k :: ks, i + 1, h => by
    rw [List.getElem?_cons_succ]; exact nthN_get ks i (by simpa using h)
theorem allP_gm : ∀ (ms : List MO) (i : Nat), allP ms = true → i < ms.length → plainM (gm ms i) = true
  | m :: ms, 0, h, _ => (Bool.and_eq_true_iff.mp h).1
  | m :: ms, i + 1, h, l => allP_gm ms i (Bool.and_eq_true_iff.mp h).2 (by simpa using l)
theorem putM_length : ∀ (ks : List Nat) (r ms : List MO), (putM ks r ms).length = ms.length
  | [], _, _ => rfl
  | _ :: _, [], _ => rfl
  | k :: ks, m :: r, ms => by
    show (putM ks r (sm ms k m)).length = _
    rw [putM_length, sm_length]
theorem gm_putM_not : ∀ (ks : List Nat) (r ms : List MO) (j : Nat), j ∉ ks → gm (putM ks r ms) j = gm ms j
  | [], _, _, _, _ => rfl
  | _ :: _, [], _, _, _ => rfl
  | k :: ks, m :: r, ms, j, h => by
    show gm (putM ks r (sm ms k m)) j = _
    rw [gm_putM_not ks r _ j (fun z => h (List.mem_cons_of_mem _ z)), gm_sm, if_neg fun z => h (by rw [z.1]; exact List.mem_cons_self)]
theorem gm_putM : ∀ (ks : List Nat) (r ms : List MO) (i j : Nat), ks.Nodup → ks[i]? = some j → i < r.length → j < ms.length → gm (putM ks r ms) j = gm r i
  | k :: ks, m :: r, ms, 0, j, nd, h, _, hl => by
    cases h
    show gm (putM ks r (sm ms k m)) k = m
    rw [gm_putM_not ks r _ k (List.nodup_cons.mp nd).1, gm_sm, if_pos ⟨rfl, hl⟩]
  | k :: ks, m :: r, ms, i + 1, j, nd, h, hr, hl => by
    show gm (putM ks r (sm ms k m)) j = gm r i
    exact gm_putM ks r _ i j (List.nodup_cons.mp nd).2 (by simpa using h) (by simpa using hr) (by rw [sm_length]; exact hl)
theorem renL_er {K : PySem.W.Frag} {A : Addr → Prop} {own : List (List Addr)} {H : Hp} {ks : List Nat} : ∀ {vs : List V} {xs ys : List En}, ERL K A own H vs xs → renL ks xs = some ys → ERL K A (pickO ks own) H vs ys
  | [], [], _, _, e => by cases e; trivial
  | v :: vs, x :: xs, ys, ⟨h, t⟩, e => by
    unfold renL at e
    cases q : renE ks x with
    | none => rw [q] at e; cases e
    | some y =>
      rw [q] at e
      simp only at e
      cases q2 : renL ks xs with
      | none => rw [q2] at e; cases e
      | some zs =>
        rw [q2] at e
        cases e
        refine ⟨?_, renL_er t q2⟩
        cases x with
        | no => cases q; trivial
        | da d => cases q; exact h
        | mu j =>
          unfold renE at q
          simp only at q
          cases q3 : posOf ks j with
          | none => rw [q3] at q; cases q
          | some i =>
            rw [q3] at q
            cases q
            obtain ⟨a, r, h1, h2⟩ := h
            exact ⟨a, r, by rw [go_pickO ks own i j (posOf_some q3)]; exact h1, h2⟩
def S.cM (s : S) (ks : List Nat) (ms' : List MO) : S := ⟨s.es, putM ks ms' s.ms ++ ms'.drop ks.length, s.np⟩
def CallW (sp : SpD) (ks : List Nat) : S → List En → (S → En → Prop) → Prop := fun s xs Ks => onO (renL ks xs) fun ys => allP (pick ks s.ms) = true ∧ sp ys (pick ks s.ms) fun ms' r => allP ms' = true ∧ Ks (s.cM ks ms') (bkE ks s.ms.length r)
theorem gm_drop : ∀ (l : List MO) (n i : Nat), gm (l.drop n) i = gm l (n + i)
  | l, 0, i => by simp
  | [], n + 1, i => by simp [gm]
  | x :: l, n + 1, i => by
    rw [show n + 1 + i = (n + i) + 1 by omega]
    exact gm_drop l n i
theorem go_drop : ∀ (l : List (List Addr)) (n i : Nat), go (l.drop n) i = go l (n + i)
  | l, 0, i => by simp
  | [], n + 1, i => by simp [go]
  | x :: l, n + 1, i => by
    rw [show n + 1 + i = (n + i) + 1 by omega]
    exact go_drop l n i
theorem callW_run {K : PySem.W.Frag} {sp : SpD} {ks : List Nat} {n : Nat} (nd : ks.Nodup) {b : Bd} {A : Addr → Prop} {own : List (List Addr)} {H : Hp} {σ : L2.St} {s : S} {vs : List V} {xs : List En} {Ks : S → En → Prop} {Q : VK} {E : XK}
    (hn : vs.length = n) (R : Rel K b A own H σ s) (e : ERL K A own H vs xs) (h : CallW sp ks s xs Ks) (k : PostE K b A own H σ Ks Q) : spOf K n sp vs H Q E := by
  obtain ⟨ys, hr, hp, h⟩ := onO_inv h
  have kl : ∀ i j, ks[i]? = some j → j < s.ms.length := fun i j q => gm_lt fun z => by
    have q2 := allP_gm _ i hp (by rw [pick_length]; exact (List.getElem?_eq_some_iff.mp q).1)
    rw [gm_pick ks s.ms i j q, z] at q2
    cases q2
  have ndx : ∀ i i' j, ks[i]? = some j → ks[i']? = some j → i = i' := fun i i' j q q' => nd_ix nd q q'
  refine ⟨A, pickO ks own, ys, pick ks s.ms, _, hn, renL_er e hr, ⟨by rw [pickO_length, pick_length], fun i => ?_, fun i i' a h1 h2 => ?_, fun i => ?_, fun i a h1 => ?_, R.al⟩, h, fun A' own' H' v ms' x O ot ge li fr fo ex hk => ?_⟩
  · by_cases hi : i < ks.length
    · have q := nthN_get ks i hi
      rw [go_pickO ks own i _ q, gm_pick ks s.ms i _ q]
      have := allP_gm _ i hp (by rw [pick_length]; exact hi)
      rw [gm_pick ks s.ms i _ q] at this
      exact (R.mr _).plain this
    · rw [gm_ge _ _ (by rw [pick_length]; omega)]; trivial
  · by_cases hi : i < ks.length
    · by_cases hi' : i' < ks.length
      · rw [go_pickO ks own i _ (nthN_get ks i hi)] at h1
        rw [go_pickO ks own i' _ (nthN_get ks i' hi')] at h2
        have := R.dj _ _ a h1 h2
        exact ndx i i' _ (nthN_get ks i hi) (by rw [nthN_get ks i' hi', this])
      · rw [go_ge _ _ (by rw [pickO_length]; omega)] at h2; cases h2
    · rw [go_ge _ _ (by rw [pickO_length]; omega)] at h1; cases h1
  · by_cases hi : i < ks.length
    · rw [go_pickO ks own i _ (nthN_get ks i hi)]; exact R.ld _
    · rw [go_ge _ _ (by rw [pickO_length]; omega)]; exact List.nodup_nil
  · by_cases hi : i < ks.length
    · rw [go_pickO ks own i _ (nthN_get ks i hi)] at h1; exact R.oa _ _ h1
    · rw [go_ge _ _ (by rw [pickO_length]; omega)] at h1; cases h1
  · obtain ⟨hap, hk⟩ := hk
    rw [pickO_length] at ot
    have ol' : ks.length ≤ own'.length := by
      have := congrArg List.length ot
      rw [List.length_take, pickO_length] at this
      omega
    have gs : ∀ i, i < ks.length → go own' i = go own (nthN ks i) := fun i hi => by
      have q := go_take own' ks.length i
      rw [if_pos hi, ot, go_pickO ks own i _ (nthN_get ks i hi)] at q
      exact q.symm
    -- the own places that the callee holds
    have inA : ∀ a, (∃ j, a ∈ go (pickO ks own) j) → A a := fun a ⟨j, hj⟩ => by
      by_cases hi : j < ks.length
      · rw [go_pickO ks own j _ (nthN_get ks j hi)] at hj; exact R.oa _ _ hj
      · rw [go_ge _ _ (by rw [pickO_length]; omega)] at hj; cases hj
    have notOwn : ∀ a, ¬ A a → ∀ j, a ∉ go (pickO ks own) j := fun a n j hj => n (inA a ⟨j, hj⟩)
    have gl : ∀ k, go (own ++ own'.drop ks.length) k = if k < own.length then go own k else go own' (ks.length + (k - own.length)) := fun k => by rw [go_app, go_drop]
    have newA : ∀ j a, ks.length ≤ j → a ∈ go own' j → H a = none := fun j a hj ha => by
      rcases fo j a ha with ⟨i, hi⟩ | z
      · by_cases hi' : i < ks.length
        · rw [go_pickO ks own i _ (nthN_get ks i hi'), ← gs i hi'] at hi
          have := O.dj _ _ a hi ha
          omega
        · rw [go_ge _ _ (by rw [pickO_length]; omega)] at hi; cases hi
      · exact z
    have u : Up A own H A' (own ++ own'.drop ks.length) H' := ⟨fun a o n q => ⟨fr a o (notOwn a n) q, fun z => by
        rcases li a z with z | z
        · exact n z
        · rw [z] at q; cases q⟩, fun k a r q => by
        rw [gl]
        by_cases hk : k < own.length
        · rw [if_pos hk]; exact q
        · rw [go_ge _ _ (by omega)] at q; cases q⟩
    have pl : (putM ks ms' s.ms).length = own.length := by rw [putM_length, R.ol]
    have ml : ∀ k, gm (putM ks ms' s.ms ++ ms'.drop ks.length) k = if k < own.length then gm (putM ks ms' s.ms) k else gm ms' (ks.length + (k - own.length)) := fun k => by rw [gm_app, pl, gm_drop]
    have oms : own'.length = ms'.length := O.ol
    refine k A' (own ++ own'.drop ks.length) H' v { s with ms := putM ks ms' s.ms ++ ms'.drop ks.length } (bkE ks s.ms.length x) ⟨⟨?_, fun j => ?_, fun i j a h1 h2 => ?_, fun i => ?_, fun i a h1 => ?_, O.al⟩, R.len, fun i => (R.sl i).imp id fun ⟨v, q, r⟩ => ⟨v, q, r.up u⟩, fun a q => ge a (R.ge a q), fun a o n q => ?_, fun i a h1 => ?_, ?_, ?_, fun a q => ?_, R.a0⟩ u ?_ hk
    · rw [List.length_append, List.length_append, List.length_drop, List.length_drop, pl, oms]
    · rw [gl, ml]
      by_cases hj : j < own.length
      · rw [if_pos hj, if_pos hj]
        by_cases hm : j ∈ ks
        · obtain ⟨i, hi⟩ := List.getElem?_of_mem hm
          have hil := (List.getElem?_eq_some_iff.mp hi).1
          have e1 : nthN ks i = j := by
            have := nthN_get ks i hil
            rw [hi] at this; exact (Option.some.inj this).symm
          rw [gm_putM ks ms' s.ms i j nd hi (by omega) (kl i j hi), ← e1, ← gs i hil]
          exact (O.mr i).plain (allP_gm _ _ hap (by omega))
        · rw [gm_putM_not ks ms' s.ms j hm]
          refine (R.mr j).up u fun a o ha q => fr a o (fun i hi => ?_) q
          by_cases hi' : i < ks.length
          · rw [go_pickO ks own i _ (nthN_get ks i hi')] at hi
            have := R.dj _ _ a ha hi
            exact hm (by rw [this]; exact List.mem_of_getElem? (nthN_get ks i hi'))
          · rw [go_ge _ _ (by rw [pickO_length]; omega)] at hi; cases hi
      · rw [if_neg hj, if_neg hj]
        by_cases hl : ks.length + (j - own.length) < ms'.length
        · exact (O.mr _).plain (allP_gm _ _ hap hl)
        · rw [gm_ge _ _ (by omega)]; trivial
    · rw [gl] at h1 h2
      by_cases hi : i < own.length
      · rw [if_pos hi] at h1
        by_cases hj : j < own.length
        · rw [if_pos hj] at h2; exact R.dj _ _ a h1 h2
        · rw [if_neg hj] at h2
          exact absurd (newA _ a (by omega) h2) (R.al a (R.oa _ _ h1))
      · rw [if_neg hi] at h1
        by_cases hj : j < own.length
        · rw [if_pos hj] at h2
          exact absurd (newA _ a (by omega) h1) (R.al a (R.oa _ _ h2))
        · rw [if_neg hj] at h2
          have := O.dj _ _ a h1 h2
          omega
    · rw [gl]
      split
      · exact R.ld _
      · exact O.ld _
    · rw [gl] at h1
      split at h1
      · exact ge a (R.oa _ _ h1)
      · exact O.oa _ _ h1
    · refine fr a o (fun i hi => ?_) (R.fr a o n q)
      by_cases hi' : i < ks.length
      · rw [go_pickO ks own i _ (nthN_get ks i hi')] at hi
        rcases R.fo _ a hi with ⟨j, z⟩ | z
        · exact n j z
        · rw [z] at q; cases q
      · rw [go_ge _ _ (by rw [pickO_length]; omega)] at hi; cases hi
    · rw [gl] at h1
      split at h1
      · exact R.fo _ a h1
      · exact .inr (R.fresh0 (newA _ a (by omega) h1))
    · rw [List.take_append_of_le_length R.npl]; exact R.pre
    · rw [List.length_append]; have := R.npl; show s.np ≤ _; omega
    · rcases li a q with z | z
      · exact R.lim a z
      · exact .inr (R.fresh0 z)
    · cases x with
      | no => trivial
      | da d => exact ex
      | mu j =>
        obtain ⟨a, r, e1, e2⟩ := ex
        show ER K A' (own ++ own'.drop ks.length) H' v (bif Nat.blt j ks.length then .mu (nthN ks j) else .mu (s.ms.length + (j - ks.length)))
        by_cases hj : j < ks.length
        · rw [show Nat.blt j ks.length = true from by simpa using hj]
          refine ⟨a, r, ?_, e2⟩
          have hl := kl j _ (nthN_get ks j hj)
          rw [gl, if_pos (by rw [R.ol]; exact hl), ← gs j hj]; exact e1
        · rw [show Nat.blt j ks.length = false from Bool.eq_false_iff.mpr fun z => hj (by simpa using z)]
          refine ⟨a, r, ?_, e2⟩
          rw [gl, ← R.ol, if_neg (by omega), show ks.length + (own.length + (j - ks.length) - own.length) = j by omega]; exact e1
section
open PySem.Spec PyProof.Rows
/-! ### promises of defs that are called with no builtin at work that watches for itself -/
structure FnOkG (P : Program) (w : World) (K : PySem.W.Frag) (mg : Str → Option Value) (base : Heap) (CX : CXT) (k : Nat) (f : Addr) (fd : FuncData) (ps : List Str) (sp : L2.Sp) : Prop where
  len : ∀ vs H Q E, sp vs H Q E → vs.length = ps.length
  run : ∀ (A : Around) (outer : List Env) (s : Shared) (H : Hp) (args : Args) (us : List Value) (vs : List V) (Q : VK) (E : XK), Room k A → A.guards = some [] → Env0 P w K mg base A outer s H → BindsTo s fd args (ps.zip us) → Vals vs us → sp vs H Q E →
    codeAny (model P w) A (.call (.ref f) args) (CR CX outer P w H s Q E) s
section
variable {P : Program} {w : World} {K : PySem.W.Frag} {mg : Str → Option Value} {base : Heap} {CX : CXT} {k : Nat} {f : Addr} {fd : FuncData} {ps : List Str} {sp : L2.Sp}
theorem FnOk.toG (F : FnOk P w K mg base CX k f fd ps sp) : FnOkG P w K mg base CX k f fd ps sp := ⟨F.len, fun A outer s H args us vs Q E hr _ e0 hb hv hs => F.run A outer s H args us vs Q E hr e0 hb hv hs⟩
theorem FnOkG.mono {j : Nat} (F : FnOkG P w K mg base CX j f fd ps sp) (h : j ≤ k) : FnOkG P w K mg base CX k f fd ps sp := ⟨F.len, fun A outer s H args us vs Q E hr => F.run A outer s H args us vs Q E (hr.mono h)⟩
end
/-- a def by its body -/
theorem fn_byG {CX : CXT} {P : Program} {w : World} {K : PySem.W.Frag} {mg : Str → Option Value} {base : Heap} {k : Nat} {f : Addr} {name qual : Str} {params : Arguments} {body : List Stmt} {scope : Scope} {dV kV doc pm cdv ct oc : Value} {an od : Option Addr}
    {osl : Array (Option Value)} {N ps : List Str} {sp : L2.Sp} (lk : K.lookup f = some ⟨oc, od, .func (PySem.W.fnOf name qual params body scope dV kV doc pm an cdv ct), osl⟩) (hcd : PySem.W.codeIn K cdv qual = true) (S : FnScope N ps scope)
    (len : ∀ vs H Q E, sp vs H Q E → vs.length = ps.length)
    (hb : ∀ (A : Around) (outer : List Env) (s : Shared) (H : Hp) (vs : List V) (Q : VK) (E : XK), Room k (A.deeper (PyProof.Rows.envOfC qual scope s.heap.objs.size f cdv)) → A.guards = some [] → sp vs H Q E →
      ∃ t, PSs (cxOf CX P w K mg base N qual scope f cdv A outer s H E) body t ∧ t { nx := fun _ H' => Q .non H', rt := Q } (start N vs) H) :
    FnOkG P w K mg base CX (k + 1) f (PySem.W.fnOf name qual params body scope dV kV doc pm an cdv ct) ps sp := by
  constructor
  · exact len
  · intro A outer s H args us vs Q E hr hg e0 hbi hv hs
    obtain ⟨t, ht, hq⟩ := hb A outer s H vs Q E (hr.deeper _) hg hs
    have n1 := len _ _ _ _ hs
    have kin : K.In s.heap := e0.mod.kin.keeps fun b o e => (e0.bs b o e).1
    have nol : s.heap.NoLimit := e0.mod.nolimit.keeps fun b o e => (e0.bs b o e).1
    have loc : ∀ z ∈ ps.zip us, scope.names.lookup z.1 = some .local ∨ (scope.names.lookup z.1 = some .cell ∧ ((cellsFrom (s.heap.objs.size + 1) scope.names []).lookup z.1).isSome = true) := fun ⟨x, v⟩ hz =>
      (S.par x (List.of_mem_zip hz).1).imp id fun q => ⟨q, PySem.W.cellsFrom_some _ _ _ (.inl q)⟩
    refine codeAny_call_function hr.depth (kin _ _ lk) rfl S.co S.gen rfl (PySem.W.codeRec_of kin hcd) (hbi _ _ _ _ (wpAny_newFunctionEnv_cells S.kind loc fun env he s1 x => ?_))
    cases he
    refine ⟨nol.keeps x.toInCall.keep, codeAny_func (wpAny_mono (ht.run [] s1 (start N vs) H _ (inv_start S hr.hd e0 n1 hv x) hq) (fun fl s' q => ?_) fun _ _ q => q)⟩
    match fl, q with
    | .ret u, ⟨v, σ', H', J, rv, q⟩ => exact ⟨v, H', J.os, J.bare, J.base, J.hok, rv, q⟩
    | .next, ⟨σ', H', J, q⟩ => exact ⟨V.non, H', J.os, J.bare, J.base, J.hok, rfl, q⟩
    | .brk, ⟨_, _, _, q⟩ => exact False.elim q
    | .cont, ⟨_, _, _, q⟩ => exact False.elim q
/-- the law's call, from an abstract heap H that tracks at most the script -/
theorem law_coreG {P : Program} {w : World} {K : PySem.W.Frag} {mg mb : Str → Option Value} {CX : CXT} {k : Nat} {fa a : Addr} {fd : FuncData} {x : Str} {sp : L2.Sp} {s : Shared} {vs : List Value} {H : Hp}
    (kin : K.In s.heap) (ng : s.heap.Ns mainGlobals mg) (nb : s.heap.Ns builtinsNs mb) (hbb : ∀ x : Str, x ≠ "__name__" → mb x = bootBuiltins x) (nol : s.heap.NoLimit) (hg : s.gens = #[])
    (ha : s.heap.get? a = some { cls := .type "list", data := .seq vs.toArray }) (hr : Room k callerA)
    (F : ∀ base : Heap, K.In base → base.Ns mainGlobals mg → FnOkG P w K mg base CX k fa fd [x] sp) (hbi : ∀ (s : Shared) (u : Value), BindsTo s fd ⟨[u], []⟩ [(x, u)])
    (hO : Only H) (hs : sp [.ref a] H (fun v _ => v = .bl true) fun _ _ _ => False) (hok : HOk P w H s.heap) (hA : ∀ b, H b ≠ none → b = a) (hK : H a ≠ none → K.lookup a = none)
    (hCX : ∀ H e s', CX [] H s (fun _ _ _ => False) e s' → False) :
    codeAny (model P w) callerA (.call (.ref fa) ⟨[.ref a], []⟩) (fun r s' => r = .ok (.ret (.bool true)) ∧ OldK s.heap s'.heap ∧ s'.os = s.os ∧ AllBare s'.gens) s := by
  have free : ∀ b, b ≠ a → H b = none := fun b hb => by
    cases q : H b with
    | none => rfl
    | some u => exact absurd (hA b (by rw [q]; simp)) hb
  have ns : ∀ {b : Addr} {m : Str → Option Value}, s.heap.Ns b m → (hidT s.heap H).Ns b m := fun {b m} ⟨o, es, ep, e, d, r⟩ => by
    have hb : b ≠ a := fun z => by
      subst z
      rw [ha] at e
      cases e
      exact nomatch (show Data.seq vs.toArray _ = Data.dict es ep from d)
    exact ⟨o, es, ep, hidT_get e (free b hb), d, r⟩
  have kb : K.In (hidT s.heap H) := fun b o e => hidT_get (kin b o e) (by
    by_cases hb : b = a
    · subst hb
      cases q : H b with
      | none => rfl
      | some u => rw [hK (by rw [q]; simp)] at e; cases e
    · exact free b hb)
  obtain ⟨mc, l1, l2⟩ := nol
  have e0 : Env0 P w K mg (hidT s.heap H) callerA [] s H := ⟨rfl, ⟨kb, ns ng, ⟨mb, ns nb, hbb⟩, mc, ns l1, l2⟩, fun b o e => of_hidT e, Nat.le_of_eq (hidT_size _ _), trivial, (fun b hb => absurd (show b ∈ ([] : List Addr) from hb) (by simp)), hok, .of_eq hg⟩
  refine codeAny_mono ((F _ kb (ns ng)).run callerA [] s H ⟨[.ref a], []⟩ [.ref a] [.ref a] _ _ hr rfl e0 (hbi s (.ref a)) (.cons rfl .nil) hs) fun r s' h => ?_
  match r, h with
  | .error e, h => exact (hCX H e s' h).elim
  | .ok .next, h => exact False.elim h
  | .ok .brk, h => exact False.elim h
  | .ok .cont, h => exact False.elim h
  | .ok (.ret u), ⟨v, H', os, bare, un, hok', rv, q⟩ =>
    cases (show v = .bl true from q)
    obtain rfl : u = Value.bool true := rv
    refine ⟨rfl, OldK.of_keep fun b o e => ?_, os, bare⟩
    cases q : H b with
    | none => exact un.keep b o e q (fun z => absurd (show b ∈ ([] : List Addr) from z) (by simp)) (by simp)
    | some u =>
      rcases hO b with z | ⟨ob, xs, z⟩
      · rw [q] at z; cases z
      · obtain ⟨e1, _⟩ := hok b _ z
        obtain ⟨e2, _⟩ := hok' b _ (un.frzs b ob _ z)
        rw [e] at e1; cases e1
        exact e2
theorem law_callG {P : Program} {w : World} {K : PySem.W.Frag} {mg mb : Str → Option Value} {CX : CXT} {k : Nat} {fa a : Addr} {fd : FuncData} {x : Str} {sp : L2.Sp} {s : Shared} {vs : List Value} {is : List Int}
    (kin : K.In s.heap) (ng : s.heap.Ns mainGlobals mg) (nb : s.heap.Ns builtinsNs mb) (hbb : ∀ x : Str, x ≠ "__name__" → mb x = bootBuiltins x) (nol : s.heap.NoLimit) (hg : s.gens = #[])
    (ha : s.heap.get? a = some { cls := .type "list", data := .seq vs.toArray }) (hi : IntsAre vs is) (hl : is.length ≤ sizeLine) (hr : Room k callerA)
    (F : ∀ base : Heap, K.In base → base.Ns mainGlobals mg → FnOkG P w K mg base CX k fa fd [x] sp) (hbi : ∀ (s : Shared) (u : Value), BindsTo s fd ⟨[u], []⟩ [(x, u)])
    (hs : ∀ H : Hp, Only H → SqL K H a (is.map V.int) → sp [.ref a] H (fun v _ => v = .bl true) fun _ _ _ => False) (hCX : ∀ H e s', CX [] H s (fun _ _ _ => False) e s' → False) :
    codeAny (model P w) callerA (.call (.ref fa) ⟨[.ref a], []⟩) (fun r s' => r = .ok (.ret (.bool true)) ∧ OldK s.heap s'.heap ∧ s'.os = s.os ∧ AllBare s'.gens) s := by
  have rv := vals_ints hi
  have hsz : vs.length = is.length := hi.length
  cases hk : K.lookup a with
  | some o =>
    have e := kin a o hk
    rw [ha] at e
    cases e
    refine law_coreG kin ng nb hbb nol hg ha hr F hbi (H := fun _ => none) (fun _ => .inl rfl) (hs _ (fun _ => .inl rfl) (.inr ⟨_, vs.toArray, _, hk, rfl, rfl, rfl, by rw [List.size_toArray, hsz]; exact hl, by simpa using rv⟩)) (fun b u z => nomatch (show (none : Option HO) = some u from z)) (fun b z => absurd rfl z) (fun z => absurd rfl z) hCX
  | none =>
    have hO : Only (fun b => if b = a then some (.frz { cls := .type "list", data := .seq vs.toArray } (.lst (is.map V.int))) else none) := fun b => by
      by_cases hb : b = a
      · exact .inr ⟨_, _, if_pos hb⟩
      · exact .inl (if_neg hb)
    refine law_coreG kin ng nb hbb nol hg ha hr F hbi hO (hs _ hO (.inl (.inr ⟨{ cls := .type "list", data := .seq vs.toArray }, if_pos rfl⟩))) (fun b u z => ?_) (fun b z => Classical.byContradiction fun hb => z (if_neg hb)) (fun _ => hk) hCX
    by_cases hb : b = a
    · subst hb
      cases (if_pos rfl).symm.trans z
      exact ⟨ha, by rw [List.length_map]; exact hl, vs, _, rv, ha⟩
    · exact nomatch (if_neg hb).symm.trans z
theorem walk_byG {l : PySem.W.OpenLaw} {n k : Nat} {q : Program} {loose : List Str} {XP : (Str → Option Value) → Heap → Prop} {YP : World → Heap → Prop} {d : DefRec} {K : Params → PySem.W.Frag} {CX : World → CXT} {sp : World → L2.Sp} {x : Str}
    (hn : l.most = some n) (hn2 : n ≤ sizeLine) (hdf : d.params.defaults = []) (hr : Room k callerA) (hY : ∀ (w : World) (h : Heap), YP w h → (K w.params).In h)
    (F : ∀ (w : World) (mg : Str → Option Value) (fa : Addr) (h : Heap), (K w.params).In h → h.Ns mainGlobals mg → mg d.name = some (.ref fa) →
      ∃ fd : FuncData, (∀ (s : Shared) (u : Value), BindsTo s fd ⟨[u], []⟩ [(x, u)]) ∧ ∀ base : Heap, (K w.params).In base → base.Ns mainGlobals mg → FnOkG l.prog w (K w.params) mg base (CX w) k fa fd [x] (sp w))
    (hs : ∀ (w : World) (H : Hp) (a : Addr) (ns : List Int), ns.length ≤ n → Only H → SqL (K w.params) H a (ns.map V.int) → sp w [.ref a] H (fun v _ => v = .bl true) fun _ _ _ => False)
    (hCX : ∀ (w : World) (H : Hp) (s : Shared) (e : Value) (s' : Shared), CX w [] H s (fun _ _ _ => False) e s' → False) :
    PySem.W.WalkO q loose XP YP l.row.toRowW d [] (fun f vs => PySem.call f vs) := by
  refine Att.attach_call hn hdf fun w _ s₁ mg _ fa _ _ _ _ a _ ns G Y _ _ _ hmg hobj hints hlen hg => ?_
  have kin := hY w _ Y
  obtain ⟨fd, hb, hF⟩ := F w mg fa _ kin G.T.g hmg
  exact law_callG kin G.T.g G.T.b G.T.builtins G.T.nolimit hg hobj hints (Nat.le_trans hlen hn2) hr hF hb (fun H hO hS => hs w H a ns hlen hO hS) fun H e s' => hCX w H s₁ e s'
section
variable {X : L2.Cx} {k : Nat} {f : Addr} {fd : FuncData} {ps : List Str} {sp : L2.Sp} {CX : CXT} {ds : List Value} {dvs : List V} {E : XK} {x : Str} {p pos : Pos} {e : Expr} {es : List Expr} {t : TA}
theorem pe_callG (F : FnOkG X.prog X.w X.K X.mg X.base CX k f fd ps sp) (hr : Room k X.A) (hgd : X.A.guards = some []) (hg : Gl X x) (hm : X.mg x = some (.ref f)) (hk : PySem.W.keepIn X.K (.ref f) = true) (hb : Binds X.K fd ps ds) (hd : Vals dvs ds) (hx : Passes CX X E)
    (ha : PA X (e :: es) t) (hdb : (x == ("__debug__" : Str)) = false := by decide) (he : starEach (e :: es) X.env = (false, eval e X.env) :: starEach es X.env := by rfl) (hpl : (backTo pos (starEach es X.env)).any (·.1) = false := by rfl) :
    PE X (.Call (.Name x p) (e :: es) [] pos) (tCall sp dvs E t) := by
  refine ⟨fun pins s σ H Q I h => wpAny_Call_Name_kw (ld_glob I hg hm ?_ hdb)⟩
  refine PySem.W.callWith_K (h₀ := X.base) I.ok.mod.kin hk (thn (ha.run pos pins s σ H _ I h) fun us s1 ⟨vs, H1, I1, r, q⟩ => ⟨I1.kIn, ?_⟩) he hpl
  have r2 : Vals (vs ++ dvs) (us ++ ds) := r.append hd
  have hl : (us ++ ds).length = ps.length := by rw [← r2.length]; exact F.len _ _ _ _ q
  refine wpAny_call (codeAny_mono (F.run X.A X.stack s1 H1 ⟨us, []⟩ (us ++ ds) (vs ++ dvs) Q E hr hgd I1.env0 (hb s1 us I1.kIn hl) r2 q) fun r s' hq => ?_)
  match r, hq with
  | .error e, hq => exact hx pins σ H1 s1 e s' I1 hq
  | .ok (.ret u), hq => exact I1.after hq
  | .ok .next, hq => exact False.elim hq
  | .ok .brk, hq => exact False.elim hq
  | .ok .cont, hq => exact False.elim hq
end
structure RoomG (k : Nat) (A : Around) : Prop where
  r : Room k A
  g : A.guards = some []
theorem RoomG.mono {j k : Nat} {A : Around} (r : RoomG k A) (h : j ≤ k) : RoomG j A := ⟨r.r.mono h, r.g⟩
section
variable {K : PySem.W.Frag} {P : Program} {w : World} {mg : Str → Option Value} {base : Heap}
theorem fun_okG {x qual : Str} {st : Stmt} {f : Addr} {fd : FuncData} {N ps : List Str} {k : Nat} {sp : L2.Sp} (F : Fun K x qual st f fd) (S : FnScope N ps (defScope st)) (len : ∀ vs H Q E, sp vs H Q E → vs.length = ps.length)
    (hb : ∀ (cdv : Value) (A : Around) (outer : List Env) (s : Shared) (H : Hp) (vs : List V) (Q : VK) (E : XK), RoomG k (A.deeper (PyProof.Rows.envOfC qual (defScope st) s.heap.objs.size f cdv)) → sp vs H Q E →
      ∃ t, PSs (cxOf CX0 P w K mg base N qual (defScope st) f cdv A outer s H E).nox (defBody st) t ∧ t { nx := fun _ H' => Q .non H', rt := Q } (start N vs) H) : FnOkG P w K mg base CX0 (k + 1) f fd ps sp := by
  obtain ⟨oc, od, kV, doc, pm, an, cdv, ct, osl, rfl, lk, hcd⟩ := F.ex
  refine fn_byG lk hcd S len fun A outer s H vs Q E hr hg hs => ?_
  obtain ⟨t, h, q⟩ := hb cdv A outer s H vs Q E ⟨hr, hg⟩ hs
  exact ⟨t, h.nox, q⟩
end
end
section
variable {X : Cx} {e : Expr} {es : List Expr} {wr : WA}
theorem de_call {k : Nat} {f : Addr} {fd : FuncData} {ps : List Str} {sp : SpD} {x : Str} {p pos : Pos} (ks : List Nat) {n : Nat} (F : FnOkG X.prog X.w X.K X.mg X.base CX0 k f fd ps (spOf X.K n sp)) (hr : RoomG k X.A) (hg : Gl X x) (hm : X.mg x = some (.ref f)) (hk : PySem.W.keepIn X.K (.ref f) = true) (hb : Binds X.K fd ps [])
    (ha : DAn X (e :: es) n wr) (nd : ks.Nodup := by decide) (hdb : (x == ("__debug__" : Str)) = false := by decide) (he : starEach (e :: es) X.env = (false, eval e X.env) :: starEach es X.env := by rfl) (hpl : (backTo pos (starEach es X.env)).any (·.1) = false := by rfl) :
    DE X (.Call (.Name x p) (e :: es) [] pos) (dCall (CallW sp ks) wr) := by
  obtain ⟨ta, pa, qa⟩ := ha.ex
  refine ⟨_, pe_callG F hr.r hr.g hg hm hk hb .nil (pass0 (X := X)) pa hdb he hpl, fun b A own H σ s Ks Q R h kk => ?_⟩
  show ta σ H fun vs H1 => spOf X.K n sp (vs ++ []) H1 Q E0
  refine qa _ _ _ _ _ _ _ _ R h fun A1 o1 H1 vs s1 xs R1 U1 E1 h1 => ?_
  rw [List.append_nil]
  exact callW_run nd (E1.len.trans h1.1) R1 E1 h1.2 (kk.up U1)
end
end DL
namespace DL
open PySem L2
/-! ### forgetting, and fixing -/
def limE (m : Nat) : En → En
  | .mu k => bif Nat.blt k m then .mu k else .no
  | x => x
def limF (m : Nat) : List (Str × En) → List (Str × En)
  | [] => []
  | (f, x) :: r => (f, limE m x) :: limF m r
def limM (m : Nat) : MO → MO
  | .ins C fs => .ins C (limF m fs)
  | x => x
def limL (m : Nat) : List En → List En
  | [] => []
  | x :: r => limE m x :: limL m r
def takM (m : Nat) : Nat → List MO → List MO
  | 0, _ => []
  | _ + 1, [] => []
  | n + 1, x :: r => limM m x :: takM m n r
def killL : List Nat → List En → List En
  | [], es => es
  | i :: is, es => st (killL is es) i .no
def clS (kl : List Nat) (m : Nat) (s : S) : S := ⟨killL kl (limL m s.es), takM m m s.ms, s.np⟩
theorem limL_length (m : Nat) : ∀ l : List En, (limL m l).length = l.length
  | [] => rfl
  | _ :: r => congrArg (· + 1) (limL_length m r)
theorem killL_length : ∀ (kl : List Nat) (l : List En), (killL kl l).length = l.length
  | [], _ => rfl
  | i :: is, l => by show (st (killL is l) i .no).length = _; rw [st_length, killL_length is l]
theorem gt_limL (m : Nat) : ∀ (l : List En) (i : Nat), gt (limL m l) i = limE m (gt l i)
  | [], _ => rfl
  | _ :: _, 0 => rfl
  | _ :: r, i + 1 => gt_limL m r i
theorem gt_killL : ∀ (kl : List Nat) (l : List En) (i : Nat), gt (killL kl l) i = .no ∨ (i ∉ kl ∧ gt (killL kl l) i = gt l i)
  | [], _, _ => .inr ⟨by simp, rfl⟩
  | j :: js, l, i => by
    show gt (st (killL js l) j .no) i = .no ∨ _
    rw [show killL (j :: js) l = st (killL js l) j .no from rfl, gt_st]
    split
    · exact .inl rfl
    · rename_i h
      rcases gt_killL js l i with q | ⟨q1, q2⟩
      · exact .inl q
      · by_cases e : j = i
        · subst e
          have : ¬ j < (killL js l).length := fun z => h ⟨rfl, z⟩
          exact .inl (gt_ge _ _ (by omega))
        · exact .inr ⟨fun z => (List.mem_cons.mp z).elim (fun z => e z.symm) q1, q2⟩
theorem takM_length (m : Nat) : ∀ (n : Nat) (l : List MO), (takM m n l).length = min n l.length
  | 0, _ => by simp [takM]
  | n + 1, [] => by simp [takM]
  | n + 1, x :: r => by simp [takM, takM_length m n r]
theorem gm_takM (m : Nat) : ∀ (n : Nat) (l : List MO) (i : Nat), gm (takM m n l) i = if i < n then limM m (gm l i) else .gone
  | 0, _, i => by simp [takM, gm]
  | n + 1, [], i => by simp [takM, gm, limM]
  | n + 1, x :: r, 0 => by simp [takM, gm]
  | n + 1, x :: r, i + 1 => by
    show gm (takM m n r) i = _
    rw [gm_takM m n r i]
    simp [gm]
section
variable {K : PySem.W.Frag} {b : Bd} {A : Addr → Prop} {own : List (List Addr)} {H : Hp} {σ : L2.St} {s : S}
theorem ER.lim {v : V} {x : En} {m : Nat} (h : ER K A own H v x) : ER K A (own.take m) H v (limE m x) := by
  cases x with
  | no => trivial
  | da d => exact h
  | mu k =>
    show ER K A (own.take m) H v (bif Nat.blt k m then .mu k else .no)
    by_cases q : k < m
    · rw [show Nat.blt k m = true from by simpa using q]
      obtain ⟨a, r, e1, e2⟩ := h
      exact ⟨a, r, by rw [go_take, if_pos q]; exact e1, e2⟩
    · rw [show Nat.blt k m = false from Bool.eq_false_iff.mpr fun z => q (by simpa using z)]
      trivial
theorem RKE.lim {m : Nat} : ∀ {ws : List (Str × V)} {fs : List (Str × En)}, RKE K A own H ws fs → RKE K A (own.take m) H ws (limF m fs)
  | [], [], _ => trivial
  | _ :: _, (_, _) :: _, ⟨e, h, t⟩ => ⟨e, h.lim, RKE.lim t⟩
theorem MR.lim {l : List Addr} {x : MO} {m : Nat} (h : MR K A own H l x) : MR K A (own.take m) H l (limM m x) := by
  cases x with
  | gone => trivial
  | lst ds => exact h
  | dct kvs => exact h
  | rnd n => exact h
  | box n => exact h
  | tab n => exact h
  | ins C fs =>
    obtain ⟨a, r, ws, rfl, h1, h3⟩ := h
    exact ⟨a, r, ws, rfl, h1, h3.lim⟩
theorem Own.take {ms : List MO} (o : Own K A own H ms) (m : Nat) : Own K A (own.take m) H (takM m m ms) := by
  refine ⟨by rw [List.length_take, takM_length, o.ol], fun k => ?_, fun k j a h1 h2 => ?_, fun k => ?_, fun k a h1 => ?_, o.al⟩
  · rw [go_take, gm_takM]
    split
    · exact (o.mr k).lim
    · trivial
  · rw [go_take] at h1 h2
    split at h1
    · split at h2
      · exact o.dj k j a h1 h2
      · cases h2
    · cases h1
  · rw [go_take]
    split
    · exact o.ld k
    · exact List.nodup_nil
  · rw [go_take] at h1
    split at h1
    · exact o.oa k a h1
    · cases h1
theorem Rel.cl (r : Rel K b A own H σ s) (kl : List Nat) (m : Nat) (hm : s.np ≤ m) : Rel K b A (own.take m) H σ (clS kl m s) := by
  refine ⟨r.toOwn.take m, by show _ = (killL kl (limL m s.es)).length; rw [killL_length, limL_length]; exact r.len, fun i => ?_, r.ge, r.fr, fun k a h => ?_, ?_, ?_, r.lim, r.a0⟩
  · show gt (killL kl (limL m s.es)) i = .no ∨ ∃ v, σ[i]? = some (some v) ∧ ER K A (own.take m) H v (gt (killL kl (limL m s.es)) i)
    rcases gt_killL kl (limL m s.es) i with q | ⟨_, q⟩
    · exact .inl q
    · rw [q, gt_limL]
      rcases r.sl i with z | ⟨v, e, h⟩
      · rw [z]; exact .inl rfl
      · exact .inr ⟨v, e, h.lim⟩
  · rw [go_take] at h
    split at h
    · exact r.fo k a h
    · cases h
  · rw [List.take_take, show min (clS kl m s).np m = s.np from Nat.min_eq_left hm]; exact r.pre
  · rw [List.length_take]; have := r.npl; show s.np ≤ _; omega
/-- slots killed, the others' objects kept: for other slots -/
theorem Rel.slots {σ' : L2.St} {es' : List En} (r : Rel K b A own H σ s) (hl : σ'.length = es'.length) (h : ∀ i, gt es' i = .no ∨ ∃ v, σ'[i]? = some (some v) ∧ ER K A own H v (gt es' i)) : Rel K b A own H σ' { s with es := es' } :=
  { r with len := hl, sl := h }
/-! #### an object that changed is data from here on -/
def subE (k : Nat) (d : D) : En → En
  | .mu j => bif Nat.beq j k then .da d else .mu j
  | x => x
def subF (k : Nat) (d : D) : List (Str × En) → List (Str × En)
  | [] => []
  | (f, x) :: r => (f, subE k d x) :: subF k d r
def subM (k : Nat) (d : D) : MO → MO
  | .ins C fs => .ins C (subF k d fs)
  | x => x
def subL (k : Nat) (d : D) : List En → List En
  | [] => []
  | x :: r => subE k d x :: subL k d r
def subS (k : Nat) (d : D) : List MO → List MO
  | [] => []
  | x :: r => subM k d x :: subS k d r
theorem subL_length (k : Nat) (d : D) : ∀ l : List En, (subL k d l).length = l.length
  | [] => rfl
  | _ :: r => congrArg (· + 1) (subL_length k d r)
theorem subS_length (k : Nat) (d : D) : ∀ l : List MO, (subS k d l).length = l.length
  | [] => rfl
  | _ :: r => congrArg (· + 1) (subS_length k d r)
theorem gt_subL (k : Nat) (d : D) : ∀ (l : List En) (i : Nat), gt (subL k d l) i = subE k d (gt l i)
  | [], _ => rfl
  | _ :: _, 0 => rfl
  | _ :: r, i + 1 => gt_subL k d r i
theorem gm_subS (k : Nat) (d : D) : ∀ (l : List MO) (i : Nat), gm (subS k d l) i = subM k d (gm l i)
  | [], _ => rfl
  | _ :: _, 0 => rfl
  | _ :: r, i + 1 => gm_subS k d r i
def so : List (List Addr) → Nat → List (List Addr)
  | [], _ => []
  | _ :: r, 0 => [] :: r
  | x :: r, i + 1 => x :: so r i
theorem so_length : ∀ (l : List (List Addr)) (i : Nat), (so l i).length = l.length
  | [], _ => rfl
  | _ :: _, 0 => rfl
  | _ :: r, i + 1 => congrArg (· + 1) (so_length r i)
theorem go_so : ∀ (l : List (List Addr)) (i j : Nat), go (so l i) j = if i = j then [] else go l j
  | [], i, j => by simp [so, go]
  | x :: r, 0, 0 => by simp [so, go]
  | x :: r, 0, j + 1 => by simp [so, go]
  | x :: r, i + 1, 0 => by simp [so, go]
  | x :: r, i + 1, j + 1 => by
    show go (so r i) j = _
    rw [go_so r i j]
    simp [go]
theorem take_so : ∀ (l : List (List Addr)) (i n : Nat), n ≤ i → (so l i).take n = l.take n
  | [], _, _, _ => rfl
  | x :: r, i, 0, _ => by simp
  | x :: r, 0, n + 1, h => by omega
  | x :: r, i + 1, n + 1, h => by
    show x :: (so r i).take n = x :: r.take n
    rw [take_so r i n (by omega)]
def frzS (k : Nat) (ds : List D) (s : S) : S := ⟨subL k (.list ds) s.es, sm (subS k (.list ds) s.ms) k .gone, s.np⟩
theorem Rel.frz (r : Rel K b A own H σ s) {k : Nat} {ds : List D} (g : gm s.ms k = .lst ds) (hk : s.np ≤ k) :
    Rel K b (fun a => A a ∧ a ∉ go own k) (so own k) H σ (frzS k ds s) ∧ Kp A H (fun a => A a ∧ a ∉ go own k) H ∧ ∀ v, ER K A own H v (.mu k) → Rp K (fun a => A a ∧ a ∉ go own k) H v (.list ds) := by
  have kp : Kp A H (fun a => A a ∧ a ∉ go own k) H := fun a u n q => ⟨q, fun z => n z.1⟩
  have m := r.mr k
  rw [g] at m
  obtain ⟨p, vs, e1, e2, e3⟩ := m
  have rp : Rp K (fun a => A a ∧ a ∉ go own k) H (.ref p) (.list ds) := .lst ⟨e2, fun z => z.2 (by rw [e1]; simp)⟩ (RpL.mono kp e3)
  have er : ∀ {v : V} {x : En}, ER K A own H v x → ER K (fun a => A a ∧ a ∉ go own k) (so own k) H v (subE k (.list ds) x) := by
    intro v x h
    cases x with
    | no => trivial
    | da d => exact Rp.mono kp h
    | mu j =>
      obtain ⟨a, q, f1, f2⟩ := h
      show ER K _ _ H v (bif Nat.beq j k then .da (.list ds) else .mu j)
      by_cases e : j = k
      · subst e
        rw [show Nat.beq j j = true from by simp]
        rw [e1] at f1; cases f1; subst f2; exact rp
      · rw [show Nat.beq j k = false from Bool.eq_false_iff.mpr fun z => e (by simpa using z)]
        exact ⟨a, q, by rw [go_so, if_neg (Ne.symm e)]; exact f1, f2⟩
  have rke : ∀ {ws : List (Str × V)} {fs : List (Str × En)}, RKE K A own H ws fs → RKE K (fun a => A a ∧ a ∉ go own k) (so own k) H ws (subF k (.list ds) fs) := by
    intro ws fs
    induction fs generalizing ws with
    | nil => intro h; cases ws with
      | nil => trivial
      | cons _ _ => exact h.elim
    | cons x xs ih => intro h; cases ws with
      | nil => exact h.elim
      | cons w ws => exact ⟨h.1, er h.2.1, ih h.2.2⟩
  refine ⟨⟨⟨?_, fun j => ?_, fun i j a h1 h2 => ?_, fun i => ?_, fun i a h1 => ?_, fun a h => r.al a h.1⟩, ?_, fun i => ?_, fun a h => ?_, r.fr, fun i a h1 => ?_, ?_, ?_, fun a h => r.lim a h.1, r.a0⟩, kp, fun v h => ?_⟩
  · show (so own k).length = (sm (subS k (.list ds) s.ms) k .gone).length
    rw [so_length, sm_length, subS_length]; exact r.ol
  · show MR K _ (so own k) H (go (so own k) j) (gm (sm (subS k (.list ds) s.ms) k .gone) j)
    rw [gm_sm, go_so]
    by_cases e : k = j
    · subst e
      have : k < s.ms.length := gm_lt (by rw [g]; intro z; cases z)
      rw [if_pos rfl, if_pos ⟨rfl, by rw [subS_length]; exact this⟩]; trivial
    · rw [if_neg e, if_neg (fun z => e z.1), gm_subS]
      have mj := r.mr j
      cases q : gm s.ms j with
      | gone => trivial
      | lst ds' => rw [q] at mj; obtain ⟨a, vs, h1, h2, h3⟩ := mj; exact ⟨a, vs, h1, h2, RpL.mono kp h3⟩
      | dct ds' => rw [q] at mj; obtain ⟨a, vs, h1, h2, h3⟩ := mj; exact ⟨a, vs, h1, h2, h3.up kp⟩
      | rnd n => rw [q] at mj; exact mj
      | box n => rw [q] at mj; exact mj
      | tab n =>
        rw [q] at mj
        obtain ⟨P, c, h1, hc, ps, h2, h3, h4⟩ := mj
        refine ⟨P, c, h1, hc, ps, h2, h3, fun pos cv e => ?_⟩
        obtain ⟨c', e1, e2, e3⟩ := h4 pos cv e
        exact ⟨c', e1, e2, fun z => e3 z.1⟩
      | ins C fs => rw [q] at mj; obtain ⟨a, dx, ws, h1, h2, h4⟩ := mj; exact ⟨a, dx, ws, h1, h2, rke h4⟩
  · rw [go_so] at h1 h2
    split at h1
    · cases h1
    · split at h2
      · cases h2
      · exact r.dj i j a h1 h2
  · rw [go_so]
    split
    · exact List.nodup_nil
    · exact r.ld i
  · rw [go_so] at h1
    split at h1
    · cases h1
    · rename_i ne
      exact ⟨r.oa i a h1, fun z => ne (r.dj k i a z h1)⟩
  · show σ.length = (subL k (.list ds) s.es).length
    rw [subL_length]; exact r.len
  · show gt (subL k (.list ds) s.es) i = .no ∨ ∃ v, σ[i]? = some (some v) ∧ ER K _ (so own k) H v (gt (subL k (.list ds) s.es) i)
    rw [gt_subL]
    rcases r.sl i with z | ⟨v, e, h⟩
    · rw [z]; exact .inl rfl
    · exact .inr ⟨v, e, er h⟩
  · refine ⟨r.ge a h, fun z => ?_⟩
    rcases r.fo k a z with ⟨j, q⟩ | q
    · rw [← r.pre, go_take] at q
      split at q
      · have := r.dj k j a z q; omega
      · cases q
    · exact r.a0 a h q
  · rw [go_so] at h1
    split at h1
    · cases h1
    · exact r.fo i a h1
  · show (so own k).take s.np = b.own0
    rw [take_so own k s.np hk]; exact r.pre
  · rw [so_length]; exact r.npl
  · obtain ⟨a, q, f1, rfl⟩ := h
    rw [e1] at f1; cases f1; exact rp
end
end DL
namespace DL
open PySem L2
section
variable {X : Cx} {a b c e : Expr} {wa wb wc we : WE} {pos : Pos} {es : List Expr} {wr : WA} {wt : WT} {sts : List Stmt} {w u : WS}
/-! ### blocks -/
def sNil : WS := fun s D => D.nx s
def sSeq (w u : WS) : WS := fun s D => w s { D with nx := fun s1 => u s1 D }
theorem Kp.refl' {A : Addr → Prop} {H : Hp} : Kp A H A H := Kp.refl
theorem dss_nil : DSs X [] sNil := ⟨_, pss_nil, fun b A own H σ s D E R h m => m.nx _ _ _ _ _ R Kp.refl h⟩
theorem dss_cons {st : Stmt} (h1 : DS X st w) (h2 : DSs X sts u) : DSs X (st :: sts) (sSeq w u) := by
  obtain ⟨t1, p1, q1⟩ := h1.ex
  obtain ⟨t2, p2, q2⟩ := h2.ex
  refine ⟨_, pss_cons p1 p2, fun b A own H σ s D E R h m => ?_⟩
  show t1 { E with nx := t2 E } σ H
  exact q1 _ _ _ _ _ _ _ _ R h ⟨fun A' o' H' σ' s' R' k h' => q2 _ _ _ _ _ _ _ _ R' h' (m.up k), m.rt, m.bk, m.ct⟩
theorem dss_one {st : Stmt} (h1 : DS X st w) : DSs X [st] w := by
  obtain ⟨t1, p1, q1⟩ := h1.ex
  exact ⟨_, pss_one p1, q1⟩
/-- a list that has changed is data from here on -/
def frzW (k : Nat) (s : S) (K : S → Prop) : Prop := match gm s.ms k with | .lst ds => s.np ≤ k ∧ K (frzS k ds s) | _ => False
def sFrz (k : Nat) (w : WS) : WS := fun s D => frzW k s fun s1 => w s1 D
theorem dss_frz (k : Nat) (h : DSs X sts w) : DSs X sts (sFrz k w) := by
  obtain ⟨t, p, q⟩ := h.ex
  refine ⟨t, p, fun b A own H σ s D E R h m => ?_⟩
  unfold sFrz frzW at h
  split at h
  · rename_i ds g
    obtain ⟨R1, k1, _⟩ := R.frz g h.1
    exact q _ _ _ _ _ _ _ _ R1 h.2 (m.up k1)
  · exact h.elim
/-- forgetting -/
def sCl (kl : List Nat) (m : Nat) (w : WS) : WS := fun s D => s.np ≤ m ∧ w (clS kl m s) D
theorem dss_cl (kl : List Nat) (m : Nat) (h : DSs X sts w) : DSs X sts (sCl kl m w) := by
  obtain ⟨t, p, q⟩ := h.ex
  exact ⟨t, p, fun b A own H σ s D E R h m' => q _ _ _ _ _ _ _ _ (R.cl kl m h.1) h.2 m'⟩
/-- a word of one's own between statements -/
def sCut (kl : List Nat) (m : Nat) (w u : WS) : WS := fun s D => ∃ M : S → Prop, w s { D with nx := fun s1 => s1.np ≤ m ∧ M (clS kl m s1) } ∧ ∀ s1, M s1 → u s1 D
theorem dss_cut {st : Stmt} (kl : List Nat) (m : Nat) (h1 : DS X st w) (h2 : DSs X sts u) : DSs X (st :: sts) (sCut kl m w u) := by
  obtain ⟨t1, p1, q1⟩ := h1.ex
  obtain ⟨t2, p2, q2⟩ := h2.ex
  refine ⟨_, pss_cons p1 p2, fun b A own H σ s D E R h mt => ?_⟩
  obtain ⟨M, h1, h2⟩ := h
  show t1 { E with nx := t2 E } σ H
  exact q1 _ _ _ _ _ _ _ _ R h1 ⟨fun A' o' H' σ' s' R' k h' => q2 _ _ _ _ _ _ _ _ (R'.cl kl m h'.1) (h2 _ h'.2) (mt.up k), mt.rt, mt.bk, mt.ct⟩
/-! ### statements -/
def sAsg (we : WE) (wg : WG) : WS := fun s D => we s fun s1 x => wg x s1 D.nx
theorem asg_run {te : TE} {g : TG} {js : List Nat} {wg : WG} (qe : ∀ (b : Bd) (A : Addr → Prop) (own : List (List Addr)) (H : Hp) (σ : L2.St) (s : S) (Ks : S → En → Prop) (Q : VK), Rel X.K b A own H σ s → we s Ks → PostE X.K b A own H σ Ks Q → te σ H Q)
    (qg : ∀ (b : Bd) (A : Addr → Prop) (own : List (List Addr)) (H : Hp) (σ : L2.St) (s : S) (v : V) (x : En) (Ks : S → Prop) (Q : L2.St → Hp → Prop), Rel X.K b A own H σ s → ER X.K A own H v x → wg x s Ks → PostG X.K b A own H σ js Ks Q → g v σ H Q)
    (b : Bd) (A : Addr → Prop) (own : List (List Addr)) (H : Hp) (σ : L2.St) (s : S) (D : Dn) (E : Ends) (R : Rel X.K b A own H σ s) (h : sAsg we wg s D) (m : Mt X.K b A H D E) : tAsg te g E σ H := by
  show te σ H fun x H1 => g x σ H1 E.nx
  refine qe _ _ _ _ _ _ _ _ R h fun A1 o1 H1 v1 s1 x1 R1 U1 E1 h1 => ?_
  exact qg _ _ _ _ _ _ _ _ _ _ R1 E1 h1 fun A2 o2 H2 σ2 s2 R2 U2 _ h2 => m.nx _ _ _ _ _ R2 (U1.trans U2).kp h2
theorem ds_asg {tg : Expr} {js : List Nat} {wg : WG} (he : DE X e we) (hg : DG X tg js wg) (hs : swapsWithSole [tg] e pos.line X.env = pure false := by rfl) (hw : swappedStores [tg] e X.env = pure none := by rfl)
    (h1 : (assignEach [tg] X.env).map (·.2) = [assign tg X.env] := by rfl) : DS X (.Assign [tg] e pos) (sAsg we wg) := by
  obtain ⟨te, pe, qe⟩ := he.ex
  obtain ⟨g, pg, qg⟩ := hg.ex
  exact ⟨_, ps_asg pe pg hs hw h1, asg_run qe qg⟩
theorem gN_run (i : Nat) (b : Bd) (A : Addr → Prop) (own : List (List Addr)) (H : Hp) (σ : L2.St) (s : S) (v : V) (x : En) (Ks : S → Prop) (Q : L2.St → Hp → Prop) (R : Rel X.K b A own H σ s) (E : ER X.K A own H v x) (h : gN i x s Ks) (k : PostG X.K b A own H σ [i] Ks Q) : gName i v σ H Q :=
  k _ _ _ _ _ (R.slot E) Up.refl ⟨List.length_set .., fun j n => List.getElem?_set_ne (fun z => n (by simp [z]))⟩ h
theorem ds_set {i : Nat} {x : Str} {pos' : Pos} (hN : X.N.Nodup) (hi : X.N[i]? = some x) (hx : Loc X.env.scope x) (he : DE X e we) (hs : swapsWith e (some (.Name x pos')) pos.line X.env = pure false := by rfl) (hf : X.fn x = true ∨ X.env.scope.names.lookup x = some .local := by first | exact .inl rfl | exact .inr rfl | assumption) :
    DS X (.Assign [.Name x pos'] e pos) (sAsg we (gN i)) := by
  obtain ⟨te, pe, qe⟩ := he.ex
  exact ⟨_, ps_set hN hi hx pe hs hf, asg_run qe (gN_run i)⟩
def sPar (i j : Nat) (wr : WA) : WS := fun s D => wr s fun s1 xs => a2 xs fun x y => D.nx ((s1.sE i x).sE j y)
theorem ds_par {i j : Nat} {x y : Str} {px py pt : Pos} {kt k2 pt2} (hc : X.calm = true) (hN : X.N.Nodup) (hi : X.N[i]? = some x) (hj : X.N[j]? = some y) (hij : i ≠ j)
    (hx : X.env.scope.names.lookup x = some .local) (hy : X.env.scope.names.lookup y = some .local) (ha : DA X [a, b] wr)
    (hw : swappedStores [.Tuple [.Name x px, .Name y py] kt pt] (.Tuple [a, b] k2 pt2) X.env = pure (some [x, y]))
    (hs : swapsWithSole [.Tuple [.Name x px, .Name y py] kt pt] (.Tuple [a, b] k2 pt2) pos.line X.env = pure false := by rfl) :
    DS X (.Assign [.Tuple [.Name x px, .Name y py] kt pt] (.Tuple [a, b] k2 pt2) pos) (sPar i j wr) := by
  obtain ⟨ta, pa, qa⟩ := ha.ex
  refine ⟨_, ps_par hc hN hi hj hij hx hy pa hw hs, fun b A own H σ s D E R h m => ?_⟩
  show ta σ H fun vs H1 => ∃ v w, vs = [v, w] ∧ E.nx ((σ.set i (some v)).set j (some w)) H1
  refine qa _ _ _ _ _ _ _ _ R h fun A1 o1 H1 vs s1 xs R1 U1 E1 h1 => ?_
  obtain ⟨v, w, x, y, rfl, e1, e2, h1⟩ := a2_inv E1 h1
  exact ⟨v, w, rfl, m.nx _ _ _ _ _ ((R1.slot e1).slot e2) U1.kp h1⟩
def a3 (xs : List En) (k : En → En → En → Prop) : Prop := match xs with | [x, y, z] => k x y z | _ => False
theorem a3_inv {K : PySem.W.Frag} {A : Addr → Prop} {own : List (List Addr)} {H : Hp} {vs : List V} {xs : List En} {k : En → En → En → Prop} (e : ERL K A own H vs xs) (h : a3 xs k) : ∃ v u w x y z, vs = [v, u, w] ∧ ER K A own H v x ∧ ER K A own H u y ∧ ER K A own H w z ∧ k x y z := by
  unfold a3 at h
  split at h
  · match vs, e with
    | [v, u, w], ⟨e1, e2, e3, _⟩ => exact ⟨v, u, w, _, _, _, rfl, e1, e2, e3, h⟩
  · exact h.elim
def sPar3 (i j l : Nat) (wr : WA) : WS := fun s D => wr s fun s1 xs => a3 xs fun x y z => D.nx (((s1.sE i x).sE j y).sE l z)
theorem ds_par3 {i j l : Nat} {x y z : Str} {px py pz pt : Pos} {kt k2 pt2} (hc : X.calm = true) (hN : X.N.Nodup) (hi : X.N[i]? = some x) (hj : X.N[j]? = some y) (hl : X.N[l]? = some z) (hij : i ≠ j) (hil : i ≠ l) (hjl : j ≠ l)
    (hx : X.env.scope.names.lookup x = some .local) (hy : X.env.scope.names.lookup y = some .local) (hz : X.env.scope.names.lookup z = some .local) (ha : DA X [a, b, c] wr)
    (hw : swappedStores [.Tuple [.Name x px, .Name y py, .Name z pz] kt pt] (.Tuple [a, b, c] k2 pt2) X.env = pure (some [x, y, z]))
    (hs : swapsWithSole [.Tuple [.Name x px, .Name y py, .Name z pz] kt pt] (.Tuple [a, b, c] k2 pt2) pos.line X.env = pure false := by rfl) :
    DS X (.Assign [.Tuple [.Name x px, .Name y py, .Name z pz] kt pt] (.Tuple [a, b, c] k2 pt2) pos) (sPar3 i j l wr) := by
  obtain ⟨ta, pa, qa⟩ := ha.ex
  refine ⟨_, ps_par3 hc hN hi hj hl hij hil hjl hx hy hz pa hw hs, fun b A own H σ s D E R h m => ?_⟩
  show ta σ H fun vs H1 => ∃ u v w, vs = [u, v, w] ∧ E.nx (((σ.set i (some u)).set j (some v)).set l (some w)) H1
  refine qa _ _ _ _ _ _ _ _ R h fun A1 o1 H1 vs s1 xs R1 U1 E1 h1 => ?_
  obtain ⟨v, u, w, x, y, z, rfl, e1, e2, e3, h1⟩ := a3_inv E1 h1
  exact ⟨v, u, w, rfl, m.nx _ _ _ _ _ (((R1.slot e1).slot e2).slot e3) U1.kp h1⟩
def sAug (i : Nat) (we : WE) (rd : S → En → En → (S → En → Prop) → Prop) : WS := fun s D => onE (gt s.es i) fun x => we s fun s1 y => rd s1 x y fun s2 z => D.nx (s2.sE i z)
theorem ds_aug {i : Nat} {x : Str} {op : Operator} {r : R2} {rd} {pos' : Pos} (hN : X.N.Nodup) (hi : X.N[i]? = some x) (hx : Loc X.env.scope x) (he : DE X e we) (ho : OpR X (inplaceOp op) r) (hd : OpD X.K r rd) (hf : X.fn x = true ∨ X.env.scope.names.lookup x = some .local := by first | exact .inl rfl | exact .inr rfl | assumption) :
    DS X (.AugAssign (.Name x pos') op e pos) (sAug i we rd) := by
  obtain ⟨te, pe, qe⟩ := he.ex
  refine ⟨_, ps_aug hN hi hx pe ho hf, fun b A own H σ s D E R h m => ?_⟩
  show ∃ x, σ[i]? = some (some x) ∧ te σ H fun y H1 => r x y H1 fun z H2 => E.nx (σ.set i (some z)) H2
  obtain ⟨n, h⟩ := onE_inv h
  rcases R.sl i with z | ⟨v, e, q⟩
  · exact (n z).elim
  refine ⟨v, e, ?_⟩
  refine qe _ _ _ _ _ _ _ _ R h fun A1 o1 H1 v1 s1 x1 R1 U1 E1 h1 => ?_
  exact hd _ _ _ _ _ _ _ _ _ _ _ _ R1 (q.up U1) E1 h1 fun A2 o2 H2 v2 s2 x2 R2 U2 E2 h2 => m.nx _ _ _ _ _ (R2.slot E2) (U1.trans U2).kp h2
def sAugAdd (i : Nat) (we : WE) : WS := sAug i we fun s x y Ks => iI x y fun i j => Ks s (.da (.int (i + j)))
def sAugSub (i : Nat) (we : WE) : WS := sAug i we fun s x y Ks => iI x y fun i j => Ks s (.da (.int (i - j)))
theorem ds_augAdd {i : Nat} {x : Str} {pos' : Pos} (hN : X.N.Nodup) (hi : X.N[i]? = some x) (hx : Loc X.env.scope x) (he : DE X e we) (hf : X.fn x = true ∨ X.env.scope.names.lookup x = some .local := by first | exact .inl rfl | exact .inr rfl | assumption) : DS X (.AugAssign (.Name x pos') .Add e pos) (sAugAdd i we) := ds_aug hN hi hx he iop_add opd_int0 hf
theorem ds_augSub {i : Nat} {x : Str} {pos' : Pos} (hN : X.N.Nodup) (hi : X.N[i]? = some x) (hx : Loc X.env.scope x) (he : DE X e we) (hf : X.fn x = true ∨ X.env.scope.names.lookup x = some .local := by first | exact .inl rfl | exact .inr rfl | assumption) : DS X (.AugAssign (.Name x pos') .Sub e pos) (sAugSub i we) := ds_aug hN hi hx he iop_sub opd_int0 hf
def sExp (we : WE) : WS := fun s D => we s fun s1 _ => D.nx s1
theorem ds_exp (he : DE X e we) (hs : swapsWith e none pos.line X.env = pure false := by rfl) : DS X (.Expr e pos) (sExp we) := by
  obtain ⟨te, pe, qe⟩ := he.ex
  exact ⟨_, ps_expr pe hs, fun b A own H σ s D E R h m => qe _ _ _ _ _ _ _ _ R h fun A1 o1 H1 v1 s1 x1 R1 U1 E1 h1 => m.nx _ _ _ _ _ R1 U1.kp h1⟩
def sRet (we : WE) : WS := fun s D => we s D.rt
theorem ds_ret (he : DE X e we) : DS X (.Return (some e) pos) (sRet we) := by
  obtain ⟨te, pe, qe⟩ := he.ex
  exact ⟨_, ps_ret pe, fun b A own H σ s D E R h m => qe _ _ _ _ _ _ _ _ R h fun A1 o1 H1 v1 s1 x1 R1 U1 E1 h1 => m.rt _ _ _ _ _ _ _ R1 U1.kp E1 h1⟩
def sRetN : WS := fun s D => D.rt s (.da .none)
theorem ds_retN : DS X (.Return none pos) sRetN := ⟨_, ps_retN, fun b A own H σ s D E R h m => m.rt _ _ _ _ _ _ (.da .none) R Kp.refl .non h⟩
theorem ds_pass : DS X (.Pass pos) sNil := ⟨_, ps_pass, fun b A own H σ s D E R h m => m.nx _ _ _ _ _ R Kp.refl h⟩
def sBrk : WS := fun s D => D.bk s
def sCnt : WS := fun s D => D.ct s
theorem ds_break : DS X (.Break pos) sBrk := ⟨_, ps_break, fun b A own H σ s D E R h m => m.bk _ _ _ _ _ R Kp.refl h⟩
theorem ds_continue : DS X (.Continue pos) sCnt := ⟨_, ps_continue, fun b A own H σ s D E R h m => m.ct _ _ _ _ _ R Kp.refl h⟩
def sIf (wt : WT) (w u : WS) : WS := fun s D => wt s fun s1 c => (c = true → w s1 D) ∧ (c = false → u s1 D)
theorem ds_if {sts2 : List Stmt} (hc : DT X c wt) (ha : DSs X sts w) (hb : DSs X sts2 u) : DS X (.If c sts sts2 pos) (sIf wt w u) := by
  obtain ⟨tc, pc, qc⟩ := hc.ex
  obtain ⟨ta, pa, qa⟩ := ha.ex
  obtain ⟨tb, pb, qb⟩ := hb.ex
  refine ⟨_, ps_if pc pa pb, fun b A own H σ s D E R h m => ?_⟩
  show tc σ H fun b H1 => if b = true then ta E σ H1 else tb E σ H1
  refine qc _ _ _ _ _ _ _ _ R h fun A1 o1 H1 s1 c R1 U1 h1 => ?_
  cases c with
  | true => rw [if_pos rfl]; exact qa _ _ _ _ _ _ _ _ R1 (h1.1 rfl) (m.up U1.kp)
  | false => rw [if_neg (by decide)]; exact qb _ _ _ _ _ _ _ _ R1 (h1.2 rfl) (m.up U1.kp)
/-! ### what a for walks -/
/-- J walks the data ds from here on -/
def Wk (K : PySem.W.Frag) (b : Bd) (J : It) (ds : List D) (A : Addr → Prop) (H : Hp) : Prop := ∀ (A1 : Addr → Prop) (H1 : Hp), Kp A H A1 H1 → ∀ i, (ds.length ≤ i → J.stop i H1) ∧ (∀ d, ds[i]? = some d → J.go i H1 ∧
  ∀ x H2, J.yld i H1 x H2 → ∀ (own1 : List (List Addr)) (σ : L2.St) (s : S), Rel K b A1 own1 H1 σ s → Rel K b A1 own1 H2 σ s ∧ Up A1 own1 H1 A1 own1 H2 ∧ Rp K A1 H2 x d)
abbrev WI := S → (S → List D → Prop) → Prop
def PostI (K : PySem.W.Frag) (b : Bd) (A : Addr → Prop) (own : List (List Addr)) (H : Hp) (σ : L2.St) (Ks : S → List D → Prop) (Q : It → Hp → Prop) : Prop := ∀ (A' : Addr → Prop) (own' : List (List Addr)) (H' : Hp) (s' : S) (ds : List D) (J : It), Rel K b A' own' H' σ s' → Up A own H A' own' H' → Wk K b J ds A' H' → Ks s' ds → Q J H'
structure DI (X : Cx) (tg e : Expr) (w : WI) : Prop where
  ex : ∃ t, PI X tg e t ∧ ∀ (b : Bd) (A : Addr → Prop) (own : List (List Addr)) (H : Hp) (σ : L2.St) (s : S) (Ks : S → List D → Prop) (Q : It → Hp → Prop), Rel X.K b A own H σ s → w s Ks → PostI X.K b A own H σ Ks Q → t σ H Q
variable {tg : Expr}
def iLst (we : WE) : WI := fun s Ks => we s fun s1 x => daI x fun d => match d with | .list ds => Ks s1 ds | _ => False
def iTpl (we : WE) : WI := fun s Ks => we s fun s1 x => daI x fun d => match d with | .tuple ds => Ks s1 ds | _ => False
theorem wk_list {K : PySem.W.Frag} {b : Bd} {a : Addr} {vs : List V} {ds : List D} {A : Addr → Prop} {H : Hp} (l : LsR A H a vs) (r : RpL K A H vs ds) : Wk K b (Itl K a) ds A H := by
  intro A1 H1 kp i
  have l1 : LsR A1 H1 a vs := kp _ _ l.2 l.1
  have r1 : RpL K A1 H1 vs ds := RpL.mono kp r
  refine ⟨fun hi => ⟨vs, l1.sq, by rw [r1.length]; exact hi⟩, fun d hd => ?_⟩
  obtain ⟨x, hx, rx⟩ := r1.get hd
  refine ⟨⟨vs, x, l1.sq, hx⟩, fun y H2 hy own1 σ s R => ?_⟩
  obtain ⟨rfl, hy⟩ := hy
  have := hy vs l1.sq
  rw [hx] at this
  cases this
  exact ⟨R, Up.refl, rx⟩
theorem wk_tup {K : PySem.W.Frag} {b : Bd} {a : Addr} {vs : List V} {ds : List D} {A : Addr → Prop} {H : Hp} (l : TuR K A H a vs) (r : RpL K A H vs ds) : Wk K b (Itt K a) ds A H := by
  intro A1 H1 kp i
  have l1 : TuR K A1 H1 a vs := l.elim (fun q => .inl (kp _ _ q.2 q.1)) .inr
  have r1 : RpL K A1 H1 vs ds := RpL.mono kp r
  refine ⟨fun hi => ⟨vs, l1.sq, by rw [r1.length]; exact hi⟩, fun d hd => ?_⟩
  obtain ⟨x, hx, rx⟩ := r1.get hd
  refine ⟨⟨vs, x, l1.sq, hx⟩, fun y H2 hy own1 σ s R => ?_⟩
  obtain ⟨rfl, hy⟩ := hy
  have := hy vs l1.sq
  rw [hx] at this
  cases this
  exact ⟨R, Up.refl, rx⟩
theorem di_list (he : DE X e we) : DI X tg e (iLst we) := by
  obtain ⟨te, pe, qe⟩ := he.ex
  refine ⟨_, pi_list pe, fun b A own H σ s Ks Q R h k => ?_⟩
  show te σ H fun x H1 => ∃ a, x = .ref a ∧ (∃ xs, SqL X.K H1 a xs) ∧ Q (Itl X.K a) H1
  refine qe _ _ _ _ _ _ _ _ R h fun A1 o1 H1 v1 s1 x1 R1 U1 E1 h1 => ?_
  obtain ⟨d, rfl, h2⟩ := daI_inv h1
  clear h1
  have h1 := h2
  clear h2
  split at h1
  · cases (show Rp X.K A1 H1 v1 _ from E1) with
    | lst l r => exact ⟨_, rfl, ⟨_, l.sq⟩, k _ _ _ _ _ _ R1 U1 (wk_list l r) h1⟩
  · exact h1.elim
theorem di_tup (he : DE X e we) : DI X tg e (iTpl we) := by
  obtain ⟨te, pe, qe⟩ := he.ex
  refine ⟨_, pi_tup pe, fun b A own H σ s Ks Q R h k => ?_⟩
  show te σ H fun x H1 => ∃ a, x = .ref a ∧ (∃ xs, SqT X.K H1 a xs) ∧ Q (Itt X.K a) H1
  refine qe _ _ _ _ _ _ _ _ R h fun A1 o1 H1 v1 s1 x1 R1 U1 E1 h1 => ?_
  obtain ⟨d, rfl, h2⟩ := daI_inv h1
  clear h1
  have h1 := h2
  clear h2
  split at h1
  · cases (show Rp X.K A1 H1 v1 _ from E1) with
    | tup l r => exact ⟨_, rfl, ⟨_, l.sq⟩, k _ _ _ _ _ _ R1 U1 (wk_tup l r) h1⟩
  · exact h1.elim
/-- lo, lo + 1, .. -/
def rng (lo : Int) (n : Nat) : List D := (List.range n).map fun (i : Nat) => PyData.int (lo + (i : Int))
theorem rng_length (lo : Int) (n : Nat) : (rng lo n).length = n := by simp [rng]
theorem rng_get {lo : Int} {n i : Nat} {d : D} (h : (rng lo n)[i]? = some d) : i < n ∧ d = .int (lo + (i : Int)) := by
  unfold rng at h
  rw [List.getElem?_map] at h
  by_cases q : i < n
  · rw [List.getElem?_range q] at h
    cases h
    exact ⟨q, rfl⟩
  · rw [List.getElem?_eq_none (by simpa using q)] at h
    cases h
theorem wk_rng {K : PySem.W.Frag} {b : Bd} {lo : Int} {n : Nat} {A : Addr → Prop} {H : Hp} : Wk K b (Itr lo n) (rng lo n) A H := by
  intro A1 H1 kp i
  refine ⟨fun hi => by rw [rng_length] at hi; exact hi, fun d hd => ?_⟩
  obtain ⟨h1, rfl⟩ := rng_get hd
  refine ⟨h1, fun y H2 hy own1 σ s R => ?_⟩
  obtain ⟨rfl, rfl⟩ := hy
  exact ⟨R, Up.refl, .int _⟩
def iR1 (wr : WA) : WI := fun s Ks => wr s fun s1 xs => a1 xs fun x => i1 x fun n => -(2 ^ 62) ≤ n ∧ n < 2 ^ 62 ∧ Ks s1 (rng 0 n.toNat)
def iR2 (wr : WA) : WI := fun s Ks => wr s fun s1 xs => a2 xs fun x y => iI x y fun i j => (-(2 ^ 62) ≤ i ∧ i < 2 ^ 62 ∧ -(2 ^ 62) ≤ j ∧ j < 2 ^ 62) ∧ Ks s1 (rng i (j - i).toNat)
theorem di_range1 {p : Pos} (hg : Gl X "range") (hm : X.mg "range" = none) (ha : DA X [a] wr) (hs : starEach [a] X.env = [(false, eval a X.env)] := by rfl) : DI X tg (.Call (.Name "range" p) [a] [] pos) (iR1 wr) := by
  obtain ⟨ta, pa, qa⟩ := ha.ex
  refine ⟨_, pi_range1 hg hm pa hs, fun b A own H σ s Ks Q R h k => ?_⟩
  show ta σ H fun vs H1 => ∃ j : Int, vs = [.int j] ∧ -(2 ^ 62) ≤ j ∧ j < 2 ^ 62 ∧ Q (Itr 0 j.toNat) H1
  refine qa _ _ _ _ _ _ _ _ R h fun A1 o1 H1 vs s1 xs R1 U1 E1 h1 => ?_
  obtain ⟨v, x, rfl, e1, h1⟩ := a1_inv E1 h1
  obtain ⟨n, rfl, b1, b2, h1⟩ := i1_inv h1
  cases e1
  exact ⟨n, rfl, b1, b2, k _ _ _ _ _ _ R1 U1 wk_rng h1⟩
theorem di_range2 {p : Pos} (hg : Gl X "range") (hm : X.mg "range" = none) (ha : DA X [a, b] wr) (hs : starEach [a, b] X.env = [(false, eval a X.env), (false, eval b X.env)] := by rfl) (hs2 : starEach [b] X.env = [(false, eval b X.env)] := by rfl) : DI X tg (.Call (.Name "range" p) [a, b] [] pos) (iR2 wr) := by
  obtain ⟨ta, pa, qa⟩ := ha.ex
  refine ⟨_, pi_range2 hg hm pa hs hs2, fun b A own H σ s Ks Q R h k => ?_⟩
  show ta σ H fun vs H1 => ∃ i j : Int, vs = [.int i, .int j] ∧ (-(2 ^ 62) ≤ i ∧ i < 2 ^ 62 ∧ -(2 ^ 62) ≤ j ∧ j < 2 ^ 62) ∧ Q (Itr i (j - i).toNat) H1
  refine qa _ _ _ _ _ _ _ _ R h fun A1 o1 H1 vs s1 xs R1 U1 E1 h1 => ?_
  obtain ⟨v, u, x, y, rfl, e1, e2, h1⟩ := a2_inv E1 h1
  obtain ⟨i, j, rfl, rfl, b1, h1⟩ := iI_inv h1
  cases e1; cases e2
  exact ⟨i, j, rfl, b1, k _ _ _ _ _ _ R1 U1 wk_rng h1⟩
/-- signs of a text -/
def sgs (z : Str) : List D := z.cps.toList.map fun c => PyData.str ⟨#[c]⟩
def iSgs (we : WE) : WI := fun s Ks => we s fun s1 x => daI x fun d => match d with | .str z => Ks s1 (sgs z) | _ => False
theorem di_str (he : DE X e we) : DI X tg e (iSgs we) := by
  obtain ⟨te, pe, qe⟩ := he.ex
  refine ⟨_, pi_str pe, fun b A own H σ s Ks Q R h k => ?_⟩
  show te σ H fun v H1 => ∃ x, v = .str x ∧ Q (Its x) H1
  refine qe _ _ _ _ _ _ _ _ R h fun A1 o1 H1 v1 s1 x1 R1 U1 E1 h1 => ?_
  obtain ⟨d, rfl, h2⟩ := daI_inv h1
  clear h1
  have h1 := h2
  clear h2
  split at h1
  · rename_i z
    cases (show Rp X.K A1 H1 v1 _ from E1)
    refine ⟨z, rfl, k _ _ _ _ _ _ R1 U1 ?_ h1⟩
    intro A2 H2 kp i
    refine ⟨fun hi => ?_, fun d hd => ?_⟩
    · show z.cps.size ≤ i
      have : (sgs z).length = z.cps.size := by simp [sgs]
      omega
    · unfold sgs at hd
      rw [List.getElem?_map] at hd
      cases q : z.cps.toList[i]? with
      | none => rw [q] at hd; cases hd
      | some c =>
        rw [q] at hd; cases hd
        have q' : z.cps[i]? = some c := by rw [← q]; simp
        refine ⟨(Array.getElem?_eq_some_iff.mp q').1, fun y H3 hy own1 σ s R => ?_⟩
        obtain ⟨rfl, c', e1, rfl⟩ := hy
        rw [q'] at e1; cases e1
        exact ⟨R, Up.refl, .str _⟩
  · exact h1.elim
/-- zip of two lists, of two tuples; enumerate -/
def zipD : List D → List D → List D
  | x :: xs, y :: ys => .tuple [x, y] :: zipD xs ys
  | _, _ => []
theorem zipD_get : ∀ {xs ys : List D} {i : Nat} {d : D}, (zipD xs ys)[i]? = some d → ∃ x y, xs[i]? = some x ∧ ys[i]? = some y ∧ d = .tuple [x, y]
  | [], _, _, _, h => by simp [zipD] at h
  | _ :: _, [], _, _, h => by simp [zipD] at h
  | x :: xs, y :: ys, 0, d, h => ⟨x, y, rfl, rfl, by simp [zipD] at h; exact h.symm⟩
  | x :: xs, y :: ys, i + 1, d, h => by
    obtain ⟨x', y', h1, h2, h3⟩ := zipD_get (xs := xs) (ys := ys) (i := i) (by simpa [zipD] using h)
    exact ⟨x', y', by simpa using h1, by simpa using h2, h3⟩
theorem zipD_length : ∀ (xs ys : List D), (zipD xs ys).length = min xs.length ys.length
  | [], _ => by simp [zipD]
  | _ :: _, [] => by simp [zipD]
  | x :: xs, y :: ys => by simp [zipD, zipD_length xs ys]
def iZip (wr : WA) : WI := fun s Ks => wr s fun s1 xs => da2' xs fun d e => match d, e with | .list ds, .list es => Ks s1 (zipD ds es) | .tuple ds, .tuple es => Ks s1 (zipD ds es) | _, _ => False
where da2' (xs : List En) (k : D → D → Prop) : Prop := a2 xs fun x y => da2 x y k
theorem wk_new {K : PySem.W.Frag} {b : Bd} {A1 : Addr → Prop} {H1 : Hp} {T : Addr} {vs : List V} {ds : List D} (hT : H1 T = none) (r : RpL K A1 H1 vs ds) (own1 : List (List Addr)) (σ : L2.St) (s : S) (R : Rel K b A1 own1 H1 σ s) :
    Rel K b A1 own1 (upd H1 T (.tup vs)) σ s ∧ Up A1 own1 H1 A1 own1 (upd H1 T (.tup vs)) ∧ Rp K A1 (upd H1 T (.tup vs)) (.ref T) (.tuple ds) := by
  obtain ⟨R1, U1⟩ := R.new (o := .tup vs) hT
  exact ⟨R1, U1, .tup (.inl ⟨upd_same, R.freshA hT⟩) (RpL.mono U1.kp r)⟩
theorem di_zip {p tpos : Pos} {elts : List Expr} {kk : Nat} (hg : Gl X "zip") (hm : X.mg "zip" = none) (ha : DA X [a, b] wr)
    (hs : starEach [a, b] X.env = (false, eval a X.env) :: starEach [b] X.env := by rfl) (hpl : (backTo pos (starEach [b] X.env)).any (·.1) = false := by rfl) :
    DI X (.Tuple elts kk tpos) (.Call (.Name "zip" p) [a, b] [] pos) (iZip wr) := by
  obtain ⟨ta, pa, qa⟩ := ha.ex
  refine ⟨_, RZ.pi_zipA hg hm pa hs hpl, fun b A own H σ s Ks Q R h k => ?_⟩
  show ta σ H fun vs H1 => ∃ a b xs ys, vs = [.ref a, .ref b] ∧ ((SqL X.K H1 a xs ∧ SqL X.K H1 b ys ∧ Q (Itz X.K a b) H1) ∨ (SqT X.K H1 a xs ∧ SqT X.K H1 b ys ∧ Q (RZ.ItzT X.K a b) H1))
  refine qa _ _ _ _ _ _ _ _ R h fun A1 o1 H1 vs s1 xs R1 U1 E1 h1 => ?_
  obtain ⟨v, u, x, y, rfl, e1, e2, h1⟩ := a2_inv E1 h1
  obtain ⟨d, e, rfl, rfl, h2⟩ := da2_inv h1
  clear h1
  have h1 := h2
  clear h2
  split at h1
  · rename_i ds es
    cases (show Rp X.K A1 H1 v _ from e1) with
    | lst l r => cases (show Rp X.K A1 H1 u _ from e2) with
      | lst l' r' =>
        refine ⟨_, _, _, _, rfl, .inl ⟨l.sq, l'.sq, k _ _ _ _ _ _ R1 U1 ?_ h1⟩⟩
        intro A2 H2 kp i
        have l2 : LsR A2 H2 _ _ := kp _ _ l.2 l.1
        have l3 : LsR A2 H2 _ _ := kp _ _ l'.2 l'.1
        have r2 := RpL.mono kp r
        have r3 := RpL.mono kp r'
        refine ⟨fun hi => ⟨_, _, l2.sq, l3.sq, by rw [r2.length, r3.length]; rw [zipD_length] at hi; omega⟩, fun d hd => ?_⟩
        obtain ⟨x, y, hx, hy, rfl⟩ := zipD_get hd
        obtain ⟨vx, gx, rx⟩ := r2.get hx
        obtain ⟨vy, gy, ry⟩ := r3.get hy
        refine ⟨⟨_, _, vx, vy, l2.sq, l3.sq, gx, gy⟩, fun z H3 hz own1 σ s R => ?_⟩
        obtain ⟨T, x', y', rfl, hT, rfl, f1, f2⟩ := hz
        have f1 := f1 _ l2.sq
        have f2 := f2 _ l3.sq
        rw [gx] at f1; rw [gy] at f2
        cases f1; cases f2
        exact wk_new hT (.cons rx (.cons ry .nil)) own1 σ s R
  · rename_i ds es
    cases (show Rp X.K A1 H1 v _ from e1) with
    | tup l r => cases (show Rp X.K A1 H1 u _ from e2) with
      | tup l' r' =>
        refine ⟨_, _, _, _, rfl, .inr ⟨l.sq, l'.sq, k _ _ _ _ _ _ R1 U1 ?_ h1⟩⟩
        intro A2 H2 kp i
        have l2 : TuR X.K A2 H2 _ _ := l.elim (fun q => .inl (kp _ _ q.2 q.1)) .inr
        have l3 : TuR X.K A2 H2 _ _ := l'.elim (fun q => .inl (kp _ _ q.2 q.1)) .inr
        have r2 := RpL.mono kp r
        have r3 := RpL.mono kp r'
        refine ⟨fun hi => ⟨_, _, l2.sq, l3.sq, by rw [r2.length, r3.length]; rw [zipD_length] at hi; omega⟩, fun d hd => ?_⟩
        obtain ⟨x, y, hx, hy, rfl⟩ := zipD_get hd
        obtain ⟨vx, gx, rx⟩ := r2.get hx
        obtain ⟨vy, gy, ry⟩ := r3.get hy
        refine ⟨⟨_, _, vx, vy, l2.sq, l3.sq, gx, gy⟩, fun z H3 hz own1 σ s R => ?_⟩
        obtain ⟨T, x', y', rfl, hT, rfl, f1, f2⟩ := hz
        have f1 := f1 _ l2.sq
        have f2 := f2 _ l3.sq
        rw [gx] at f1; rw [gy] at f2
        cases f1; cases f2
        exact wk_new hT (.cons rx (.cons ry .nil)) own1 σ s R
  · exact h1.elim
def enuD : Nat → List D → List D
  | _, [] => []
  | n, x :: xs => .tuple [.int (n : Int), x] :: enuD (n + 1) xs
theorem enuD_get : ∀ {xs : List D} {n i : Nat} {d : D}, (enuD n xs)[i]? = some d → ∃ x, xs[i]? = some x ∧ d = .tuple [.int ((n + i : Nat) : Int), x]
  | [], _, _, _, h => by simp [enuD] at h
  | x :: xs, n, 0, d, h => ⟨x, rfl, by simp [enuD] at h; exact h.symm⟩
  | x :: xs, n, i + 1, d, h => by
    obtain ⟨x', h1, h3⟩ := enuD_get (xs := xs) (n := n + 1) (i := i) (by simpa [enuD] using h)
    exact ⟨x', by simpa using h1, by rw [h3, show n + 1 + i = n + (i + 1) by omega]⟩
theorem enuD_length : ∀ (n : Nat) (xs : List D), (enuD n xs).length = xs.length
  | _, [] => rfl
  | n, x :: xs => congrArg (· + 1) (enuD_length (n + 1) xs)
def iEnu (wr : WA) : WI := fun s Ks => wr s fun s1 xs => a1 xs fun x => daI x fun d => match d with | .list ds => Ks s1 (enuD 0 ds) | _ => False
theorem di_enum {p tpos : Pos} {elts : List Expr} {kk : Nat} (hg : Gl X "enumerate") (hm : X.mg "enumerate" = none) (ha : DA X [a] wr) (hs : starEach [a] X.env = [(false, eval a X.env)] := by rfl) :
    DI X (.Tuple elts kk tpos) (.Call (.Name "enumerate" p) [a] [] pos) (iEnu wr) := by
  obtain ⟨ta, pa, qa⟩ := ha.ex
  refine ⟨_, pi_enum hg hm pa hs, fun b A own H σ s Ks Q R h k => ?_⟩
  show ta σ H fun vs H1 => ∃ a xs, vs = [.ref a] ∧ SqL X.K H1 a xs ∧ Q (Ite X.K a) H1
  refine qa _ _ _ _ _ _ _ _ R h fun A1 o1 H1 vs s1 xs R1 U1 E1 h1 => ?_
  obtain ⟨v, x, rfl, e1, h1⟩ := a1_inv E1 h1
  obtain ⟨d, rfl, h2⟩ := daI_inv h1
  clear h1
  have h1 := h2
  clear h2
  split at h1
  · cases (show Rp X.K A1 H1 v _ from e1) with
    | lst l r =>
      refine ⟨_, _, rfl, l.sq, k _ _ _ _ _ _ R1 U1 ?_ h1⟩
      intro A2 H2 kp i
      have l2 : LsR A2 H2 _ _ := kp _ _ l.2 l.1
      have r2 := RpL.mono kp r
      refine ⟨fun hi => ⟨_, l2.sq, by rw [r2.length]; rw [enuD_length] at hi; exact hi⟩, fun d hd => ?_⟩
      obtain ⟨x, hx, rfl⟩ := enuD_get hd
      obtain ⟨vx, gx, rx⟩ := r2.get hx
      refine ⟨⟨_, vx, l2.sq, gx⟩, fun z H3 hz own1 σ s R => ?_⟩
      obtain ⟨T, x', rfl, hT, rfl, f1⟩ := hz
      have f1 := f1 _ l2.sq
      rw [gx] at f1
      cases f1
      rw [Nat.zero_add]
      exact wk_new hT (.cons (.int _) (.cons rx .nil)) own1 σ s R
  · exact h1.elim
/-! ### for, while -/
def sFor (kl : List Nat) (m : Nat) (wi : WI) (wg : WG) (wb : WS) : WS := fun s D => wi s fun s1 ds => ∃ I : Nat → S → Prop, (s1.np ≤ m ∧ I 0 (clS kl m s1)) ∧
  (∀ i d s2, ds[i]? = some d → I i s2 → wg (.da d) s2 fun s3 => wb s3 { D with nx := fun s4 => s4.np ≤ m ∧ I (i + 1) (clS kl m s4), ct := fun s4 => s4.np ≤ m ∧ I (i + 1) (clS kl m s4), bk := D.nx }) ∧
  (∀ s2, I ds.length s2 → D.nx s2)
theorem ds_for (kl : List Nat) (m : Nat) {wi : WI} {js : List Nat} {wg : WG} {it : Expr} (hp : PassesOwn (model X.prog X.w) X.A X.env X.xe) (hc : X.calm = true) (hi : DI X tg it wi) (hg : DG X tg js wg) (hb : DSs X sts w)
    (hs : ∀ x, foldedSetIterable it X.env x = pure x := by intro _; rfl) : DS X (.For tg it sts [] pos) (sFor kl m wi wg w) := by
  obtain ⟨ti, pi, qi⟩ := hi.ex
  obtain ⟨g, pg, qg⟩ := hg.ex
  obtain ⟨tb, pb, qb⟩ := hb.ex
  refine ⟨_, ps_for hp hc pi pg pb hs, fun b A own H σ s D E R h mt => ?_⟩
  show ti σ H fun J H1 => ∃ W : Nat → Nat → L2.St → Hp → Prop, (∃ m, W 0 m σ H1) ∧ ∀ i m σ H, W i m σ H →
    (J.stop i H ∧ E.nx σ H) ∨ (J.go i H ∧ ∃ N : L2.St → Hp → Prop, (∀ σ' H', N σ' H' → ∃ m', m' < m ∧ W (i + 1) m' σ' H') ∧ ∀ x H', J.yld i H x H' → g x σ H' fun σ2 H2 => tb { E with nx := N, ct := N, bk := E.nx } σ2 H2)
  refine qi _ _ _ _ _ _ _ _ R h fun A1 o1 H1 s1 ds J R1 U1 wk h1 => ?_
  obtain ⟨I, ⟨hm, h0⟩, hs, hd⟩ := h1
  refine ⟨fun i k σ2 H2 => k = ds.length - i ∧ i ≤ ds.length ∧ ∃ (A2 : Addr → Prop) (o2 : List (List Addr)) (s2 : S), Rel X.K b A2 o2 H2 σ2 s2 ∧ Kp A1 H1 A2 H2 ∧ I i s2, ⟨_, rfl, Nat.zero_le _, A1, _, _, R1.cl kl m hm, Kp.refl, h0⟩, ?_⟩
  rintro i k σ2 H2 ⟨rfl, hi, A2, o2, s2, R2, kp, hI⟩
  obtain ⟨wstop, wgo⟩ := wk A2 H2 kp i
  by_cases hlt : i < ds.length
  · obtain ⟨hgo, hy⟩ := wgo ds[i] (List.getElem?_eq_getElem hlt)
    refine .inr ⟨hgo, fun σ' H' => ∃ (A3 : Addr → Prop) (o3 : List (List Addr)) (s3 : S), Rel X.K b A3 o3 H' σ' s3 ∧ Kp A1 H1 A3 H' ∧ I (i + 1) s3, fun σ' H' ⟨A3, o3, s3, r3, k3, i3⟩ => ⟨ds.length - (i + 1), by omega, rfl, hlt, A3, o3, s3, r3, k3, i3⟩, fun x H3 hx => ?_⟩
    obtain ⟨R3, U3, rx⟩ := hy x H3 hx o2 σ2 s2 R2
    refine qg _ _ _ _ _ _ _ _ _ _ R3 (show ER X.K A2 o2 H3 x (.da ds[i]) from rx) (hs i _ s2 (List.getElem?_eq_getElem hlt) hI) fun A4 o4 H4 σ4 s4 R4 U4 _ h4 => ?_
    have kp4 : Kp A1 H1 A4 H4 := (kp.trans U3.kp).trans U4.kp
    exact qb _ _ _ _ _ _ _ _ R4 h4 ⟨fun A5 o5 H5 σ5 s5 R5 k5 h5 => ⟨A5, _, _, R5.cl kl m h5.1, kp4.trans k5, h5.2⟩, fun A5 o5 H5 σ5 s5 v x R5 k5 e5 h5 => mt.rt _ _ _ _ _ _ _ R5 ((U1.kp.trans kp4).trans k5) e5 h5,
      fun A5 o5 H5 σ5 s5 R5 k5 h5 => mt.nx _ _ _ _ _ R5 ((U1.kp.trans kp4).trans k5) h5, fun A5 o5 H5 σ5 s5 R5 k5 h5 => ⟨A5, _, _, R5.cl kl m h5.1, kp4.trans k5, h5.2⟩⟩
  · have e : i = ds.length := by omega
    subst e
    exact .inl ⟨wstop (Nat.le_refl _), mt.nx _ _ _ _ _ R2 (U1.kp.trans kp) (hd _ hI)⟩
def sWhile (kl : List Nat) (m : Nat) (wt : WT) (wb : WS) : WS := fun s D => ∃ (I : S → Prop) (μ : S → Nat), (s.np ≤ m ∧ I (clS kl m s)) ∧
  ∀ s2, I s2 → wt s2 fun s3 c => (c = true → wb s3 { D with nx := fun s4 => s4.np ≤ m ∧ I (clS kl m s4) ∧ μ (clS kl m s4) < μ s2, ct := fun s4 => s4.np ≤ m ∧ I (clS kl m s4) ∧ μ (clS kl m s4) < μ s2, bk := D.nx }) ∧ (c = false → D.nx s3)
theorem ds_while (kl : List Nat) (m : Nat) (hp : PassesOwn (model X.prog X.w) X.A X.env X.xe) (hc : DT X c wt) (hb : DSs X sts w) : DS X (.While c sts [] pos) (sWhile kl m wt w) := by
  obtain ⟨tc, pc, qc⟩ := hc.ex
  obtain ⟨tb, pb, qb⟩ := hb.ex
  refine ⟨_, ps_while hp pc pb, fun b A own H σ s D E R h mt => ?_⟩
  show ∃ W : Nat → L2.St → Hp → Prop, (∃ m, W m σ H) ∧ ∀ m σ H, W m σ H →
    tc σ H fun b H1 => if b = true then ∃ N : L2.St → Hp → Prop, (∀ σ' H', N σ' H' → ∃ m', m' < m ∧ W m' σ' H') ∧ tb { E with nx := N, ct := N, bk := E.nx } σ H1 else E.nx σ H1
  obtain ⟨I, μ, ⟨hm, h0⟩, hs⟩ := h
  refine ⟨fun k σ2 H2 => ∃ (A2 : Addr → Prop) (o2 : List (List Addr)) (s2 : S), k = μ s2 ∧ Rel X.K b A2 o2 H2 σ2 s2 ∧ Kp A H A2 H2 ∧ I s2, ⟨_, A, _, _, rfl, R.cl kl m hm, Kp.refl, h0⟩, ?_⟩
  rintro k σ2 H2 ⟨A2, o2, s2, rfl, R2, kp, hI⟩
  refine qc _ _ _ _ _ _ _ _ R2 (hs s2 hI) fun A3 o3 H3 s3 c R3 U3 h3 => ?_
  have kp3 := kp.trans U3.kp
  cases c with
  | true =>
    rw [if_pos rfl]
    refine ⟨fun σ' H' => ∃ (A4 : Addr → Prop) (o4 : List (List Addr)) (s4 : S), Rel X.K b A4 o4 H' σ' s4 ∧ Kp A H A4 H' ∧ I s4 ∧ μ s4 < μ s2, fun σ' H' ⟨A4, o4, s4, r4, k4, i4, l4⟩ => ⟨_, l4, A4, o4, s4, rfl, r4, k4, i4⟩, ?_⟩
    exact qb _ _ _ _ _ _ _ _ R3 (h3.1 rfl) ⟨fun A5 o5 H5 σ5 s5 R5 k5 h5 => ⟨A5, _, _, R5.cl kl m h5.1, kp3.trans k5, h5.2.1, h5.2.2⟩, fun A5 o5 H5 σ5 s5 v x R5 k5 e5 h5 => mt.rt _ _ _ _ _ _ _ R5 (kp3.trans k5) e5 h5,
      fun A5 o5 H5 σ5 s5 R5 k5 h5 => mt.nx _ _ _ _ _ R5 (kp3.trans k5) h5, fun A5 o5 H5 σ5 s5 R5 k5 h5 => ⟨A5, _, _, R5.cl kl m h5.1, kp3.trans k5, h5.2.1, h5.2.2⟩⟩
  | false => rw [if_neg (by decide)]; exact mt.nx _ _ _ _ _ R3 kp3 (h3.2 rfl)
end
end DL
namespace DL
open PySem L2
/-! ### a rule's meaning, alone -/
def canE (K : PySem.W.Frag) (w : WE) : TE := fun σ H Q => ∃ (b : Bd) (A : Addr → Prop) (own : List (List Addr)) (s : S) (Ks : S → En → Prop), Rel K b A own H σ s ∧ w s Ks ∧ PostE K b A own H σ Ks Q
def canT (K : PySem.W.Frag) (w : WT) : TT := fun σ H Q => ∃ (b : Bd) (A : Addr → Prop) (own : List (List Addr)) (s : S) (Ks : S → Bool → Prop), Rel K b A own H σ s ∧ w s Ks ∧ PostT K b A own H σ Ks Q
def canG (K : PySem.W.Frag) (js : List Nat) (w : WG) : TG := fun v σ H Q => ∃ (b : Bd) (A : Addr → Prop) (own : List (List Addr)) (s : S) (x : En) (Ks : S → Prop), Rel K b A own H σ s ∧ ER K A own H v x ∧ w x s Ks ∧ PostG K b A own H σ js Ks Q
structure DTs (X : Cx) (ifs : List Expr) (w : WT) : Prop where
  ex : ∃ tt, PTs X ifs tt ∧ ∀ (b : Bd) (A : Addr → Prop) (own : List (List Addr)) (H : Hp) (σ : L2.St) (s : S) (Ks : S → Bool → Prop) (Q : Bool → Hp → Prop), Rel X.K b A own H σ s → w s Ks → PostT X.K b A own H σ Ks Q → tt σ H Q
section
variable {X : Cx} {a b c e : Expr} {we : WE} {wt : WT} {wg : WG} {pos : Pos} {js : List Nat}
theorem DE.can (h : DE X e we) : PE X e (canE X.K we) := by
  obtain ⟨te, pe, qe⟩ := h.ex
  exact ⟨fun pins s σ H Q I ⟨b, A, own, s', Ks, R, hw, k⟩ => pe.run pins s σ H Q I (qe _ _ _ _ _ _ _ _ R hw k)⟩
theorem DG.can (h : DG X e js wg) : PG X e (canG X.K js wg) := by
  obtain ⟨te, pe, qe⟩ := h.ex
  exact ⟨fun pins s σ H v u Q I r ⟨b, A, own, s', x, Ks, R, E, hw, k⟩ => pe.run pins s σ H v u Q I r (qe _ _ _ _ _ _ _ _ _ _ R E hw k)⟩
theorem DTs.can {ifs : List Expr} (h : DTs X ifs wt) : PTs X ifs (canT X.K wt) := by
  obtain ⟨te, pe, qe⟩ := h.ex
  exact ⟨fun pins s σ H Q I ⟨b, A, own, s', Ks, R, hw, k⟩ => pe.run pins s σ H Q I (qe _ _ _ _ _ _ _ _ R hw k)⟩
def tYesD : WT := fun s Ks => Ks s true
theorem dts_nil : DTs X [] tYesD := ⟨_, pts_nil, fun b A own H σ s Ks Q R h k => k _ _ _ _ _ R Up.refl h⟩
theorem dts_one (h : DT X c wt) : DTs X [c] wt := by
  obtain ⟨t, p, q⟩ := h.ex
  exact ⟨_, pts_one p, q⟩
/-! ### comprehensions -/
theorem wipe_at (σ : L2.St) : ∀ (vs : List Nat) (i : Nat), (wipe σ vs)[i]? = if i ∈ vs ∧ i < σ.length then some none else σ[i]?
  | [], i => by simp [wipe]
  | v :: vs, i => by
    unfold wipe
    by_cases e : v = i
    · subst e
      by_cases h : v < σ.length
      · rw [List.getElem?_set_self (by rw [wipe_length]; exact h), if_pos ⟨List.mem_cons_self, h⟩]
      · rw [if_neg fun z => h z.2, List.getElem?_eq_none (by rw [List.length_set, wipe_length]; omega), List.getElem?_eq_none (by omega)]
    · rw [List.getElem?_set_ne e, wipe_at σ vs i]
      by_cases h : i ∈ vs ∧ i < σ.length
      · rw [if_pos h, if_pos ⟨List.mem_cons_of_mem _ h.1, h.2⟩]
      · rw [if_neg h, if_neg fun z => h ⟨(List.mem_cons.mp z.1).resolve_left (Ne.symm e), z.2⟩]
theorem wipe_sto {vs js : List Nat} {σ σ' : L2.St} (h : Sto js (wipe σ vs) σ') (hj : ∀ j ∈ js, j ∈ vs) : wipe σ' vs = wipe σ vs := by
  have hl : σ'.length = σ.length := h.1.trans (wipe_length σ vs)
  refine List.ext_getElem? fun i => ?_
  rw [wipe_at, hl]
  by_cases e : i ∈ vs ∧ i < σ.length
  · rw [if_pos e, wipe_at, if_pos e]
  · rw [if_neg e]
    by_cases q : i ∈ vs
    · have : ¬ i < σ.length := fun z => e ⟨q, z⟩
      rw [List.getElem?_eq_none (by omega), List.getElem?_eq_none (by rw [wipe_length]; omega)]
    · exact h.2 i fun z => q (hj i z)
/-- the turns of a comprehension -/
def lcTurns (vs : List Nat) (wg : WG) (wt : WT) (we : WE) (s1 : S) (ds : List D) (Kf : List MO → List D → Prop) : Prop := ∃ I : Nat → List MO → List D → Prop, I 0 s1.ms [] ∧
  (∀ i d ms acc, ds[i]? = some d → I i ms acc → ms.length = s1.ms.length → wg (.da d) ⟨killL vs s1.es, ms ++ [.lst acc], s1.np⟩ fun s2 => wt s2 fun s3 c =>
    (c = true → we s3 fun s4 x => daI x fun y => acc.length < sizeLine ∧ gm s4.ms s1.ms.length = .lst acc ∧ I (i + 1) (takM s1.ms.length s1.ms.length s4.ms) (acc ++ [y])) ∧
    (c = false → gm s3.ms s1.ms.length = .lst acc ∧ I (i + 1) (takM s1.ms.length s1.ms.length s3.ms) acc)) ∧
  (∀ ms acc, I ds.length ms acc → ms.length = s1.ms.length → Kf ms acc)
def dLc (vs : List Nat) (wi : WI) (wg : WG) (wt : WT) (we : WE) : WE := fun s Ks => wi s fun s1 ds => lcTurns vs wg wt we s1 ds fun ms acc => Ks ⟨s1.es, takM s1.ms.length s1.ms.length ms, s1.np⟩ (.da (.list acc))
def dLcM (vs : List Nat) (wi : WI) (wg : WG) (wt : WT) (we : WE) : WE := fun s Ks => wi s fun s1 ds => lcTurns vs wg wt we s1 ds fun ms acc => Ks ⟨s1.es, ms ++ [.lst acc], s1.np⟩ (.mu s1.ms.length)
/-- an object left out at the end, its places kept known -/
theorem Rel.wiped {K : PySem.W.Frag} {b : Bd} {A : Addr → Prop} {own : List (List Addr)} {H : Hp} {σ : L2.St} {s : S} (vs : List Nat) (R : Rel K b A own H σ s) : Rel K b A own H (wipe σ vs) { s with es := killL vs s.es } := by
  refine R.slots (by rw [wipe_length, killL_length]; exact R.len) fun i => ?_
  rcases gt_killL vs s.es i with q | ⟨q1, q2⟩
  · exact .inl q
  · rw [q2]
    rcases R.sl i with z | ⟨v, e, h⟩
    · exact .inl z
    · exact .inr ⟨v, by rw [wipe_out q1]; exact e, h⟩
theorem takM_app (m : Nat) (l r : List MO) (h : l.length = m) : takM m m (l ++ r) = takM m m l := by
  have : ∀ (n : Nat) (l : List MO), l.length = n → takM m n (l ++ r) = takM m n l := by
    intro n
    induction n with
    | zero => intro l _; rfl
    | succ n ih => intro l hl; cases l with
      | nil => cases hl
      | cons x xs => exact congrArg (limM m x :: ·) (ih xs (by simpa using hl))
  exact this m l h
theorem takM_sm (m : Nat) (y : MO) : ∀ (n k : Nat) (l : List MO), n ≤ k → takM m n (sm l k y) = takM m n l
  | 0, _, _, _ => rfl
  | n + 1, _, [], _ => rfl
  | n + 1, 0, x :: r, h => by omega
  | n + 1, k + 1, x :: r, h => by
    show limM m x :: takM m n (sm r k y) = limM m x :: takM m n r
    rw [takM_sm m y n k r (by omega)]
theorem Rel.back {K : PySem.W.Frag} {b : Bd} {A : Addr → Prop} {own : List (List Addr)} {H : Hp} {σ' σ : L2.St} {s : S} {m : Nat} {acc : List PyData} {es : List En} (R : Rel K b A own H σ' s) (hm : s.np ≤ m) (g : gm s.ms m = .lst acc)
    (hl : σ.length = es.length) (h : ∀ i, gt es i = .no ∨ ∃ v, σ[i]? = some (some v) ∧ ER K A (own.take (m + 1)) H v (gt es i)) : Rel K b A (own.take (m + 1)) H σ ⟨es, takM m m s.ms ++ [.lst acc], s.np⟩ := by
  have hml : m < s.ms.length := gm_lt (by rw [g]; intro z; cases z)
  have hol := R.ol
  have tl : (takM m m s.ms).length = m := by rw [takM_length]; omega
  have gl : ∀ k, gm (takM m m s.ms ++ [.lst acc]) k = if k < m then limM m (gm s.ms k) else if k = m then .lst acc else .gone := fun k => by
    rw [gm_app, tl]
    by_cases q : k < m
    · rw [if_pos q, if_pos q, gm_takM, if_pos q]
    · rw [if_neg q, if_neg q]
      by_cases q2 : k = m
      · subst q2; rw [Nat.sub_self, if_pos rfl]; rfl
      · rw [if_neg q2]; exact gm_ge _ _ (by simp; omega)
  refine ⟨⟨?_, fun k => ?_, fun k j a h1 h2 => ?_, fun k => ?_, fun k a h1 => ?_, R.al⟩, hl, h, R.ge, R.fr, fun k a h1 => ?_, ?_, ?_, R.lim, R.a0⟩
  · rw [List.length_append, tl, List.length_take]; show _ = m + 1; omega
  · rw [go_take, gl]
    by_cases q : k < m
    · rw [if_pos (show k < m + 1 by omega), if_pos q]
      refine (R.mr k).lim.up ⟨Kp.refl, fun k a r e => ?_⟩ fun a o _ e => e
      rw [go_take] at e ⊢
      split at e
      · rw [if_pos (by omega)]; exact e
      · cases e
    · rw [if_neg q]
      by_cases q2 : k = m
      · subst q2
        rw [if_pos (by omega), if_pos rfl]
        have := R.mr k
        rw [g] at this
        exact this.plain rfl
      · rw [if_neg (by omega), if_neg q2]; trivial
  · rw [go_take] at h1 h2
    split at h1
    · split at h2
      · exact R.dj k j a h1 h2
      · cases h2
    · cases h1
  · rw [go_take]
    split
    · exact R.ld k
    · exact List.nodup_nil
  · rw [go_take] at h1
    split at h1
    · exact R.oa k a h1
    · cases h1
  · rw [go_take] at h1
    split at h1
    · exact R.fo k a h1
    · cases h1
  · rw [List.take_take, show min s.np (m + 1) = s.np by omega]; exact R.pre
  · rw [List.length_take]; have := R.npl; show s.np ≤ _; omega
theorem lc_run {K : PySem.W.Frag} {wi : TI} {wI : WI} {vs : List Nat} (hj : ∀ j ∈ js, j ∈ vs)
    (qi : ∀ (b : Bd) (A : Addr → Prop) (own : List (List Addr)) (H : Hp) (σ : L2.St) (s : S) (Ks : S → List D → Prop) (Q : It → Hp → Prop), Rel K b A own H σ s → wI s Ks → PostI K b A own H σ Ks Q → wi σ H Q)
    (Kf : S → List MO → List D → Prop) (b : Bd) (A : Addr → Prop) (own : List (List Addr)) (H : Hp) (σ : L2.St) (s : S) (Q : VK) (R : Rel K b A own H σ s)
    (h : wI s fun s1 ds => lcTurns vs wg wt we s1 ds (Kf s1))
    (k : ∀ (A' : Addr → Prop) (own' : List (List Addr)) (H' : Hp) (s1 : S) (ms : List MO) (acc : List D) (v : V), Rel K b A' own' H' σ ⟨s1.es, ms ++ [.lst acc], s1.np⟩ → Up A own H A' own' H' → ms.length = s1.ms.length → ER K A' own' H' v (.mu s1.ms.length) →
      (∃ (A'' : Addr → Prop) (own'' : List (List Addr)), Rel K b A'' own'' H' σ ⟨s1.es, takM s1.ms.length s1.ms.length ms, s1.np⟩ ∧ Up A own H A'' own'' H' ∧ Rp K A'' H' v (.list acc)) → Kf s1 ms acc → Q v H') :
    tLc wi (canG K js wg) (canT K wt) (canE K we) vs σ H Q := by
  show wi σ H fun J H1 => ∀ D, H1 D = none → ∃ W : Nat → Nat → Hp → Prop, (∃ m, W 0 m (upd H1 D (.lst []))) ∧ ∀ i m H, W i m H →
    (J.stop i H ∧ Q (.ref D) H) ∨ (J.go i H ∧ ∃ Nx : Hp → Prop, (∀ H', Nx H' → ∃ m', m' < m ∧ W (i + 1) m' H') ∧ ∀ x H', J.yld i H x H' → canG K js wg x (wipe σ vs) H' fun σ2 H2 => wipe σ2 vs = wipe σ vs ∧ canT K wt σ2 H2 fun b H3 =>
      if b = true then canE K we σ2 H3 fun y H4 => ∃ acc, H4 D = some (.lst acc) ∧ acc.length < sizeLine ∧ Nx (upd H4 D (.lst (acc ++ [y]))) else Nx H3)
  refine qi _ _ _ _ _ _ _ _ R h fun A1 o1 H1 s1 ds J R1 U1 wk h1 => ?_
  obtain ⟨I, h0, hs, hd⟩ := h1
  intro D hD
  obtain ⟨R0, U0, g0⟩ := R1.newMu (o := .lst []) hD (.lst []) fun A' own' u => ⟨D, [], rfl, upd_same, .nil⟩
  -- what holds ahead of each turn
  refine ⟨fun i n H2 => n = ds.length - i ∧ i ≤ ds.length ∧ ∃ (A2 : Addr → Prop) (o2 : List (List Addr)) (ms : List MO) (acc : List PyData), Rel K b A2 o2 H2 σ ⟨s1.es, ms ++ [.lst acc], s1.np⟩ ∧ Up A1 o1 H1 A2 o2 H2 ∧ ms.length = s1.ms.length ∧ go o2 s1.ms.length = [D] ∧ I i ms acc,
    ⟨_, rfl, Nat.zero_le _, _, _, s1.ms, [], R0, U0, rfl, g0, h0⟩, ?_⟩
  rintro i n H2 ⟨rfl, hi, A2, o2, ms, acc, R2, U2, ml, g2, hI⟩
  have npm : s1.np ≤ ms.length := by rw [ml, ← R1.ol]; exact R1.npl
  obtain ⟨wstop, wgo⟩ := wk A2 H2 U2.kp i
  by_cases hlt : i < ds.length
  · obtain ⟨hgo, hy⟩ := wgo ds[i] (List.getElem?_eq_getElem hlt)
    refine .inr ⟨hgo, fun H' => ∃ (A3 : Addr → Prop) (o3 : List (List Addr)) (ms3 : List MO) (acc3 : List PyData), Rel K b A3 o3 H' σ ⟨s1.es, ms3 ++ [.lst acc3], s1.np⟩ ∧ Up A1 o1 H1 A3 o3 H' ∧ ms3.length = s1.ms.length ∧ go o3 s1.ms.length = [D] ∧ I (i + 1) ms3 acc3,
      fun H' ⟨A3, o3, ms3, acc3, r3, u3, l3, g3, i3⟩ => ⟨ds.length - (i + 1), by omega, rfl, hlt, A3, o3, ms3, acc3, r3, u3, l3, g3, i3⟩, fun x H3 hx => ?_⟩
    obtain ⟨R3, U3, rx⟩ := hy x H3 hx o2 σ _ R2
    have R3w := R3.wiped vs
    -- back from a state of the turn to the next one
    have back : ∀ (A5 : Addr → Prop) (o5 : List (List Addr)) (H5 : Hp) (σ4 : L2.St) (s5 : S) (acc5 : List PyData), Rel K b A5 o5 H5 σ4 s5 → Up A2 o2 H3 A5 o5 H5 → gm s5.ms s1.ms.length = .lst acc5 →
        Rel K b A5 (o5.take (s1.ms.length + 1)) H5 σ ⟨s1.es, takM s1.ms.length s1.ms.length s5.ms ++ [.lst acc5], s1.np⟩ ∧ Up A1 o1 H1 A5 (o5.take (s1.ms.length + 1)) H5 ∧ (takM s1.ms.length s1.ms.length s5.ms).length = s1.ms.length ∧ go (o5.take (s1.ms.length + 1)) s1.ms.length = [D] := by
      intro A5 o5 H5 σ4 s5 acc5 R5 U5 g5
      have npe : s5.np = s1.np := R5.np.symm.trans R1.np
      have go5 : go o5 s1.ms.length = [D] := U5.ow _ _ _ g2
      have u : Up A1 o1 H1 A5 (o5.take (s1.ms.length + 1)) H5 := ⟨(U2.kp.trans U3.kp).trans U5.kp, fun k a r e => by
        have hk : k < o1.length := Nat.lt_of_not_le fun z => by rw [go_ge _ _ z] at e; cases e
        rw [go_take, if_pos (by have := R1.ol; omega)]
        exact U5.ow _ _ _ (U2.ow _ _ _ e)⟩
      have hml : s1.ms.length < s5.ms.length := gm_lt (by rw [g5]; intro z; cases z)
      refine ⟨?_, u, by rw [takM_length]; omega, by rw [go_take, if_pos (by omega)]; exact go5⟩
      have := R5.back (σ := σ) (es := s1.es) (by rw [npe]; omega) g5 R1.len fun j => (R1.sl j).imp id fun ⟨v, e, q⟩ => ⟨v, e, q.up u⟩
      rw [npe] at this
      exact this
    refine ⟨b, A2, o2, ⟨killL vs s1.es, ms ++ [.lst acc], s1.np⟩, .da ds[i], _, R3w, rx, hs i _ ms acc (List.getElem?_eq_getElem hlt) hI ml, fun A4 o4 H4 σ2 s2 R4 U4 S4 h4 => ⟨wipe_sto S4 hj, b, A4, o4, s2, _, R4, h4, fun A5 o5 H5 s3 c R5 U5 h5 => ?_⟩⟩
    cases c with
    | false =>
      rw [if_neg (by decide)]
      obtain ⟨g5, i5⟩ := h5.2 rfl
      obtain ⟨r, u, l, g⟩ := back A5 o5 H5 σ2 s3 acc R5 (U4.trans U5) g5
      exact ⟨_, _, _, _, r, u, l, g, i5⟩
    | true =>
      rw [if_pos rfl]
      refine ⟨b, A5, o5, s3, _, R5, h5.1 rfl, fun A6 o6 H6 v s4 x R6 U6 E6 h6 => ?_⟩
      obtain ⟨y, rfl, hl, g6, i6⟩ := daI_inv h6
      have go6 : go o6 s1.ms.length = [D] := ((U4.trans U5).trans U6).ow _ _ _ g2
      obtain ⟨p, us, ep, e2, e3, _, up⟩ := mu_at R6 (v := .ref D) ⟨D, [], go6, rfl⟩ g6
      cases ep
      obtain ⟨R7, U7⟩ := up _ _ (e3.append (.cons (show Rp K A6 H6 v y from E6) .nil))
      refine ⟨us, e2, by rw [e3.length]; exact hl, ?_⟩
      have hml : s1.ms.length < s4.ms.length := gm_lt (by rw [g6]; intro z; cases z)
      obtain ⟨r, u, l, g⟩ := back A6 o6 _ σ2 _ (acc ++ [y]) R7 (((U4.trans U5).trans U6).trans U7) (by show gm (sm s4.ms s1.ms.length _) s1.ms.length = _; rw [gm_sm, if_pos ⟨rfl, hml⟩])
      refine ⟨_, _, _, _, r, u, l, g, ?_⟩
      show I (i + 1) (takM _ _ (sm s4.ms s1.ms.length _)) _
      rw [takM_sm _ _ _ _ _ (Nat.le_refl _)]
      exact i6
  · have e : i = ds.length := by omega
    subst e
    refine .inl ⟨wstop (Nat.le_refl _), k _ _ _ s1 ms acc _ R2 (U1.trans U2) ml ⟨D, [], g2, rfl⟩ ?_ (hd ms acc hI ml)⟩
    -- the list as data
    have g3 : gm (ms ++ [.lst acc]) s1.ms.length = .lst acc := by rw [gm_app, ml, if_neg (Nat.lt_irrefl _), Nat.sub_self]; rfl
    have mm := R2.mr s1.ms.length
    rw [show gm (⟨s1.es, ms ++ [.lst acc], s1.np⟩ : S).ms s1.ms.length = .lst acc from g3] at mm
    obtain ⟨p, us, e1, e2, e3⟩ := mm
    rw [g2] at e1
    cases e1
    have kp : Kp A2 H2 (fun a => A2 a ∧ a ≠ D) H2 := fun a u n q => ⟨q, fun z => n z.1⟩
    have u1 : Up A1 o1 H1 (fun a => A2 a ∧ a ≠ D) (o2.take s1.ms.length) H2 := ⟨U2.kp.trans kp, fun k a r e => by
      have hk : k < o1.length := Nat.lt_of_not_le fun z => by rw [go_ge _ _ z] at e; cases e
      rw [go_take, if_pos (by have := R1.ol; omega)]
      exact U2.ow _ _ _ e⟩
    have hol : o2.length = s1.ms.length + 1 := by
      have := R2.ol
      rw [show (⟨s1.es, ms ++ [.lst acc], s1.np⟩ : S).ms = ms ++ [.lst acc] from rfl, List.length_append, ml] at this
      exact this
    have ne : ∀ k a, k < s1.ms.length → a ∈ go o2 k → a ≠ D := fun k a hk h z => by
      subst z
      have := R2.dj k s1.ms.length a h (by rw [g2]; simp)
      omega
    have up2 : Up A2 (o2.take s1.ms.length) H2 (fun a => A2 a ∧ a ≠ D) (o2.take s1.ms.length) H2 := ⟨kp, fun _ _ _ e => e⟩
    refine ⟨fun a => A2 a ∧ a ≠ D, o2.take s1.ms.length, ⟨⟨?_, fun j => ?_, fun i j a h1 h2 => ?_, fun i => ?_, fun i a h1 => ?_, fun a h => R2.al a h.1⟩, R1.len, fun j => (R1.sl j).imp id fun ⟨v, e, q⟩ => ⟨v, e, q.up u1⟩, fun a h => ⟨R2.ge a h, fun z => ?_⟩, R2.fr, fun i a h1 => ?_, ?_, ?_, fun a h => R2.lim a h.1, R2.a0⟩, U1.trans u1, .lst ⟨e2, fun z => z.2 rfl⟩ (RpL.mono kp e3)⟩
    · show (o2.take s1.ms.length).length = (takM s1.ms.length s1.ms.length ms).length
      rw [List.length_take, takM_length]; omega
    · show MR K _ (o2.take s1.ms.length) H2 (go (o2.take s1.ms.length) j) (gm (takM s1.ms.length s1.ms.length ms) j)
      rw [go_take, gm_takM]
      by_cases q : j < s1.ms.length
      · rw [if_pos q, if_pos q]
        have mj := R2.mr j
        rw [show gm (⟨s1.es, ms ++ [.lst acc], s1.np⟩ : S).ms j = gm ms j from by show gm (ms ++ [.lst acc]) j = _; rw [gm_app, ml, if_pos q]] at mj
        exact mj.lim.up up2 fun a o _ e => e
      · rw [if_neg q, if_neg q]; trivial
    · rw [go_take] at h1 h2
      split at h1
      · split at h2
        · exact R2.dj i j a h1 h2
        · cases h2
      · cases h1
    · rw [go_take]
      split
      · exact R2.ld i
      · exact List.nodup_nil
    · rw [go_take] at h1
      split at h1
      · rename_i hi'
        exact ⟨R2.oa i a h1, ne i a hi' h1⟩
      · cases h1
    · subst z
      exact R2.a0 a h (by
        rcases R2.fo s1.ms.length a (by rw [g2]; simp) with ⟨j, q⟩ | q
        · rw [← R2.pre, go_take] at q
          split at q
          · rename_i hj'
            have := R2.dj _ _ a q (by rw [g2]; simp)
            have npl := R1.npl
            have := R1.ol
            have : (⟨s1.es, ms ++ [.lst acc], s1.np⟩ : S).np = s1.np := rfl
            omega
          · cases q
        · exact q)
    · rw [go_take] at h1
      split at h1
      · exact R2.fo i a h1
      · cases h1
    · have npl := R1.npl
      have := R1.ol
      show (o2.take s1.ms.length).take s1.np = b.own0
      rw [List.take_take, show min s1.np s1.ms.length = s1.np by omega]; exact R2.pre
    · have npl := R1.npl
      have := R1.ol
      show s1.np ≤ (o2.take s1.ms.length).length
      rw [List.length_take]; omega
theorem de_lc {elt tg iter : Expr} {ifs : List Expr} {scope : Scope} (own : List (Str × Nat)) {wI : WI} (hc : X.calm = true) (hN : X.N.Nodup) (hi : DI X tg iter wI) (ok : BlkOk X.N X.env.scope scope own) (hj : ∀ j ∈ js, j ∈ own.map (·.2))
    (hg : ∀ (s : Shared) (H : Hp) (C : Addr) (cl : List (Str × Addr)) (fp : List Addr), DG (X.blk s H scope (compEnvC scope cl C X.env) fp) tg js wg) (ht : ∀ (s : Shared) (H : Hp) (C : Addr) (cl : List (Str × Addr)) (fp : List Addr), DTs (X.blk s H scope (compEnvC scope cl C X.env) fp) ifs wt)
    (he : ∀ (s : Shared) (H : Hp) (C : Addr) (cl : List (Str × Addr)) (fp : List Addr), DE (X.blk s H scope (compEnvC scope cl C X.env) fp) elt we) (hs : ∀ x, foldedSetIterable iter X.env x = pure x := by intro _; rfl) :
    DE X (.ListComp elt [⟨tg, iter, ifs, 0⟩] scope pos) (dLc (own.map (·.2)) wI wg wt we) := by
  obtain ⟨ti, pi, qi⟩ := hi.ex
  refine ⟨_, pe_lc (g := canG X.K js wg) (tt := canT X.K wt) (te := canE X.K we) hc hN pi ok (fun s H C cl fp => (hg s H C cl fp).can) (fun s H C cl fp => (ht s H C cl fp).can) (fun s H C cl fp => (he s H C cl fp).can) hs, fun b A own' H σ s Ks Q R h k => ?_⟩
  exact lc_run hj qi (fun s1 ms acc => Ks ⟨s1.es, takM s1.ms.length s1.ms.length ms, s1.np⟩ (.da (.list acc))) b A own' H σ s Q R h fun A' own' H' s1 ms acc v R1 U1 ml E1 ⟨A2, o2, R2, U2, r⟩ hk => k.da R2 U2 r hk
theorem de_lcM {elt tg iter : Expr} {ifs : List Expr} {scope : Scope} (own : List (Str × Nat)) {wI : WI} (hc : X.calm = true) (hN : X.N.Nodup) (hi : DI X tg iter wI) (ok : BlkOk X.N X.env.scope scope own) (hj : ∀ j ∈ js, j ∈ own.map (·.2))
    (hg : ∀ (s : Shared) (H : Hp) (C : Addr) (cl : List (Str × Addr)) (fp : List Addr), DG (X.blk s H scope (compEnvC scope cl C X.env) fp) tg js wg) (ht : ∀ (s : Shared) (H : Hp) (C : Addr) (cl : List (Str × Addr)) (fp : List Addr), DTs (X.blk s H scope (compEnvC scope cl C X.env) fp) ifs wt)
    (he : ∀ (s : Shared) (H : Hp) (C : Addr) (cl : List (Str × Addr)) (fp : List Addr), DE (X.blk s H scope (compEnvC scope cl C X.env) fp) elt we) (hs : ∀ x, foldedSetIterable iter X.env x = pure x := by intro _; rfl) :
    DE X (.ListComp elt [⟨tg, iter, ifs, 0⟩] scope pos) (dLcM (own.map (·.2)) wI wg wt we) := by
  obtain ⟨ti, pi, qi⟩ := hi.ex
  refine ⟨_, pe_lc (g := canG X.K js wg) (tt := canT X.K wt) (te := canE X.K we) hc hN pi ok (fun s H C cl fp => (hg s H C cl fp).can) (fun s H C cl fp => (ht s H C cl fp).can) (fun s H C cl fp => (he s H C cl fp).can) hs, fun b A own' H σ s Ks Q R h k => ?_⟩
  exact lc_run hj qi (fun s1 ms acc => Ks (S.mk s1.es (ms ++ [MO.lst acc]) s1.np) (.mu s1.ms.length)) b A own' H σ s Q R h fun A' own' H' s1 ms acc v R1 U1 ml E1 _ hk => k _ _ _ _ _ (.mu s1.ms.length) R1 U1 E1 hk
/-- name = [..] -/
theorem ds_setLc {i : Nat} {y : Str} {py spos : Pos} {elt tg iter : Expr} {ifs : List Expr} {scope : Scope} (own : List (Str × Nat)) {wI : WI} (hc : X.calm = true) (hN : X.N.Nodup) (hy : X.N[i]? = some y) (hyl : X.env.scope.names.lookup y = some .local)
    (hsw : swapsWith (.ListComp elt [⟨tg, iter, ifs, 0⟩] scope pos) (some (.Name y py)) spos.line X.env = pure true) (hi : DI X tg iter wI) (ok : BlkOk X.N X.env.scope scope own) (hj : ∀ j ∈ js, j ∈ own.map (·.2))
    (hg : ∀ (s : Shared) (H : Hp) (C : Addr) (cl : List (Str × Addr)) (fp : List Addr), DG (X.blk s H scope (compEnvC scope cl C X.env) fp) tg js wg) (ht : ∀ (s : Shared) (H : Hp) (C : Addr) (cl : List (Str × Addr)) (fp : List Addr), DTs (X.blk s H scope (compEnvC scope cl C X.env) fp) ifs wt)
    (he : ∀ (s : Shared) (H : Hp) (C : Addr) (cl : List (Str × Addr)) (fp : List Addr), DE (X.blk s H scope (compEnvC scope cl C X.env) fp) elt we) (hs : ∀ x, foldedSetIterable iter X.env x = pure x := by intro _; rfl) :
    DS X (.Assign [.Name y py] (.ListComp elt [⟨tg, iter, ifs, 0⟩] scope pos) spos) (sAsg (dLc (own.map (·.2)) wI wg wt we) (gN i)) := by
  obtain ⟨ti, pi, qi⟩ := hi.ex
  refine ⟨_, ps_setLc (g := canG X.K js wg) (tt := canT X.K wt) (te := canE X.K we) hc hN hy hyl hsw pi ok (fun s H C cl fp => (hg s H C cl fp).can) (fun s H C cl fp => (ht s H C cl fp).can) (fun s H C cl fp => (he s H C cl fp).can) hs, asg_run (fun b A own' H σ s Ks Q R h k => ?_) (gN_run i)⟩
  exact lc_run hj qi (fun s1 ms acc => Ks ⟨s1.es, takM s1.ms.length s1.ms.length ms, s1.np⟩ (.da (.list acc))) b A own' H σ s Q R h fun A' own' H' s1 ms acc v R1 U1 ml E1 ⟨A2, o2, R2, U2, r⟩ hk => k.da R2 U2 r hk
theorem ds_setLcM {i : Nat} {y : Str} {py spos : Pos} {elt tg iter : Expr} {ifs : List Expr} {scope : Scope} (own : List (Str × Nat)) {wI : WI} (hc : X.calm = true) (hN : X.N.Nodup) (hy : X.N[i]? = some y) (hyl : X.env.scope.names.lookup y = some .local)
    (hsw : swapsWith (.ListComp elt [⟨tg, iter, ifs, 0⟩] scope pos) (some (.Name y py)) spos.line X.env = pure true) (hi : DI X tg iter wI) (ok : BlkOk X.N X.env.scope scope own) (hj : ∀ j ∈ js, j ∈ own.map (·.2))
    (hg : ∀ (s : Shared) (H : Hp) (C : Addr) (cl : List (Str × Addr)) (fp : List Addr), DG (X.blk s H scope (compEnvC scope cl C X.env) fp) tg js wg) (ht : ∀ (s : Shared) (H : Hp) (C : Addr) (cl : List (Str × Addr)) (fp : List Addr), DTs (X.blk s H scope (compEnvC scope cl C X.env) fp) ifs wt)
    (he : ∀ (s : Shared) (H : Hp) (C : Addr) (cl : List (Str × Addr)) (fp : List Addr), DE (X.blk s H scope (compEnvC scope cl C X.env) fp) elt we) (hs : ∀ x, foldedSetIterable iter X.env x = pure x := by intro _; rfl) :
    DS X (.Assign [.Name y py] (.ListComp elt [⟨tg, iter, ifs, 0⟩] scope pos) spos) (sAsg (dLcM (own.map (·.2)) wI wg wt we) (gN i)) := by
  obtain ⟨ti, pi, qi⟩ := hi.ex
  refine ⟨_, ps_setLc (g := canG X.K js wg) (tt := canT X.K wt) (te := canE X.K we) hc hN hy hyl hsw pi ok (fun s H C cl fp => (hg s H C cl fp).can) (fun s H C cl fp => (ht s H C cl fp).can) (fun s H C cl fp => (he s H C cl fp).can) hs, asg_run (fun b A own' H σ s Ks Q R h k => ?_) (gN_run i)⟩
  exact lc_run hj qi (fun s1 ms acc => Ks (S.mk s1.es (ms ++ [MO.lst acc]) s1.np) (.mu s1.ms.length)) b A own' H σ s Q R h fun A' own' H' s1 ms acc v R1 U1 ml E1 _ hk => k _ _ _ _ _ (.mu s1.ms.length) R1 U1 E1 hk
end
end DL
namespace DL
open PySem L2
/-! ### the def's own theorem -/
def nos : Nat → List En
  | 0 => []
  | n + 1 => .no :: nos n
theorem nos_length : ∀ n, (nos n).length = n
  | 0 => rfl
  | n + 1 => congrArg (· + 1) (nos_length n)
theorem gt_nos : ∀ n i, gt (nos n) i = .no
  | 0, _ => rfl
  | n + 1, 0 => rfl
  | n + 1, i + 1 => gt_nos n i
def endD (Ks : List MO → En → Prop) : Dn where
  nx := fun s => Ks (takM s.np s.np s.ms) (.da .none)
  rt := fun s x => match x with | .mu j => Ks s.ms (.mu j) | .da d => Ks (takM s.np s.np s.ms) (.da d) | .no => False
  bk := fun _ => False
  ct := fun _ => False
section
variable {P : Program} {w : World} {K : PySem.W.Frag} {mg : Str → Option Value} {base : Heap}
theorem start_at {A : Addr → Prop} {own : List (List Addr)} {H : Hp} (N : List Str) : ∀ {vs : List V} {xs : List En}, ERL K A own H vs xs → ∀ (n i : Nat), gt (xs ++ nos n) i = .no ∨ ∃ v, (vs.map some ++ List.replicate n none)[i]? = some (some v) ∧ ER K A own H v (gt (xs ++ nos n) i)
  | [], [], _, n, i => .inl (gt_nos n i)
  | v :: vs, x :: xs, ⟨h, _⟩, n, 0 => .inr ⟨v, rfl, h⟩
  | v :: vs, x :: xs, ⟨_, t⟩, n, i + 1 => start_at N t n i
theorem fn_data {x qual : Str} {st : Stmt} {f : Addr} {fd : FuncData} {N ps : List Str} {k : Nat} {sp : SpD} (F : Fun K x qual st f fd) (Sc : FnScope N ps (defScope st)) (W : WS)
    (hb : ∀ (cdv : Value) (A : Around) (outer : List Env) (s : Shared) (H : Hp) (E : XK), RoomG k (A.deeper (PyProof.Rows.envOfC qual (defScope st) s.heap.objs.size f cdv)) → DSs (cxOf CX0 P w K mg base N qual (defScope st) f cdv A outer s H E).nox (defBody st) W)
    (hsp : ∀ xs ms Ks, sp xs ms Ks → xs.length = ps.length → W ⟨xs ++ nos (N.length - ps.length), ms, ms.length⟩ (endD Ks)) : FnOkG P w K mg base CX0 (k + 1) f fd ps (spOf K ps.length sp) := by
  refine fun_okG F Sc (fun vs H Q E h => ?_) (fun cdv A outer s H vs Q E hr h => ?_)
  · obtain ⟨_, _, _, _, _, hn, _⟩ := h
    exact hn
  · obtain ⟨Av, own, xs, ms, Ks, hn, he, ho, hs, k1⟩ := h
    obtain ⟨t, pt, qt⟩ := (hb cdv A outer s H E hr).ex
    have hxl : xs.length = ps.length := he.len.symm.trans hn
    have hN : ps.length ≤ N.length := by
      have := congrArg List.length Sc.pre
      rw [List.length_take] at this
      omega
    refine ⟨t, pt, ?_⟩
    have R : Rel K ⟨H, own, Av⟩ Av own H (start N vs) ⟨xs ++ nos (N.length - ps.length), ms, ms.length⟩ := by
      refine ⟨ho, ?_, fun i => ?_, fun a h => h, fun a o n h => h, fun k a h => .inl ⟨k, h⟩, ?_, ?_, fun a h => .inl h, ho.al⟩
      · show (vs.map some ++ List.replicate (N.length - vs.length) none).length = _
        simp [nos_length, hn, hxl]
      · show gt (xs ++ nos (N.length - ps.length)) i = .no ∨ ∃ v, (vs.map some ++ List.replicate (N.length - vs.length) none)[i]? = some (some v) ∧ _
        rw [hn]
        exact start_at N he _ i
      · show own.take ms.length = own
        rw [← ho.ol]; exact List.take_length
      · show ms.length ≤ own.length
        rw [ho.ol]; exact Nat.le_refl _
    have fin : ∀ (A' : Addr → Prop) (own' : List (List Addr)) (H' : Hp) (σ' : L2.St) (s' : S) (v : V) (x : En), Rel K ⟨H, own, Av⟩ A' own' H' σ' s' → ER K A' own' H' v x → (match x with | .mu j => Ks s'.ms (.mu j) | .da d => Ks (takM s'.np s'.np s'.ms) (.da d) | .no => False) → Q v H' := by
      intro A' own' H' σ' s' v x R' ex hx
      have np : own.length = s'.np := R'.np
      have hpre : own'.take own.length = own := by rw [np]; exact R'.pre
      cases x with
      | no => exact hx.elim
      | mu j => exact k1 A' own' H' v s'.ms (.mu j) R'.toOwn hpre R'.ge R'.lim (fun a o n h => R'.fr a o n h) R'.fo ex hx
      | da d =>
        refine k1 A' (own'.take s'.np) H' v (takM s'.np s'.np s'.ms) (.da d) (R'.toOwn.take _) ?_ R'.ge R'.lim (fun a o n h => R'.fr a o n h) (fun k a h => ?_) ex hx
        · rw [np, List.take_take, Nat.min_self]; exact R'.pre
        · rw [go_take] at h
          split at h
          · exact R'.fo k a h
          · cases h
    refine qt _ _ _ _ _ _ (endD Ks) _ R (hsp xs ms Ks hs hxl) ⟨fun A' own' H' σ' s' R' _ h => fin A' own' H' σ' s' .non (.da .none) R' .non h, fun A' own' H' σ' s' v x R' _ ex h => fin A' own' H' σ' s' v x R' ex h, fun _ _ _ _ _ _ _ h => h.elim, fun _ _ _ _ _ _ _ h => h.elim⟩
end
/-! ### isinstance -/
def tyD : D → String
  | .none => "NoneType"
  | .bool _ => "bool"
  | .int _ => "int"
  | .str _ => "str"
  | .list _ => "list"
  | .tuple _ => "tuple"
  | .dict _ => "dict"
inductive Ty where | int | bool | str | list | tuple
def Ty.nm : Ty → String
  | .int => "int"
  | .bool => "bool"
  | .str => "str"
  | .list => "list"
  | .tuple => "tuple"
def isT : Ty → D → Bool
  | .int, .int _ => true
  | .int, .bool _ => true
  | .bool, .bool _ => true
  | .str, .str _ => true
  | .list, .list _ => true
  | .tuple, .tuple _ => true
  | _, _ => false
theorem rp_ty {K : PySem.W.Frag} {A : Addr → Prop} {H : Hp} {v : V} {d : D} (r : Rp K A H v d) : TyX K H v (.type (tyD d)) := by
  cases r with
  | non => exact .base .non
  | bl c => exact .base (.bl c)
  | int i => exact .base (.int i)
  | str x => exact .base (.str x)
  | lst l r => exact .base (.lst l.1)
  | tup l r =>
    rcases l with l | l
    · exact .base (.tup l.1)
    · rcases l (fun _ => none) with (h | ⟨o, h⟩) | ⟨o, its, n, h, c, _⟩
      · cases h
      · cases h
      · exact .kTuple h c
  | dct l n r => exact .fDict l
theorem isT_kit (T : Ty) {K : PySem.W.Frag} {A : Addr → Prop} {H : Hp} {v : V} {d : D} (r : Rp K A H v d) : PySem.W.kitOne K (.type (tyD d)) (.type T.nm) = some (isT T d) := by
  refine kit_ty ?_
  have key : ∀ T : Ty, kitB "NoneType" T.nm = some false ∧ kitB "bool" T.nm = some (isT T (.bool true)) ∧ kitB "int" T.nm = some (isT T (.int 0)) ∧ kitB "str" T.nm = some (isT T (.str "")) ∧ kitB "list" T.nm = some (isT T (.list [])) ∧ kitB "tuple" T.nm = some (isT T (.tuple [])) ∧ kitB "dict" T.nm = some false := by
    intro T
    cases T <;> decide +kernel
  obtain ⟨k0, k1, k2, k3, k4, k5, k6⟩ := key T
  cases r with
  | non => rw [show isT T .none = false from by cases T <;> rfl]; exact k0
  | bl c => rw [show isT T (.bool c) = isT T (.bool true) from by cases T <;> rfl]; exact k1
  | int i => rw [show isT T (.int i) = isT T (.int 0) from by cases T <;> rfl]; exact k2
  | str x => rw [show isT T (.str x) = isT T (.str "") from by cases T <;> rfl]; exact k3
  | @lst _ _ ds l r => rw [show isT T (.list ds) = isT T (.list []) from by cases T <;> rfl]; exact k4
  | @tup _ _ ds l r => rw [show isT T (.tuple ds) = isT T (.tuple []) from by cases T <;> rfl]; exact k5
  | @dct _ _ _ kvs l n r => rw [show isT T (.dict (kvs.map fun z => (kD z.1, z.2))) = false from by cases T <;> rfl]; exact k6
theorem vw_ty {K : PySem.W.Frag} {b : Bd} {A : Addr → Prop} {own : List (List Addr)} {H : Hp} {σ : L2.St} {s : S} (R : Rel K b A own H σ s) {v : V} {x : En} {d : D} (h : ER K A own H v x) (e : vw s x = some d) : TyX K H v (.type (tyD d)) ∧ ∃ A' v', Rp K A' H v' d := by
  cases x with
  | no => cases e
  | da d' => cases e; exact ⟨rp_ty h, A, v, h⟩
  | mu k =>
    obtain ⟨a, vs, rfl, h1, r⟩ : ∃ a vs, v = .ref a ∧ H a = some (.lst vs) ∧ ∃ ds, d = .list ds ∧ RpL K A H vs ds := by
      obtain ⟨a, r, g, rfl⟩ := h
      have m := R.mr k
      unfold vw at e
      simp only at e
      cases q : gm s.ms k with
      | lst ds =>
        rw [q] at e m
        cases e
        obtain ⟨a', vs, e1, e2, e3⟩ := m
        rw [e1] at g
        cases g
        exact ⟨_, _, rfl, e2, ds, rfl, e3⟩
      | _ => rw [q] at e; cases e
    obtain ⟨ds, rfl, r⟩ := r
    refine ⟨.base (.lst h1), fun _ => False, .ref a, .lst ⟨h1, fun z => z⟩ ?_⟩
    exact RpL.mono (A := A) (H := H) (fun b u n q => ⟨q, fun z => z⟩) r
section
variable {X : Cx} {a b c e : Expr} {wa wb wc we : WE} {pos : Pos}
def dIsi (T : Ty) (wa : WE) : WE := fun s Ks => wa s fun s1 x => onO (vw s1 x) fun d => Ks s1 (.da (.bool (isT T d)))
theorem pe_type {x : Str} {T : String} {p : Pos} (hg : Gl X x) (hm : X.mg x = none) (hv : bootBuiltins x = some (.type T)) (hn : x ≠ "__name__" := by decide) (hd : (x == ("__debug__" : Str)) = false := by decide) : PE X (.Name x p) (tC (.ty T)) := pe_bltn hg hm hv (show RelV (.ty T) (.type T) from rfl) hn hd
theorem de_isi {x : Str} (T : Ty) {p p2 : Pos} (hg : Gl X "isinstance") (hm : X.mg "isinstance" = none) (hg2 : Gl X x) (hm2 : X.mg x = none) (hv2 : bootBuiltins x = some (.type T.nm)) (ha : DE X a wa)
    (hn : x ≠ "__name__" := by decide) (hd : (x == ("__debug__" : Str)) = false := by decide)
    (he : starEach (a :: [.Name x p2]) X.env = (false, eval a X.env) :: starEach [.Name x p2] X.env := by rfl) (hpl : (backTo pos (starEach [.Name x p2] X.env)).any (·.1) = false := by rfl) (he2 : starEach (.Name x p2 :: []) X.env = (false, eval (.Name x p2) X.env) :: starEach [] X.env := by rfl) :
    DE X (.Call (.Name "isinstance" p) [a, .Name x p2] [] pos) (dIsi T wa) := by
  obtain ⟨ta, pa, qa⟩ := ha.ex
  refine ⟨_, pe_callB call_isi hg hm (by decide +kernel) (pa_cons pa (pa_cons (pe_type hg2 hm2 hv2 hn hd) pa_nil he2) he) (he := he) (hpl := hpl), fun b A own H σ s Ks Q R h k => ?_⟩
  show ta σ H fun x H1 => rIsi X.K [x, .ty T.nm] H1 Q
  refine qa _ _ _ _ _ _ _ _ R h fun A1 o1 H1 v1 s1 x1 R1 U1 E1 h1 => ?_
  obtain ⟨d, hd, h1⟩ := onO_inv h1
  obtain ⟨t1, A', v', r'⟩ := vw_ty R1 E1 hd
  exact ⟨v1, .ty T.nm, _, _, _, rfl, .ty T.nm, t1, isT_kit T r', k.da R1 U1 (.bl _) h1⟩
def dIsi2 (T U : Ty) (wa : WE) : WE := fun s Ks => wa s fun s1 x => onO (vw s1 x) fun d => Ks s1 (.da (.bool (isT T d || isT U d)))
theorem de_isi2 {x y : Str} (T U : Ty) {p p2 p3 p4 : Pos} {kk : Nat} (hg : Gl X "isinstance") (hm : X.mg "isinstance" = none) (hg2 : Gl X x) (hm2 : X.mg x = none) (hv2 : bootBuiltins x = some (.type T.nm)) (hg3 : Gl X y) (hm3 : X.mg y = none) (hv3 : bootBuiltins y = some (.type U.nm)) (ha : DE X a wa)
    (hn : x ≠ "__name__" := by decide) (hd : (x == ("__debug__" : Str)) = false := by decide) (hn3 : y ≠ "__name__" := by decide) (hd3 : (y == ("__debug__" : Str)) = false := by decide)
    (he : starEach (a :: [.Tuple [.Name x p2, .Name y p3] kk p4]) X.env = (false, eval a X.env) :: starEach [.Tuple [.Name x p2, .Name y p3] kk p4] X.env := by rfl) (hpl : (backTo pos (starEach [.Tuple [.Name x p2, .Name y p3] kk p4] X.env)).any (·.1) = false := by rfl)
    (he2 : starEach (.Tuple [.Name x p2, .Name y p3] kk p4 :: []) X.env = (false, eval (.Tuple [.Name x p2, .Name y p3] kk p4) X.env) :: starEach [] X.env := by rfl)
    (he3 : starEach (.Name x p2 :: [.Name y p3]) X.env = (false, eval (.Name x p2) X.env) :: starEach [.Name y p3] X.env := by rfl) (he4 : starEach (.Name y p3 :: []) X.env = (false, eval (.Name y p3) X.env) :: starEach [] X.env := by rfl) :
    DE X (.Call (.Name "isinstance" p) [a, .Tuple [.Name x p2, .Name y p3] kk p4] [] pos) (dIsi2 T U wa) := by
  obtain ⟨ta, pa, qa⟩ := ha.ex
  refine ⟨_, pe_callB call_isiT hg hm (by decide +kernel) (pa_cons pa (pa_cons (pe_tup (pa_cons (pe_type hg2 hm2 hv2 hn hd) (pa_cons (pe_type hg3 hm3 hv3 hn3 hd3) pa_nil he4) he3)) pa_nil he2) he) (he := he) (hpl := hpl), fun b A own H σ s Ks Q R h k => ?_⟩
  show ta σ H fun x H1 => (([.ty T.nm, .ty U.nm] : List V).length ≤ sizeLine ∧ ∀ p, H1 p = none → rIsiT X.K [x, .ref p] (upd H1 p (.tup [.ty T.nm, .ty U.nm])) Q)
  refine qa _ _ _ _ _ _ _ _ R h fun A1 o1 H1 v1 s1 x1 R1 U1 E1 h1 => ⟨by show 2 ≤ sizeLine; decide, fun p hp => ?_⟩
  obtain ⟨d, hd, h1⟩ := onO_inv h1
  obtain ⟨R2, U2⟩ := R1.new (o := .tup [.ty T.nm, .ty U.nm]) hp
  obtain ⟨t1, A', v', r'⟩ := vw_ty R2 (E1.up U2) hd
  refine ⟨v1, p, [.ty T.nm, .ty U.nm], _, [.type T.nm, .type U.nm], _, rfl, upd_same, .cons (.ty T.nm) (.cons (.ty U.nm) .nil), t1, ?_, k.da R2 (U1.trans U2) (.bl (isT T d || isT U d)) h1⟩
  refine kitAny_cons (isT_kit T r') (fun e => ?_) (fun e => by rw [e]; rfl)
  refine kitAny_cons (isT_kit U r') (fun e2 => ?_) (fun e2 => by rw [e2, Bool.or_true])
  rw [e, e2]; exact kitAny_nil
end
end DL
namespace DL
open PySem L2 PySem.Spec PyProof.Rows
section
variable {X : Cx} {tg e : Expr} {we : WE}
/-- iter of a list or of a tuple, by the value -/
theorem pie_of {pins : List (Addr × Obj)} {σ : L2.St} {H : Hp} {s : Shared} {Q : It → Hp → Prop} {o : Obj} {J : It} {tn : Nat → Heap → Prop}
    (I : Inv X pins σ H s) (T : Turn X.prog X.w X.K tg J [s.heap.objs.size] s.heap.objs.size tn)
    (t0 : tn 0 (s.heap.push o)) (q : Q J H) :
    PIE X pins σ tg Q (.ref s.heap.objs.size) { s with heap := s.heap.push o } := by
  have fr : H s.heap.objs.size = none := I.hok.fresh (Nat.le_refl _)
  have I2 : Inv X pins σ H { s with heap := s.heap.push o } :=
    I.kept (t' := s.toks) fun b u h => Heap.get?_push_of_some _ h
  refine ⟨_, _, _, _, H, rfl, I2, T, t0, ?_, q⟩
  intro b hb
  cases List.mem_singleton.mp hb
  exact I.fpOk (Nat.le_refl _) fr
def iSeqV (K : PySem.W.Frag) (te : TE) : TI := fun σ H R => te σ H fun x H1 => ∃ a, x = .ref a ∧
  (((∃ xs, SqL K H1 a xs) ∧ R (Itl K a) H1) ∨ ((∃ xs, SqT K H1 a xs) ∧ R (Itt K a) H1))
theorem pi_seq {te : TE} (h : PE X e te) : PI X tg e (iSeqV X.K te) := by
  constructor
  intro pins s σ H R I hw
  refine thn (h.run pins s σ H _ I hw) ?_
  rintro v s1 ⟨x, H1, I1, r1, a, rfl, q⟩
  cases r1
  rcases q with ⟨⟨xs, hx⟩, q⟩ | ⟨⟨xs, hx⟩, q⟩
  · obtain ⟨its, _, p, _⟩ := I1.list hx
    refine wpAny_pyIter_list p.isList ?_
    exact pie_of I1 (turn_list a _) ⟨_, Heap.get?_push_size _ rfl, rfl, rfl⟩ q
  · obtain ⟨its, _, p, _⟩ := I1.tuple hx
    refine wpAny_pyIter_tuple (items := its.toArray) p ?_
    exact pie_of I1 (turn_tuple a _) ⟨_, Heap.get?_push_size _ rfl, rfl, rfl⟩ q
def iSeq (we : WE) : WI := fun s Ks => we s fun s1 x => daI x fun d => onO (seqD d) fun ds => Ks s1 ds
theorem di_seq (he : DE X e we) : DI X tg e (iSeq we) := by
  obtain ⟨te, pe, qe⟩ := he.ex
  refine ⟨_, pi_seq pe, fun b A own H σ s Ks Q R h k => ?_⟩
  show te σ H fun x H1 => ∃ a, x = .ref a ∧ (((∃ xs, SqL X.K H1 a xs) ∧ Q (Itl X.K a) H1) ∨ ((∃ xs, SqT X.K H1 a xs) ∧ Q (Itt X.K a) H1))
  refine qe _ _ _ _ _ _ _ _ R h fun A1 o1 H1 v1 s1 x1 R1 U1 E1 h1 => ?_
  obtain ⟨d, rfl, h2⟩ := daI_inv h1
  obtain ⟨ds, hd, h2⟩ := onO_inv h2
  clear h1
  have E1 : Rp X.K A1 H1 v1 d := E1
  cases E1 with
  | lst l r => cases hd; exact ⟨_, rfl, .inl ⟨⟨_, l.sq⟩, k _ _ _ _ _ _ R1 U1 (wk_list l r) h2⟩⟩
  | tup l r => cases hd; exact ⟨_, rfl, .inr ⟨⟨_, l.sq⟩, k _ _ _ _ _ _ R1 U1 (wk_tup l r) h2⟩⟩
  | non => cases hd
  | dct _ _ _ => cases hd
  | bl c => cases hd
  | int i => cases hd
  | str x => cases hd
end
section
variable {X : Cx} {a b c e : Expr} {wa wb wc we : WE} {pos : Pos} {es : List Expr}
/-- a < b < c -/
def dChain (rd rd' : S → En → En → (S → En → Prop) → Prop) (wa wb wc : WE) : WE := fun s Ks => wa s fun s1 x => wb s1 fun s2 y => rd s2 x y fun s3 z => isB z fun k =>
  (k = true → wc s3 fun s4 w => rd' s4 y w Ks) ∧ (k = false → Ks s3 (.da (.bool false)))
theorem chain_run {r r' : R2} {rd rd'} {ta tb tc : TE} (hd : OpD X.K r rd) (hd' : OpD X.K r' rd')
    (qa : ∀ (b : Bd) (A : Addr → Prop) (own : List (List Addr)) (H : Hp) (σ : L2.St) (s : S) (Ks : S → En → Prop) (Q : VK), Rel X.K b A own H σ s → wa s Ks → PostE X.K b A own H σ Ks Q → ta σ H Q)
    (qb : ∀ (b : Bd) (A : Addr → Prop) (own : List (List Addr)) (H : Hp) (σ : L2.St) (s : S) (Ks : S → En → Prop) (Q : VK), Rel X.K b A own H σ s → wb s Ks → PostE X.K b A own H σ Ks Q → tb σ H Q)
    (qc : ∀ (b : Bd) (A : Addr → Prop) (own : List (List Addr)) (H : Hp) (σ : L2.St) (s : S) (Ks : S → En → Prop) (Q : VK), Rel X.K b A own H σ s → wc s Ks → PostE X.K b A own H σ Ks Q → tc σ H Q)
    (b : Bd) (A : Addr → Prop) (own : List (List Addr)) (H : Hp) (σ : L2.St) (s : S) (Ks : S → En → Prop) (Q : VK) (R : Rel X.K b A own H σ s) (h : dChain rd rd' wa wb wc s Ks) (k : PostE X.K b A own H σ Ks Q) : tChain r r' ta tb tc σ H Q := by
  show ta σ H fun x H1 => tb σ H1 fun y H2 => r x y H2 fun z H3 => ∃ k, z = .bl k ∧ (if k = true then tc σ H3 fun w' H4 => r' y w' H4 Q else Q (.bl false) H3)
  refine qa _ _ _ _ _ _ _ _ R h fun A1 o1 H1 v1 s1 x1 R1 U1 E1 h1 => ?_
  refine qb _ _ _ _ _ _ _ _ R1 h1 fun A2 o2 H2 v2 s2 x2 R2 U2 E2 h2 => ?_
  refine hd _ _ _ _ _ _ _ _ _ _ _ _ R2 (E1.up U2) E2 h2 fun A3 o3 H3 v3 s3 x3 R3 U3 E3 h3 => ?_
  obtain ⟨q, rfl, h4⟩ := isB_inv h3
  cases E3
  refine ⟨q, rfl, ?_⟩
  cases q with
  | true =>
    rw [if_pos rfl]
    refine qc _ _ _ _ _ _ _ _ R3 (h4.1 rfl) fun A4 o4 H4 v4 s4 x4 R4 U4 E4 h5 => ?_
    exact hd' _ _ _ _ _ _ _ _ _ _ _ _ R4 (E2.up (U3.trans U4)) E4 h5 (k.up (((U1.trans U2).trans U3).trans U4))
  | false => rw [if_neg (by decide)]; exact k.da R3 ((U1.trans U2).trans U3) (.bl _) (h4.2 rfl)
theorem de_chain {op op' : CmpOp} {r r' : R2} {rd rd'} (ho : OpR X (compareOp op) r) (ho' : OpR X (compareOp op') r') (hd : OpD X.K r rd) (hd' : OpD X.K r' rd') (ha : DE X a wa) (hb : DE X b wb) (hc : DE X c wc)
    (hm : lastMarks [op, op'] [b, c] = false := by with_unfolding_all rfl) : DE X (.Compare a [op, op'] [b, c] pos) (dChain rd rd' wa wb wc) := by
  obtain ⟨ta, pa, qa⟩ := ha.ex
  obtain ⟨tb, pb, qb⟩ := hb.ex
  obtain ⟨tc, pc, qc⟩ := hc.ex
  exact ⟨_, pe_chain ho ho' pa pb pc hm, chain_run hd hd' qa qb qc⟩
theorem dt_chain {op op' : CmpOp} {r r' : R2} {rd rd'} (ho : OpR X (compareOp op) r) (ho' : OpR X (compareOp op') r') (hd : OpD X.K r rd) (hd' : OpD X.K r' rd') (ha : DE X a wa) (hb : DE X b wb) (hc : DE X c wc)
    (hm : lastMarks [op, op'] [b, c] = false := by with_unfolding_all rfl) : DT X (.Compare a [op, op'] [b, c] pos) (tT (dChain rd rd' wa wb wc)) := by
  obtain ⟨ta, pa, qa⟩ := ha.ex
  obtain ⟨tb, pb, qb⟩ := hb.ex
  obtain ⟨tc, pc, qc⟩ := hc.ex
  exact ⟨_, pt_chain ho ho' pa pb pc hm, tT_run (chain_run hd hd' qa qb qc)⟩
/-! ### texts -/
def dAddS : WE → WE → WE := d2 fun s x y Ks => match x, y with | .da (.str i), .da (.str j) => i.length + j.length ≤ sizeLine ∧ Ks s (.da (.str (i ++ j))) | _, _ => False
theorem opd_addS {K : PySem.W.Frag} : OpD K (fun x y H Q => ∃ i j, x = .str i ∧ y = .str j ∧ i.length + j.length ≤ sizeLine ∧ Q (.str (i ++ j)) H) (fun s x y Ks => match x, y with | .da (.str i), .da (.str j) => i.length + j.length ≤ sizeLine ∧ Ks s (.da (.str (i ++ j))) | _, _ => False) := by
  intro b A own H σ s vx vy x y Ks Q R ex ey h k
  split at h
  · cases ex; cases ey
    exact ⟨_, _, rfl, rfl, h.1, k.da R Up.refl (.str _) h.2⟩
  · exact h.elim
theorem de_addS (ha : DE X a wa) (hb : DE X b wb) : DE X (.BinOp a .Add b pos) (dAddS wa wb) := de_op op_add_str opd_addS ha hb
/-- list + list: a new one -/
def dCat : WE → WE → WE := d2 fun s x y Ks => vw2 s x y fun d e => match d, e with | .list i, .list j => i.length + j.length ≤ sizeLine ∧ Ks s (.da (.list (i ++ j))) | _, _ => False
def dCatM : WE → WE → WE := d2 fun s x y Ks => vw2 s x y fun d e => match d, e with | .list i, .list j => i.length + j.length ≤ sizeLine ∧ Ks (s.aM (.lst (i ++ j))) (.mu s.ms.length) | _, _ => False
theorem opd_cat {K : PySem.W.Frag} : OpD K rCat (fun s x y Ks => vw2 s x y fun d e => match d, e with | .list i, .list j => i.length + j.length ≤ sizeLine ∧ Ks s (.da (.list (i ++ j))) | _, _ => False) := by
  intro b A own H σ s vx vy x y Ks Q R ex ey h k
  obtain ⟨d, hd, h⟩ := onO_inv h
  obtain ⟨e, he, h⟩ := onO_inv h
  split at h
  · obtain ⟨p, vs, rfl, q, r⟩ := vw_lstH R ex hd
    obtain ⟨p', vs', rfl, q', r'⟩ := vw_lstH R ey he
    exact ⟨p, p', vs, vs', rfl, rfl, q, q', by rw [r.length, r'.length]; exact h.1, fun z hz => new_lst R k (r.append r') hz h.2⟩
  · exact h.elim
theorem opd_catM {K : PySem.W.Frag} : OpD K rCat (fun s x y Ks => vw2 s x y fun d e => match d, e with | .list i, .list j => i.length + j.length ≤ sizeLine ∧ Ks (s.aM (.lst (i ++ j))) (.mu s.ms.length) | _, _ => False) := by
  intro b A own H σ s vx vy x y Ks Q R ex ey h k
  obtain ⟨d, hd, h⟩ := onO_inv h
  obtain ⟨e, he, h⟩ := onO_inv h
  split at h
  · obtain ⟨p, vs, rfl, q, r⟩ := vw_lstH R ex hd
    obtain ⟨p', vs', rfl, q', r'⟩ := vw_lstH R ey he
    exact ⟨p, p', vs, vs', rfl, rfl, q, q', by rw [r.length, r'.length]; exact h.1, fun z hz => new_mu R k (r.append r') hz h.2⟩
  · exact h.elim
theorem de_cat (ha : DE X a wa) (hb : DE X b wb) : DE X (.BinOp a .Add b pos) (dCat wa wb) := de_op op_cat opd_cat ha hb
theorem de_catM (ha : DE X a wa) (hb : DE X b wb) : DE X (.BinOp a .Add b pos) (dCatM wa wb) := de_op op_cat opd_catM ha hb
end
/-! ### the law's draws -/
/-- a number drawn below many; the fuel is one less -/
def spTake : SpD := fun xs ms Ks => match xs, ms with
  | [.mu 0, .da (.int many)], [.rnd n] => 1 ≤ n ∧ CDivW 0 many ∧ ∀ d, 0 ≤ d → d < many → Ks [.rnd (n - 1)] (.da (.int d))
  | _, _ => False
def spTakeH : Sp := fun vs H Q _ => ∃ (a c : Addr) (cs : List Int) (t many : Int), vs = [.ref a, .int many] ∧ H a = some (.dK [(.inr "cells", .ref c), (.inr "turn", .int t)]) ∧ H c = some (.lst (cs.map V.int)) ∧
  1 ≤ cs.length ∧ cs.length ≤ 63 ∧ 0 ≤ t ∧ t + 1 ≤ turnMax ∧ CDivW 0 many ∧
  ∀ (H' : Hp) (cs' : List Int) (d : Int), (∀ b o, b ≠ a → b ≠ c → H b = some o → H' b = some o) → H' a = some (.dK [(.inr "cells", .ref c), (.inr "turn", .int (t + 1))]) → H' c = some (.lst (cs'.map V.int)) → cs'.length = cs.length → 0 ≤ d → d < many → Q (.int d) H'
theorem spTake_imp {K : PySem.W.Frag} {vs : List V} {H : Hp} {Q : VK} {E : XK} (h : spOf K 2 spTake vs H Q E) : spTakeH vs H Q E := by
  obtain ⟨A, own, xs, ms, Ks, hn, he, ho, hs, k⟩ := h
  unfold spTake at hs
  split at hs
  · rename_i many n
    obtain ⟨h1, h2, h3⟩ := hs
    match vs, he with
    | [v, u], ⟨e1, e2, _⟩ =>
      cases e2
      obtain ⟨a, r, g, rfl⟩ := e1
      have m := ho.mr 0
      obtain ⟨a', c, cs, t, e1, ha, hc, l1, l2, t0, t1⟩ := (show MR K A own H (go own 0) (.rnd n) from m)
      rw [e1] at g
      cases g
      refine ⟨a, c, cs, t, many, rfl, ha, hc, l1, l2, t0, by omega, h2, fun H' cs' d fr ha' hc' hl d0 d1 => ?_⟩
      have ol : own.length = 1 := ho.ol
      have own_eq : own = [[a, c]] := by
        match own, ol, e1 with
        | [l], _, e => exact congrArg (fun x => [x]) e
      subst own_eq
      refine k A [[a, c]] H' (.int d) [.rnd (n - 1)] (.da (.int d)) ⟨rfl, fun j => ?_, ho.dj, ho.ld, ho.oa, fun b hb => ?_⟩ rfl (fun _ h => h) (fun _ h => .inl h) (fun b o hb q => fr b o (fun z => hb 0 (by subst z; exact List.mem_cons_self)) (fun z => hb 0 (by subst z; exact List.mem_cons_of_mem _ List.mem_cons_self)) q) (fun j b hb => .inl ⟨j, hb⟩) (.int d) (h3 d d0 d1)
      · match j with
        | 0 => exact ⟨a, c, cs', t + 1, rfl, ha', hc', by omega, by omega, by omega, by omega⟩
        | j + 1 => trivial
      · by_cases q : b = a
        · subst q; rw [ha']; intro z; cases z
        · by_cases q2 : b = c
          · subst q2; rw [hc']; intro z; cases z
          · intro z
            cases e : H b with
            | none => exact ho.al b hb e
            | some o => rw [fr b o q q2 e] at z; cases z
  · exact hs.elim
/-- the script's state made -/
def spBeginH (K : PySem.W.Frag) : Sp := fun vs H Q _ => ∃ (s : Addr) (ns : List Int), vs = [.ref s] ∧ SqL K H s (ns.map V.int) ∧
  ∀ (H' : Hp) (a c : Addr) (cs : List Int), (∀ b o, H b = some o → H' b = some o) → H' a = some (.dK [(.inr "cells", .ref c), (.inr "turn", .int 0)]) → H' c = some (.lst (cs.map V.int)) → H a = none → H c = none → a ≠ c → 1 ≤ cs.length → cs.length ≤ 63 → Q (.ref a) H'
/-- the law's own promise -/
def spLawH (K : PySem.W.Frag) : Sp := fun vs H Q _ => ∃ (a : Addr) (ns : List Int), vs = [.ref a] ∧ SqL K H a (ns.map V.int) ∧ ns.length ≤ 63 ∧ ∀ H', Q (.bl true) H'
def fuel0 : Nat := 1000000000000
def endLaw : Dn where
  nx := fun _ => False
  rt := fun _ x => x = .da (.bool true)
  bk := fun _ => False
  ct := fun _ => False
end DL
namespace DL
open PySem L2 PySem.Spec PyProof.Rows
/-! ### ways -/
section
variable {p : Prop} [Decidable p] {A B : Prop}
theorem bT (h : p) (a : A) : (decide p = true → A) ∧ (decide p = false → B) := ⟨fun _ => a, fun z => absurd h (of_decide_eq_false z)⟩
theorem bF (h : ¬ p) (b : B) : (decide p = true → A) ∧ (decide p = false → B) := ⟨fun z => absurd (of_decide_eq_true z) h, fun _ => b⟩
theorem bS (a : p → A) (b : ¬ p → B) : (decide p = true → A) ∧ (decide p = false → B) := ⟨fun z => a (of_decide_eq_true z), fun z => b (of_decide_eq_false z)⟩
theorem nF (h : p) (b : B) : ((!decide p) = true → A) ∧ ((!decide p) = false → B) := ⟨fun z => (by rw [decide_eq_true h] at z; cases z), fun _ => b⟩
theorem nT (h : ¬ p) (a : A) : ((!decide p) = true → A) ∧ ((!decide p) = false → B) := ⟨fun _ => a, fun z => by rw [decide_eq_false h] at z; cases z⟩
theorem nS (a : ¬ p → A) (b : p → B) : ((!decide p) = true → A) ∧ ((!decide p) = false → B) := ⟨fun z => a fun h => (by rw [decide_eq_true h] at z; cases z), fun z => b (Classical.byContradiction fun h => by rw [decide_eq_false h] at z; cases z)⟩
theorem tt (a : A) : (true = true → A) ∧ (true = false → B) := ⟨fun _ => a, fun z => by cases z⟩
theorem ff (b : B) : (false = true → A) ∧ (false = false → B) := ⟨fun z => (by cases z), fun _ => b⟩
end
theorem nd1 {k : Nat} : ([k] : List Nat).Nodup := List.nodup_cons.mpr ⟨List.not_mem_nil, List.nodup_nil⟩
theorem ip {a b : Nat} (h : a ≤ b) : (10 : Int) ^ a ≤ 10 ^ b := by
  have h2 : ((10 ^ a : Nat) : Int) ≤ ((10 ^ b : Nat) : Int) := Int.ofNat_le.mpr (Nat.pow_le_pow_right (by decide) h)
  simpa using h2
theorem mulA {a b : Int} (x y : Nat) (ha : a.natAbs < 2 ^ x) (hb : b.natAbs < 2 ^ y) (h : x + y ≤ 134217728 := by decide) : CMulX a b := mulx_ok ha hb h
theorem divA {a b : Int} (x : Nat) (h : 0 < b) (hb : b.natAbs < 2 ^ x) (h0 : 0 < x := by decide) (h9 : x ≤ 9000 := by decide) : CDivW a b := wide_div h hb h0 h9
theorem pw10 {k : Int} (h : 0 ≤ k) (h2 : k ≤ 1000000) : CPow 10 k := ⟨h, h2, by decide⟩
/-! ### calls by facts of the top -/
def muks : List En → List Nat
  | [] => []
  | .mu k :: r => k :: muks r
  | _ :: r => muks r
def CallV (sp : SpD) : S → List En → (S → En → Prop) → Prop := fun s xs Ks => (muks xs).Nodup ∧ CallW sp (muks xs) s xs Ks
structure At (K : PySem.W.Frag) (mg : Str → Option Value) (x : Str) (st : Stmt) (ps : List Str) (f : Addr) (fd : FuncData) : Prop where
  F : Fun K x x st f fd
  g : mg x = some (.ref f)
  kp : PySem.W.keepIn K (.ref f) = true
  b : Binds K fd ps []
structure Ok (P : Program) (w : World) (K : PySem.W.Frag) (mg : Str → Option Value) (base : Heap) (k : Nat) (x : Str) (st : Stmt) (ps : List Str) (n : Nat) (sp : SpD) : Prop where
  ex : ∃ f fd, At K mg x st ps f fd ∧ FnOkG P w K mg base CX0 k f fd ps (spOf K n sp)
section
variable {X : Cx} {e : Expr} {es : List Expr} {wr : WA}
theorem de_callV {k : Nat} {st : Stmt} {ps : List Str} {sp : SpD} {x : Str} {p pos : Pos} {n : Nat} (O : Ok X.prog X.w X.K X.mg X.base k x st ps n sp) (hr : RoomG k X.A) (hg : Gl X x)
    (ha : DAn X (e :: es) n wr) (hdb : (x == ("__debug__" : Str)) = false := by decide) (he : starEach (e :: es) X.env = (false, eval e X.env) :: starEach es X.env := by rfl) (hpl : (backTo pos (starEach es X.env)).any (·.1) = false := by rfl) :
    DE X (.Call (.Name x p) (e :: es) [] pos) (dCall (CallV sp) wr) := by
  obtain ⟨f, fd, a, F⟩ := O.ex
  obtain ⟨ta, pa, qa⟩ := ha.ex
  refine ⟨_, pe_callG F hr.r hr.g hg a.g a.kp a.b .nil (pass0 (X := X)) pa hdb he hpl, fun b A own H σ s Ks Q R h kk => ?_⟩
  show ta σ H fun vs H1 => spOf X.K n sp (vs ++ []) H1 Q E0
  refine qa _ _ _ _ _ _ _ _ R h fun A1 o1 H1 vs s1 xs R1 U1 E1 h1 => ?_
  rw [List.append_nil]
  exact callW_run h1.2.1 (E1.len.trans h1.1) R1 E1 h1.2.2 (kk.up U1)
/-- the slot's object fixed, if it is one -/
def sFrzV (i : Nat) (w : WS) : WS := fun s D => match gt s.es i with | .mu k => frzW k s fun s1 => w s1 D | _ => w s D
theorem dss_frzV {sts : List Stmt} {w : WS} (i : Nat) (h : DSs X sts w) : DSs X sts (sFrzV i w) := by
  obtain ⟨t, p, q⟩ := h.ex
  refine ⟨t, p, fun b A own H σ s D E R h m => ?_⟩
  unfold sFrzV at h
  split at h
  · rename_i k _
    unfold frzW at h
    split at h
    · rename_i ds g
      obtain ⟨R1, k1, _⟩ := R.frz g h.1
      exact q _ _ _ _ _ _ _ _ R1 h.2 (m.up k1)
    · exact h.elim
  · exact q _ _ _ _ _ _ _ _ R h m
end
section
variable {P : Program} {w : World} {K : PySem.W.Frag} {mg : Str → Option Value} {base : Heap}
theorem hu64 {k : Nat} {A : Around} (hr : RoomG k A) : A.units + 64 < cLine := by have := hr.r.un; omega
theorem hu1 {k : Nat} {A : Around} (hr : RoomG k A) : A.units + 1 < cLine := by have := hr.r.un; omega
theorem hu1R {k : Nat} {A : Around} (hr : Room k A) : A.units + 1 < cLine := by have := hr.un; omega
/-- the law: its state begun, then the rest by the D-layer -/
theorem ok_law {x qual : Str} {st : Stmt} {f fB : Addr} {fd fdB : FuncData} {N : List Str} {k : Nat} {rest : List Stmt} {W : WS} {p1 p2 p3 p4 p5 : Pos} {n : Nat}
    (F : Fun K x qual st f fd) (Sc : FnScope N ["_law_script"] (defScope st))
    (hbd : defBody st = .Assign [.Name "_law_state" p1] (.Call (.Name "_law_begin" p2) [.Name "_law_script" p3] [] p4) p5 :: rest)
    (hN : N = ("_law_script" : Str) :: ("_law_state" : Str) :: N.drop 2) (hn : (N.drop 2).length = n)
    (hloc : Loc (defScope st) ("_law_state" : Str)) (hs0 : Vis (defScope st) ("_law_script" : Str))
    (hgl : (defScope st).names.lookup ("_law_begin" : Str) = some .globalImplicit)
    (GB : FnOk P w K mg base CX0 k fB fdB ["_law_script"] (spBeginH K)) (FB : PySem.W.keepIn K (.ref fB) = true) (bB : Binds K fdB ["_law_script"] []) (gB : mg "_law_begin" = some (.ref fB))
    (hb : ∀ (cdv : Value) (A : Around) (outer : List Env) (s : Shared) (H : Hp) (E : XK), RoomG k (A.deeper (PyProof.Rows.envOfC qual (defScope st) s.heap.objs.size f cdv)) → DSs (cxOf CX0 P w K mg base N qual (defScope st) f cdv A outer s H E).nox rest W)
    (hW : W ⟨.no :: .mu 0 :: nos n, [.rnd fuel0], 0⟩ endLaw) : FnOkG P w K mg base CX0 (k + 1) f fd ["_law_script"] (spLawH K) := by
  refine fun_okG F Sc (fun vs H Q E h => ?_) (fun cdv A outer s H vs Q E hr h => ?_)
  · obtain ⟨a, ns, rfl, _⟩ := h
    rfl
  · obtain ⟨a, ns, rfl, hS, hlen, q⟩ := h
    obtain ⟨t, pt, qt⟩ := (hb cdv A outer s H E hr).ex
    have e0 : N[0]? = some ("_law_script" : Str) := by rw [hN]; rfl
    have e1 : N[1]? = some ("_law_state" : Str) := by rw [hN]; rfl
    rw [hbd]
    refine ⟨_, pss_cons (ps_set (i := 1) Sc.nd e1 hloc (pe_call GB hr.r hgl gB FB bB .nil pass0 (pa_cons (pe_var e0 hs0) pa_nil)) (hf := .inl rfl)) pt, ?_⟩
    have hst : L2.start N [V.ref a] = some (V.ref a) :: none :: List.replicate n none := by
      unfold L2.start
      rw [hN]
      simp [List.replicate_succ, hn]
    rw [hst]
    refine ⟨.ref a, rfl, a, ns, rfl, hS, fun H1 ad c cs hx ha hc na nc hac l1 l2 => ?_⟩
    refine qt ⟨H, [], fun _ => False⟩ (fun b => b = ad ∨ b = c) [[ad, c]] H1 _ ⟨.no :: .mu 0 :: nos n, [.rnd fuel0], 0⟩ endLaw _ ⟨⟨rfl, fun j => ?_, fun j j' b h1 h2 => ?_, fun j => ?_, fun j b hb => ?_, fun b hb => ?_⟩, ?_, fun i => ?_, fun _ h => h.elim, fun b o _ h => hx b o h, fun j b hb => ?_, rfl, Nat.zero_le _, fun b hb => ?_, fun _ h => h.elim⟩ hW ?_
    · match j with
      | 0 => exact ⟨ad, c, cs, 0, rfl, ha, hc, l1, l2, by omega, by decide⟩
      | j + 1 => trivial
    · match j, j', h1, h2 with
      | 0, 0, _, _ => rfl
      | 0, j' + 1, _, h2 => cases h2
      | j + 1, _, h1, _ => cases h1
    · match j with
      | 0 => exact List.nodup_cons.mpr ⟨by simpa using hac, by simp⟩
      | j + 1 => exact List.nodup_nil
    · match j, hb with
      | 0, hb =>
        rcases List.mem_cons.mp hb with rfl | hb
        · exact .inl rfl
        · exact .inr (List.mem_singleton.mp hb)
      | j + 1, hb => cases hb
    · rcases hb with rfl | rfl
      · rw [ha]; intro z; cases z
      · rw [hc]; intro z; cases z
    · show (((some (V.ref a) :: none :: List.replicate n none).set 1 (some (V.ref ad))).length = _)
      simp [nos_length]
    · match i with
      | 0 => exact .inl rfl
      | 1 => exact .inr ⟨.ref ad, rfl, ad, [c], rfl, rfl⟩
      | i + 2 => exact .inl (gt_nos n i)
    · match j, hb with
      | 0, hb =>
        rcases List.mem_cons.mp hb with rfl | hb
        · exact .inr na
        · cases List.mem_singleton.mp hb; exact .inr nc
      | j + 1, hb => cases hb
    · rcases hb with rfl | rfl
      · exact .inr na
      · exact .inr nc
    · refine ⟨fun A' own' H' σ' s' R' _ h => h.elim, fun A' own' H' σ' s' v x R' _ ex h => ?_, fun _ _ _ _ _ _ _ h => h.elim, fun _ _ _ _ _ _ _ h => h.elim⟩
      cases (show x = .da (.bool true) from h)
      cases ex
      exact q H'
def st0 (xs : List En) (n0 : Nat) (ms : List MO) (np : Nat) : S := ⟨xs ++ nos n0, ms, np⟩
theorem ok_data {x : Str} {st : Stmt} {N ps : List Str} {k n n0 : Nat} {sp : SpD} (hF : ∃ f fd, At K mg x st ps f fd) (Sc : FnScope N ps (defScope st)) (W : WS)
    (hb : ∀ (f : Addr) (cdv : Value) (A : Around) (outer : List Env) (s : Shared) (H : Hp) (E : XK), RoomG k (A.deeper (PyProof.Rows.envOfC x (defScope st) s.heap.objs.size f cdv)) → DSs (cxOf CX0 P w K mg base N x (defScope st) f cdv A outer s H E).nox (defBody st) W)
    (hsp : ∀ xs ms Ks, sp xs ms Ks → xs.length = n → W (st0 xs n0 ms ms.length) (endD Ks)) (hn : ps.length = n := by rfl) (hn0 : N.length - ps.length = n0 := by rfl) : Ok P w K mg base (k + 1) x st ps n sp := by
  obtain ⟨f, fd, a⟩ := hF
  subst hn
  subst hn0
  exact ⟨f, fd, a, fn_data a.F Sc W (hb f) hsp⟩
end
end DL
namespace DL
open PySem L2 PySem.Spec PyProof.Rows
/-! ### a law's own sameness -/
mutual
/-- data that a law's sameness takes; bo: truths, too -/
def okS (bo : Bool) : D → Bool
  | .none => true
  | .bool _ => bo
  | .int _ => true
  | .str x => PyData.canLay0 (.str x)
  | .list ds => okSs bo ds && decide (ds.length ≤ sizeLine)
  | .tuple ds => okSs bo ds && decide (ds.length ≤ sizeLine)
  | .dict _ => false
def okSs (bo : Bool) : List D → Bool
  | [] => true
  | d :: r => okS bo d && okSs bo r
end
mutual
theorem okS_lay {bo : Bool} : ∀ {d : D}, okS bo d = true → d.canLay0 = true
  | .none, _ => by simp [PyData.canLay0]
  | .bool _, _ => by simp [PyData.canLay0]
  | .int _, _ => by simp [PyData.canLay0]
  | .str x, h => by simpa [okS] using h
  | .list ds, h => by
    simp only [okS, Bool.and_eq_true] at h
    simpa [PyData.canLay0] using okSs_lay h.1
  | .tuple ds, h => by
    simp only [okS, Bool.and_eq_true] at h
    simpa [PyData.canLay0] using okSs_lay h.1
  | .dict _, h => by simp [okS] at h
theorem okSs_lay {bo : Bool} : ∀ {ds : List D}, okSs bo ds = true → PyData.canLayAll0 ds = true
  | [], _ => by simp [PyData.canLayAll0]
  | d :: r, h => by
    simp only [okSs, Bool.and_eq_true] at h
    simp [PyData.canLayAll0, okS_lay h.1, okSs_lay h.2]
end
theorem okSs_get {bo : Bool} : ∀ {ds : List D} {i : Nat} {d : D}, okSs bo ds = true → ds[i]? = some d → okS bo d = true
  | [], _, _, _, h => by simp at h
  | x :: r, 0, d, h, e => by
    simp only [okSs, Bool.and_eq_true] at h
    simp at e; subst e; exact h.1
  | x :: r, i + 1, d, h, e => by
    simp only [okSs, Bool.and_eq_true] at h
    exact okSs_get h.2 (by simpa using e)
theorem okSs_of {bo : Bool} : ∀ {ds : List D}, (∀ d ∈ ds, okS bo d = true) → okSs bo ds = true
  | [], _ => rfl
  | x :: r, h => by
    simp only [okSs, Bool.and_eq_true]
    exact ⟨h _ (by simp), okSs_of fun d q => h d (by simp [q])⟩
theorem depth_get : ∀ {ds : List D} {i : Nat} {d : D}, ds[i]? = some d → d.depth ≤ PyData.depthAll ds
  | [], _, _, h => by simp at h
  | x :: r, 0, d, e => by
    simp at e; subst e; simp only [PyData.depthAll]; omega
  | x :: r, i + 1, d, e => by
    have := depth_get (ds := r) (by simpa using e)
    simp only [PyData.depthAll]; omega
theorem depth_of {n : Nat} : ∀ {ds : List D}, (∀ d ∈ ds, d.depth ≤ n) → PyData.depthAll ds ≤ n
  | [], _ => by simp [PyData.depthAll]
  | x :: r, h => by
    have h1 := h x (by simp)
    have h2 := depth_of (n := n) (ds := r) fun d q => h d (by simp [q])
    simp only [PyData.depthAll]; omega
/-- the same data: True -/
def spSame (bo : Bool) (n : Nat) : SpD := fun xs ms Ks => match xs, ms with
  | [.da d, .da e], [] => d = e ∧ okS bo d = true ∧ d.depth < n ∧ n ≤ 60 ∧ Ks [] (.da (.bool true))
  | _, _ => False
theorem shaped_of {bo : Bool} {d : D} (h : okS bo d = true) (hd : d.depth ≤ 64) : SeqAt.shaped d = true := by
  show (d.canLay0 && decide (d.depth ≤ 64)) = true
  rw [okS_lay h, decide_eq_true hd]; rfl
theorem Ok.none {P : Program} {w : World} {K : PySem.W.Frag} {mg : Str → Option Value} {base : Heap} {x : Str} {st : Stmt} {ps : List Str} {n : Nat} {sp : SpD} (hF : ∃ f fd, At K mg x st ps f fd) (h : ∀ xs ms Ks, ¬ sp xs ms Ks) : Ok P w K mg base 0 x st ps n sp := by
  obtain ⟨f, fd, a⟩ := hF
  refine ⟨f, fd, a, ⟨fun vs H Q E q => ?_, fun A outer s H args us vs Q E hr _ he hb hv hs => ?_⟩⟩
  · obtain ⟨_, _, _, _, _, _, _, _, q, _⟩ := q
    exact (h _ _ _ q).elim
  · obtain ⟨_, _, _, _, _, _, _, _, q, _⟩ := hs
    exact (h _ _ _ q).elim
theorem nFr {α : Type} {a : α} [Decidable (a = a)] {A B : Prop} (b : B) : ((!decide (a = a)) = true → A) ∧ ((!decide (a = a)) = false → B) := nF rfl b
theorem bTr {α : Type} {a : α} [Decidable (a = a)] {A B : Prop} (x : A) : (decide (a = a) = true → A) ∧ (decide (a = a) = false → B) := bT rfl x
theorem xT {c : Bool} {A B : Prop} (h : c = true) (a : A) : (c = true → A) ∧ (c = false → B) := ⟨fun _ => a, fun z => by rw [h] at z; cases z⟩
theorem xF {c : Bool} {A B : Prop} (h : c = false) (b : B) : (c = true → A) ∧ (c = false → B) := ⟨fun z => (by rw [h] at z; cases z), fun _ => b⟩
theorem xnF {c : Bool} {A B : Prop} (h : c = true) (b : B) : ((!c) = true → A) ∧ ((!c) = false → B) := ⟨fun z => (by rw [h] at z; cases z), fun _ => b⟩
theorem xnT {c : Bool} {A B : Prop} (h : c = false) (a : A) : ((!c) = true → A) ∧ ((!c) = false → B) := ⟨fun _ => a, fun z => by rw [h] at z; cases z⟩
theorem onO_mk {α : Type} {o : Option α} {f : α → Prop} {x : α} (h : o = some x) (k : f x) : onO o f := by subst h; exact k
/-- all of these calls told True -/
theorem all_true : ∀ n : Nat, (List.replicate n true).all id = true
  | 0 => rfl
  | n + 1 => by rw [List.replicate_succ, List.all_cons, all_true n]; rfl
end DL
namespace DL
open PySem L2 PySem.Spec PyProof.Rows
section
variable {X : Cx} {a b c e : Expr} {wa wb wc we : WE} {pos : Pos} {es : List Expr} {wr : WA}
/-- xs[::-1] of a list: new data -/
def dRevL (we : WE) : WE := fun s Ks => we s fun s1 x => onO (vw s1 x) fun d => match d with | .list ds => Ks s1 (.da (.list ds.reverse)) | _ => False
theorem de_revL {k : Nat} {p1 p2 p3 : Pos} (he : DE X e we) : DE X (.Subscript e (.Slice none none (some (.UnaryOp .USub (.Constant (.int 1) k p1) p2)) p3) pos) (dRevL we) := by
  obtain ⟨te, pe, qe⟩ := he.ex
  refine ⟨_, pe_revL pe, fun b A own H σ s Ks Q R h k => ?_⟩
  show te σ H fun x H1 => ∃ a xs, x = .ref a ∧ SqL X.K H1 a xs ∧ ∀ p, H1 p = none → Q (.ref p) (upd H1 p (.lst xs.reverse))
  refine qe _ _ _ _ _ _ _ _ R h fun A1 o1 H1 v1 s1 x1 R1 U1 E1 h1 => ?_
  obtain ⟨d, hd, h1⟩ := onO_inv h1
  split at h1
  · obtain ⟨a, vs, rfl, q, r⟩ := vw_lst R1 E1 hd
    exact ⟨a, vs, rfl, q, fun p hp => new_lst R1 (k.up U1) r.reverse hp h1⟩
  · exact h1.elim
end
end DL
namespace DL
open PySem L2 PySem.Spec PyProof.Rows
/-! ### a call that only reads: objects that change are lent as data; what comes back is a number, a truth, a text or None -/
def viL (s : S) : List En → Option (List En)
  | [] => some []
  | x :: r => match vw s x with
    | some d => (match viL s r with | some ys => some (.da d :: ys) | none => none)
    | none => none
def scD : D → Bool
  | .none => true
  | .bool _ => true
  | .int _ => true
  | .str _ => true
  | _ => false
theorem Rp.scal {K : PySem.W.Frag} {A A' : Addr → Prop} {H H' : Hp} {v : V} {d : D} (r : Rp K A H v d) (h : scD d = true) : Rp K A' H' v d := by
  cases r with
  | non => exact .non
  | bl c => exact .bl c
  | int i => exact .int i
  | str x => exact .str x
  | lst l r => cases h
  | tup l r => cases h
  | dct l n r => cases h
theorem vi_er {K : PySem.W.Frag} {b : Bd} {A : Addr → Prop} {own : List (List Addr)} {H : Hp} {σ : L2.St} {s : S} (R : Rel K b A own H σ s) {v : V} {x : En} {d : D} (h : ER K A own H v x) (e : vw s x = some d) : Rp K (fun _ => False) H v d := by
  have kp : Kp A H (fun _ => False) H := fun _ _ _ r => ⟨r, fun z => z⟩
  cases x with
  | no => cases e
  | da d' => cases e; exact Rp.mono kp h
  | mu k =>
    obtain ⟨a, r, g, rfl⟩ := h
    have m := R.mr k
    unfold vw at e
    simp only at e
    cases q : gm s.ms k with
    | lst ds =>
      rw [q] at e m
      cases e
      obtain ⟨a', vs, e1, e2, e3⟩ := m
      rw [e1] at g
      cases g
      exact .lst ⟨e2, fun z => z⟩ (RpL.mono kp e3)
    | gone => rw [q] at e; cases e
    | dct _ => rw [q] at e; cases e
    | rnd _ => rw [q] at e; cases e
    | box _ => rw [q] at e; cases e
    | tab _ => rw [q] at e; cases e
    | ins _ _ => rw [q] at e; cases e
theorem vi_erl {K : PySem.W.Frag} {b : Bd} {A : Addr → Prop} {own : List (List Addr)} {H : Hp} {σ : L2.St} {s : S} (R : Rel K b A own H σ s) : ∀ {vs : List V} {xs ys : List En}, ERL K A own H vs xs → viL s xs = some ys → ERL K (fun _ => False) [] H vs ys
  | [], [], _, _, e => by cases e; trivial
  | v :: vs, x :: xs, ys, ⟨h, t⟩, e => by
    unfold viL at e
    split at e
    · rename_i d q
      split at e
      · rename_i zs q2
        cases e
        exact ⟨vi_er R h q, vi_erl R t q2⟩
      · cases e
    · cases e
def CallB (sp : SpD) : S → List En → (S → En → Prop) → Prop := fun s xs Ks => onO (viL s xs) fun ys => sp ys [] fun _ r => daI r fun d => scD d = true ∧ Ks s (.da d)
theorem Own.none (K : PySem.W.Frag) (H : Hp) : Own K (fun _ => False) [] H [] := ⟨rfl, fun _ => trivial, fun _ _ _ h => (by cases h), fun _ => List.nodup_nil, fun _ _ h => (by cases h), fun _ h => h.elim⟩
section
variable {X : Cx} {e : Expr} {es : List Expr} {wr : WA}
theorem de_callB' {k : Nat} {st : Stmt} {ps : List Str} {sp : SpD} {x : Str} {p pos : Pos} {n : Nat} (O : Ok X.prog X.w X.K X.mg X.base k x st ps n sp) (hr : RoomG k X.A) (hg : Gl X x)
    (ha : DAn X (e :: es) n wr) (hdb : (x == ("__debug__" : Str)) = false := by decide) (he : starEach (e :: es) X.env = (false, eval e X.env) :: starEach es X.env := by rfl) (hpl : (backTo pos (starEach es X.env)).any (·.1) = false := by rfl) :
    DE X (.Call (.Name x p) (e :: es) [] pos) (dCall (CallB sp) wr) := by
  obtain ⟨f, fd, a, F⟩ := O.ex
  obtain ⟨ta, pa, qa⟩ := ha.ex
  refine ⟨_, pe_callG F hr.r hr.g hg a.g a.kp a.b .nil (pass0 (X := X)) pa hdb he hpl, fun b A own H σ s Ks Q R h kk => ?_⟩
  show ta σ H fun vs H1 => spOf X.K n sp (vs ++ []) H1 Q E0
  refine qa _ _ _ _ _ _ _ _ R h fun A1 o1 H1 vs s1 xs R1 U1 E1 h1 => ?_
  rw [List.append_nil]
  obtain ⟨ys, hy, h2⟩ := onO_inv h1.2
  refine ⟨fun _ => False, [], ys, [], _, E1.len.trans h1.1, vi_erl R1 E1 hy, Own.none _ _, h2, fun A' own' H' v ms' r _ _ _ _ fr _ er hk => ?_⟩
  obtain ⟨d, rfl, hs, hk⟩ := daI_inv hk
  obtain ⟨R2, U2⟩ := R1.ext (H' := H') fun a o q => fr a o (fun k z => by cases z) q
  exact kk.da R2 (U1.trans U2) (Rp.scal er hs) hk
end
end DL
namespace DL
open PySem L2 PySem.Spec PyProof.Rows
section
variable {X : Cx} {a b c e : Expr} {wa wb wc we : WE} {pos : Pos} {es : List Expr} {wr : WA}
/-- min of three numbers -/
def cMin3 : S → List En → (S → En → Prop) → Prop := fun s xs Ks => a3 xs fun x y z => iI x y fun i j => i1 z fun k => Ks s (.da (.int (min (min i j) k)))
theorem cd_min3 {K : PySem.W.Frag} : CallD K (rNuC3 nuMin3) cMin3 := by
  intro b A own H σ s vs xs Ks Q R E h k
  match xs, vs, E, h with
  | [x, y, z], [v, u, w], ⟨e1, e2, e3, _⟩, h =>
    have h : iI x y fun i j => i1 z fun k => Ks s (.da (.int (min (min i j) k))) := h
    obtain ⟨i, j, rfl, rfl, h⟩ := iI_inv h
    obtain ⟨l, rfl, h⟩ := i1_inv h
    cases e1; cases e2; cases e3
    refine ⟨_, _, _, .int (min (min i j) l), rfl, ?_, k.da R Up.refl (.int _) h⟩
    show ((Option.map (fun c => if c = true then V.int j else V.int i) (some (decide (j < i)))).bind fun m => (nuLt (.int l) m).map fun c => if c = true then V.int l else m) = _
    by_cases h1 : j < i
    · rw [decide_eq_true h1]
      show (Option.map (fun c => if c = true then V.int l else V.int j) (some (decide (l < j)))) = _
      by_cases h2 : l < j
      · rw [decide_eq_true h2]; show some (V.int l) = _; congr 2; omega
      · rw [decide_eq_false h2]; show some (V.int j) = _; congr 2; omega
    · rw [decide_eq_false h1]
      show (Option.map (fun c => if c = true then V.int l else V.int i) (some (decide (l < i)))) = _
      by_cases h2 : l < i
      · rw [decide_eq_true h2]; show some (V.int l) = _; congr 2; omega
      · rw [decide_eq_false h2]; show some (V.int i) = _; congr 2; omega
theorem de_min3 {p : Pos} (hc : X.calm = true) (hg : Gl X "min") (hm : X.mg "min" = none) (ha : DE X a wa) (hb : DE X b wb) (hcc : DE X c wc)
    (he : starEach (a :: [b, c]) X.env = (false, eval a X.env) :: starEach [b, c] X.env := by rfl) (he2 : starEach (b :: [c]) X.env = (false, eval b X.env) :: starEach [c] X.env := by rfl) (he3 : starEach (c :: []) X.env = (false, eval c X.env) :: starEach [] X.env := by rfl)
    (hpl : (backTo pos (starEach [b, c] X.env)).any (·.1) = false := by rfl) : DE X (.Call (.Name "min" p) [a, b, c] [] pos) (dCall cMin3 (aCons wa (aCons wb (aCons wc aNil)))) :=
  de_callB (call_min3Nu hc) cd_min3 hg hm (by decide +kernel) (da_cons ha (da_cons hb (da_cons hcc da_nil he3) he2) he) (he := he) (hpl := hpl)
/-- the first place of a number in a list of numbers -/
def dIndexI (wa wb : WE) : WE := fun s Ks => wa s fun s1 x => ∃ ns : List Int, x = .da (.list (ns.map .int)) ∧ wb s1 fun s2 y => i1 y fun v => ∃ j : Nat, ns[j]? = some v ∧ (∀ m, m < j → ns[m]? ≠ some v) ∧ Ks s2 (.da (.int (j : Nat)))
theorem de_indexI {apos cpos : Pos} (ho : DE X a wa) (hi : DE X b wb)
    (hbase : attributeBase a "index" X.env (eval a X.env) = eval a X.env := by rfl)
    (hfew : ((backTo cpos (starEach (b :: []) X.env)).all (fun x => !x.1) && (backToKw cpos (keywordEach [] X.env)).all (fun x => x.1.isSome)
      && decide ((b :: []).length + ([] : List Keyword).length + (if ([] : List Keyword).isEmpty then 0 else 1) < 30)) = true := by rfl)
    (hline : (apos.endLine == cpos.line) = true := by rfl) (hs : starEach (b :: []) X.env = (false, eval b X.env) :: starEach [] X.env := by rfl) (hplain : (backTo cpos (starEach [] X.env)).any (·.1) = false := by rfl) :
    DE X (.Call (.Attribute a "index" apos) [b] [] cpos) (dIndexI wa wb) := by
  obtain ⟨ta, pa, qa⟩ := ho.ex
  obtain ⟨tr, pr, qr⟩ := (da_cons hi da_nil hs).ex
  refine ⟨_, pe_bm PySem.F.plainAttrs_list PySem.F.slot_list_index PySem.F.type_list_index mt_index pa pr hbase hfew hline hs hplain, fun b A own H σ s Ks Q R h k => ?_⟩
  show ta σ H fun x H1 => tyV X.K "list" x H1 ∧ tr σ H1 fun xs H2 => rIndex X.K x xs H2 Q
  refine qa _ _ _ _ _ _ _ _ R h fun A1 o1 H1 v1 s1 x1 R1 U1 E1 h1 => ?_
  obtain ⟨ns, rfl, h1⟩ := h1
  obtain ⟨p, us, rfl, l1, r1⟩ : ∃ p us, v1 = .ref p ∧ LsR A1 H1 p us ∧ RpL X.K A1 H1 us (ns.map .int) := by
    cases (show Rp X.K A1 H1 v1 (.list (ns.map .int)) from E1) with
    | lst l r => exact ⟨_, _, rfl, l, r⟩
  obtain rfl := RpL.ofInts r1
  refine ⟨.inl ⟨rfl, _, l1.sq⟩, ?_⟩
  refine qr _ _ _ _ _ _ (fun s2 xs => a1 xs fun y => i1 y fun v => ∃ j : Nat, ns[j]? = some v ∧ (∀ m, m < j → ns[m]? ≠ some v) ∧ Ks s2 (.da (.int (j : Nat)))) _ R1 h1 fun A2 o2 H2 vs s2 xs R2 U2 E2 h2 => ?_
  obtain ⟨v, y, rfl, E3, h2⟩ := a1_inv E2 h2
  obtain ⟨z, rfl, j, hj, hlt, h2⟩ := i1_inv h2
  cases E3
  have l2 : LsR A2 H2 p (ns.map V.int) := U2.kp _ _ l1.2 l1.1
  refine ⟨p, ns.map V.int, .int z, j, .int z, rfl, rfl, l2.sq, rfl, ?_, ?_, ?_, fun m z' hm hz => ?_, (k.up (U1.trans U2)).da R2 Up.refl (.int _) h2⟩
  · rw [List.all_map]; exact List.all_eq_true.mpr fun _ _ => rfl
  · rw [List.getElem?_map, hj]; rfl
  · show (z == z) = true
    simp
  · rw [List.getElem?_map] at hz
    cases q : ns[m]? with
    | none => rw [q] at hz; cases hz
    | some z2 =>
      rw [q] at hz
      cases hz
      show (z2 == z) = false
      have := hlt m hm
      rw [q] at this
      simp
      intro e
      exact this (by rw [e])
end
end DL
namespace DL
open PySem L2 PySem.Spec PyProof.Rows
section
variable {X : Cx} {a b c e : Expr} {wa wb wc we : WE} {pos : Pos} {es : List Expr} {wr : WA}
/-! ### int(..) of a number, a truth, a text -/
def cInt : S → List En → (S → En → Prop) → Prop := fun s xs Ks => a1 xs fun x => daI x fun d => match d with
  | .int i => Ks s (.da (.int i))
  | .bool k => Ks s (.da (.int (if k = true then 1 else 0)))
  | .str z => ∃ n, PySem.intText? z = some n ∧ z.length ≤ 640 ∧ Ks s (.da (.int n))
  | _ => False
def rInt : List V → Hp → VK → Prop := fun xs H Q => ((∃ i, xs = [.int i] ∧ Q (.int i) H) ∨ ∃ k, xs = [.bl k] ∧ Q (.int (if k then 1 else 0)) H) ∨ ∃ a n, xs = [.str a] ∧ PySem.intText? a = some n ∧ a.length ≤ 640 ∧ Q (.int n) H
theorem cr_int : CallR X (.type "int") rInt := fun pins s σ H vs us Q I r h => h.elim (fun h => call_int1 pins s σ H vs us Q I r h) fun h => call_int_str pins s σ H vs us Q I r h
theorem cd_int {K : PySem.W.Frag} : CallD K rInt cInt := by
  intro b A own H σ s vs xs Ks Q R E h k
  obtain ⟨v, x, rfl, e1, h⟩ := a1_inv E h
  obtain ⟨d, rfl, h⟩ := daI_inv h
  cases d with
  | int i => cases e1; exact .inl (.inl ⟨i, rfl, k.da R Up.refl (.int i) h⟩)
  | bool c => cases e1; exact .inl (.inr ⟨c, rfl, k.da R Up.refl (.int _) h⟩)
  | str z =>
    cases e1
    obtain ⟨n, h1, h2, h3⟩ := h
    exact .inr ⟨z, n, rfl, h1, h2, k.da R Up.refl (.int n) h3⟩
  | none => exact h.elim
  | list _ => exact h.elim
  | tuple _ => exact h.elim
  | dict _ => exact h.elim
theorem de_int1 {p : Pos} (hg : Gl X "int") (hm : X.mg "int" = none) (ha : DE X a wa) (he : starEach (a :: []) X.env = (false, eval a X.env) :: starEach [] X.env := by rfl) : DE X (.Call (.Name "int" p) [a] [] pos) (dCall cInt (aCons wa aNil)) := de_callTy cr_int cd_int hg hm (by decide +kernel) (da_cons ha da_nil he) (he := he)
/-! ### str(..) of a number, a text -/
def cStr1 : S → List En → (S → En → Prop) → Prop := fun s xs Ks => a1 xs fun x => i1 x fun i => i.natAbs.log2 < 1920 ∧ Ks s (.da (.str (toString i)))
theorem cd_strI {K : PySem.W.Frag} : CallD K (fun xs H Q => ∃ i, xs = [.int i] ∧ i.natAbs.log2 < 1920 ∧ Q (.str (toString i)) H) cStr1 := by
  intro b A own H σ s vs xs Ks Q R E h k
  obtain ⟨v, x, rfl, e1, h⟩ := a1_inv E h
  obtain ⟨i, rfl, h1, h2⟩ := i1_inv h
  cases e1
  exact ⟨i, rfl, h1, k.da R Up.refl (.str _) h2⟩
theorem de_strI {p : Pos} (hg : Gl X "str") (hm : X.mg "str" = none) (ha : DE X a wa) (he : starEach (a :: []) X.env = (false, eval a X.env) :: starEach [] X.env := by rfl) : DE X (.Call (.Name "str" p) [a] [] pos) (dCall cStr1 (aCons wa aNil)) := de_callTy call_str_int cd_strI hg hm (by decide +kernel) (da_cons ha da_nil he) (he := he)
/-! ### min, max of data -/
def fitD (ds : List D) : Prop := PyData.canLayAll0 ds = true ∧ PyData.depthAll ds ≤ 60
theorem vals_back : ∀ {xs : List V} {us : List Value} {i : Nat} {u : Value}, Vals xs us → us[i]? = some u → ∃ x, xs[i]? = some x ∧ RelV x u
  | _, _, _, _, .nil, h => by simp at h
  | _, _, 0, _, .cons r _, h => by simp at h; subst h; exact ⟨_, rfl, r⟩
  | _, _, i + 1, _, .cons _ t, h => by
    obtain ⟨x, h1, h2⟩ := vals_back (i := i) t (by simpa using h)
    exact ⟨x, by simpa using h1, h2⟩
theorem plain_mem : ∀ {xs : List PyData} {x : PyData}, PyData.plainAll xs = true → x ∈ xs → x.plain = true
  | _ :: _, _, h, hx => by
    rw [PyData.plainAll, Bool.and_eq_true] at h
    rcases List.mem_cons.mp hx with rfl | hx
    · exact h.1
    · exact plain_mem h.2 hx
def cMinD : S → List En → (S → En → Prop) → Prop := fun s xs Ks => a1 xs fun x => ∃ (d : D) (ds : List D), vw s x = some (.list (d :: ds)) ∧ PySem.W.AlikeAll (d :: ds) ∧ fitD (d :: ds) ∧ Ks s (.da (PySem.W.minD d ds))
def rMinD (K : PySem.W.Frag) : List V → Hp → VK → Prop := fun vs H Q => ∃ (a : Addr) (xs : List V) (d : D) (ds : List D), vs = [.ref a] ∧ SqL K H a xs ∧ DpAll K H xs (d :: ds) ∧ PySem.W.AlikeAll (d :: ds) ∧ fitD (d :: ds) ∧ ∀ (i : Nat) v, xs[i]? = some v → (d :: ds)[i]? = some (PySem.W.minD d ds) → Q v H
theorem cr_minD (hc : X.calm = true) (hu : X.A.units + 64 < cLine) : CallR X (.builtin "min") (rMinD X.K) := by
  intro pins s σ H vs us Q I r h
  obtain ⟨a, xs, d, ds, rfl, hs, hd, hal, ⟨hf1, hf2⟩, q⟩ := h
  obtain ⟨its, rv, hl, hz⟩ := I.list hs
  rw [Vals.ref1 r]
  obtain ⟨as, hr⟩ := Dp.readsAll I (d :: ds) xs its hd rv
  refine PySem.W.min_list_data (I.ok.hd hc) hl.isList (vs := its.toArray) hr hal (by omega) fun i v h' tk bs hv hrd hk => ?_
  have hv' : its[i]? = some v := by simpa using hv
  obtain ⟨x, hx, rx⟩ := vals_back rv hv'
  refine ⟨x, H, I.kept hk, rx, q i x hx ?_⟩
  obtain ⟨bs', r1, hi, hm2, _⟩ := PySem.W.readsAll_at hr i v hv'
  have pl : PyData.plainAll (d :: ds) = true := PyData.plainAll_of_canLay0 _ hf1
  have e := PySem.SeqAt.plain_unique _ _ v _ _ (plain_mem pl hm2) (Reads.keeps hk r1) hrd
  rw [List.getElem?_eq_getElem hi]
  rw [List.getD_eq_getElem?_getD, List.getElem?_eq_getElem hi] at e
  exact congrArg some e
theorem vw_lstAll {K : PySem.W.Frag} {b : Bd} {A : Addr → Prop} {own : List (List Addr)} {H : Hp} {σ : L2.St} {s : S} (R : Rel K b A own H σ s) {v : V} {x : En} {ds : List D} (h : ER K A own H v x) (e : vw s x = some (.list ds)) :
    ∃ a vs, v = .ref a ∧ SqL K H a vs ∧ RpL K A H vs ds := vw_lst R h e
theorem cd_minD {K : PySem.W.Frag} : CallD K (rMinD K) cMinD := by
  intro b A own H σ s vs xs Ks Q R E h k
  obtain ⟨v, x, rfl, e1, h⟩ := a1_inv E h
  obtain ⟨d, ds, hd, hal, hf, h⟩ := h
  obtain ⟨a, us, rfl, q, r⟩ := vw_lst R e1 hd
  refine ⟨a, us, d, ds, rfl, q, r.dp hf.1, hal, hf, fun i v hv hi => ?_⟩
  obtain ⟨y, hy, ry⟩ := r.get hi
  rw [hv] at hy
  cases hy
  exact k.da R Up.refl ry h
theorem de_minD {p : Pos} (hc : X.calm = true) (hu : X.A.units + 64 < cLine) (hg : Gl X "min") (hm : X.mg "min" = none) (ha : DE X a wa) (he : starEach (a :: []) X.env = (false, eval a X.env) :: starEach [] X.env := by rfl) : DE X (.Call (.Name "min" p) [a] [] pos) (dCall cMinD (aCons wa aNil)) := de_callB (cr_minD hc hu) cd_minD hg hm (by decide +kernel) (da_cons ha da_nil he) (he := he)
/-! ### x in a list, in a tuple -/
def rInS (K : PySem.W.Frag) (neg : Bool) : R2 := fun x y H Q => ∃ (d : D) (ds : List D), Dp K H x d ∧ (Dp K H y (.list ds) ∨ Dp K H y (.tuple ds)) ∧ fitD [d] ∧ fitD ds ∧ Q (.bl (xr neg (ds.any fun z => PyData.eqv z d))) H
theorem fit_room {A : Around} {d : D} {ds : List D} (h : fitD [d]) (hu : A.units + 64 < cLine) : A.units + 1 + min (PyData.depthAll ds) d.depth < cLine := by
  have h2 := h.2
  simp only [PyData.depthAll] at h2
  have : min (PyData.depthAll ds) d.depth ≤ d.depth := Nat.min_le_right _ _
  omega
theorem fit_one {d : D} (h : fitD [d]) : d.canLay0 = true := by
  have := h.1
  simp only [PyData.canLayAll0, Bool.and_eq_true] at this
  exact this.1
theorem op_inS2 (hu : X.A.units + 64 < cLine) : OpR X (compareOp .In) (rInS X.K false) := by
  intro pins s σ H x y v u Q I rx ry h
  obtain ⟨d, ds, hd, he, fd, fs, q⟩ := h
  obtain ⟨as, r1⟩ := Dp.reads I d x v hd rx
  rcases he with he | he
  · obtain ⟨bs, r2⟩ := Dp.reads I (.list ds) y u he ry
    exact SeqAt.in_list_reads r2 r1 fs.1 (fit_one fd) (fit_room fd hu) ⟨.bl _, H, I, rfl, q⟩
  · obtain ⟨bs, r2⟩ := Dp.reads I (.tuple ds) y u he ry
    exact SeqAt.in_tuple_reads r2 r1 fs.1 (fit_one fd) (fit_room fd hu) ⟨.bl _, H, I, rfl, q⟩
theorem op_notInS2 (hu : X.A.units + 64 < cLine) : OpR X (compareOp .NotIn) (rInS X.K true) := by
  intro pins s σ H x y v u Q I rx ry h
  obtain ⟨d, ds, hd, he, fd, fs, q⟩ := h
  obtain ⟨as, r1⟩ := Dp.reads I d x v hd rx
  rcases he with he | he
  · obtain ⟨bs, r2⟩ := Dp.reads I (.list ds) y u he ry
    exact SeqAt.notIn_list_reads r2 r1 fs.1 (fit_one fd) (fit_room fd hu) ⟨.bl _, H, I, rfl, q⟩
  · obtain ⟨bs, r2⟩ := Dp.reads I (.tuple ds) y u he ry
    exact SeqAt.notIn_tuple_reads r2 r1 fs.1 (fit_one fd) (fit_room fd hu) ⟨.bl _, H, I, rfl, q⟩
def rdInD (neg : Bool) : S → En → En → (S → En → Prop) → Prop := fun s x y Ks => vw2 s x y fun d e => onO (seqD e) fun ds => fitD [d] ∧ fitD ds ∧ Ks s (.da (.bool (xr neg (ds.any fun z => PyData.eqv z d))))
theorem opd_inD {K : PySem.W.Frag} {neg : Bool} : OpD K (rInS K neg) (rdInD neg) := by
  intro b A own H σ s vx vy x y Ks Q R e1 e2 h k
  obtain ⟨d, hd, h⟩ := onO_inv h
  obtain ⟨e, he, h⟩ := onO_inv h
  obtain ⟨ds, hs, f1, f2, h⟩ := onO_inv h
  refine ⟨d, ds, vw_dp R e1 hd (by have := f1.1; rw [PyData.canLayAll0, Bool.and_eq_true] at this; exact this.1), ?_, f1, f2, k.da R Up.refl (.bl _) h⟩
  have q := vw_dp R e2 he
  cases e with
  | list es => cases hs; exact .inl (q (by simpa only [PyData.canLay0] using f2.1))
  | tuple es => cases hs; exact .inr (q (by simpa only [PyData.canLay0] using f2.1))
  | _ => cases hs
theorem de_inD (hu : X.A.units + 64 < cLine) (ha : DE X a wa) (hb : DE X b wb) (hm : behindInMarks .In b = false := by rfl) : DE X (.Compare a [.In] [b] pos) (d2 (rdInD false) wa wb) := de_cmp (op_inS2 hu) opd_inD ha hb hm
theorem de_notinD (hu : X.A.units + 64 < cLine) (ha : DE X a wa) (hb : DE X b wb) (hm : behindInMarks .NotIn b = false := by rfl) : DE X (.Compare a [.NotIn] [b] pos) (d2 (rdInD true) wa wb) := de_cmp (op_notInS2 hu) opd_inD ha hb hm
theorem dt_inD (hu : X.A.units + 64 < cLine) (ha : DE X a wa) (hb : DE X b wb) (hm : behindInMarks .In b = false := by rfl) : DT X (.Compare a [.In] [b] pos) (tT (d2 (rdInD false) wa wb)) := dt_cmp (op_inS2 hu) opd_inD ha hb hm
theorem dt_notinD (hu : X.A.units + 64 < cLine) (ha : DE X a wa) (hb : DE X b wb) (hm : behindInMarks .NotIn b = false := by rfl) : DT X (.Compare a [.NotIn] [b] pos) (tT (d2 (rdInD true) wa wb)) := dt_cmp (op_notInS2 hu) opd_inD ha hb hm
/-! ### sorted(..) of a list of data -/
def sortD (ds : List D) : List D := ds.mergeSort (PySem.W.dataLe false id)
def canSort (ds : List D) : Prop := PySem.W.AllAlike ds ∧ PySem.W.Sortable ds ∧ fitD ds
def rSortedD (K : PySem.W.Frag) : List V → Hp → VK → Prop := fun vs H Q => ∃ (a : Addr) (zs : List (V × D)), vs = [.ref a] ∧ SqL K H a (zs.map (·.1)) ∧ DpAll K H (zs.map (·.1)) (zs.map (·.2)) ∧ canSort (zs.map (·.2)) ∧
  ∀ p, H p = none → Q (.ref p) (upd H p (.lst ((zs.mergeSort (PySem.W.dataLe false (·.2))).map (·.1))))
theorem each_vals {h : Heap} : ∀ {zs : List (V × D)} {us : List Value} {as : List Addr}, Vals (zs.map (·.1)) us → ReadsAll h us (zs.map (·.2)) as → PySem.W.EachIs (fun (u : Value) (z : V × D) => RelV z.1 u) us zs ∧ PySem.W.EachIs (fun (u : Value) (z : V × D) => ∃ as, Reads h u z.2 as) us zs
  | [], _, _, .nil, _ => ⟨.nil, .nil⟩
  | z :: zs, _, _, .cons r t, .cons r2 t2 => by
    obtain ⟨h1, h2⟩ := each_vals t t2
    exact ⟨.cons r h1, .cons ⟨_, r2⟩ h2⟩
theorem vals_each : ∀ {zs : List (V × D)} {us : List Value}, PySem.W.EachIs (fun (u : Value) (z : V × D) => RelV z.1 u) us zs → Vals (zs.map (·.1)) us
  | _, _, .nil => .nil
  | _, _, .cons r t => .cons r (vals_each t)
theorem depth_le_all {ds : List D} {d : D} (h : d ∈ ds) : d.depth ≤ PyData.depthAll ds := by
  obtain ⟨i, hi⟩ := List.getElem?_of_mem h
  exact depth_get hi
theorem cr_sortedD (hu : X.A.units + 64 < cLine) : CallR X (.builtin "sorted") (rSortedD X.K) := by
  intro pins s σ H vs us Q I r h
  obtain ⟨a, zs, rfl, hs, hd, ⟨c1, c2, c3, c4⟩, q⟩ := h
  obtain ⟨its, rv, hl, hz⟩ := I.list hs
  rw [Vals.ref1 r]
  obtain ⟨as, hr⟩ := Dp.readsAll I _ _ its hd rv
  obtain ⟨h1, h2⟩ := each_vals rv hr
  refine PySem.W.sorted_data (enc := fun z : V × D => z.2) hl.isList h1 h2 c1 c2 (by rw [List.length_map] at hz; exact hz) (fun z hm => ?_) fun out h3 h4 => ?_
  · have := depth_le_all (List.mem_map_of_mem (f := fun z : V × D => z.2) hm)
    omega
  · obtain ⟨ep, he'⟩ := PyProof.Rows.sortedAll_at s.heap its out.toArray
    refine ⟨.ref _, upd H (s.heap.objs.size + 1) (.lst ((zs.mergeSort (PySem.W.dataLe false (·.2))).map (·.1))), I.laid (t' := s.toks) (fun _ _ => PyProof.Rows.sortedAll_old) (Nat.le_succ _) ⟨?_, out, ep, vals_each h4, he'⟩, rfl, q _ (I.hok.fresh (Nat.le_succ _))⟩
    rw [List.length_map, List.length_mergeSort]
    rw [List.length_map] at hz
    exact hz
theorem rpl_zip {K : PySem.W.Frag} {A : Addr → Prop} {H : Hp} : ∀ {vs : List V} {ds : List D}, RpL K A H vs ds → ∃ zs : List (V × D), zs.map (·.1) = vs ∧ zs.map (·.2) = ds ∧ ∀ z ∈ zs, Rp K A H z.1 z.2
  | _, _, .nil => ⟨[], rfl, rfl, fun _ h => by cases h⟩
  | _, _, .cons r t => by
    obtain ⟨zs, e1, e2, h⟩ := rpl_zip t
    refine ⟨(_, _) :: zs, by rw [List.map_cons, e1], by rw [List.map_cons, e2], fun z hz => ?_⟩
    rcases List.mem_cons.mp hz with rfl | hz
    · exact r
    · exact h z hz
theorem rpl_map {K : PySem.W.Frag} {A : Addr → Prop} {H : Hp} : ∀ {zs : List (V × D)}, (∀ z ∈ zs, Rp K A H z.1 z.2) → RpL K A H (zs.map (·.1)) (zs.map (·.2))
  | [], _ => .nil
  | z :: zs, h => .cons (h z (by simp)) (rpl_map fun y hy => h y (by simp [hy]))
theorem map_sort (zs : List (V × D)) : (zs.mergeSort (PySem.W.dataLe false (·.2))).map (·.2) = sortD (zs.map (·.2)) :=
  List.map_mergeSort fun _ _ _ _ => rfl
def cSortD : S → List En → (S → En → Prop) → Prop := fun s xs Ks => a1 xs fun x => ∃ ds : List D, vw s x = some (.list ds) ∧ canSort ds ∧ Ks s (.da (.list (sortD ds)))
def cSortDM : S → List En → (S → En → Prop) → Prop := fun s xs Ks => a1 xs fun x => ∃ ds : List D, vw s x = some (.list ds) ∧ canSort ds ∧ Ks (s.aM (.lst (sortD ds))) (.mu s.ms.length)
theorem sortD_run {K : PySem.W.Frag} {b : Bd} {A : Addr → Prop} {own : List (List Addr)} {H : Hp} {σ : L2.St} {s : S} {v : V} {x : En} {ds : List D} {Q : VK} (R : Rel K b A own H σ s) (e1 : ER K A own H v x) (hd : vw s x = some (.list ds)) (hc : canSort ds)
    (q : ∀ vs p, RpL K A H vs (sortD ds) → H p = none → Q (.ref p) (upd H p (.lst vs))) : rSortedD K [v] H Q := by
  obtain ⟨a, us, rfl, hs, r⟩ := vw_lst R e1 hd
  obtain ⟨zs, rfl, rfl, hz⟩ := rpl_zip r
  refine ⟨a, zs, rfl, hs, r.dp hc.2.2.1, hc, fun p hp => q _ p ?_ hp⟩
  rw [← map_sort]
  exact rpl_map fun z hm => hz z ((List.mergeSort_perm _ _).mem_iff.mp hm)
theorem cd_sortD {K : PySem.W.Frag} : CallD K (rSortedD K) cSortD := by
  intro b A own H σ s vs xs Ks Q R E h k
  obtain ⟨v, x, rfl, e1, ds, hd, hc, h⟩ := a1_inv E h
  exact sortD_run R e1 hd hc fun vs p r hp => new_lst R k r hp h
theorem cd_sortDM {K : PySem.W.Frag} : CallD K (rSortedD K) cSortDM := by
  intro b A own H σ s vs xs Ks Q R E h k
  obtain ⟨v, x, rfl, e1, ds, hd, hc, h⟩ := a1_inv E h
  exact sortD_run R e1 hd hc fun vs p r hp => new_mu R k r hp h
theorem de_sortD {p : Pos} (hu : X.A.units + 64 < cLine) (hg : Gl X "sorted") (hm : X.mg "sorted" = none) (ha : DE X a wa) (he : starEach (a :: []) X.env = (false, eval a X.env) :: starEach [] X.env := by rfl) : DE X (.Call (.Name "sorted" p) [a] [] pos) (dCall cSortD (aCons wa aNil)) := de_callB (cr_sortedD hu) cd_sortD hg hm (by decide +kernel) (da_cons ha da_nil he) (he := he)
theorem de_sortDM {p : Pos} (hu : X.A.units + 64 < cLine) (hg : Gl X "sorted") (hm : X.mg "sorted" = none) (ha : DE X a wa) (he : starEach (a :: []) X.env = (false, eval a X.env) :: starEach [] X.env := by rfl) : DE X (.Call (.Name "sorted" p) [a] [] pos) (dCall cSortDM (aCons wa aNil)) := de_callB (cr_sortedD hu) cd_sortDM hg hm (by decide +kernel) (da_cons ha da_nil he) (he := he)
end
end DL
namespace DL
open PySem L2 PySem.Spec PyProof.Rows
/-! ### sorted(d.items()), the values ints -/
def itemI (z : Key × Int) : D := .tuple [kD z.1, .int z.2]
def rSortIts : V → Hp → VK → Prop := fun x H Q => ∃ (d : Addr) (kis : List (Key × Int)), x = .ref d ∧ H d = some (.dK (kis.map fun z => (z.1, V.int z.2))) ∧ canSort (kis.map itemI) ∧
  ∀ (H' : Hp) (p : Addr) (ps : List (Addr × Key × Int)), (∀ b o, H b = some o → H' b = some o) → H p = none → ps.map (·.2) = kis.mergeSort (PySem.W.dataLe false itemI) → H' p = some (.lst (ps.map fun z => V.ref z.1)) →
    (∀ z ∈ ps, H z.1 = none ∧ z.1 ≠ p ∧ H' z.1 = some (.tup [kV z.2.1, .int z.2.2])) → Q (.ref p) H'
def tSortIts (te : TE) : TE := fun σ H Q => te σ H fun x H1 => rSortIts x H1 Q
section
variable {X : Cx} {e : Expr} {te : TE} {p apos cpos pos : Pos}
theorem relV_kD {k : Key} {u : Value} (h : RelV (kV k) u) (hp : Heap) : Reads hp u (kD k) [] := by
  cases k with
  | inl i => obtain ⟨t, rfl⟩ := h; exact .int i t
  | inr x => obtain ⟨t, rfl⟩ := h; exact .str x t
theorem each_zip : ∀ {as : List Addr} {kis : List (Key × Int)}, as.length = kis.length → PySem.W.EachIs (fun (u : Value) (z : Addr × Key × Int) => u = .ref z.1) (as.map Value.ref) (as.zip kis)
  | [], [], _ => .nil
  | a :: as, k :: kis, h => .cons rfl (each_zip (Nat.succ.inj h))
  | [], _ :: _, h => by cases h
  | _ :: _, [], h => by cases h
theorem each_ref : ∀ {ps : List (Addr × Key × Int)} {us : List Value}, PySem.W.EachIs (fun (u : Value) (z : Addr × Key × Int) => u = .ref z.1) us ps → us = ps.map fun z => Value.ref z.1
  | _, _, .nil => rfl
  | _, _, .cons r t => by rw [r, each_ref t]; rfl
theorem each_of {R : Value → Addr × Key × Int → Prop} : ∀ {as : List Addr} {kis : List (Key × Int)}, as.length = kis.length → (∀ (j : Nat) a k, as[j]? = some a → kis[j]? = some k → R (.ref a) (a, k)) → PySem.W.EachIs R (as.map Value.ref) (as.zip kis)
  | [], [], _, _ => .nil
  | a :: as, k :: kis, h, q => .cons (q 0 a k rfl rfl) (each_of (Nat.succ.inj h) fun j a k h1 h2 => q (j + 1) a k (by simpa using h1) (by simpa using h2))
  | [], _ :: _, h, _ => by cases h
  | _ :: _, [], h, _ => by cases h
theorem map_zip_snd : ∀ {as : List Addr} {kis : List (Key × Int)}, as.length = kis.length → (as.zip kis).map (·.2) = kis
  | [], [], _ => rfl
  | a :: as, k :: kis, h => by rw [List.zip_cons_cons, List.map_cons, map_zip_snd (Nat.succ.inj h)]
  | [], _ :: _, h => by cases h
  | _ :: _, [], h => by cases h
theorem pairs_at {K : Type} [DecidableEq K] {P : Program} {w : World} {knd : PySem.KeyKind P w K} : ∀ {es : List DictEntry} {kvs : List (K × Value)}, Pairs knd es kvs → ∀ {j : Nat} {e : DictEntry}, es[j]? = some e → ∃ k v, kvs[j]? = some (k, v) ∧ knd.is k e.key = true ∧ e.val = v
  | _, _, .nil, _, _, h => by simp at h
  | _, _, .cons h1 h2 t, 0, _, h => by simp at h; subst h; exact ⟨_, _, rfl, h1, h2⟩
  | _, _, .cons _ _ t, j + 1, _, h => by
    obtain ⟨k, v, e1, e2⟩ := pairs_at t (j := j) (by simpa using h)
    exact ⟨k, v, by simpa using e1, e2⟩
theorem pairs_len {K : Type} [DecidableEq K] {P : Program} {w : World} {knd : PySem.KeyKind P w K} : ∀ {es : List DictEntry} {kvs : List (K × Value)}, Pairs knd es kvs → es.length = kvs.length
  | _, _, .nil => rfl
  | _, _, .cons _ _ t => congrArg (· + 1) (pairs_len t)
theorem cr_items {pins : List (Addr × Obj)} {σ : L2.St} {H : Hp} {s : Shared} {Q : VK} {d r : Addr} {kis : List (Key × Int)} (hc : X.calm = true) (hu : X.A.units + 64 < cLine) (I : Inv X pins σ H s) (view : s.heap.IsItemsView r d) (hd : H d = some (.dK (kis.map fun z => (z.1, V.int z.2)))) (hcs : canSort (kis.map itemI))
    (q : ∀ (H' : Hp) (p : Addr) (ps : List (Addr × Key × Int)), (∀ b o, H b = some o → H' b = some o) → H p = none → ps.map (·.2) = kis.mergeSort (PySem.W.dataLe false itemI) → H' p = some (.lst (ps.map fun z => V.ref z.1)) →
      (∀ z ∈ ps, H z.1 = none ∧ z.1 ≠ p ∧ H' z.1 = some (.tup [kV z.2.1, .int z.2.2])) → Q (.ref p) H') : wpAny (model X.prog X.w) X.A (call (.builtin "sorted") [.ref r]) (EP X pins σ Q) X.xe s := by
  obtain ⟨hz, hs0, vs, kv, hdo⟩ := I.hok d _ hd
  obtain ⟨o, es, ep, ho, hx, hdat, hks, hps, hnd⟩ := id hdo
  have l0 : es.size = kis.length := by
    have h1 := pairs_len hps
    have h2 := Paired.length kv
    rw [List.length_map] at h2
    rw [Array.length_toList] at h1
    omega
  have hz' : kis.length ≤ sizeLine := by rw [List.length_map] at hz; exact hz
  refine DT.sortedI (es := es) (ep := ep) (I.ok.hd hc) view ⟨o, ho, hx, hdat⟩ (by omega) fun h' tk as hk hlt hl hG => ?_
  have lak : as.length = kis.length := by omega
  have nd : as.Nodup := List.Pairwise.imp (fun h => Nat.ne_of_lt h) hG.rise
  have pr : ∀ (j : Nat) (b : Addr), as[j]? = some b → ∃ (k : Key) (i : Int) (uk ui : Value), kis[j]? = some (k, i) ∧ RelV (kV k) uk ∧ RelV (.int i) ui ∧ h'.get? b = some { cls := .type "tuple", data := .seq #[uk, ui] } := by
    intro j b hj
    obtain ⟨en, he, hg⟩ := hG.pairs j b hj
    obtain ⟨k, v, e1, e2, e3⟩ := pairs_at hps (j := j) (e := en) (by simpa using he)
    obtain ⟨y, hy, ry, rv⟩ := DX.pget kv e1
    rw [List.getElem?_map] at hy
    cases q : kis[j]? with
    | none => rw [q] at hy; cases hy
    | some z =>
      rw [q] at hy
      cases hy
      refine ⟨z.1, z.2, en.key, en.val, rfl, ?_, by rw [e3]; exact rv, hg⟩
      rw [show z.1 = k from ry]
      exact relV_key (show keyIs k en.key = true from e2)
  have hob : (h'.push { cls := .type "list", data := .seq (as.map Value.ref).toArray }).get? h'.objs.size = some (seqObj "list" (as.map Value.ref).toArray 0) := Heap.get?_push_size _ rfl
  have kb : ∀ b o, s.heap.get? b = some o → (h'.push { cls := .type "list", data := .seq (as.map Value.ref).toArray }).get? b = some o := fun b o e => Heap.get?_push_of_some _ (hk b o e)
  have ne0 : ∀ b o, h'.get? b = some o → b ≠ h'.objs.size := fun b o e => Nat.ne_of_lt (Heap.lt_size e)
  generalize hh2 : h'.push { cls := .type "list", data := .seq (as.map Value.ref).toArray } = h2 at hob kb ⊢
  have ka : ∀ b o, h'.get? b = some o → h2.get? b = some o := fun b o e => by rw [← hh2]; exact Heap.get?_push_of_some _ e
  have rd : PySem.W.EachIs (fun (v : Value) (z : Addr × Key × Int) => ∃ xs, Reads h2 v (itemI z.2) xs ∧ h'.objs.size ∉ xs) (as.map Value.ref) (as.zip kis) := each_of lak fun j a k h1 h2' => by
    obtain ⟨k', i', uk, ui, e1, e2, e3, e4⟩ := pr j a h1
    rw [h2'] at e1
    cases e1
    obtain ⟨t, rfl⟩ := e3
    have r := relV_kD e2 h2
    refine ⟨_, Reads.tuple (ka _ _ e4) rfl rfl (.cons r (.cons (.int i' t) .nil)), by simp⟩
  have hms : (as.zip kis).map (fun z => itemI z.2) = kis.map itemI := by
    rw [show (as.zip kis).map (fun z => itemI z.2) = ((as.zip kis).map (·.2)).map itemI by rw [List.map_map]; rfl, map_zip_snd lak]
  refine PySem.W.list_sort_data (s := { s with heap := h2, toks := tk }) (vs := as.map Value.ref) (R := fun (u : Value) (z : Addr × Key × Int) => u = .ref z.1) (enc := fun z : Addr × Key × Int => itemI z.2) hob (each_zip lak) rd (by rw [hms]; exact hcs.1) (by rw [hms]; exact hcs.2.1) (by rw [List.length_zip, lak, Nat.min_self]; exact hz') (fun z hz => ?_) fun out h3 h4 => ?_
  · show X.A.units + 1 + 1 + PyData.depth (.tuple [kD z.2.1, .int z.2.2]) < cLine
    have : PyData.depth (.tuple [kD z.2.1, .int z.2.2]) ≤ 1 := by
      cases z.2.1 <;> simp [kD, PyData.depth, PyData.depthAll]
    omega
  · have hout := each_ref h4
    generalize hp : (as.zip kis).mergeSort (PySem.W.dataLe false fun z : Addr × Key × Int => itemI z.2) = ps at hout h4
    have pz : ps.Perm (as.zip kis) := by rw [← hp]; exact List.mergeSort_perm _ _
    have hmap : ps.map (·.2) = kis.mergeSort (PySem.W.dataLe false itemI) := by
      have e := List.map_mergeSort (f := fun z : Addr × Key × Int => z.2) (r := PySem.W.dataLe false fun z : Addr × Key × Int => itemI z.2) (s := PySem.W.dataLe false itemI) (l := as.zip kis) fun _ _ _ _ => rfl
      rw [map_zip_snd lak] at e
      rw [← hp]
      exact e
    have idx : ∀ z ∈ ps, ∃ j : Nat, as[j]? = some z.1 ∧ kis[j]? = some z.2 := by
      intro z' hz'
      obtain ⟨j, hj⟩ := List.mem_iff_getElem?.mp (pz.mem_iff.mp hz')
      exact ⟨j, List.getElem?_zip_eq_some.mp hj⟩
    have kF : ∀ b o, b ≠ h'.objs.size → h2.get? b = some o → (sortedHeap h2 h'.objs.size (as.map Value.ref) out.toArray).get? b = some o := fun b o hb e => (PyProof.Rows.sortedHeap_old hb (Heap.lt_size e)).trans e
    have kS : ∀ b o, s.heap.get? b = some o → (sortedHeap h2 h'.objs.size (as.map Value.ref) out.toArray).get? b = some o := fun b o e => kF b o (ne0 _ _ (hk b o e)) (kb b o e)
    obtain ⟨eF, heF⟩ := PyProof.Rows.sortedHeap_at (vs := as.map Value.ref) (out := out.toArray) hob
    have I1 : Inv X pins σ H { s with heap := sortedHeap h2 h'.objs.size (as.map Value.ref) out.toArray, toks := tk } := I.kept (t' := tk) kS
    have hn0 : H h'.objs.size = none := I.hok.fresh (Nat.le_of_lt hlt)
    have hlen : (ps.map fun z => V.ref z.1).length ≤ sizeLine := by
      have e := pz.length_eq
      rw [List.length_zip, lak, Nat.min_self] at e
      rw [List.length_map]
      omega
    have rv : Vals (ps.map fun z => V.ref z.1) out := by
      rw [hout]
      exact vals_maps (fun z : Addr × Key × Int => V.ref z.1) (fun z => Value.ref z.1) ps fun _ _ => rfl
    have I2 : Inv X pins σ (upd H h'.objs.size (.lst (ps.map fun z => V.ref z.1))) { s with heap := sortedHeap h2 h'.objs.size (as.map Value.ref) out.toArray, toks := tk } :=
      I1.take (h' := sortedHeap h2 h'.objs.size (as.map Value.ref) out.toArray) (t' := tk) (fun b ob _ e => e) (I.fpOk (Nat.le_of_lt hlt) hn0) ⟨hlen, out, eF, rv, heF⟩
    obtain ⟨H2, I3, g, qt⟩ := DX.takeT (P := fun b vs => ∃ (j : Nat) (k : Key) (i : Int), as[j]? = some b ∧ kis[j]? = some (k, i) ∧ vs = [kV k, .int i]) I as _ I2 nd fun b hb => by
      obtain ⟨j, hj⟩ := List.mem_iff_getElem?.mp hb
      obtain ⟨k, i, uk, ui, e1, e2, e3, e4⟩ := pr j b hj
      have hbl : s.heap.objs.size ≤ b := Nat.le_of_lt (hG.above b hb)
      refine ⟨hbl, ?_, [kV k, .int i], ⟨j, k, i, hj, e1, rfl⟩, fun H3 => ⟨(by rw [sizeLine_eq]; show 2 ≤ 16777216; omega), [uk, ui], .cons e2 (.cons e3 .nil), ⟨_, kF _ _ (ne0 _ _ e4) (ka _ _ e4), rfl, 0, rfl⟩⟩⟩
      rw [upd_ne (ne0 _ _ e4)]
      exact I.hok.fresh hbl
    have gr : ∀ b o, H b = some o → H2 b = some o := fun b o e => g b o (by rw [upd_ne (ne_of_none e hn0)]; exact e)
    refine ⟨.ref h'.objs.size, H2, I3, rfl, q H2 h'.objs.size ps gr hn0 hmap (g _ _ upd_same) fun z' hz' => ?_⟩
    obtain ⟨i, i1, i2⟩ := idx z' hz'
    obtain ⟨vs', ⟨j, k, iv, j1, j2, ev⟩, hH⟩ := qt z'.1 (List.mem_of_getElem? i1)
    have eij : i = j := (List.getElem?_inj (List.getElem?_eq_some_iff.mp i1).1 nd).mp (i1.trans j1.symm)
    subst eij
    have ee : (k, iv) = z'.2 := Option.some.inj (j2.symm.trans i2)
    obtain ⟨_, _, _, _, _, _, _, e4⟩ := pr i z'.1 i1
    refine ⟨I.hok.fresh (Nat.le_of_lt (hG.above _ (List.mem_of_getElem? i1))), ne0 _ _ e4, ?_⟩
    rw [ev] at hH
    rw [← ee]
    exact hH
theorem pe_sortIts (hc : X.calm = true) (hu : X.A.units + 64 < cLine) (he : PE X e te) (hg : Gl X "sorted") (hm : X.mg "sorted" = none) (hbase : attributeBase e "items" X.env (eval e X.env) = eval e X.env := by rfl) (hline : (apos.endLine == cpos.line) = true := by rfl)
    (hs : starEach [.Call (.Attribute e "items" apos) [] [] cpos] X.env = (false, eval (.Call (.Attribute e "items" apos) [] [] cpos) X.env) :: starEach [] X.env := by rfl) :
    PE X (.Call (.Name "sorted" p) [.Call (.Attribute e "items" apos) [] [] cpos] [] pos) (tSortIts te) := by
  refine ⟨fun pins s σ H Q I hq => ?_⟩
  refine wpAny_Call_Name_kw (ld_blt I hg hm (u := .builtin "sorted") (by decide +kernel) ?_)
  refine PyProof.Rows.callWith_builtin1 ?_ hs rfl
  rw [hs]
  show wpAny _ _ (spliced ((false, eval (.Call (.Attribute e "items" apos) [] [] cpos) X.env) :: backTo pos (starEach [] X.env))) _ _ s
  refine Calls.spliced_cons ?_
  refine wpAny_Call_method (T := "dict") (id := "dict.items") hbase rfl hline F.plainAttrs_dict F.slot_dict_items F.type_dict_items (thn (he.run pins s σ H _ I hq) fun u s1 ⟨x, H1, I1, rx, d, kis, ex, hd, hcs, q⟩ => ?_)
  subst ex
  obtain rfl : u = Value.ref d := rx
  obtain ⟨hz, hs0, vs, kv, hdo⟩ := I1.hok d _ hd
  have I2 : Inv X pins σ H1 { s1 with heap := s1.heap.push { cls := .type "dict_items", data := .fields #[.ref d] } } := I1.kept (t' := s1.toks) fun b ob q => Heap.get?_push_of_some _ q
  refine ⟨hdo.typeIs, hdo.mapOf.noDict, ?_⟩
  show wpAny _ _ (callWith cpos (.builtin "dict.items") [.ref d] [] []) _ X.xe s1
  refine method_meetsIn F.slot_dict_items F.entry_dict_items rfl (PySem.evalArgs_none ⟨rfl, hdo.typeIs, F.args_dict_items_1 _, _, meets_dict_items (mixKind X.prog X.w) d hs0, ⟨vs, hdo⟩, ?_⟩)
  refine Calls.spliced_nil ?_
  exact cr_items hc hu I2 ⟨_, Heap.get?_push_size _ rfl, rfl, rfl⟩ hd hcs q
end
section
variable {X : Cx} {a b c e : Expr} {wa wb wc we : WE} {pos : Pos}
def dctI (kis : List (Key × Int)) : List (Key × D) := kis.map fun z => (z.1, PyData.int z.2)
def sortIt (kis : List (Key × Int)) : List (Key × Int) := kis.mergeSort (PySem.W.dataLe false itemI)
theorem rkv_ints {K : PySem.W.Frag} {A : Addr → Prop} {H : Hp} : ∀ {ws : List (Key × V)} {kis : List (Key × Int)}, RKV K A H ws (dctI kis) → ws = kis.map fun z => (z.1, V.int z.2)
  | [], [], _ => rfl
  | w :: ws, z :: kis, ⟨e, r, t⟩ => by
    have r : Rp K A H w.2 (.int z.2) := r
    have h2 : w.2 = .int z.2 := by
      generalize w.2 = v at r
      cases r; rfl
    have h1 : w.1 = z.1 := e
    rw [List.map_cons, ← rkv_ints (kis := kis) t, ← h1, ← h2]
def dSortIts (wo : WE) : WE := fun s Ks => wo s fun s1 o => mu2 s1 o fun _ kvs => ∃ kis : List (Key × Int), kvs = dctI kis ∧ canSort (kis.map itemI) ∧ Ks s1 (.da (.list ((sortIt kis).map itemI)))
theorem de_sortIts {p apos cpos : Pos} (hc : X.calm = true) (hu : X.A.units + 64 < cLine) (hg : Gl X "sorted") (hm : X.mg "sorted" = none) (he : DE X e we) (hbase : attributeBase e "items" X.env (eval e X.env) = eval e X.env := by rfl) (hline : (apos.endLine == cpos.line) = true := by rfl)
    (hs : starEach [.Call (.Attribute e "items" apos) [] [] cpos] X.env = (false, eval (.Call (.Attribute e "items" apos) [] [] cpos) X.env) :: starEach [] X.env := by rfl) :
    DE X (.Call (.Name "sorted" p) [.Call (.Attribute e "items" apos) [] [] cpos] [] pos) (dSortIts we) := by
  obtain ⟨te, pe, qe⟩ := he.ex
  refine ⟨_, pe_sortIts hc hu pe hg hm hbase hline hs, fun b A own H σ s Ks Q R h k => ?_⟩
  show te σ H fun x H1 => rSortIts x H1 Q
  refine qe _ _ _ _ _ _ _ _ R h fun A1 o1 H1 v1 s1 x1 R1 U1 E1 h1 => ?_
  obtain ⟨j, kvs, rfl, g, kis, rfl, hcs, h1⟩ := mu2_inv h1
  obtain ⟨d, vs, rfl, e2, e3, e4, _⟩ := mud_at R1 E1 g
  rw [rkv_ints e3] at e2
  refine ⟨d, kis, rfl, e2, hcs, fun H' p ps hk hp hps hl ht => ?_⟩
  obtain ⟨R2, U2⟩ := R1.ext hk
  refine k.da R2 (U1.trans U2) (.lst ⟨hl, R1.freshA hp⟩ ?_) h1
  show RpL X.K A1 H' (ps.map fun z => V.ref z.1) ((sortIt kis).map itemI)
  rw [sortIt, ← hps, List.map_map]
  clear hps hl h1
  induction ps with
  | nil => exact .nil
  | cons z zs ih =>
    obtain ⟨t1, t2, t3⟩ := ht z (by simp)
    refine .cons (.tup (.inl ⟨t3, R1.freshA t1⟩) (.cons ?_ (.cons (.int _) .nil))) (ih fun y hy => ht y (by simp [hy]))
    cases z.2.1 with
    | inl i => exact .int i
    | inr x => exact .str x
/-- sorted(d), list(d), len(d) -/
def kInts : List (Key × D) → Option (List Int)
  | [] => some []
  | (.inl i, _) :: r => match kInts r with | some is => some (i :: is) | none => none
  | _ :: _ => none
theorem kInts_map : ∀ {kvs : List (Key × D)} {is : List Int}, kInts kvs = some is → kvs.map (·.1) = is.map Sum.inl
  | [], _, h => by cases h; rfl
  | (.inl i, d) :: r, _, h => by
    unfold kInts at h
    split at h
    · rename_i is q
      cases h
      rw [List.map_cons, List.map_cons, kInts_map q]
    · cases h
  | (.inr x, d) :: r, _, h => by cases h
def cSortK : S → List En → (S → En → Prop) → Prop := fun s xs Ks => a1 xs fun o => mu2 s o fun _ kvs => onO (kInts kvs) fun is => is.length < 64 ∧ ∀ is' : List Int, is'.Perm is → is'.Pairwise (· ≤ ·) → Ks s (.da (.list (is'.map .int)))
def rSortK : List V → Hp → VK → Prop := fun xs H Q => ∃ (a : Addr) (kvs : List (Key × V)) (ks : List Int), xs = [.ref a] ∧ Rd H a (.dK kvs) ∧ kvs.map (·.1) = ks.map Sum.inl ∧ ks.length < 64 ∧
    ∀ (ys : List Int) (p : Addr), ys.Perm ks → ys.Pairwise (· ≤ ·) → H p = none → Q (.ref p) (upd H p (.lst (ys.map V.int)))
theorem cd_sortK {K : PySem.W.Frag} : CallD K rSortK cSortK := by
  intro b A own H σ s vs xs Ks Q R E h k
  obtain ⟨v, x, rfl, e1, h⟩ := a1_inv E h
  obtain ⟨j, kvs, rfl, g, h⟩ := mu2_inv h
  obtain ⟨is, hi, hl, h⟩ := onO_inv h
  obtain ⟨d, vs, rfl, e2, e3, e4, _⟩ := mud_at R e1 g
  exact ⟨d, vs, is, rfl, .inl e2, e3.keys.trans (kInts_map hi), hl, fun ys p h1 h2 hp => new_lst R k RpL.ints hp (h ys h1 h2)⟩
theorem de_sortK {p : Pos} (hc : X.calm = true) (hg : Gl X "sorted") (hm : X.mg "sorted" = none) (ha : DE X a wa) (he : starEach (a :: []) X.env = (false, eval a X.env) :: starEach [] X.env := by rfl) : DE X (.Call (.Name "sorted" p) [a] [] pos) (dCall cSortK (aCons wa aNil)) := de_callB (call_sortedDI hc) cd_sortK hg hm (by decide +kernel) (da_cons ha da_nil he) (he := he)
def cListK : S → List En → (S → En → Prop) → Prop := fun s xs Ks => a1 xs fun o => mu2 s o fun _ kvs => Ks s (.da (.list (kvs.map fun z => kD z.1)))
def cListKM : S → List En → (S → En → Prop) → Prop := fun s xs Ks => a1 xs fun o => mu2 s o fun _ kvs => Ks (s.aM (.lst (kvs.map fun z => kD z.1))) (.mu s.ms.length)
def rListK : List V → Hp → VK → Prop := fun xs H Q => ∃ (a : Addr) (kvs : List (Key × V)), xs = [.ref a] ∧ Rd H a (.dK kvs) ∧ ∀ p, H p = none → Q (.ref p) (upd H p (.lst (kvs.map fun kv => kV kv.1)))
theorem rkv_keysV {K : PySem.W.Frag} {A : Addr → Prop} {H : Hp} : ∀ {ws : List (Key × V)} {kvs : List (Key × D)}, RKV K A H ws kvs → RpL K A H (ws.map fun kv => kV kv.1) (kvs.map fun z => kD z.1)
  | [], [], _ => .nil
  | w :: ws, z :: kvs, ⟨e, _, t⟩ => by
    refine .cons ?_ (rkv_keysV t)
    show Rp K A H (kV w.1) (kD z.1)
    rw [show w.1 = z.1 from e]
    cases z.1 with
    | inl i => exact .int i
    | inr x => exact .str x
theorem cd_listK {K : PySem.W.Frag} : CallD K rListK cListK := by
  intro b A own H σ s vs xs Ks Q R E h k
  obtain ⟨v, x, rfl, e1, h⟩ := a1_inv E h
  obtain ⟨j, kvs, rfl, g, h⟩ := mu2_inv h
  obtain ⟨d, vs, rfl, e2, e3, e4, _⟩ := mud_at R e1 g
  exact ⟨d, vs, rfl, .inl e2, fun p hp => new_lst R k (rkv_keysV e3) hp h⟩
theorem cd_listKM {K : PySem.W.Frag} : CallD K rListK cListKM := by
  intro b A own H σ s vs xs Ks Q R E h k
  obtain ⟨v, x, rfl, e1, h⟩ := a1_inv E h
  obtain ⟨j, kvs, rfl, g, h⟩ := mu2_inv h
  obtain ⟨d, vs, rfl, e2, e3, e4, _⟩ := mud_at R e1 g
  exact ⟨d, vs, rfl, .inl e2, fun p hp => new_mu R k (rkv_keysV e3) hp h⟩
theorem de_listK {p : Pos} (hc : X.calm = true) (hg : Gl X "list") (hm : X.mg "list" = none) (ha : DE X a wa) (he : starEach (a :: []) X.env = (false, eval a X.env) :: starEach [] X.env := by rfl) : DE X (.Call (.Name "list" p) [a] [] pos) (dCall cListK (aCons wa aNil)) := de_callTy (call_listD hc) cd_listK hg hm (by decide +kernel) (da_cons ha da_nil he) (he := he)
theorem de_listKM {p : Pos} (hc : X.calm = true) (hg : Gl X "list") (hm : X.mg "list" = none) (ha : DE X a wa) (he : starEach (a :: []) X.env = (false, eval a X.env) :: starEach [] X.env := by rfl) : DE X (.Call (.Name "list" p) [a] [] pos) (dCall cListKM (aCons wa aNil)) := de_callTy (call_listD hc) cd_listKM hg hm (by decide +kernel) (da_cons ha da_nil he) (he := he)
def cLenD : S → List En → (S → En → Prop) → Prop := fun s xs Ks => a1 xs fun o => mu2 s o fun _ kvs => Ks s (.da (.int (kvs.length : Int)))
theorem cd_lenD {K : PySem.W.Frag} : CallD K (fun xs H Q => ∃ a kvs, xs = [V.ref a] ∧ H a = some (.dK kvs) ∧ Q (.int kvs.length) H) cLenD := by
  intro b A own H σ s vs xs Ks Q R E h k
  obtain ⟨v, x, rfl, e1, h⟩ := a1_inv E h
  obtain ⟨j, kvs, rfl, g, h⟩ := mu2_inv h
  obtain ⟨d, vs, rfl, e2, e3, e4, _⟩ := mud_at R e1 g
  refine ⟨d, vs, rfl, e2, ?_⟩
  rw [e3.len]
  exact k.da R Up.refl (.int _) h
theorem de_lenD {p : Pos} (hg : Gl X "len") (hm : X.mg "len" = none) (ha : DE X a wa) (he : starEach (a :: []) X.env = (false, eval a X.env) :: starEach [] X.env := by rfl) : DE X (.Call (.Name "len" p) [a] [] pos) (dCall cLenD (aCons wa aNil)) := de_callB call_lenD cd_lenD hg hm PySem.boot_len (da_cons ha da_nil he) (he := he)
end
end DL
namespace DL
open PySem L2 PySem.Spec PyProof.Rows
section
variable {X : Cx} {a b c e : Expr} {wa wb wc we : WE} {pos : Pos}
/-- x, y = a, b where a name is a cell: by a tuple -/
theorem ds_parG {i j : Nat} {x y : Str} {px py pt : Pos} {kt k2 pt2} {wr : WA} (hc : X.calm = true) (hN : X.N.Nodup) (hi : X.N[i]? = some x) (hj : X.N[j]? = some y)
    (hx : Loc X.env.scope x) (hy : Loc X.env.scope y) (ha : DAn X [a, b] 2 wr)
    (hs : swapsWithSole [.Tuple [.Name x px, .Name y py] kt pt] (.Tuple [a, b] k2 pt2) pos.line X.env = pure false := by rfl) (hw : swappedStores [.Tuple [.Name x px, .Name y py] kt pt] (.Tuple [a, b] k2 pt2) X.env = pure none := by rfl)
    (h1 : (assignEach [.Tuple [.Name x px, .Name y py] kt pt] X.env).map (·.2) = [assign (.Tuple [.Name x px, .Name y py] kt pt) X.env] := by rfl)
    (hn : (assignEach [.Name x px, .Name y py] X.env).length = 2 := by rfl) (hst : (assignEach [.Name x px, .Name y py] X.env).findIdx? (·.1) = none := by rfl)
    (hf : X.fn x = true ∨ X.env.scope.names.lookup x = some .local := by first | exact .inl rfl | exact .inr rfl | assumption) (hf2 : X.fn y = true ∨ X.env.scope.names.lookup y = some .local := by first | exact .inl rfl | exact .inr rfl | assumption) :
    DS X (.Assign [.Tuple [.Name x px, .Name y py] kt pt] (.Tuple [a, b] k2 pt2) pos) (sPar i j wr) := by
  obtain ⟨ta, pa, qa⟩ := ha.ex
  refine ⟨_, ps_asg (pe_tup pa) (pg_tup hc (pgs_cons (pg_name hN hi hx hf) (pgs_cons (pg_name hN hj hy hf2) pgs_nil)) hn hst) hs hw h1, fun b A own H σ s D E R h m => ?_⟩
  show ta σ H fun vs H1 => vs.length ≤ sizeLine ∧ ∀ p, H1 p = none → _
  refine qa _ _ _ _ _ _ _ _ R h fun A1 o1 H1 vs s1 xs R1 U1 E1 h1 => ?_
  obtain ⟨hl, h1⟩ := h1
  obtain ⟨v, w, x, y, rfl, e1, e2, h1⟩ := a2_inv E1 h1
  refine ⟨by show 2 ≤ sizeLine; decide, fun p hp => ?_⟩
  obtain ⟨R2, U2⟩ := R1.new (o := .tup [v, w]) hp
  refine ⟨p, [v, w], rfl, .inl (.inl upd_same), rfl, v, [w], rfl, ?_⟩
  exact ⟨w, [], rfl, rfl, m.nx _ _ _ _ _ ((R2.slot (e1.up U2)).slot (e2.up U2)) (U1.trans U2).kp h1⟩
end
end DL
namespace DL
open PySem L2 PySem.Spec PyProof.Rows
/-! ### enumerate over a tuple -/
section
variable {prog : Program} {w : World} {A : Around} {E : Value → Shared → Prop} {s : Shared}
theorem meets_enumT {v : Value} {o : Obj} {H : Heap → Prop} (B : Begins v o H) :
    Meets (Builtin.«enumerate.__new__» ⟨[.type "enumerate", v], []⟩) (fun _ R s => H s.heap ∧
      R (.ok (.ret (.ref (s.heap.push o).objs.size))) { s with heap := (s.heap.push o).push { cls := .type "enumerate", data := .fields #[.none, .bool false, .ref s.heap.objs.size, rawInt 0, .none, .none] } }) :=
  .of_wp fun prog w A R s h => by
    obtain ⟨hp, g, d, tk, os⟩ := s; obtain ⟨h1, h⟩ := h
    have hsub := sub_enumerate
    have q1 : ∀ {A' : Around} {E : Value → Shared → Prop} {Q : Value → Shared → Prop}, Q (.ref hp.objs.size) ⟨hp.push o, g, d, tk, os⟩ → wpAny (model prog w) A' (pyIter v) Q E ⟨hp, g, d, tk, os⟩ :=
      fun q => B.iter prog w _ _ ⟨hp, g, d, tk, os⟩ _ h1 q
    wp_walk using q1
    refine wpAny_stack_any fun st => wpAny_pure ?_
    split
    · rename_i c _ _ _ _ _
      cases (c == Value.type "enumerate")
      · wp_walk using q1
        exact ⟨_, rfl, h⟩
      · wp_walk using q1
        exact ⟨_, rfl, h⟩
    · wp_walk using q1
      exact ⟨_, rfl, h⟩
theorem call_enumT {v : Value} {o : Obj} {H : Heap → Prop} {Q : Value → Shared → Prop} (B : Begins v o H) (h1 : H s.heap)
    (h : ∀ h', IsEnum h' (s.heap.objs.size + 1) s.heap.objs.size 0 .none → h'.get? s.heap.objs.size = some o → h'.objs.size = s.heap.objs.size + 2 →
      (∀ b o, s.heap.get? b = some o → h'.get? b = some o) → Q (.ref (s.heap.objs.size + 1)) { s with heap := h' }) :
    wpAny (model prog w) A (call (.type "enumerate") [v]) Q E s := by
  refine callType_new F.called_enumerate (by decide) (F.typeCall_enumerate_1 _) (F.newCall_enumerate_1 _) (fun obj => F.args_object_init_2 obj _) F.entry_enumerate_new
    (meets_enumT B) ⟨h1, ?_⟩
  have hz : (s.heap.push o).objs.size = s.heap.objs.size + 1 := Heap.size_push ..
  show _ ∧ _
  rw [hz]
  have he : IsEnum ((s.heap.push o).push { cls := .type "enumerate", data := .fields #[.none, .bool false, .ref s.heap.objs.size, rawInt 0, .none, .none] }) (s.heap.objs.size + 1) s.heap.objs.size 0 .none := by
    have := Heap.get?_push_size (s.heap.push o) (o := { cls := .type "enumerate", data := .fields #[.none, .bool false, .ref s.heap.objs.size, rawInt 0, .none, .none] }) rfl
    rw [hz] at this; exact this
  refine ⟨⟨_, he, rfl⟩, h _ he (Heap.get?_push_of_some _ (Heap.get?_push_size _ B.free)) (by rw [Heap.size_push, hz]) fun b o x => Heap.get?_push_of_some _ (Heap.get?_push_of_some _ x)⟩
end
def IteT (K : PySem.W.Frag) (a : Addr) : It :=
  ⟨fun i H => ∃ (xs : List V) (x : V), SqT K H a xs ∧ xs[i]? = some x, fun i H v H' => ∃ T x, v = .ref T ∧ H T = none ∧ H' = upd H T (.tup [.int (i : Nat), x]) ∧ ∀ xs, SqT K H a xs → xs[i]? = some x, fun i H => ∃ xs : List V, SqT K H a xs ∧ xs.length ≤ i⟩
theorem turn_enumT {P : Program} {w : World} {K : PySem.W.Frag} {elts : List Expr} {kk : Nat} {tpos : Pos} (a e it : Addr) :
    Turn P w K (.Tuple elts kk tpos) (IteT K a) [e, it] e (fun i h => (∃ old, IsEnum h e it ((i : Nat) : Int) old) ∧ h.IsTupleIter it a i ∧ e ≠ it) where
  mem := by simp
  obj := fun i h st b hb => by
    obtain ⟨⟨old, he⟩, ⟨o, ho, hc, hd⟩, _⟩ := st
    have e' : b = e ∨ b = it := by simpa using hb
    rcases e' with z | z
    · rw [z]; exact ⟨_, he, fun v q => nomatch q⟩
    · rw [z]; exact ⟨o, ho, fun v q => by rw [hd] at q; cases q⟩
  keep := fun i h h' st k => let ⟨⟨old, he⟩, hi, hne⟩ := st; ⟨⟨old, k e (by simp) _ he⟩, hi.at fun o q => k it (by simp) o q, hne⟩
  item := by
    intro X hP hw hK hc i pins s σ H E I hf st hg
    subst hP hw hK
    obtain ⟨⟨old, he⟩, hit, hne⟩ := st
    obtain ⟨xs, x, hq, hx⟩ := hg
    obtain ⟨its, rv, p, hz⟩ := I.tuple hq
    obtain ⟨u, hu, ru⟩ := rv.get hx
    have hp : s.heap.IsTuple a its.toArray := p
    have hel : e < s.heap.objs.size := Heap.lt_size he
    have hil : it < s.heap.objs.size := by obtain ⟨_, q, _⟩ := hit; exact Heap.lt_size q
    have hit0 : a ≠ it := fun z => by
      obtain ⟨o1, q1, c1, _⟩ := hit
      obtain ⟨o2, q2, c2, _⟩ := hp
      rw [z, q1] at q2
      cases q2
      rw [c1] at c2
      injection c2 with c2
      exact absurd c2 (by decide)
    have hae : e ≠ a := fun z => by
      obtain ⟨o2, q2, c2, _⟩ := hp
      rw [← z, he] at q2
      cases q2
      injection c2 with c2
      exact absurd c2 (by decide)
    have hlt : i < its.toArray.size := by
      have := (List.getElem?_eq_some_iff.mp hu).1
      simpa using this
    refine wpAny_pyNext_enum_itemC (Draws.tuple (A := X.A.in1) (show X.A.in1.handled = none from I.ok.hd hc) it a hit0 its.toArray) he ⟨hit, hp⟩ hlt hne (by simp [hne, hae]) fun u' h' tk hu' ho hst' hT hsz hk => ?_
    have eu : u' = u := by
      have q : its[i]? = some u' := by simpa using hu'
      rw [hu] at q
      exact (Option.some.inj q).symm
    subst eu
    refine ⟨_, rfl, wpAny_letOwnedTupleGo_enum (s := { s with heap := h', toks := tk + 1 }) ho fun h'' he' sb => ?_⟩
    have hT2 : h''.get? s.heap.objs.size = some { cls := .type "tuple", data := .seq #[.int i tk, u'] } := (sb.2 _ (Nat.ne_of_gt hel)).trans hT
    have new : ObjOk X.prog X.w (upd H s.heap.objs.size (.tup [.int (i : Nat), x])) h'' s.heap.objs.size (.tup [.int (i : Nat), x]) :=
      ⟨by show 2 ≤ sizeLine; decide, [.int i tk, u'], .cons ⟨_, rfl⟩ (.cons ru .nil), ⟨_, hT2, rfl, _, rfl⟩⟩
    have I1 : Inv X pins σ (upd H s.heap.objs.size (.tup [.int (i : Nat), x])) { s with heap := h'', toks := tk + 1 } :=
      I.turnedNew (ch := [e, it]) (fun b ob hb q => (sb.2 b (fun z => hb (by simp [z]))).trans (hk b ob (fun z => hb (by simp [z])) (fun z => hb (by simp [z])) q)) hf (Nat.le_refl _) new
    refine ⟨.ref s.heap.objs.size, _, I1, rfl, ⟨_, x, rfl, I.hok.fresh (Nat.le_refl _), rfl, fun ys hy => by rw [I.tuple_inj hy hq]; exact hx⟩, ⟨⟨u', ?_⟩, hst'.1.at fun o q => (sb.2 it (Ne.symm hne)).trans q, hne⟩, fun b hb => ?_⟩
    · have e1 : ((i + 1 : Nat) : Int) = (i : Int) + 1 := by omega
      rw [e1]; exact he'
    · have hb' : b < s.heap.objs.size := by
        have e' : b = e ∨ b = it := by simpa using hb
        rcases e' with z | z
        · rw [z]; exact hel
        · rw [z]; exact hil
      rw [upd_ne (Nat.ne_of_lt hb')]
      exact (hf b hb).1
  done := by
    intro X hP hw hK hc i pins s σ H E I hf st hg
    subst hP hw hK
    obtain ⟨⟨old, he⟩, hit, hne⟩ := st
    obtain ⟨xs, hq, hx⟩ := hg
    obtain ⟨its, rv, p, hz⟩ := I.tuple hq
    have hp : s.heap.IsTuple a its.toArray := p
    obtain ⟨f0, f1, f2, f3, f4, f5⟩ := hf it (by simp)
    have hl := rv.length
    refine wpAny_pyNext_enum_endD (n := i) (St := fun j h => j = i ∧ h.IsTupleIter it a i ∧ h.IsTuple a its.toArray) (fp := [it, a]) (P := fun _ _ => True) ⟨fun j h st => ?_, fun j h h' st hk => ?_, fun j s Q E hi st hQ => ?_, fun s Q E st hE => ?_⟩ he ⟨rfl, hit, hp⟩ fun h' eb => ⟨rfl, I.turned (t' := s.toks) (fun b o hb q => eb b o hb q) f0 f1 f3 f4 f5⟩
    · obtain ⟨_, ⟨o, ho, _⟩, _⟩ := st; exact ⟨o, ho⟩
    · exact ⟨st.1, st.2.1.at fun o e => hk it (by simp) o e, st.2.2.at fun o e => hk a (by simp) o e⟩
    · exact absurd hi (by rw [st.1]; exact Nat.lt_irrefl _)
    · exact wpAny_nextOf_tuple_end (I.ok.hd hc) st.2.1 st.2.2 (by simp; omega) hE
  self := fun A i s Q E st h => let ⟨⟨_, he⟩, _⟩ := st; wpAny_pyIter_enum he h
/-- enumerate over a list or a tuple -/
def iEnumA (K : PySem.W.Frag) (ta : TA) : TI := fun σ H R => ta σ H fun vs H1 => ∃ a xs, vs = [.ref a] ∧ ((SqL K H1 a xs ∧ R (Ite K a) H1) ∨ (SqT K H1 a xs ∧ R (IteT K a) H1))
theorem pi_enumA {X : Cx} {e : Expr} {ta : TA} {p pos tpos : Pos} {elts : List Expr} {kk : Nat} (hg : Gl X "enumerate") (hm : X.mg "enumerate" = none) (ha : PA X [e] ta) (hs : starEach [e] X.env = [(false, eval e X.env)] := by rfl) :
    PI X (.Tuple elts kk tpos) (.Call (.Name "enumerate" p) [e] [] pos) (iEnumA X.K ta) := by
  refine ⟨fun pins s σ H R I h => ?_⟩
  refine Call_ (ld_blt I hg hm boot_enumerate (PyProof.Rows.callWith_type1 (thn (ha.run pos pins s σ H _ I h) fun us s1 ⟨vs, H1, I1, r1, q1⟩ => ?_) hs rfl))
  obtain ⟨a, xs, ex, q⟩ := q1
  subst ex
  cases r1 with
  | cons r rr =>
    cases rr
    cases r
    have hfp : ∀ b, b ∈ [s1.heap.objs.size + 1, s1.heap.objs.size] → FpOk X pins H1 b := fun b hb => by
      have e' : b = s1.heap.objs.size + 1 ∨ b = s1.heap.objs.size := by simpa using hb
      have hle : s1.heap.objs.size ≤ b := by
        rcases e' with z | z
        · rw [z]; exact Nat.le_add_right _ _
        · rw [z]; exact Nat.le_refl _
      exact I1.fpOk hle (I1.hok.fresh hle)
    rcases q with ⟨hq, q⟩ | ⟨hq, q⟩
    · obtain ⟨its, rv, p', hz⟩ := I1.list hq
      refine call_enumerate_list p'.isList fun h' he hit hsz hk => wpAny_pyIter_enum he ?_
      have I2 : Inv X pins σ H1 { s1 with heap := h' } := I1.kept (t' := s1.toks) hk
      exact ⟨s1.heap.objs.size + 1, [s1.heap.objs.size + 1, s1.heap.objs.size], _, _, H1, rfl, I2, turn_enum a (s1.heap.objs.size + 1) s1.heap.objs.size, ⟨⟨.none, he⟩, hit, Nat.succ_ne_self _⟩, hfp, q⟩
    · obtain ⟨its, rv, p', hz⟩ := I1.tuple hq
      have hp : s1.heap.IsTuple a its.toArray := p'
      refine call_enumT (begins_tuple a its.toArray) hp fun h' he hit hsz hk => wpAny_pyIter_enum he ?_
      have I2 : Inv X pins σ H1 { s1 with heap := h' } := I1.kept (t' := s1.toks) hk
      exact ⟨s1.heap.objs.size + 1, [s1.heap.objs.size + 1, s1.heap.objs.size], _, _, H1, rfl, I2, turn_enumT a (s1.heap.objs.size + 1) s1.heap.objs.size, ⟨⟨.none, he⟩, ⟨_, hit, rfl, rfl⟩, Nat.succ_ne_self _⟩, hfp, q⟩
section
variable {X : Cx} {a b c e : Expr} {wr : WA} {pos : Pos}
def iEnuA (wr : WA) : WI := fun s Ks => wr s fun s1 xs => a1 xs fun x => daI x fun d => match d with | .list ds => Ks s1 (enuD 0 ds) | .tuple ds => Ks s1 (enuD 0 ds) | _ => False
theorem di_enumA {p tpos : Pos} {elts : List Expr} {kk : Nat} (hg : Gl X "enumerate") (hm : X.mg "enumerate" = none) (ha : DA X [a] wr) (hs : starEach [a] X.env = [(false, eval a X.env)] := by rfl) :
    DI X (.Tuple elts kk tpos) (.Call (.Name "enumerate" p) [a] [] pos) (iEnuA wr) := by
  obtain ⟨ta, pa, qa⟩ := ha.ex
  refine ⟨_, pi_enumA hg hm pa hs, fun b A own H σ s Ks Q R h k => ?_⟩
  show ta σ H fun vs H1 => ∃ a xs, vs = [.ref a] ∧ ((SqL X.K H1 a xs ∧ Q (Ite X.K a) H1) ∨ (SqT X.K H1 a xs ∧ Q (IteT X.K a) H1))
  refine qa _ _ _ _ _ _ _ _ R h fun A1 o1 H1 vs s1 xs R1 U1 E1 h1 => ?_
  obtain ⟨v, x, rfl, e1, h1⟩ := a1_inv E1 h1
  obtain ⟨d, rfl, h2⟩ := daI_inv h1
  clear h1
  have h1 := h2
  clear h2
  split at h1
  · cases (show Rp X.K A1 H1 v _ from e1) with
    | lst l r =>
      refine ⟨_, _, rfl, .inl ⟨l.sq, k _ _ _ _ _ _ R1 U1 ?_ h1⟩⟩
      intro A2 H2 kp i
      have l2 : LsR A2 H2 _ _ := kp _ _ l.2 l.1
      have r2 := RpL.mono kp r
      refine ⟨fun hi => ⟨_, l2.sq, by rw [r2.length]; rw [enuD_length] at hi; exact hi⟩, fun d hd => ?_⟩
      obtain ⟨x, hx, rfl⟩ := enuD_get hd
      obtain ⟨vx, gx, rx⟩ := r2.get hx
      refine ⟨⟨_, vx, l2.sq, gx⟩, fun z H3 hz own1 σ s R => ?_⟩
      obtain ⟨T, x', rfl, hT, rfl, f1⟩ := hz
      have f1 := f1 _ l2.sq
      rw [gx] at f1
      cases f1
      rw [Nat.zero_add]
      exact wk_new hT (.cons (.int _) (.cons rx .nil)) own1 σ s R
  · cases (show Rp X.K A1 H1 v _ from e1) with
    | tup l r =>
      refine ⟨_, _, rfl, .inr ⟨l.sq, k _ _ _ _ _ _ R1 U1 ?_ h1⟩⟩
      intro A2 H2 kp i
      have l2 : TuR X.K A2 H2 _ _ := l.elim (fun q => .inl (kp _ _ q.2 q.1)) .inr
      have r2 := RpL.mono kp r
      refine ⟨fun hi => ⟨_, l2.sq, by rw [r2.length]; rw [enuD_length] at hi; exact hi⟩, fun d hd => ?_⟩
      obtain ⟨x, hx, rfl⟩ := enuD_get hd
      obtain ⟨vx, gx, rx⟩ := r2.get hx
      refine ⟨⟨_, vx, l2.sq, gx⟩, fun z H3 hz own1 σ s R => ?_⟩
      obtain ⟨T, x', rfl, hT, rfl, f1⟩ := hz
      have f1 := f1 _ l2.sq
      rw [gx] at f1
      cases f1
      rw [Nat.zero_add]
      exact wk_new hT (.cons (.int _) (.cons rx .nil)) own1 σ s R
  · exact h1.elim
end
end DL
namespace DL
open PySem L2 PySem.Spec PyProof.Rows
/-! ### a dict that changes no more is data -/
def dictD (kvs : List (Key × D)) : D := .dict (kvs.map fun z => (kD z.1, z.2))
section
variable {K : PySem.W.Frag} {A A' : Addr → Prop} {own own' : List (List Addr)} {H H' : Hp} {b : Bd} {σ : L2.St} {s : S}
theorem RKV.rpK : ∀ {ws : List (Key × V)} {kvs : List (Key × D)}, RKV K A H ws kvs → RpK K A H ws kvs
  | [], [], _ => .nil
  | (k, v) :: ws, (k', d) :: kvs, ⟨e, h, t⟩ => by
    have e : k = k' := e
    subst e
    exact .cons h (RKV.rpK t)
theorem RpK.rkv : ∀ {ws : List (Key × V)} {kvs : List (Key × D)}, RpK K A H ws kvs → RKV K A H ws kvs
  | _, _, .nil => trivial
  | _, _, .cons h t => ⟨rfl, h, RpK.rkv t⟩
theorem RpK.get : ∀ {ws : List (Key × V)} {kvs : List (Key × D)} {i : Nat} {k : Key} {d : D}, RpK K A H ws kvs → kvs[i]? = some (k, d) → ∃ v, ws[i]? = some (k, v) ∧ Rp K A H v d
  | _, _, _, _, _, .nil, e => by simp at e
  | _, _, 0, _, _, .cons a _, e => by
    simp at e
    obtain ⟨rfl, rfl⟩ := e
    exact ⟨_, rfl, a⟩
  | _, _, i + 1, _, _, .cons _ b, e => by
    obtain ⟨y, h1, h2⟩ := RpK.get (i := i) b (by simpa using e)
    exact ⟨y, by simpa using h1, h2⟩
theorem RpK.length : ∀ {ws : List (Key × V)} {kvs : List (Key × D)}, RpK K A H ws kvs → ws.length = kvs.length
  | _, _, .nil => rfl
  | _, _, .cons _ b => congrArg (· + 1) (RpK.length b)
/-- what reads as a dict -/
theorem rp_dict {v : V} {es : List (D × D)} (r : Rp K A H v (.dict es)) : ∃ a o ws kvs, v = .ref a ∧ es = kvs.map (fun z => (kD z.1, z.2)) ∧ H a = some (.frz o (.dK ws)) ∧ ¬ A a ∧ RpK K A H ws kvs := by
  generalize hd : PyData.dict es = d at r
  cases r with
  | dct l n q => cases hd; exact ⟨_, _, _, _, rfl, rfl, l, n, q⟩
  | non => cases hd
  | bl c => cases hd
  | int i => cases hd
  | str x => cases hd
  | lst l q => cases hd
  | tup l q => cases hd
def frzDS (k : Nat) (kvs : List (Key × D)) (s : S) : S := ⟨subL k (dictD kvs) s.es, sm (subS k (dictD kvs) s.ms) k .gone, s.np⟩
theorem Rel.frzD (r : Rel K b A own H σ s) {k : Nat} {kvs : List (Key × D)} (g : gm s.ms k = .dct kvs) (hk : s.np ≤ k) :
    ∃ p ws, H p = some (.dK ws) ∧ go own k = [p] ∧ RKV K A H ws kvs ∧ ∀ od, Rel K b (fun a => A a ∧ a ∉ go own k) (so own k) (upd H p (.frz od (.dK ws))) σ (frzDS k kvs s) ∧ Kp A H (fun a => A a ∧ a ∉ go own k) (upd H p (.frz od (.dK ws))) := by
  have m := r.mr k
  rw [g] at m
  obtain ⟨p, ws, e1, e2, e3⟩ := m
  have pA : A p := r.oa k p (by rw [e1]; simp)
  refine ⟨p, ws, e2, e1, e3, fun od => ?_⟩
  have kp : Kp A H (fun a => A a ∧ a ∉ go own k) (upd H p (.frz od (.dK ws))) := fun a u n q => ⟨by rw [upd_ne (fun z => n (by rw [z]; exact pA))]; exact q, fun z => n z.1⟩
  generalize hH : upd H p (.frz od (.dK ws)) = H1 at kp
  have h1p : H1 p = some (.frz od (.dK ws)) := by rw [← hH]; exact upd_same
  have h1n : ∀ a, a ≠ p → H1 a = H a := fun a n => by rw [← hH]; exact upd_ne n
  have rp : Rp K (fun a => A a ∧ a ∉ go own k) H1 (.ref p) (dictD kvs) := .dct h1p (fun z => z.2 (by rw [e1]; simp)) (RKV.rpK (e3.up kp))
  have er : ∀ {v : V} {x : En}, ER K A own H v x → ER K (fun a => A a ∧ a ∉ go own k) (so own k) H1 v (subE k (dictD kvs) x) := by
    intro v x h
    cases x with
    | no => trivial
    | da d => exact Rp.mono kp h
    | mu j =>
      obtain ⟨a, q, f1, f2⟩ := h
      show ER K _ _ H1 v (bif Nat.beq j k then .da (dictD kvs) else .mu j)
      by_cases e : j = k
      · subst e
        rw [show Nat.beq j j = true from by simp]
        rw [e1] at f1; cases f1; subst f2; exact rp
      · rw [show Nat.beq j k = false from Bool.eq_false_iff.mpr fun z => e (by simpa using z)]
        exact ⟨a, q, by rw [go_so, if_neg (Ne.symm e)]; exact f1, f2⟩
  have rke : ∀ {ws : List (Str × V)} {fs : List (Str × En)}, RKE K A own H ws fs → RKE K (fun a => A a ∧ a ∉ go own k) (so own k) H1 ws (subF k (dictD kvs) fs) := by
    intro ws fs
    induction fs generalizing ws with
    | nil => intro h; cases ws with
      | nil => trivial
      | cons _ _ => exact h.elim
    | cons x xs ih => intro h; cases ws with
      | nil => exact h.elim
      | cons w ws => exact ⟨h.1, er h.2.1, ih h.2.2⟩
  refine ⟨⟨⟨?_, fun j => ?_, fun i j a h1 h2 => ?_, fun i => ?_, fun i a h1 => ?_, fun a h z => ?_⟩, ?_, fun i => ?_, fun a h => ?_, fun a o hn h0 => ?_, fun i a h1 => ?_, ?_, ?_, fun a h => r.lim a h.1, r.a0⟩, kp⟩
  · show (so own k).length = (sm (subS k (dictD kvs) s.ms) k .gone).length
    rw [so_length, sm_length, subS_length]; exact r.ol
  · show MR K _ (so own k) H1 (go (so own k) j) (gm (sm (subS k (dictD kvs) s.ms) k .gone) j)
    rw [gm_sm, go_so]
    by_cases e : k = j
    · subst e
      have : k < s.ms.length := gm_lt (by rw [g]; intro z; cases z)
      rw [if_pos rfl, if_pos ⟨rfl, by rw [subS_length]; exact this⟩]; trivial
    · rw [if_neg e, if_neg (fun z => e z.1), gm_subS]
      have mj := r.mr j
      have ne : ∀ a, a ∈ go own j → H1 a = H a := fun a ha => h1n a fun z => e (r.dj k j p (by rw [e1]; simp) (by rw [← z]; exact ha))
      cases q : gm s.ms j with
      | gone => trivial
      | lst ds' => rw [q] at mj; obtain ⟨a, vs, h1, h2, h3⟩ := mj; exact ⟨a, vs, h1, (ne a (by rw [h1]; simp)).trans h2, RpL.mono kp h3⟩
      | dct ds' => rw [q] at mj; obtain ⟨a, vs, h1, h2, h3⟩ := mj; exact ⟨a, vs, h1, (ne a (by rw [h1]; simp)).trans h2, h3.up kp⟩
      | rnd n => rw [q] at mj; obtain ⟨a, c, cs, t, h1, h2, h3, h4⟩ := mj; exact ⟨a, c, cs, t, h1, (ne a (by rw [h1]; simp)).trans h2, (ne c (by rw [h1]; simp)).trans h3, h4⟩
      | box n => rw [q] at mj; obtain ⟨a, x, y, z, h1, h2, h4⟩ := mj; exact ⟨a, x, y, z, h1, (ne a (by rw [h1]; simp)).trans h2, h4⟩
      | tab n =>
        rw [q] at mj
        obtain ⟨P, c, h1, hc, ps, h2, h3, h4⟩ := mj
        refine ⟨P, c, h1, hc, ps, (ne P (by rw [h1]; simp)).trans h2, h3, fun pos cv e => ?_⟩
        obtain ⟨c', e5, e6, e7⟩ := h4 pos cv e
        exact ⟨c', e5, kp _ _ e7 e6⟩
      | ins C fs => rw [q] at mj; obtain ⟨a, dx, ws, h1, h2, h4⟩ := mj; exact ⟨a, dx, ws, h1, h2.up (fun b o hb e => (ne b (by rw [h1]; exact hb)).trans e), rke h4⟩
  · rw [go_so] at h1 h2
    split at h1
    · cases h1
    · split at h2
      · cases h2
      · exact r.dj i j a h1 h2
  · rw [go_so]
    split
    · exact List.nodup_nil
    · exact r.ld i
  · rw [go_so] at h1
    split at h1
    · cases h1
    · rename_i ne
      exact ⟨r.oa i a h1, fun z => ne (r.dj k i a z h1)⟩
  · by_cases e : a = p
    · subst e; rw [h1p] at z; cases z
    · rw [h1n a e] at z; exact r.al a h.1 z
  · show σ.length = (subL k (dictD kvs) s.es).length
    rw [subL_length]; exact r.len
  · show gt (subL k (dictD kvs) s.es) i = .no ∨ ∃ v, σ[i]? = some (some v) ∧ ER K _ (so own k) H1 v (gt (subL k (dictD kvs) s.es) i)
    rw [gt_subL]
    rcases r.sl i with z | ⟨v, e, h⟩
    · rw [z]; exact .inl rfl
    · exact .inr ⟨v, e, er h⟩
  · refine ⟨r.ge a h, fun z => ?_⟩
    rcases r.fo k a z with ⟨j, q⟩ | q
    · rw [← r.pre, go_take] at q
      split at q
      · have := r.dj k j a z q; omega
      · cases q
    · exact r.a0 a h q
  · have ne : a ≠ p := fun z => by
      rcases r.fo k p (by rw [e1]; simp) with ⟨j, q⟩ | q
      · exact hn j (by rw [z]; exact q)
      · rw [z, q] at h0; cases h0
    rw [h1n a ne]
    exact r.fr a o hn h0
  · rw [go_so] at h1
    split at h1
    · cases h1
    · exact r.fo i a h1
  · show (so own k).take s.np = b.own0
    rw [take_so own k s.np hk]; exact r.pre
  · rw [so_length]; exact r.npl
end
/-- locked for good -/
def tFz (t : TS) : TS := fun D σ H => ∃ d u, H d = some u ∧ Mut (some u) ∧ ∀ od, t D σ (upd H d (.frz od u))
section
variable {X : Cx} {a b c e : Expr} {wa wb wc we : WE} {pos : Pos} {sts : List Stmt} {w : WS}
theorem pss_fz {t : TS} (h : PSs X sts t) : PSs X sts (tFz t) := by
  refine ⟨fun pins s σ H D I hw => ?_⟩
  obtain ⟨d, u, hd, mu, hw⟩ := hw
  obtain ⟨od, I1⟩ := I.lock hd mu
  exact h.run pins s σ _ _ I1 (hw od)
def sFrzD (i : Nat) (w : WS) : WS := fun s D => match gt s.es i with | .mu k => (match gm s.ms k with | .dct kvs => s.np ≤ k ∧ w (frzDS k kvs s) D | _ => False) | _ => False
theorem dss_frzD (i : Nat) (h : DSs X sts w) : DSs X sts (sFrzD i w) := by
  obtain ⟨t, p, q⟩ := h.ex
  refine ⟨_, pss_fz p, fun b A own H σ s D E R h m => ?_⟩
  unfold sFrzD at h
  split at h
  · split at h
    · rename_i kvs g
      obtain ⟨p, ws, h1, _, _, h2⟩ := R.frzD g h.1
      refine ⟨p, _, h1, trivial, fun od => ?_⟩
      obtain ⟨R1, k1⟩ := h2 od
      exact q _ _ _ _ _ _ _ _ R1 h.2 (m.up k1)
    · exact h.elim
  · exact h.elim
/-! #### its items, its keys -/
def iItD (we : WE) : WI := fun s Ks => we s fun s1 x => daI x fun d => match d with | .dict es => Ks s1 (es.map fun z => .tuple [z.1, z.2]) | _ => False
theorem rp_key {K : PySem.W.Frag} {A : Addr → Prop} {H : Hp} (k : Key) : Rp K A H (kV k) (kD k) := by
  cases k with
  | inl i => exact .int i
  | inr x => exact .str x
theorem di_itD {apos cpos tpos : Pos} {elts : List Expr} {kk : Nat} (he : DE X e we) (hbase : attributeBase e "items" X.env (eval e X.env) = eval e X.env := by rfl) (hline : (apos.endLine == cpos.line) = true := by rfl) :
    DI X (.Tuple elts kk tpos) (.Call (.Attribute e "items" apos) [] [] cpos) (iItD we) := by
  obtain ⟨te, pe, qe⟩ := he.ex
  refine ⟨_, pi_items pe hbase hline, fun b A own H σ s Ks Q R h k => ?_⟩
  show te σ H fun x H1 => ∃ d o kvs, x = .ref d ∧ H1 d = some (.frz o (.dK kvs)) ∧ Q (Iti d o kvs) H1
  refine qe _ _ _ _ _ _ _ _ R h fun A1 o1 H1 v1 s1 x1 R1 U1 E1 h1 => ?_
  obtain ⟨d, rfl, h2⟩ := daI_inv h1
  clear h1
  cases d with
  | dict es =>
    obtain ⟨a, o, ws, kvs, rfl, rfl, l, n, q⟩ := rp_dict (show Rp X.K A1 H1 v1 (.dict es) from E1)
    refine ⟨a, o, ws, rfl, l, k _ _ _ _ _ _ R1 U1 ?_ h2⟩
    intro A2 H2 kp i
    obtain ⟨l2, n2⟩ := kp _ _ n l
    have q2 := RpK.mono kp q
    refine ⟨fun hi => ⟨l2, by rw [q2.length]; rw [List.length_map, List.length_map] at hi; exact hi⟩, fun d hd => ?_⟩
    rw [List.getElem?_map, List.getElem?_map] at hd
    cases hk : kvs[i]? with
    | none => rw [hk] at hd; cases hd
    | some z =>
      rw [hk] at hd
      cases hd
      obtain ⟨v, gv, rv⟩ := q2.get (k := z.1) (d := z.2) hk
      refine ⟨⟨l2, (List.getElem?_eq_some_iff.mp gv).1⟩, fun y H3 hy own1 σ s R => ?_⟩
      obtain ⟨T, k', v', e1, rfl, hT, rfl⟩ := hy
      rw [gv] at e1
      cases e1
      exact wk_new hT (.cons (rp_key _) (.cons rv .nil)) own1 σ s R
  | _ => exact h2.elim
def cListDd : S → List En → (S → En → Prop) → Prop := fun s xs Ks => a1 xs fun x => daI x fun d => match d with | .dict es => Ks s (.da (.list (es.map (·.1)))) | _ => False
theorem cd_listDd {K : PySem.W.Frag} : CallD K rListK cListDd := by
  intro b A own H σ s vs xs Ks Q R E h k
  obtain ⟨v, x, rfl, e1, h⟩ := a1_inv E h
  obtain ⟨d, rfl, h2⟩ := daI_inv h
  clear h
  cases d with
  | dict es =>
    obtain ⟨a, o, ws, kvs, rfl, rfl, l, n, q⟩ := rp_dict (show Rp K A H v (.dict es) from e1)
    refine ⟨a, ws, rfl, .inr ⟨o, l⟩, fun p hp => new_lst R k ?_ hp h2⟩
    rw [List.map_map]
    exact rkv_keysV q.rkv
  | _ => exact h2.elim
theorem de_listDd {p : Pos} (hc : X.calm = true) (hg : Gl X "list") (hm : X.mg "list" = none) (ha : DE X a wa) (he : starEach (a :: []) X.env = (false, eval a X.env) :: starEach [] X.env := by rfl) : DE X (.Call (.Name "list" p) [a] [] pos) (dCall cListDd (aCons wa aNil)) := de_callTy (call_listD hc) cd_listDd hg hm (by decide +kernel) (da_cons ha da_nil he) (he := he)
end
end DL
namespace DL
open PySem L2 PySem.Spec PyProof.Rows
/-! ### zip over lists and tuples, mixed (printed by zipgen.py) -/
def Sq1 (K : PySem.W.Frag) (H : Hp) (t : Bool) (a : Addr) (xs : List V) : Prop := match t with | false => SqL K H a xs | true => SqT K H a xs
def isS (t : Bool) (h : Heap) (a : Addr) (its : Array Value) : Prop := match t with | false => h.IsList a its | true => h.IsTuple a its
def itN (t : Bool) (h : Heap) (it a : Addr) (i : Nat) : Prop := match t with | false => h.IsListIter it a i | true => h.IsTupleIter it a i
def itO (t : Bool) (a : Addr) : Obj := match t with | false => { cls := .type "list_iterator", data := .fields #[.ref a, .int 0 0] } | true => { cls := .type "tuple_iterator", data := .fields #[.ref a, .int 0 0] }
theorem isS.lt {t : Bool} {h : Heap} {a : Addr} {its : Array Value} (p : isS t h a its) : a < h.objs.size := by
  cases t with
  | false => obtain ⟨o, e, _⟩ := (show h.IsList a its from p); exact Heap.lt_size e
  | true => obtain ⟨o, e, _⟩ := (show h.IsTuple a its from p); exact Heap.lt_size e
theorem itN.obj {t : Bool} {h : Heap} {it a : Addr} {i : Nat} (p : itN t h it a i) : ∃ o, h.get? it = some o ∧ ∀ v, o.data ≠ .cell v := by
  cases t with
  | false => obtain ⟨o, e, c, d⟩ := (show h.IsListIter it a i from p); exact ⟨o, e, fun v z => by rw [d] at z; cases z⟩
  | true => obtain ⟨o, e, c, d⟩ := (show h.IsTupleIter it a i from p); exact ⟨o, e, fun v z => by rw [d] at z; cases z⟩
theorem itN.at {t : Bool} {h h' : Heap} {it a : Addr} {i : Nat} (p : itN t h it a i) (k : ∀ o, h.get? it = some o → h'.get? it = some o) : itN t h' it a i := by
  cases t with
  | false => exact Heap.IsListIter.at (show h.IsListIter it a i from p) k
  | true => exact Heap.IsTupleIter.at (show h.IsTupleIter it a i from p) k
theorem itN_new {t : Bool} {h : Heap} {it a : Addr} (e : h.get? it = some (itO t a)) : itN t h it a 0 := by
  cases t with
  | false => exact ⟨_, e, rfl, rfl⟩
  | true => exact ⟨_, e, rfl, rfl⟩
theorem beginsS (t : Bool) (a : Addr) (its : Array Value) : Begins (.ref a) (itO t a) (fun h => isS t h a its) := by
  cases t with
  | false => exact begins_list a its
  | true => exact begins_tuple a its
theorem drawsS {prog : Program} {w : World} {A : Around} (hh : A.handled = none) (t : Bool) {it a : Addr} (hne : a ≠ it) (its : Array Value) :
    Draws prog w A it [it, a] its.size (fun i v => its[i]? = some v) (fun i h => itN t h it a i ∧ isS t h a its) := by
  cases t with
  | false => exact Draws.list hh it a hne its
  | true => exact Draws.tuple hh it a hne its
section
variable {X : Cx} {pins : List (Addr × Obj)} {σ : L2.St} {H : Hp} {s : Shared}
theorem _root_.L2.Inv.sq1 {t : Bool} {a : Addr} {xs : List V} (I : Inv X pins σ H s) (h : Sq1 X.K H t a xs) : ∃ its : List Value, Vals xs its ∧ isS t s.heap a its.toArray ∧ xs.length ≤ sizeLine := by
  cases t with
  | false => obtain ⟨its, rv, p, z⟩ := I.list h; exact ⟨its, rv, p.isList, z⟩
  | true => obtain ⟨its, rv, p, z⟩ := I.tuple h; exact ⟨its, rv, p, z⟩
end
/-- a sequence's place, off A -/
def SqD (K : PySem.W.Frag) (A : Addr → Prop) (H : Hp) (t : Bool) (a : Addr) (xs : List V) : Prop := match t with | false => LsR A H a xs | true => TuR K A H a xs
theorem SqD.sq {K : PySem.W.Frag} {A : Addr → Prop} {H : Hp} {t : Bool} {a : Addr} {xs : List V} (h : SqD K A H t a xs) : Sq1 K H t a xs := by
  cases t with
  | false => exact LsR.sq h
  | true => exact TuR.sq h
theorem SqD.mono {K : PySem.W.Frag} {A A' : Addr → Prop} {H H' : Hp} {t : Bool} {a : Addr} {xs : List V} (h : SqD K A H t a xs) (kp : Kp A H A' H') : SqD K A' H' t a xs := by
  cases t with
  | false => exact kp _ _ h.2 h.1
  | true => exact Or.elim h (fun q => .inl (kp _ _ q.2 q.1)) .inr
theorem rp_seq {K : PySem.W.Frag} {A : Addr → Prop} {H : Hp} {v : V} {d : D} {ds : List D} (r : Rp K A H v d) (h : seqD d = some ds) : ∃ t a us, v = .ref a ∧ SqD K A H t a us ∧ RpL K A H us ds := by
  cases r with
  | lst l r => cases h; exact ⟨false, _, _, rfl, l, r⟩
  | tup l r => cases h; exact ⟨true, _, _, rfl, l, r⟩
  | non => cases h
  | bl c => cases h
  | int i => cases h
  | str x => cases h
  | dct _ _ _ => cases h
def ItzG2 (K : PySem.W.Frag) (t1 : Bool) (a1 : Addr) (xs1 : List V) (t2 : Bool) (a2 : Addr) (xs2 : List V) : It :=
  ⟨fun i H => Sq1 K H t1 a1 xs1 ∧ Sq1 K H t2 a2 xs2 ∧ i < xs1.length ∧ i < xs2.length,
   fun i H v H' => ∃ T x1 x2, v = .ref T ∧ H T = none ∧ H' = upd H T (.tup [x1, x2]) ∧ xs1[i]? = some x1 ∧ xs2[i]? = some x2,
   fun i H => Sq1 K H t1 a1 xs1 ∧ Sq1 K H t2 a2 xs2 ∧ (xs1.length ≤ i ∨ xs2.length ≤ i)⟩
theorem turn_zipG2 {P : Program} {w : World} {K : PySem.W.Frag} {elts : List Expr} {kk : Nat} {tpos : Pos} {t1 t2 : Bool} {xs1 xs2 : List V} {a1 a2 z TI TO i1 i2 : Addr} (S : ZipSep2 z TI TO i1 i2 [i1, a1] [i2, a2]) (n1 : a1 ≠ i1) (n2 : a2 ≠ i2) :
    Turn P w K (.Tuple elts kk tpos) (ItzG2 K t1 a1 xs1 t2 a2 xs2) [z, TI, TO, i1, i2] z (fun i h => IsZip h z TI TO .none ∧ IsTupOf2 h TI (.ref i1) (.ref i2) ∧ (∃ y1 y2, IsTupOf2 h TO y1 y2) ∧ itN t1 h i1 a1 i ∧ itN t2 h i2 a2 i ∧ i ≤ xs1.length ∧ i ≤ xs2.length) where
  mem := by simp
  obj := fun i h st c hc => by
    obtain ⟨hz, hTI, ⟨y1, y2, hTO⟩, s1, s2, _⟩ := st
    have e' : c = z ∨ c = TI ∨ c = TO ∨ c = i1 ∨ c = i2 := by simpa using hc
    rcases e' with q | q | q | q | q
    · rw [q]; exact ⟨_, hz, fun v q => nomatch q⟩
    · rw [q]; exact ⟨_, hTI, fun v q => nomatch q⟩
    · rw [q]; exact ⟨_, hTO, fun v q => nomatch q⟩
    · rw [q]; exact s1.obj
    · rw [q]; exact s2.obj
  keep := fun i h h' st k => by
    obtain ⟨hz, hTI, ⟨y1, y2, hTO⟩, s1, s2, hl⟩ := st
    exact ⟨k z (by simp) _ hz, k TI (by simp) _ hTI, ⟨y1, y2, k TO (by simp) _ hTO⟩, s1.at fun o q => k i1 (by simp) o q, s2.at fun o q => k i2 (by simp) o q, hl⟩
  item := by
    intro X hP hw hK hc i pins s σ H E I hf st hg
    subst hP hw hK
    obtain ⟨hz, hTI, ⟨y1, y2, hTO⟩, s1, s2, l1, l2⟩ := st
    obtain ⟨q1, q2, g1, g2⟩ := hg
    obtain ⟨its1, rv1, p1, z1⟩ := I.sq1 q1
    obtain ⟨u1, hu1, ru1⟩ := rv1.get (List.getElem?_eq_getElem g1)
    obtain ⟨its2, rv2, p2, z2⟩ := I.sq1 q2
    obtain ⟨u2, hu2, ru2⟩ := rv2.get (List.getElem?_eq_getElem g2)
    have hzl : z < s.heap.objs.size := Heap.lt_size hz
    refine wpAny_pyNext_zipD2_item S (drawsS (A := X.A.in1) (show X.A.in1.handled = none from I.ok.hd hc) t1 n1 its1.toArray) (drawsS (A := X.A.in1) (show X.A.in1.handled = none from I.ok.hd hc) t2 n2 its2.toArray) hz hTI hTO ⟨s1, p1⟩ ⟨s2, p2⟩ (by have := rv1.length; rw [List.size_toArray]; omega) (by have := rv2.length; rw [List.size_toArray]; omega) fun v1 v2 h' tk w1 w2 z' TO' d1 d2 hT hsz hk => ?_
    have e1 : v1 = u1 := by
      have q : its1[i]? = some v1 := by simpa using w1
      rw [hu1] at q
      exact (Option.some.inj q).symm
    subst e1
    have e2 : v2 = u2 := by
      have q : its2[i]? = some v2 := by simpa using w2
      rw [hu2] at q
      exact (Option.some.inj q).symm
    subst e2
    refine ⟨_, rfl, wpAny_letOwnedTupleGo_zip (s := { s with heap := h', toks := tk }) z' fun h'' z'' sb => ?_⟩
    have hT2 : h''.get? s.heap.objs.size = some { cls := .type "tuple", data := .seq #[v1, v2] } := (sb.2 _ (Nat.ne_of_gt hzl)).trans hT
    have new : ObjOk X.prog X.w (upd H s.heap.objs.size (.tup [xs1[i], xs2[i]])) h'' s.heap.objs.size (.tup [xs1[i], xs2[i]]) :=
      ⟨by show 2 ≤ sizeLine; decide, [v1, v2], (.cons ru1 (.cons ru2 .nil)), ⟨_, hT2, rfl, _, rfl⟩⟩
    have I1 : Inv X pins σ (upd H s.heap.objs.size (.tup [xs1[i], xs2[i]])) { s with heap := h'', toks := tk } :=
      I.turnedNew (ch := [z, TI, TO, i1, i2]) (fun c o hb q => (sb.2 c (fun q' => hb (by simp [q']))).trans (hk c o (fun q' => hb (by simp [q'])) (fun q' => hb (by simp [q'])) (fun q' => hb (by simp [q'])) (fun q' => hb (by simp [q'])) q)) hf (Nat.le_refl _) new
    refine ⟨.ref s.heap.objs.size, _, I1, rfl, ⟨_, _, _, rfl, I.hok.fresh (Nat.le_refl _), rfl, List.getElem?_eq_getElem g1, List.getElem?_eq_getElem g2⟩, ⟨z'', ?_, ⟨v1, v2, ?_⟩, d1.1.at fun o q => (sb.2 i1 (fun q' => S.zf1 (by simp [← q']))).trans q, d2.1.at fun o q => (sb.2 i2 (fun q' => S.zf2 (by simp [← q']))).trans q, g1, g2⟩, fun b hb => ?_⟩
    · exact (sb.2 _ S.TIz).trans (hk _ _ S.TIz S.TITO S.TIi1 S.TIi2 hTI)
    · exact (sb.2 _ S.TOz).trans TO'
    · have hb' : b < s.heap.objs.size := by
        have e' : b = z ∨ b = TI ∨ b = TO ∨ b = i1 ∨ b = i2 := by simpa using hb
        rcases e' with q | q | q | q | q
        · rw [q]; exact hzl
        · rw [q]; exact Heap.lt_size hTI
        · rw [q]; exact Heap.lt_size hTO
        · rw [q]; obtain ⟨_, e, _⟩ := s1.obj; exact Heap.lt_size e
        · rw [q]; obtain ⟨_, e, _⟩ := s2.obj; exact Heap.lt_size e
      rw [upd_ne (Nat.ne_of_lt hb')]
      exact (hf b hb).1
  done := by
    intro X hP hw hK hc i pins s σ H E I hf st hg
    subst hP hw hK
    obtain ⟨hz, hTI, ⟨y1, y2, hTO⟩, s1, s2, l1, l2⟩ := st
    obtain ⟨q1, q2, ge⟩ := hg
    obtain ⟨its1, rv1, p1, z1⟩ := I.sq1 q1
    have m1 := rv1.length
    obtain ⟨its2, rv2, p2, z2⟩ := I.sq1 q2
    have m2 := rv2.length
    exact wpAny_pyNext_zipD2_end S (drawsS (A := X.A.in1) (show X.A.in1.handled = none from I.ok.hd hc) t1 n1 its1.toArray) (drawsS (A := X.A.in1) (show X.A.in1.handled = none from I.ok.hd hc) t2 n2 its2.toArray) hz hTI hTO ⟨s1, p1⟩ ⟨s2, p2⟩ (by rw [List.size_toArray]; omega) (by rw [List.size_toArray]; omega) (by simp only [List.size_toArray]; omega) fun h' tk hk => ⟨rfl, I.turnedL (t' := tk) (ch := [z, TI, TO, i1, i2]) (fun c o hb q => hk c o (fun q' => hb (by simp [q'])) (fun q' => hb (by simp [q'])) (fun q' => hb (by simp [q'])) (fun q' => hb (by simp [q'])) q) hf⟩
  self := fun A i s Q E st h => wpAny_pyIter_zip st.1 h
def iZipG2 (K : PySem.W.Frag) (ta : TA) : TI := fun σ H R => ta σ H fun vs H => ∃ t1 a1 xs1 t2 a2 xs2, vs = [.ref a1, .ref a2] ∧ Sq1 K H t1 a1 xs1 ∧ Sq1 K H t2 a2 xs2 ∧ R (ItzG2 K t1 a1 xs1 t2 a2 xs2) H
theorem pi_zipG2 {X : Cx} {e1 e2 : Expr} {ta : TA} {p pos tpos : Pos} {elts : List Expr} {kk : Nat} (hg : Gl X "zip") (hm : X.mg "zip" = none) (ha : PA X [e1, e2] ta)
    (hs : starEach [e1, e2] X.env = (false, eval e1 X.env) :: starEach [e2] X.env := by rfl) (hpl : (backTo pos (starEach [e2] X.env)).any (·.1) = false := by rfl) :
    PI X (.Tuple elts kk tpos) (.Call (.Name "zip" p) [e1, e2] [] pos) (iZipG2 X.K ta) := by
  refine ⟨fun pins s σ H R I h => ?_⟩
  refine Call_ (ld_blt I hg hm PyProof.Rows.boot_zip (PyProof.Rows.callWith_type1 (thn (ha.run pos pins s σ H _ I h) fun us s1 ⟨vs, H1, I1, r1, q1⟩ => ?_) hs hpl))
  obtain ⟨t1, a1, xs1, t2, a2, xs2, ex, f1, f2, q⟩ := q1
  subst ex
  cases r1 with
  | cons r1x r1 =>
    cases r1 with
    | cons r2x r1 =>
      cases r1
      cases r1x
      cases r2x
      obtain ⟨its1, rv1, p1, z1⟩ := I1.sq1 f1
      have lt1 : a1 < s1.heap.objs.size := p1.lt
      obtain ⟨its2, rv2, p2, z2⟩ := I1.sq1 f2
      have lt2 : a2 < s1.heap.objs.size := p2.lt
      have fresh : ∀ c, c ∈ [s1.heap.objs.size + 4, s1.heap.objs.size + 2, s1.heap.objs.size + 3, s1.heap.objs.size, s1.heap.objs.size + 1] → FpOk X pins H1 c := fun c hcm => by
        have hle : s1.heap.objs.size ≤ c := by
          have e' : c = s1.heap.objs.size + 4 ∨ c = s1.heap.objs.size + 2 ∨ c = s1.heap.objs.size + 3 ∨ c = s1.heap.objs.size ∨ c = s1.heap.objs.size + 1 := by simpa using hcm
          rcases e' with q | q | q | q | q
          · rw [q]; exact Nat.le_add_right _ _
          · rw [q]; exact Nat.le_add_right _ _
          · rw [q]; exact Nat.le_add_right _ _
          · rw [q]; exact Nat.le_refl _
          · rw [q]; exact Nat.le_add_right _ _
        exact I1.fpOk hle (I1.hok.fresh hle)
      refine zip_begins2 (beginsS t1 a1 its1.toArray) (beginsS t2 a2 its2.toArray) p1 p2 fun h' hz hTI hTO b1 b2 hsz hk => wpAny_pyIter_zip hz ?_
      have I2 : Inv X pins σ H1 { s1 with heap := h' } := I1.kept (t' := s1.toks) hk
      exact ⟨s1.heap.objs.size + 4, [s1.heap.objs.size + 4, s1.heap.objs.size + 2, s1.heap.objs.size + 3, s1.heap.objs.size, s1.heap.objs.size + 1], _, _, H1, rfl, I2, turn_zipG2 (zip_sep2 (fp1 := [a1]) (fun b hb => by rw [List.mem_singleton.mp hb]; exact lt1) (fp2 := [a2]) (fun b hb => by rw [List.mem_singleton.mp hb]; exact lt2)) (Nat.ne_of_lt (Nat.lt_of_lt_of_le lt1 (Nat.le_refl _))) (Nat.ne_of_lt (Nat.lt_of_lt_of_le lt2 (Nat.le_add_right _ _))), ⟨hz, hTI, ⟨_, _, hTO⟩, itN_new b1, itN_new b2, Nat.zero_le _, Nat.zero_le _⟩, fresh, q⟩
section
variable {X : Cx} {e1 e2 : Expr} {wr : WA} {pos : Pos}
def iZipA2 (wr : WA) : WI := fun s Ks => wr s fun s1 xs => a2 xs fun x y => da2 x y fun d e => onO (seqD d) fun ds => onO (seqD e) fun es => Ks s1 (zipD ds es)
theorem di_zipA2 {p tpos : Pos} {elts : List Expr} {kk : Nat} (hg : Gl X "zip") (hm : X.mg "zip" = none) (ha : DA X [e1, e2] wr)
    (hs : starEach [e1, e2] X.env = (false, eval e1 X.env) :: starEach [e2] X.env := by rfl) (hpl : (backTo pos (starEach [e2] X.env)).any (·.1) = false := by rfl) :
    DI X (.Tuple elts kk tpos) (.Call (.Name "zip" p) [e1, e2] [] pos) (iZipA2 wr) := by
  obtain ⟨ta, pa, qa⟩ := ha.ex
  refine ⟨_, pi_zipG2 hg hm pa hs hpl, fun b A own H σ s Ks Q R h k => ?_⟩
  show ta σ H fun vs H => ∃ t1 a1 xs1 t2 a2 xs2, vs = [.ref a1, .ref a2] ∧ Sq1 X.K H t1 a1 xs1 ∧ Sq1 X.K H t2 a2 xs2 ∧ Q (ItzG2 X.K t1 a1 xs1 t2 a2 xs2) H
  refine qa _ _ _ _ _ _ _ _ R h fun A1 o1 H1 vs s1 xs R1 U1 E1 h1 => ?_
  obtain ⟨v1, v2, x, y, rfl, c1, c2, h1⟩ := a2_inv E1 h1
  obtain ⟨d1, d2, rfl, rfl, h2⟩ := da2_inv h1
  clear h1
  obtain ⟨ds1, hd1, h2⟩ := onO_inv h2
  obtain ⟨t1, a1, us1, rfl, st1, r1⟩ := rp_seq (show Rp X.K A1 H1 v1 d1 from c1) hd1
  obtain ⟨ds2, hd2, h2⟩ := onO_inv h2
  obtain ⟨t2, a2, us2, rfl, st2, r2⟩ := rp_seq (show Rp X.K A1 H1 v2 d2 from c2) hd2
  refine ⟨t1, a1, us1, t2, a2, us2, rfl, st1.sq, st2.sq, k _ _ _ _ _ _ R1 U1 ?_ h2⟩
  intro A2 H2 kp i
  have m1 := st1.mono kp
  have g1 := RpL.mono kp r1
  have m2 := st2.mono kp
  have g2 := RpL.mono kp r2
  refine ⟨fun hi => ⟨m1.sq, m2.sq, ?_⟩, fun d hd => ?_⟩
  · rw [zipD_length] at hi
    rw [g1.length, g2.length]
    omega
  · obtain ⟨x1, x2, hx1, hx2, rfl⟩ := zipD_get hd
    obtain ⟨y1, gy1, ry1⟩ := g1.get hx1
    obtain ⟨y2, gy2, ry2⟩ := g2.get hx2
    refine ⟨⟨m1.sq, m2.sq, (List.getElem?_eq_some_iff.mp gy1).1, (List.getElem?_eq_some_iff.mp gy2).1⟩, fun w H3 hw own1 σ s R => ?_⟩
    obtain ⟨T, z1, z2, rfl, hT, rfl, k1, k2⟩ := hw
    rw [gy1] at k1
    cases k1
    rw [gy2] at k2
    cases k2
    exact wk_new hT (.cons ry1 (.cons ry2 .nil)) own1 σ s R
end
def ItzG3 (K : PySem.W.Frag) (t1 : Bool) (a1 : Addr) (xs1 : List V) (t2 : Bool) (a2 : Addr) (xs2 : List V) (t3 : Bool) (a3 : Addr) (xs3 : List V) : It :=
  ⟨fun i H => Sq1 K H t1 a1 xs1 ∧ Sq1 K H t2 a2 xs2 ∧ Sq1 K H t3 a3 xs3 ∧ i < xs1.length ∧ i < xs2.length ∧ i < xs3.length,
   fun i H v H' => ∃ T x1 x2 x3, v = .ref T ∧ H T = none ∧ H' = upd H T (.tup [x1, x2, x3]) ∧ xs1[i]? = some x1 ∧ xs2[i]? = some x2 ∧ xs3[i]? = some x3,
   fun i H => Sq1 K H t1 a1 xs1 ∧ Sq1 K H t2 a2 xs2 ∧ Sq1 K H t3 a3 xs3 ∧ (xs1.length ≤ i ∨ xs2.length ≤ i ∨ xs3.length ≤ i)⟩
theorem turn_zipG3 {P : Program} {w : World} {K : PySem.W.Frag} {elts : List Expr} {kk : Nat} {tpos : Pos} {t1 t2 t3 : Bool} {xs1 xs2 xs3 : List V} {a1 a2 a3 z TI TO i1 i2 i3 : Addr} (S : ZipSep3 z TI TO i1 i2 i3 [i1, a1] [i2, a2] [i3, a3]) (n1 : a1 ≠ i1) (n2 : a2 ≠ i2) (n3 : a3 ≠ i3) :
    Turn P w K (.Tuple elts kk tpos) (ItzG3 K t1 a1 xs1 t2 a2 xs2 t3 a3 xs3) [z, TI, TO, i1, i2, i3] z (fun i h => IsZip h z TI TO .none ∧ IsTupOf3 h TI (.ref i1) (.ref i2) (.ref i3) ∧ (∃ y1 y2 y3, IsTupOf3 h TO y1 y2 y3) ∧ itN t1 h i1 a1 i ∧ itN t2 h i2 a2 i ∧ itN t3 h i3 a3 i ∧ i ≤ xs1.length ∧ i ≤ xs2.length ∧ i ≤ xs3.length) where
  mem := by simp
  obj := fun i h st c hc => by
    obtain ⟨hz, hTI, ⟨y1, y2, y3, hTO⟩, s1, s2, s3, _⟩ := st
    have e' : c = z ∨ c = TI ∨ c = TO ∨ c = i1 ∨ c = i2 ∨ c = i3 := by simpa using hc
    rcases e' with q | q | q | q | q | q
    · rw [q]; exact ⟨_, hz, fun v q => nomatch q⟩
    · rw [q]; exact ⟨_, hTI, fun v q => nomatch q⟩
    · rw [q]; exact ⟨_, hTO, fun v q => nomatch q⟩
    · rw [q]; exact s1.obj
    · rw [q]; exact s2.obj
    · rw [q]; exact s3.obj
  keep := fun i h h' st k => by
    obtain ⟨hz, hTI, ⟨y1, y2, y3, hTO⟩, s1, s2, s3, hl⟩ := st
    exact ⟨k z (by simp) _ hz, k TI (by simp) _ hTI, ⟨y1, y2, y3, k TO (by simp) _ hTO⟩, s1.at fun o q => k i1 (by simp) o q, s2.at fun o q => k i2 (by simp) o q, s3.at fun o q => k i3 (by simp) o q, hl⟩
  item := by
    intro X hP hw hK hc i pins s σ H E I hf st hg
    subst hP hw hK
    obtain ⟨hz, hTI, ⟨y1, y2, y3, hTO⟩, s1, s2, s3, l1, l2, l3⟩ := st
    obtain ⟨q1, q2, q3, g1, g2, g3⟩ := hg
    obtain ⟨its1, rv1, p1, z1⟩ := I.sq1 q1
    obtain ⟨u1, hu1, ru1⟩ := rv1.get (List.getElem?_eq_getElem g1)
    obtain ⟨its2, rv2, p2, z2⟩ := I.sq1 q2
    obtain ⟨u2, hu2, ru2⟩ := rv2.get (List.getElem?_eq_getElem g2)
    obtain ⟨its3, rv3, p3, z3⟩ := I.sq1 q3
    obtain ⟨u3, hu3, ru3⟩ := rv3.get (List.getElem?_eq_getElem g3)
    have hzl : z < s.heap.objs.size := Heap.lt_size hz
    refine wpAny_pyNext_zipD3_item S (drawsS (A := X.A.in1) (show X.A.in1.handled = none from I.ok.hd hc) t1 n1 its1.toArray) (drawsS (A := X.A.in1) (show X.A.in1.handled = none from I.ok.hd hc) t2 n2 its2.toArray) (drawsS (A := X.A.in1) (show X.A.in1.handled = none from I.ok.hd hc) t3 n3 its3.toArray) hz hTI hTO ⟨s1, p1⟩ ⟨s2, p2⟩ ⟨s3, p3⟩ (by have := rv1.length; rw [List.size_toArray]; omega) (by have := rv2.length; rw [List.size_toArray]; omega) (by have := rv3.length; rw [List.size_toArray]; omega) fun v1 v2 v3 h' tk w1 w2 w3 z' TO' d1 d2 d3 hT hsz hk => ?_
    have e1 : v1 = u1 := by
      have q : its1[i]? = some v1 := by simpa using w1
      rw [hu1] at q
      exact (Option.some.inj q).symm
    subst e1
    have e2 : v2 = u2 := by
      have q : its2[i]? = some v2 := by simpa using w2
      rw [hu2] at q
      exact (Option.some.inj q).symm
    subst e2
    have e3 : v3 = u3 := by
      have q : its3[i]? = some v3 := by simpa using w3
      rw [hu3] at q
      exact (Option.some.inj q).symm
    subst e3
    refine ⟨_, rfl, wpAny_letOwnedTupleGo_zip (s := { s with heap := h', toks := tk }) z' fun h'' z'' sb => ?_⟩
    have hT2 : h''.get? s.heap.objs.size = some { cls := .type "tuple", data := .seq #[v1, v2, v3] } := (sb.2 _ (Nat.ne_of_gt hzl)).trans hT
    have new : ObjOk X.prog X.w (upd H s.heap.objs.size (.tup [xs1[i], xs2[i], xs3[i]])) h'' s.heap.objs.size (.tup [xs1[i], xs2[i], xs3[i]]) :=
      ⟨by show 3 ≤ sizeLine; decide, [v1, v2, v3], (.cons ru1 (.cons ru2 (.cons ru3 .nil))), ⟨_, hT2, rfl, _, rfl⟩⟩
    have I1 : Inv X pins σ (upd H s.heap.objs.size (.tup [xs1[i], xs2[i], xs3[i]])) { s with heap := h'', toks := tk } :=
      I.turnedNew (ch := [z, TI, TO, i1, i2, i3]) (fun c o hb q => (sb.2 c (fun q' => hb (by simp [q']))).trans (hk c o (fun q' => hb (by simp [q'])) (fun q' => hb (by simp [q'])) (fun q' => hb (by simp [q'])) (fun q' => hb (by simp [q'])) (fun q' => hb (by simp [q'])) q)) hf (Nat.le_refl _) new
    refine ⟨.ref s.heap.objs.size, _, I1, rfl, ⟨_, _, _, _, rfl, I.hok.fresh (Nat.le_refl _), rfl, List.getElem?_eq_getElem g1, List.getElem?_eq_getElem g2, List.getElem?_eq_getElem g3⟩, ⟨z'', ?_, ⟨v1, v2, v3, ?_⟩, d1.1.at fun o q => (sb.2 i1 (fun q' => S.zf1 (by simp [← q']))).trans q, d2.1.at fun o q => (sb.2 i2 (fun q' => S.zf2 (by simp [← q']))).trans q, d3.1.at fun o q => (sb.2 i3 (fun q' => S.zf3 (by simp [← q']))).trans q, g1, g2, g3⟩, fun b hb => ?_⟩
    · exact (sb.2 _ S.TIz).trans (hk _ _ S.TIz S.TITO S.TIi1 S.TIi2 S.TIi3 hTI)
    · exact (sb.2 _ S.TOz).trans TO'
    · have hb' : b < s.heap.objs.size := by
        have e' : b = z ∨ b = TI ∨ b = TO ∨ b = i1 ∨ b = i2 ∨ b = i3 := by simpa using hb
        rcases e' with q | q | q | q | q | q
        · rw [q]; exact hzl
        · rw [q]; exact Heap.lt_size hTI
        · rw [q]; exact Heap.lt_size hTO
        · rw [q]; obtain ⟨_, e, _⟩ := s1.obj; exact Heap.lt_size e
        · rw [q]; obtain ⟨_, e, _⟩ := s2.obj; exact Heap.lt_size e
        · rw [q]; obtain ⟨_, e, _⟩ := s3.obj; exact Heap.lt_size e
      rw [upd_ne (Nat.ne_of_lt hb')]
      exact (hf b hb).1
  done := by
    intro X hP hw hK hc i pins s σ H E I hf st hg
    subst hP hw hK
    obtain ⟨hz, hTI, ⟨y1, y2, y3, hTO⟩, s1, s2, s3, l1, l2, l3⟩ := st
    obtain ⟨q1, q2, q3, ge⟩ := hg
    obtain ⟨its1, rv1, p1, z1⟩ := I.sq1 q1
    have m1 := rv1.length
    obtain ⟨its2, rv2, p2, z2⟩ := I.sq1 q2
    have m2 := rv2.length
    obtain ⟨its3, rv3, p3, z3⟩ := I.sq1 q3
    have m3 := rv3.length
    exact wpAny_pyNext_zipD3_end S (drawsS (A := X.A.in1) (show X.A.in1.handled = none from I.ok.hd hc) t1 n1 its1.toArray) (drawsS (A := X.A.in1) (show X.A.in1.handled = none from I.ok.hd hc) t2 n2 its2.toArray) (drawsS (A := X.A.in1) (show X.A.in1.handled = none from I.ok.hd hc) t3 n3 its3.toArray) hz hTI hTO ⟨s1, p1⟩ ⟨s2, p2⟩ ⟨s3, p3⟩ (by rw [List.size_toArray]; omega) (by rw [List.size_toArray]; omega) (by rw [List.size_toArray]; omega) (by simp only [List.size_toArray]; omega) fun h' tk hk => ⟨rfl, I.turnedL (t' := tk) (ch := [z, TI, TO, i1, i2, i3]) (fun c o hb q => hk c o (fun q' => hb (by simp [q'])) (fun q' => hb (by simp [q'])) (fun q' => hb (by simp [q'])) (fun q' => hb (by simp [q'])) (fun q' => hb (by simp [q'])) q) hf⟩
  self := fun A i s Q E st h => wpAny_pyIter_zip st.1 h
def iZipG3 (K : PySem.W.Frag) (ta : TA) : TI := fun σ H R => ta σ H fun vs H => ∃ t1 a1 xs1 t2 a2 xs2 t3 a3 xs3, vs = [.ref a1, .ref a2, .ref a3] ∧ Sq1 K H t1 a1 xs1 ∧ Sq1 K H t2 a2 xs2 ∧ Sq1 K H t3 a3 xs3 ∧ R (ItzG3 K t1 a1 xs1 t2 a2 xs2 t3 a3 xs3) H
theorem pi_zipG3 {X : Cx} {e1 e2 e3 : Expr} {ta : TA} {p pos tpos : Pos} {elts : List Expr} {kk : Nat} (hg : Gl X "zip") (hm : X.mg "zip" = none) (ha : PA X [e1, e2, e3] ta)
    (hs : starEach [e1, e2, e3] X.env = (false, eval e1 X.env) :: starEach [e2, e3] X.env := by rfl) (hpl : (backTo pos (starEach [e2, e3] X.env)).any (·.1) = false := by rfl) :
    PI X (.Tuple elts kk tpos) (.Call (.Name "zip" p) [e1, e2, e3] [] pos) (iZipG3 X.K ta) := by
  refine ⟨fun pins s σ H R I h => ?_⟩
  refine Call_ (ld_blt I hg hm PyProof.Rows.boot_zip (PyProof.Rows.callWith_type1 (thn (ha.run pos pins s σ H _ I h) fun us s1 ⟨vs, H1, I1, r1, q1⟩ => ?_) hs hpl))
  obtain ⟨t1, a1, xs1, t2, a2, xs2, t3, a3, xs3, ex, f1, f2, f3, q⟩ := q1
  subst ex
  cases r1 with
  | cons r1x r1 =>
    cases r1 with
    | cons r2x r1 =>
      cases r1 with
      | cons r3x r1 =>
        cases r1
        cases r1x
        cases r2x
        cases r3x
        obtain ⟨its1, rv1, p1, z1⟩ := I1.sq1 f1
        have lt1 : a1 < s1.heap.objs.size := p1.lt
        obtain ⟨its2, rv2, p2, z2⟩ := I1.sq1 f2
        have lt2 : a2 < s1.heap.objs.size := p2.lt
        obtain ⟨its3, rv3, p3, z3⟩ := I1.sq1 f3
        have lt3 : a3 < s1.heap.objs.size := p3.lt
        have fresh : ∀ c, c ∈ [s1.heap.objs.size + 5, s1.heap.objs.size + 3, s1.heap.objs.size + 4, s1.heap.objs.size, s1.heap.objs.size + 1, s1.heap.objs.size + 2] → FpOk X pins H1 c := fun c hcm => by
          have hle : s1.heap.objs.size ≤ c := by
            have e' : c = s1.heap.objs.size + 5 ∨ c = s1.heap.objs.size + 3 ∨ c = s1.heap.objs.size + 4 ∨ c = s1.heap.objs.size ∨ c = s1.heap.objs.size + 1 ∨ c = s1.heap.objs.size + 2 := by simpa using hcm
            rcases e' with q | q | q | q | q | q
            · rw [q]; exact Nat.le_add_right _ _
            · rw [q]; exact Nat.le_add_right _ _
            · rw [q]; exact Nat.le_add_right _ _
            · rw [q]; exact Nat.le_refl _
            · rw [q]; exact Nat.le_add_right _ _
            · rw [q]; exact Nat.le_add_right _ _
          exact I1.fpOk hle (I1.hok.fresh hle)
        refine zip_begins3 (beginsS t1 a1 its1.toArray) (beginsS t2 a2 its2.toArray) (beginsS t3 a3 its3.toArray) p1 p2 p3 fun h' hz hTI hTO b1 b2 b3 hsz hk => wpAny_pyIter_zip hz ?_
        have I2 : Inv X pins σ H1 { s1 with heap := h' } := I1.kept (t' := s1.toks) hk
        exact ⟨s1.heap.objs.size + 5, [s1.heap.objs.size + 5, s1.heap.objs.size + 3, s1.heap.objs.size + 4, s1.heap.objs.size, s1.heap.objs.size + 1, s1.heap.objs.size + 2], _, _, H1, rfl, I2, turn_zipG3 (zip_sep3 (fp1 := [a1]) (fun b hb => by rw [List.mem_singleton.mp hb]; exact lt1) (fp2 := [a2]) (fun b hb => by rw [List.mem_singleton.mp hb]; exact lt2) (fp3 := [a3]) (fun b hb => by rw [List.mem_singleton.mp hb]; exact lt3)) (Nat.ne_of_lt (Nat.lt_of_lt_of_le lt1 (Nat.le_refl _))) (Nat.ne_of_lt (Nat.lt_of_lt_of_le lt2 (Nat.le_add_right _ _))) (Nat.ne_of_lt (Nat.lt_of_lt_of_le lt3 (Nat.le_add_right _ _))), ⟨hz, hTI, ⟨_, _, _, hTO⟩, itN_new b1, itN_new b2, itN_new b3, Nat.zero_le _, Nat.zero_le _, Nat.zero_le _⟩, fresh, q⟩
section
variable {X : Cx} {e1 e2 e3 : Expr} {wr : WA} {pos : Pos}
def zipD3 : List D → List D → List D → List D
  | x :: xs, y :: ys, z :: zs => .tuple [x, y, z] :: zipD3 xs ys zs
  | _, _, _ => []
theorem zipD3_get : ∀ {xs ys zs : List D} {i : Nat} {d : D}, (zipD3 xs ys zs)[i]? = some d → ∃ x y z, xs[i]? = some x ∧ ys[i]? = some y ∧ zs[i]? = some z ∧ d = .tuple [x, y, z]
  | x :: xs, y :: ys, z :: zs, 0, d, h => ⟨x, y, z, rfl, rfl, rfl, by simp [zipD3] at h; exact h.symm⟩
  | x :: xs, y :: ys, z :: zs, i + 1, d, h => by
    obtain ⟨x', y', z', h1, h2, h3, h4⟩ := zipD3_get (xs := xs) (ys := ys) (zs := zs) (i := i) (by simpa [zipD3] using h)
    exact ⟨x', y', z', by simpa using h1, by simpa using h2, by simpa using h3, h4⟩
  | [], _, _, _, _, h => by simp [zipD3] at h
  | _ :: _, [], _, _, _, h => by simp [zipD3] at h
  | _ :: _, _ :: _, [], _, _, h => by simp [zipD3] at h
theorem zipD3_length : ∀ (xs ys zs : List D), (zipD3 xs ys zs).length = min (min xs.length ys.length) zs.length
  | x :: xs, y :: ys, z :: zs => by
    have := zipD3_length xs ys zs
    simp only [zipD3, List.length_cons]
    omega
  | [], _, _ => by simp [zipD3]
  | _ :: _, [], _ => by simp [zipD3]
  | _ :: _, _ :: _, [] => by simp [zipD3]
def da3' (xs : List En) (k : D → D → D → Prop) : Prop := a3 xs fun x y z => daI x fun d => daI y fun e => daI z fun f => k d e f
def iZipA3 (wr : WA) : WI := fun s Ks => wr s fun s1 xs => da3' xs fun d e f => onO (seqD d) fun ds => onO (seqD e) fun es => onO (seqD f) fun fs => Ks s1 (zipD3 ds es fs)
theorem di_zipA3 {p tpos : Pos} {elts : List Expr} {kk : Nat} (hg : Gl X "zip") (hm : X.mg "zip" = none) (ha : DA X [e1, e2, e3] wr)
    (hs : starEach [e1, e2, e3] X.env = (false, eval e1 X.env) :: starEach [e2, e3] X.env := by rfl) (hpl : (backTo pos (starEach [e2, e3] X.env)).any (·.1) = false := by rfl) :
    DI X (.Tuple elts kk tpos) (.Call (.Name "zip" p) [e1, e2, e3] [] pos) (iZipA3 wr) := by
  obtain ⟨ta, pa, qa⟩ := ha.ex
  refine ⟨_, pi_zipG3 hg hm pa hs hpl, fun b A own H σ s Ks Q R h k => ?_⟩
  show ta σ H fun vs H => ∃ t1 a1 xs1 t2 a2 xs2 t3 a3 xs3, vs = [.ref a1, .ref a2, .ref a3] ∧ Sq1 X.K H t1 a1 xs1 ∧ Sq1 X.K H t2 a2 xs2 ∧ Sq1 X.K H t3 a3 xs3 ∧ Q (ItzG3 X.K t1 a1 xs1 t2 a2 xs2 t3 a3 xs3) H
  refine qa _ _ _ _ _ _ _ _ R h fun A1 o1 H1 vs s1 xs R1 U1 E1 h1 => ?_
  obtain ⟨v1, v2, v3, x, y, z, rfl, c1, c2, c3, h1⟩ := a3_inv E1 h1
  obtain ⟨d1, rfl, h3⟩ := daI_inv h1
  obtain ⟨d2, rfl, h4⟩ := daI_inv h3
  obtain ⟨d3, rfl, h2⟩ := daI_inv h4
  clear h3 h4
  clear h1
  obtain ⟨ds1, hd1, h2⟩ := onO_inv h2
  obtain ⟨t1, a1, us1, rfl, st1, r1⟩ := rp_seq (show Rp X.K A1 H1 v1 d1 from c1) hd1
  obtain ⟨ds2, hd2, h2⟩ := onO_inv h2
  obtain ⟨t2, a2, us2, rfl, st2, r2⟩ := rp_seq (show Rp X.K A1 H1 v2 d2 from c2) hd2
  obtain ⟨ds3, hd3, h2⟩ := onO_inv h2
  obtain ⟨t3, a3, us3, rfl, st3, r3⟩ := rp_seq (show Rp X.K A1 H1 v3 d3 from c3) hd3
  refine ⟨t1, a1, us1, t2, a2, us2, t3, a3, us3, rfl, st1.sq, st2.sq, st3.sq, k _ _ _ _ _ _ R1 U1 ?_ h2⟩
  intro A2 H2 kp i
  have m1 := st1.mono kp
  have g1 := RpL.mono kp r1
  have m2 := st2.mono kp
  have g2 := RpL.mono kp r2
  have m3 := st3.mono kp
  have g3 := RpL.mono kp r3
  refine ⟨fun hi => ⟨m1.sq, m2.sq, m3.sq, ?_⟩, fun d hd => ?_⟩
  · rw [zipD3_length] at hi
    rw [g1.length, g2.length, g3.length]
    omega
  · obtain ⟨x1, x2, x3, hx1, hx2, hx3, rfl⟩ := zipD3_get hd
    obtain ⟨y1, gy1, ry1⟩ := g1.get hx1
    obtain ⟨y2, gy2, ry2⟩ := g2.get hx2
    obtain ⟨y3, gy3, ry3⟩ := g3.get hx3
    refine ⟨⟨m1.sq, m2.sq, m3.sq, (List.getElem?_eq_some_iff.mp gy1).1, (List.getElem?_eq_some_iff.mp gy2).1, (List.getElem?_eq_some_iff.mp gy3).1⟩, fun w H3 hw own1 σ s R => ?_⟩
    obtain ⟨T, z1, z2, z3, rfl, hT, rfl, k1, k2, k3⟩ := hw
    rw [gy1] at k1
    cases k1
    rw [gy2] at k2
    cases k2
    rw [gy3] at k3
    cases k3
    exact wk_new hT (.cons ry1 (.cons ry2 (.cons ry3 .nil))) own1 σ s R
end
end DL
namespace DL
open PySem L2 PySem.Spec PyProof.Rows
section
variable {X : Cx} {a b c e : Expr} {wa wb wc we : WE} {pos : Pos}
/-! ### d[k] += x, d[k] -= x -/
def sAugD (wo wi wv : WE) (rd : S → En → En → (S → En → Prop) → Prop) : WS := fun s D => wo s fun s1 o => wi s1 fun s2 i => mu2 s2 o fun j kvs => daI i fun kd => onO (keyD kd) fun key => ∃ d, findD kvs key = some d ∧ wv s2 fun s3 y => rd s3 (.da d) y fun s4 z => mu2 s4 (.mu j) fun _ kvs' => daI z fun e => kvs'.length < sizeLine ∧ D.nx (s4.sM j (.dct (putD kvs' key e)))
theorem ds_augD {op : Operator} {r : R2} {rd} {tpos : Pos} (hu : X.A.units + 1 < cLine) (ho : DE X a wa) (hi : DE X b wb) (hv : DE X e we) (hop : OpR X (inplaceOp op) r) (hd : OpD X.K r rd)
    (ha : ∀ ov iv new, augStore b ov iv new = (do holding [new, ov, iv] (setItem ov iv new); release [new, ov, iv] []; pure .next) := by intros; rfl) :
    DS X (.AugAssign (.Subscript a b tpos) op e pos) (sAugD wa wb we rd) := by
  obtain ⟨ta, pa, qa⟩ := ho.ex
  obtain ⟨tb, pb, qb⟩ := hi.ex
  obtain ⟨te, pe, qe⟩ := hv.ex
  refine ⟨_, ps_daug (rd := r) hu pa pb pe (fun pins s σ H x y u v Q I rx ry h => hop pins s σ H x y u v Q I rx ry h) ha, fun b A own H σ s D E R h m => ?_⟩
  show ta σ H fun x H1 => tb σ H1 fun y H2 => ∃ a v, x = .ref a ∧ DGet H2 a y (some v) ∧ te σ H2 fun y2 H3 => r v y2 H3 fun z H4 => ∃ H5, DPut H4 a y z H5 ∧ E.nx σ H5
  refine qa _ _ _ _ _ _ _ _ R h fun A1 o1 H1 v1 s1 x1 R1 U1 E1 h1 => ?_
  refine qb _ _ _ _ _ _ _ _ R1 h1 fun A2 o2 H2 v2 s2 x2 R2 U2 E2 h2 => ?_
  obtain ⟨j, kvs, rfl, g, h2⟩ := mu2_inv h2
  obtain ⟨kd, rfl, h2⟩ := daI_inv h2
  obtain ⟨key, hk, d, hd', h2⟩ := onO_inv h2
  obtain ⟨p, vs, rfl, e2, e3, _, _⟩ := mud_at R2 (E1.up U2) g
  rw [keyD_rp E2 hk]
  rcases e3.find (k := key) with ⟨q1, q2⟩ | ⟨d', v', q1, q2, q3⟩
  · rw [q1] at hd'; cases hd'
  rw [q1] at hd'
  cases hd'
  refine ⟨p, v', rfl, by rw [← q2]; exact DGet.k e2, ?_⟩
  refine qe _ _ _ _ _ _ _ _ R2 h2 fun A3 o3 H3 v3 s3 x3 R3 U3 E3 h3 => ?_
  refine hd _ _ _ _ _ _ _ _ _ _ _ _ R3 (show ER X.K A3 o3 H3 v' (.da d) from Rp.mono U3.kp q3) E3 h3 fun A4 o4 H4 v4 s4 x4 R4 U4 E4 h4 => ?_
  obtain ⟨j', kvs', ej, g', h4⟩ := mu2_inv h4
  cases ej
  obtain ⟨d4, rfl, hl, h4⟩ := daI_inv h4
  obtain ⟨p', vs', ep, f2, f3, _, up⟩ := mud_at R4 (E1.up (U2.trans (U3.trans U4))) g'
  cases ep
  obtain ⟨R5, U5⟩ := up _ _ (f3.put (k := key) (show Rp X.K A4 H4 v4 d4 from E4))
  exact ⟨_, DPut.k f2 (by rw [f3.len]; exact hl), m.nx _ _ _ _ _ R5 ((((U1.trans U2).trans U3).trans U4).trans U5).kp h4⟩
def rdSubI : S → En → En → (S → En → Prop) → Prop := fun s x y Ks => iI x y fun i j => Ks s (.da (.int (i - j)))
def rdAddI : S → En → En → (S → En → Prop) → Prop := fun s x y Ks => iI x y fun i j => Ks s (.da (.int (i + j)))
theorem ds_augDSub {tpos : Pos} (hu : X.A.units + 1 < cLine) (ho : DE X a wa) (hi : DE X b wb) (hv : DE X e we)
    (ha : ∀ ov iv new, augStore b ov iv new = (do holding [new, ov, iv] (setItem ov iv new); release [new, ov, iv] []; pure .next) := by intros; rfl) : DS X (.AugAssign (.Subscript a b tpos) .Sub e pos) (sAugD wa wb we rdSubI) := ds_augD hu ho hi hv iop_sub opd_int0 ha
theorem ds_augDAdd {tpos : Pos} (hu : X.A.units + 1 < cLine) (ho : DE X a wa) (hi : DE X b wb) (hv : DE X e we)
    (ha : ∀ ov iv new, augStore b ov iv new = (do holding [new, ov, iv] (setItem ov iv new); release [new, ov, iv] []; pure .next) := by intros; rfl) : DS X (.AugAssign (.Subscript a b tpos) .Add e pos) (sAugD wa wb we rdAddI) := ds_augD hu ho hi hv iop_add opd_int0 ha
/-! ### dict(pairs) -/
def pairsD : List D → Option (List (Key × D))
  | [] => some []
  | .tuple [k, v] :: r => match keyD k, pairsD r with | some key, some kvs => some ((key, v) :: kvs) | _, _ => none
  | _ :: _ => none
def mergeD (kvs more : List (Key × D)) : List (Key × D) := more.foldl (fun acc kv => putD acc kv.1 kv.2) kvs
theorem rkv_merge {K : PySem.W.Frag} {A : Addr → Prop} {H : Hp} : ∀ {ws : List (Key × V)} {ds : List (Key × D)} {us : List (Key × V)} {es : List (Key × D)}, RKV K A H ws ds → RKV K A H us es → RKV K A H (mergeK us ws) (mergeD es ds)
  | [], [], _, _, _, h => h
  | (k, v) :: ws, (k', d) :: ds, _, _, ⟨e, r, t⟩, h => by
    have e : k = k' := e
    subst e
    show RKV K A H (mergeK (putK _ k v) ws) (mergeD (putD _ k d) ds)
    exact rkv_merge t (h.put r)
theorem pairs_rp {K : PySem.W.Frag} {A : Addr → Prop} {H : Hp} : ∀ {ds : List D} {kvs : List (Key × D)} {vs : List V}, RpL K A H vs ds → pairsD ds = some kvs → ∃ (ps : List Addr) (ws : List (Key × V)), vs = ps.map V.ref ∧ Paired (fun p kv => SqT K H p [kV kv.1, kv.2]) ps ws ∧ RKV K A H ws kvs
  | [], _, _, .nil, h => by cases h; exact ⟨[], [], rfl, .nil, trivial⟩
  | d :: ds, kvs, _, .cons (v := v) (vs := vs) r t, h => by
    unfold pairsD at h
    split at h
    · rename_i h0; cases h0
    · rename_i k x r' h0
      cases h0
      split at h
      · rename_i key kvs' hk hp
        cases h
        obtain ⟨ps, ws, rfl, q1, q2⟩ := pairs_rp t hp
        cases r with
        | tup l rr =>
          cases rr with
          | cons a1 rr =>
            cases rr with
            | cons a2 rr =>
              cases rr
              rename_i p y z
              have e := keyD_rp a1 hk
              subst e
              exact ⟨p :: ps, (key, z) :: ws, rfl, .cons l.sq q1, ⟨rfl, a2, q2⟩⟩
      · cases h
    · cases h
def cDictP : S → List En → (S → En → Prop) → Prop := fun s xs Ks => a1 xs fun x => onO (vw s x) fun d => match d with | .list ds => onO (pairsD ds) fun kvs => Ks (s.aM (.dct (mergeD [] kvs))) (.mu s.ms.length) | _ => False
def rDictP (K : PySem.W.Frag) : List V → Hp → VK → Prop := fun xs H Q => ∃ (a : Addr) (ps : List Addr) (kvs : List (Key × V)), xs = [.ref a] ∧ SqL K H a (ps.map V.ref) ∧ Paired (fun p kv => SqT K H p [kV kv.1, kv.2]) ps kvs ∧
    ∀ p, H p = none → Q (.ref p) (upd H p (.dK (mergeK [] kvs)))
theorem cd_dictP {K : PySem.W.Frag} : CallD K (rDictP K) cDictP := by
  intro b A own H σ s vs xs Ks Q R E h k
  obtain ⟨v, x, rfl, e1, h⟩ := a1_inv E h
  obtain ⟨d, hd, h⟩ := onO_inv h
  cases d with
  | list ds =>
    obtain ⟨kvs, hk, h⟩ := onO_inv h
    obtain ⟨a, us, rfl, q, r⟩ := vw_lst R e1 hd
    obtain ⟨ps, ws, rfl, q1, q2⟩ := pairs_rp r hk
    refine ⟨a, ps, ws, rfl, q, q1, fun p hp => ?_⟩
    have q3 : RKV K A H (mergeK [] ws) (mergeD [] kvs) := rkv_merge q2 trivial
    obtain ⟨R1, U1, g⟩ := R.newMu (o := .dK (mergeK [] ws)) hp (.dct (mergeD [] kvs)) fun A' own' u => ⟨p, _, rfl, upd_same, q3.up u.kp⟩
    exact k _ _ _ _ _ (.mu s.ms.length) R1 U1 ⟨p, [], g, rfl⟩ h
  | _ => exact h.elim
theorem de_dictP {p : Pos} (hc : X.calm = true) (hg : Gl X "dict") (hm : X.mg "dict" = none) (ha : DE X a wa) (he : starEach (a :: []) X.env = (false, eval a X.env) :: starEach [] X.env := by rfl) : DE X (.Call (.Name "dict" p) [a] [] pos) (dCall cDictP (aCons wa aNil)) :=
  de_callTy (call_dictP hc) cd_dictP hg hm (by decide +kernel) (da_cons ha da_nil he) (he := he)
/-! ### x in a dict that is data -/
def dDinD (neg : Bool) (wk wd : WE) : WE := fun s Ks => wk s fun s1 i => wd s1 fun s2 o => daI o fun d => ∃ kvs, d = dictD kvs ∧ daI i fun kd => onO (keyD kd) fun key => Ks s2 (.da (.bool (xr neg (findD kvs key).isSome)))
theorem rp_dictD {K : PySem.W.Frag} {A : Addr → Prop} {H : Hp} {v : V} {kvs : List (Key × D)} (r : Rp K A H v (dictD kvs)) : ∃ a o ws, v = .ref a ∧ H a = some (.frz o (.dK ws)) ∧ ¬ A a ∧ RKV K A H ws kvs := by
  obtain ⟨a, o, ws, kvs', e1, e2, l, n, q⟩ := rp_dict r
  have inj : ∀ {xs ys : List (Key × D)}, xs.map (fun z => (kD z.1, z.2)) = ys.map (fun z => (kD z.1, z.2)) → xs = ys := by
    intro xs
    induction xs with
    | nil => intro ys h; cases ys with
      | nil => rfl
      | cons _ _ => cases h
    | cons x xs ih => intro ys h; cases ys with
      | nil => cases h
      | cons y ys =>
        rw [List.map_cons, List.map_cons] at h
        injection h with h1 h2
        obtain ⟨k1, d1⟩ := x
        obtain ⟨k2, d2⟩ := y
        injection h1 with h3 h4
        have h4 : d1 = d2 := h4
        have h3 : kD k1 = kD k2 := h3
        have h5 : k1 = k2 := by cases k1 <;> cases k2 <;> simp only [kD] at h3 <;> cases h3 <;> rfl
        rw [ih h2, h4, h5]
  have := inj e2
  subst this
  exact ⟨a, o, ws, e1, l, n, q.rkv⟩
theorem dinD_at {K : PySem.W.Frag} {A : Addr → Prop} {H : Hp} {v u : V} {kvs : List (Key × D)} {kd : D} {key : Key} (r : Rp K A H v (dictD kvs)) (ru : Rp K A H u kd) (hk : keyD kd = some key) : ∃ a o, v = .ref a ∧ DGet H a u o ∧ o.isSome = (findD kvs key).isSome := by
  obtain ⟨a, o, ws, rfl, l, n, q⟩ := rp_dictD r
  refine ⟨a, _, rfl, .inl ⟨ws, key, .inr ⟨o, l⟩, keyD_rp ru hk, rfl⟩, ?_⟩
  rcases q.find (k := key) with ⟨q1, q2⟩ | ⟨d', v', q1, q2, q3⟩
  · rw [q1, q2]; rfl
  · rw [q1, q2]; rfl
section
variable {ta tb : TE} (qa : ∀ (b : Bd) (A : Addr → Prop) (own : List (List Addr)) (H : Hp) (σ : L2.St) (s : S) (Ks : S → En → Prop) (Q : VK), Rel X.K b A own H σ s → wa s Ks → PostE X.K b A own H σ Ks Q → ta σ H Q)
    (qb : ∀ (b : Bd) (A : Addr → Prop) (own : List (List Addr)) (H : Hp) (σ : L2.St) (s : S) (Ks : S → En → Prop) (Q : VK), Rel X.K b A own H σ s → wb s Ks → PostE X.K b A own H σ Ks Q → tb σ H Q)
include qa qb
theorem dinD_run (b : Bd) (A : Addr → Prop) (own : List (List Addr)) (H : Hp) (σ : L2.St) (s : S) (Ks : S → En → Prop) (Q : VK) (R : Rel X.K b A own H σ s) (h : dDinD false wb wa s Ks) (k : PostE X.K b A own H σ Ks Q) : tDIn tb ta σ H Q := by
  show tb σ H fun y H1 => ta σ H1 fun x H2 => ∃ a o, x = .ref a ∧ DGet H2 a y o ∧ Q (.bl o.isSome) H2
  refine qb _ _ _ _ _ _ _ _ R h fun A1 o1 H1 v1 s1 x1 R1 U1 E1 h1 => ?_
  refine qa _ _ _ _ _ _ _ _ R1 h1 fun A2 o2 H2 v2 s2 x2 R2 U2 E2 h2 => ?_
  obtain ⟨d, rfl, kvs, rfl, h3⟩ := daI_inv h2
  clear h2
  obtain ⟨kd, rfl, h4⟩ := daI_inv h3
  obtain ⟨key, hk, h2⟩ := onO_inv h4
  obtain ⟨a, o, e1, e2, e3⟩ := dinD_at E2 (E1.up U2) hk
  exact ⟨a, o, e1, e2, by rw [e3]; exact (k.up (U1.trans U2)).da R2 Up.refl (.bl _) h2⟩
theorem dnotinD_run (b : Bd) (A : Addr → Prop) (own : List (List Addr)) (H : Hp) (σ : L2.St) (s : S) (Ks : S → En → Prop) (Q : VK) (R : Rel X.K b A own H σ s) (h : dDinD true wb wa s Ks) (k : PostE X.K b A own H σ Ks Q) : tDNotIn tb ta σ H Q := by
  show tb σ H fun y H1 => ta σ H1 fun x H2 => ∃ a o, x = .ref a ∧ DGet H2 a y o ∧ Q (.bl (!o.isSome)) H2
  refine qb _ _ _ _ _ _ _ _ R h fun A1 o1 H1 v1 s1 x1 R1 U1 E1 h1 => ?_
  refine qa _ _ _ _ _ _ _ _ R1 h1 fun A2 o2 H2 v2 s2 x2 R2 U2 E2 h2 => ?_
  obtain ⟨d, rfl, kvs, rfl, h3⟩ := daI_inv h2
  clear h2
  obtain ⟨kd, rfl, h4⟩ := daI_inv h3
  obtain ⟨key, hk, h2⟩ := onO_inv h4
  obtain ⟨a, o, e1, e2, e3⟩ := dinD_at E2 (E1.up U2) hk
  exact ⟨a, o, e1, e2, by rw [e3]; exact (k.up (U1.trans U2)).da R2 Up.refl (.bl _) h2⟩
end
theorem de_dinD (hu : X.A.units + 1 < cLine) (hi : DE X b wb) (ho : DE X a wa) (hm : behindInMarks .In a = false := by rfl) : DE X (.Compare b [.In] [a] pos) (dDinD false wb wa) := by
  obtain ⟨ta, pa, qa⟩ := ho.ex
  obtain ⟨tb, pb, qb⟩ := hi.ex
  exact ⟨_, pe_cmp (pc_din hu pb pa) hm, fun b A own H σ s Ks Q R h k => dinD_run qa qb b A own H σ s Ks Q R h k⟩
theorem de_dnotinD (hu : X.A.units + 1 < cLine) (hi : DE X b wb) (ho : DE X a wa) (hm : behindInMarks .NotIn a = false := by rfl) : DE X (.Compare b [.NotIn] [a] pos) (dDinD true wb wa) := by
  obtain ⟨ta, pa, qa⟩ := ho.ex
  obtain ⟨tb, pb, qb⟩ := hi.ex
  exact ⟨_, pe_cmp (pc_dnotin hu pb pa) hm, fun b A own H σ s Ks Q R h k => dnotinD_run qa qb b A own H σ s Ks Q R h k⟩
theorem dt_dinD (hu : X.A.units + 1 < cLine) (hi : DE X b wb) (ho : DE X a wa) (hm : behindInMarks .In a = false := by rfl) : DT X (.Compare b [.In] [a] pos) (tT (dDinD false wb wa)) := by
  obtain ⟨ta, pa, qa⟩ := ho.ex
  obtain ⟨tb, pb, qb⟩ := hi.ex
  exact ⟨_, pt_cmp (pc_din hu pb pa) hm, tT_run fun b A own H σ s Ks Q R h k => dinD_run qa qb b A own H σ s Ks Q R h k⟩
theorem dt_dnotinD (hu : X.A.units + 1 < cLine) (hi : DE X b wb) (ho : DE X a wa) (hm : behindInMarks .NotIn a = false := by rfl) : DT X (.Compare b [.NotIn] [a] pos) (tT (dDinD true wb wa)) := by
  obtain ⟨ta, pa, qa⟩ := ho.ex
  obtain ⟨tb, pb, qb⟩ := hi.ex
  exact ⟨_, pt_cmp (pc_dnotin hu pb pa) hm, tT_run fun b A own H σ s Ks Q R h k => dnotinD_run qa qb b A own H σ s Ks Q R h k⟩
end
end DL
namespace DL
open PySem L2 PySem.Spec PyProof.Rows
/-! ### an expression that only reads a dict: it is data there -/
mutual
def nD : D → Bool
  | .none => true
  | .bool _ => true
  | .int _ => true
  | .str _ => true
  | .list ds => nDs ds
  | .tuple ds => nDs ds
  | .dict _ => false
def nDs : List D → Bool
  | [] => true
  | d :: ds => nD d && nDs ds
end
theorem nDs_of : ∀ {ds : List D}, (∀ d ∈ ds, nD d = true) → nDs ds = true
  | [], _ => rfl
  | d :: ds, h => by
    rw [nDs, h d (by simp), nDs_of fun x hx => h x (by simp [hx])]
    rfl
def nM : MO → Bool
  | .gone => true
  | .lst ds => nDs ds
  | .dct kvs => nDs (kvs.map (·.2))
  | .rnd _ => true
  | .box _ => true
  | .tab _ => false
  | .ins _ _ => false
section
variable {K : PySem.W.Frag} {A A' : Addr → Prop} {own own' : List (List Addr)} {H H' : Hp} {b : Bd} {σ : L2.St} {s : S}
mutual
theorem Rp.monoN (h : ∀ a u, ¬ A a → H a = some u → (∀ o w, u ≠ .frz o w) → H' a = some u ∧ ¬ A' a) : ∀ {v : V} {d : D}, Rp K A H v d → nD d = true → Rp K A' H' v d
  | _, _, .non, _ => .non
  | _, _, .bl b, _ => .bl b
  | _, _, .int i, _ => .int i
  | _, _, .str x, _ => .str x
  | _, _, .lst l r, n => .lst (h _ _ l.2 l.1 fun _ _ z => nomatch z) (RpL.monoN h r (by simpa only [nD] using n))
  | _, _, .tup l r, n => .tup (l.elim (fun q => .inl (h _ _ q.2 q.1 fun _ _ z => nomatch z)) .inr) (RpL.monoN h r (by simpa only [nD] using n))
  | _, _, .dct _ _ _, n => by simp [nD] at n
theorem RpL.monoN (h : ∀ a u, ¬ A a → H a = some u → (∀ o w, u ≠ .frz o w) → H' a = some u ∧ ¬ A' a) : ∀ {v : List V} {d : List D}, RpL K A H v d → nDs d = true → RpL K A' H' v d
  | _, _, .nil, _ => .nil
  | _, _, .cons a b, n => by
    rw [nDs, Bool.and_eq_true] at n
    exact .cons (Rp.monoN h a n.1) (RpL.monoN h b n.2)
end
theorem RKV.monoN (h : ∀ a u, ¬ A a → H a = some u → (∀ o w, u ≠ .frz o w) → H' a = some u ∧ ¬ A' a) : ∀ {ws : List (Key × V)} {kvs : List (Key × D)}, RKV K A H ws kvs → nDs (kvs.map (·.2)) = true → RKV K A' H' ws kvs
  | [], [], _, _ => trivial
  | _ :: _, _ :: _, ⟨e, r, t⟩, n => by
    rw [List.map_cons, nDs, Bool.and_eq_true] at n
    exact ⟨e, Rp.monoN h r n.1, RKV.monoN h t n.2⟩
def ss : List (List Addr) → Nat → List Addr → List (List Addr)
  | [], _, _ => []
  | _ :: r, 0, y => y :: r
  | x :: r, i + 1, y => x :: ss r i y
theorem ss_length : ∀ (l : List (List Addr)) (i : Nat) (y : List Addr), (ss l i y).length = l.length
  | [], _, _ => rfl
  | _ :: _, 0, _ => rfl
  | _ :: r, i + 1, y => congrArg (· + 1) (ss_length r i y)
theorem go_ss : ∀ (l : List (List Addr)) (i j : Nat) (y : List Addr), go (ss l i y) j = if i = j ∧ i < l.length then y else go l j
  | [], i, j, y => by simp [ss, go]
  | x :: r, 0, 0, y => by simp [ss, go]
  | x :: r, 0, j + 1, y => by simp [ss, go]
  | x :: r, i + 1, 0, y => by simp [ss, go]
  | x :: r, i + 1, j + 1, y => by
    show go (ss r i y) j = _
    rw [go_ss r i j y]
    simp [go]
theorem take_ss : ∀ (l : List (List Addr)) (i n : Nat) (y : List Addr), n ≤ i → (ss l i y).take n = l.take n
  | [], _, _, _, _ => rfl
  | x :: r, i, 0, _, _ => by simp
  | x :: r, 0, n + 1, _, h => by omega
  | x :: r, i + 1, n + 1, y, h => by
    show x :: (ss r i y).take n = x :: r.take n
    rw [take_ss r i n y (by omega)]
theorem nM_sub {k : Nat} {d : D} : ∀ {m : MO}, nM m = true → subM k d m = m
  | .gone, _ => rfl
  | .lst _, _ => rfl
  | .dct _, _ => rfl
  | .rnd _, _ => rfl
  | .box _, _ => rfl
  | .tab _, h => by cases h
  | .ins _ _, h => by cases h
end
section
variable {X : Cx} {e : Expr} {we : WE}
def dLk (i : Nat) (we : WE) : WE := fun s Ks => match gt s.es i with
  | .mu k => (match gm s.ms k with
    | .dct kvs => s.np ≤ k ∧ (∀ j, nM (gm s.ms j) = true) ∧ we (frzDS k kvs s) fun s1 x => daI x fun d => nD d = true ∧ s1.ms = (frzDS k kvs s).ms ∧ Ks s (.da d)
    | _ => False)
  | _ => False
theorem de_lkD (i : Nat) (he : DE X e we) : DE X e (dLk i we) := by
  obtain ⟨te, pe, qe⟩ := he.ex
  refine ⟨_, pe_lock pe, fun b A own H σ s Ks Q R h kk => ?_⟩
  unfold dLk at h
  split at h
  · rename_i k hgi
    split at h
    · rename_i kvs g
      obtain ⟨hnp, hno, h⟩ := h
      obtain ⟨p, ws, e2, e1, e3, f2⟩ := R.frzD g hnp
      have pA : A p := R.oa k p (by rw [e1]; simp)
      have hk : k < s.ms.length := gm_lt (by rw [g]; intro z; cases z)
      have hp0 : b.H0 p = none := by
        rcases R.fo k p (by rw [e1]; simp) with ⟨j, q⟩ | q
        · rw [← R.pre, go_take] at q
          split at q
          · have := R.dj k j p (by rw [e1]; simp) q
            omega
          · cases q
        · exact q
      refine ⟨p, .dK ws, e2, trivial, fun od => ?_⟩
      obtain ⟨R0, k0⟩ := f2 od
      refine qe _ _ _ _ _ _ _ _ R0 h fun A1 own1 H1 v1 s1 x1 R1 U1 E1 h1 => ?_
      obtain ⟨d, rfl, nd, hms, h1⟩ := daI_inv h1
      obtain ⟨hp1, hpA⟩ := U1.kp p (.frz od (.dK ws)) (fun z => z.2 (by rw [e1]; simp)) upd_same
      refine ⟨hp1, ?_⟩
      -- the dict again
      have ne : ∀ a, a ≠ p → upd H1 p (.dK ws) a = H1 a := fun a n => upd_ne n
      have kpN : ∀ a u, ¬ A1 a → H1 a = some u → (∀ o w, u ≠ .frz o w) → upd H1 p (.dK ws) a = some u ∧ ¬ (A1 a ∨ a = p) := fun a u n q hf => by
        have na : a ≠ p := fun z => by
          rw [z, hp1] at q
          cases q
          exact hf _ _ rfl
        exact ⟨(ne a na).trans q, fun z => z.elim n na⟩
      have kpA : Kp A H (fun a => A1 a ∨ a = p) (upd H1 p (.dK ws)) := fun a u n q => by
        have na : a ≠ p := fun z => n (by rw [z]; exact pA)
        obtain ⟨q1, q2⟩ := (k0.trans U1.kp) a u n q
        exact ⟨(ne a na).trans q1, fun z => z.elim q2 na⟩
      have hl1 : own1.length = s.ms.length := by
        rw [R1.ol, hms]
        show (sm (subS k (dictD kvs) s.ms) k .gone).length = _
        rw [sm_length, subS_length]
      have g2 : ∀ j, go (ss own1 k [p]) j = if k = j then [p] else go own1 j := fun j => by
        rw [go_ss]
        by_cases e : k = j
        · rw [if_pos ⟨e, by rw [hl1]; exact hk⟩, if_pos e]
        · rw [if_neg (fun z => e z.1), if_neg e]
      have ow2 : ∀ j a r, go own j = a :: r → go (ss own1 k [p]) j = a :: r := fun j a r q => by
        rw [g2]
        by_cases e : k = j
        · rw [if_pos e, ← e1, e]; exact q
        · rw [if_neg e]
          exact U1.ow j a r (by rw [go_so, if_neg e]; exact q)
      have U2 : Up A own H (fun a => A1 a ∨ a = p) (ss own1 k [p]) (upd H1 p (.dK ws)) := ⟨kpA, ow2⟩
      have np1 : s1.np = s.np := R1.np.symm.trans R.np
      have R2 : Rel X.K b (fun a => A1 a ∨ a = p) (ss own1 k [p]) (upd H1 p (.dK ws)) σ s := by
        refine ⟨⟨?_, fun j => ?_, fun i j a q1 q2 => ?_, fun j => ?_, fun j a q => ?_, fun a q z => ?_⟩, R.len, fun i => ?_, fun a q => .inl (R1.ge a q), fun a o hn h0 => ?_, fun j a q => ?_, ?_, ?_, fun a q => ?_, R.a0⟩
        · rw [ss_length]; exact hl1
        · rw [g2]
          by_cases e : k = j
          · subst e
            rw [if_pos rfl, g]
            exact ⟨p, ws, rfl, upd_same, e3.up kpA⟩
          · rw [if_neg e]
            have mj := R1.mr j
            have hj : gm s1.ms j = gm s.ms j := by
              rw [hms]
              show gm (sm (subS k (dictD kvs) s.ms) k .gone) j = _
              rw [gm_sm, if_neg (fun z => e z.1), gm_subS, nM_sub (hno j)]
            rw [hj] at mj
            have nn := hno j
            have nj : ∀ a, a ∈ go own1 j → a ≠ p := fun a q z => hpA (by rw [← z]; exact R1.oa j a q)
            cases q : gm s.ms j with
            | gone => trivial
            | lst ds => rw [q] at mj nn; obtain ⟨a, vs, h1, h2, h3⟩ := mj; exact ⟨a, vs, h1, (ne a (nj a (by rw [h1]; simp))).trans h2, RpL.monoN kpN h3 nn⟩
            | dct ds => rw [q] at mj nn; obtain ⟨a, vs, h1, h2, h3⟩ := mj; exact ⟨a, vs, h1, (ne a (nj a (by rw [h1]; simp))).trans h2, RKV.monoN kpN h3 nn⟩
            | rnd n => rw [q] at mj; obtain ⟨a, c, cs, t, h1, h2, h3, h4⟩ := mj; exact ⟨a, c, cs, t, h1, (ne a (nj a (by rw [h1]; simp))).trans h2, (ne c (nj c (by rw [h1]; simp))).trans h3, h4⟩
            | box n => rw [q] at mj; obtain ⟨a, x, y, z, h1, h2, h4⟩ := mj; exact ⟨a, x, y, z, h1, (ne a (nj a (by rw [h1]; simp))).trans h2, h4⟩
            | ins C fs => rw [q] at nn; cases nn
            | tab _ => rw [q] at nn; cases nn
        · rw [g2] at q1 q2
          by_cases ei : k = i
          · by_cases ej : k = j
            · rw [← ei, ← ej]
            · rw [if_pos ei] at q1
              rw [if_neg ej] at q2
              rw [List.mem_singleton.mp q1] at q2
              exact absurd (R1.oa j p q2) hpA
          · rw [if_neg ei] at q1
            by_cases ej : k = j
            · rw [if_pos ej] at q2
              rw [List.mem_singleton.mp q2] at q1
              exact absurd (R1.oa i p q1) hpA
            · rw [if_neg ej] at q2
              exact R1.dj i j a q1 q2
        · rw [g2]
          split
          · exact nd1
          · exact R1.ld j
        · rw [g2] at q
          split at q
          · exact .inr (List.mem_singleton.mp q)
          · exact .inl (R1.oa j a q)
        · by_cases ea : a = p
          · rw [ea, upd_same] at z; cases z
          · rw [ne a ea] at z
            exact q.elim (fun q => R1.al a q z) ea
        · rcases R.sl i with z | ⟨v, q1, q2⟩
          · exact .inl z
          · exact .inr ⟨v, q1, q2.up U2⟩
        · have na : a ≠ p := fun z => by rw [z, hp0] at h0; cases h0
          rw [ne a na]
          exact R1.fr a o hn h0
        · rw [g2] at q
          split at q
          · rw [List.mem_singleton.mp q]; exact .inr hp0
          · exact R1.fo j a q
        · rw [take_ss _ _ _ _ hnp, ← np1]; exact R1.pre
        · rw [ss_length, ← np1]; exact R1.npl
        · rcases q with q | q
          · exact R1.lim a q
          · rw [q]; exact .inr hp0
      exact kk _ _ _ _ _ (.da d) R2 U2 (Rp.monoN kpN (show Rp X.K A1 H1 v1 d from E1) nd) h1
    · exact h.elim
  · exact h.elim
end
end DL
namespace DL
open PySem L2 PySem.Spec PyProof.Rows
/-! ### states of many slots, by simp -/
theorem limE_mu (m k : Nat) : limE m (.mu k) = if k < m then .mu k else .no := by
  show (bif Nat.blt k m then En.mu k else .no) = _
  by_cases h : k < m
  · have : Nat.blt k m = true := Nat.ble_eq_true_of_le h
    rw [if_pos h, this]; rfl
  · have : Nat.blt k m = false := by
      cases q : Nat.blt k m with
      | false => rfl
      | true => exact absurd (Nat.le_of_ble_eq_true q) h
    rw [if_neg h, this]; rfl
theorem limE_da (m : Nat) (d : D) : limE m (.da d) = .da d := rfl
theorem limE_no (m : Nat) : limE m .no = .no := rfl
theorem subE_mu (k j : Nat) (d : D) : subE k d (.mu j) = if j = k then .da d else .mu j := by
  show (bif Nat.beq j k then En.da d else .mu j) = _
  by_cases h : j = k
  · have : Nat.beq j k = true := by simpa using h
    rw [if_pos h, this]; rfl
  · have : Nat.beq j k = false := by
      cases q : Nat.beq j k with
      | false => rfl
      | true => exact absurd (by simpa using q) h
    rw [if_neg h, this]; rfl
theorem subE_da (k : Nat) (d e : D) : subE k d (.da e) = .da e := rfl
theorem subE_no (k : Nat) (d : D) : subE k d .no = .no := rfl
/-! ### for x in reversed(a list or a tuple) -/
section
variable {X : Cx} {e : Expr} {we : WE} {tg : Expr}
def iRev (we : WE) : WI := fun s Ks => we s fun s1 x => daI x fun d => onO (seqD d) fun ds => Ks s1 ds.reverse
theorem rev_get {ds : List D} {i : Nat} {d : D} (h : ds.reverse[i]? = some d) : i < ds.length ∧ ds[ds.length - 1 - i]? = some d := by
  have hi := (List.getElem?_eq_some_iff.mp h).1
  rw [List.length_reverse] at hi
  rw [List.getElem?_reverse hi] at h
  exact ⟨hi, h⟩
theorem wk_rev {K : PySem.W.Frag} {b : Bd} {a : Addr} {vs : List V} {ds : List D} {A : Addr → Prop} {H : Hp} (l : LsR A H a vs) (r : RpL K A H vs ds) : Wk K b (Itv K a vs.length) ds.reverse A H := by
  intro A1 H1 kp i
  have l1 : LsR A1 H1 a vs := kp _ _ l.2 l.1
  have r1 : RpL K A1 H1 vs ds := RpL.mono kp r
  have hl := r1.length
  refine ⟨fun hi => (by rw [List.length_reverse] at hi; show vs.length ≤ i; omega), fun d hd => ?_⟩
  obtain ⟨hi, hd⟩ := rev_get hd
  obtain ⟨x, hx, rx⟩ := r1.get hd
  have hx : vs[vs.length - 1 - i]? = some x := by rw [hl]; exact hx
  refine ⟨⟨by omega, vs, x, l1.sq, hx⟩, fun y H2 hy own1 σ s R => ?_⟩
  obtain ⟨rfl, hy⟩ := hy
  have := hy vs l1.sq
  rw [hx] at this
  cases this
  exact ⟨R, Up.refl, rx⟩
theorem wk_revT {K : PySem.W.Frag} {b : Bd} {a : Addr} {vs : List V} {ds : List D} {A : Addr → Prop} {H : Hp} (l : TuR K A H a vs) (r : RpL K A H vs ds) : Wk K b (RT.ItvT K a vs.length) ds.reverse A H := by
  intro A1 H1 kp i
  have l1 : TuR K A1 H1 a vs := l.elim (fun q => .inl (kp _ _ q.2 q.1)) .inr
  have r1 : RpL K A1 H1 vs ds := RpL.mono kp r
  have hl := r1.length
  refine ⟨fun hi => (by rw [List.length_reverse] at hi; show vs.length ≤ i; omega), fun d hd => ?_⟩
  obtain ⟨hi, hd⟩ := rev_get hd
  obtain ⟨x, hx, rx⟩ := r1.get hd
  have hx : vs[vs.length - 1 - i]? = some x := by rw [hl]; exact hx
  refine ⟨⟨by omega, vs, x, l1.sq, hx⟩, fun y H2 hy own1 σ s R => ?_⟩
  obtain ⟨rfl, hy⟩ := hy
  have := hy vs l1.sq
  rw [hx] at this
  cases this
  exact ⟨R, Up.refl, rx⟩
theorem di_rev {p pos : Pos} (hg : Gl X "reversed") (hm : X.mg "reversed" = none) (he : DE X e we) (hs : starEach [e] X.env = (false, eval e X.env) :: starEach [] X.env := by rfl) : DI X tg (.Call (.Name "reversed" p) [e] [] pos) (iRev we) := by
  obtain ⟨te, pe, qe⟩ := he.ex
  refine ⟨_, RT.pi_revA hg hm pe hs, fun b A own H σ s Ks Q R h k => ?_⟩
  show te σ H fun v H1 => ∃ (a : Addr) (xs : List V), v = .ref a ∧ ((SqL X.K H1 a xs ∧ Q (Itv X.K a xs.length) H1) ∨ (SqT X.K H1 a xs ∧ Q (RT.ItvT X.K a xs.length) H1))
  refine qe _ _ _ _ _ _ _ _ R h fun A1 o1 H1 v1 s1 x1 R1 U1 E1 h1 => ?_
  obtain ⟨d, rfl, h2⟩ := daI_inv h1
  obtain ⟨ds, hds, h3⟩ := onO_inv h2
  cases (show Rp X.K A1 H1 v1 d from E1) with
  | lst l r => cases hds; exact ⟨_, _, rfl, .inl ⟨l.sq, k _ _ _ _ _ _ R1 U1 (wk_rev l r) h3⟩⟩
  | tup l r => cases hds; exact ⟨_, _, rfl, .inr ⟨l.sq, k _ _ _ _ _ _ R1 U1 (wk_revT l r) h3⟩⟩
  | non => cases hds
  | bl _ => cases hds
  | int _ => cases hds
  | str _ => cases hds
  | dct _ _ _ => cases hds
end
end DL
namespace DL
open PySem L2 PySem.Spec PyProof.Rows
/-! ### text.join(a list of texts) -/
section
variable {X : Cx} {o e : Expr} {wo we : WE}
theorem rpl_strs {K : PySem.W.Frag} {A : Addr → Prop} {H : Hp} : ∀ {ys : List Str} {vs : List V}, RpL K A H vs (ys.map .str) → vs = ys.map V.str
  | [], [], _ => rfl
  | y :: ys, v :: vs, .cons r t => by
    cases (show Rp K A H v (.str y) from r)
    rw [rpl_strs t]
    rfl
def dJoin (wo we : WE) : WE := fun s Ks => wo s fun s1 x => daI x fun d => match d with
  | .str a => we s1 fun s2 y => ∃ ys : List Str, vw s2 y = some (.list (ys.map .str)) ∧ (ys.map (·.length)).sum + ys.length * a.length ≤ 16777216 ∧ Ks s2 (.da (.str (Txt.join a ys)))
  | _ => False
theorem de_join {apos pos : Pos} (ho : DE X o wo) (he : DE X e we) (hs : starEach [e] X.env = [(false, eval e X.env)] := by rfl) (hbase : attributeBase o "join" X.env (eval o X.env) = eval o X.env := by rfl) (hline : (apos.endLine == pos.line) = true := by rfl) :
    DE X (.Call (.Attribute o "join" apos) [e] [] pos) (dJoin wo we) := by
  obtain ⟨to, po, qo⟩ := ho.ex
  obtain ⟨te, pe, qe⟩ := he.ex
  refine ⟨_, pe_join po pe hs hbase hline, fun b A own H σ s Ks Q R h k => ?_⟩
  refine qo _ _ _ _ _ _ _ _ R h fun A1 o1 H1 v1 s1 x1 R1 U1 E1 h1 => ?_
  obtain ⟨d, rfl, h2⟩ := daI_inv h1
  clear h1
  split at h2
  · rename_i a
    cases (show Rp X.K A1 H1 v1 (.str a) from E1)
    refine ⟨⟨a, rfl⟩, ?_⟩
    refine qe _ _ _ _ _ _ _ _ R1 h2 fun A2 o2 H2 v2 s2 x2 R2 U2 E2 h3 => ?_
    obtain ⟨ys, hy, hz, h4⟩ := h3
    obtain ⟨p, vs, rfl, hs, r⟩ := vw_lst R2 E2 hy
    rw [rpl_strs r] at hs
    exact ⟨a, p, ys, rfl, rfl, .inl hs, hz, k.da R2 (U1.trans U2) (.str _) h4⟩
  · exact h2.elim
/-! ### list * int -/
variable {a b : Expr} {wa wb : WE} {pos : Pos}
theorem RpL.rep {K : PySem.W.Frag} {A : Addr → Prop} {H : Hp} {vs : List V} {ds : List D} (r : RpL K A H vs ds) : ∀ n : Nat, RpL K A H (List.replicate n vs).flatten (List.replicate n ds).flatten
  | 0 => .nil
  | n + 1 => by
    rw [List.replicate_succ, List.replicate_succ, List.flatten_cons, List.flatten_cons]
    exact r.append (RpL.rep r n)
def dRepL : WE → WE → WE := d2 fun s x y Ks => onO (vw s x) fun d => i1 y fun k => match d with
  | .list ds => -(2 ^ 63) ≤ k ∧ k < 2 ^ 63 ∧ ds.length * k.toNat ≤ sizeLine ∧ Ks s (.da (.list (List.replicate k.toNat ds).flatten))
  | _ => False
theorem opd_repL {K : PySem.W.Frag} : OpD K rRep (fun s x y Ks => onO (vw s x) fun d => i1 y fun k => match d with
  | .list ds => -(2 ^ 63) ≤ k ∧ k < 2 ^ 63 ∧ ds.length * k.toNat ≤ sizeLine ∧ Ks s (.da (.list (List.replicate k.toNat ds).flatten))
  | _ => False) := by
  intro b A own H σ s vx vy x y Ks Q R ex ey h k
  obtain ⟨d, hd, h⟩ := onO_inv h
  obtain ⟨i, rfl, h⟩ := i1_inv h
  cases ey
  split at h
  · obtain ⟨p, vs, rfl, q, r⟩ := vw_lstH R ex hd
    exact ⟨p, i, vs, rfl, rfl, q, h.1, h.2.1, by rw [r.length]; exact h.2.2.1, fun z hz => new_lst R k (r.rep _) hz h.2.2.2⟩
  · exact h.elim
theorem de_replist (ha : DE X a wa) (hb : DE X b wb) : DE X (.BinOp a .Mult b pos) (dRepL wa wb) := de_op op_rep opd_repL ha hb
end
end DL
namespace DL
open PySem L2 PySem.Spec PyProof.Rows
/-! ### an expression that only reads a list: it is data there, and changes again behind -/
mutual
def nL : D → Bool
  | .none => true
  | .bool _ => true
  | .int _ => true
  | .str _ => true
  | .list _ => false
  | .tuple ds => nLs ds
  | .dict _ => false
def nLs : List D → Bool
  | [] => true
  | d :: ds => nL d && nLs ds
end
theorem nLs_of : ∀ {ds : List D}, (∀ d ∈ ds, nL d = true) → nLs ds = true
  | [], _ => rfl
  | d :: ds, h => by
    rw [nLs, h d (by simp), nLs_of fun x hx => h x (by simp [hx])]
    rfl
def nLM : MO → Bool
  | .gone => true
  | .lst ds => nLs ds
  | .dct kvs => nLs (kvs.map (·.2))
  | .rnd _ => true
  | .box _ => true
  | .tab _ => true
  | .ins _ _ => false
section
variable {K : PySem.W.Frag} {A A' : Addr → Prop} {own own' : List (List Addr)} {H H' : Hp} {b : Bd} {σ : L2.St} {s : S}
mutual
theorem Rp.monoL (h : ∀ a u, ¬ A a → H a = some u → (∀ w, u ≠ .lst w) → H' a = some u ∧ ¬ A' a) : ∀ {v : V} {d : D}, Rp K A H v d → nL d = true → Rp K A' H' v d
  | _, _, .non, _ => .non
  | _, _, .bl b, _ => .bl b
  | _, _, .int i, _ => .int i
  | _, _, .str x, _ => .str x
  | _, _, .lst _ _, n => by simp [nL] at n
  | _, _, .tup l r, n => .tup (l.elim (fun q => .inl (h _ _ q.2 q.1 fun _ z => nomatch z)) .inr) (RpL.monoL h r (by simpa only [nL] using n))
  | _, _, .dct _ _ _, n => by simp [nL] at n
theorem RpL.monoL (h : ∀ a u, ¬ A a → H a = some u → (∀ w, u ≠ .lst w) → H' a = some u ∧ ¬ A' a) : ∀ {v : List V} {d : List D}, RpL K A H v d → nLs d = true → RpL K A' H' v d
  | _, _, .nil, _ => .nil
  | _, _, .cons a b, n => by
    rw [nLs, Bool.and_eq_true] at n
    exact .cons (Rp.monoL h a n.1) (RpL.monoL h b n.2)
end
theorem RKV.monoL (h : ∀ a u, ¬ A a → H a = some u → (∀ w, u ≠ .lst w) → H' a = some u ∧ ¬ A' a) : ∀ {ws : List (Key × V)} {kvs : List (Key × D)}, RKV K A H ws kvs → nLs (kvs.map (·.2)) = true → RKV K A' H' ws kvs
  | [], [], _, _ => trivial
  | _ :: _, _ :: _, ⟨e, r, t⟩, n => by
    rw [List.map_cons, nLs, Bool.and_eq_true] at n
    exact ⟨e, Rp.monoL h r n.1, RKV.monoL h t n.2⟩
theorem nLM_sub {k : Nat} {d : D} : ∀ {m : MO}, nLM m = true → subM k d m = m
  | .gone, _ => rfl
  | .lst _, _ => rfl
  | .dct _, _ => rfl
  | .rnd _, _ => rfl
  | .box _, _ => rfl
  | .tab _, _ => rfl
  | .ins _ _, h => by cases h
theorem frz_gm {k : Nat} {ds : List D} (hno : ∀ j, nLM (gm s.ms j) = true) (hk : k < s.ms.length) (j : Nat) : gm (frzS k ds s).ms j = if k = j then .gone else gm s.ms j := by
  show gm (sm (subS k (.list ds) s.ms) k .gone) j = _
  rw [gm_sm]
  by_cases e : k = j
  · rw [if_pos e, if_pos ⟨e, by rw [subS_length]; exact hk⟩]
  · rw [if_neg e, if_neg (fun z => e z.1), gm_subS, nLM_sub (hno j)]
theorem frz_len {k : Nat} {ds : List D} : (frzS k ds s).ms.length = s.ms.length := by
  show (sm (subS k (.list ds) s.ms) k .gone).length = _
  rw [sm_length, subS_length]
/-- the list changes again -/
theorem Rel.thaw {A1 : Addr → Prop} {own1 : List (List Addr)} {H1 : Hp} {s1 : S} {k : Nat} {ds : List D} {new : List MO} (R : Rel K b A own H σ s) (g : gm s.ms k = .lst ds) (hnp : s.np ≤ k) (hno : ∀ j, nLM (gm s.ms j) = true)
    (R1 : Rel K b A1 own1 H1 σ s1) (U1 : Up (fun a => A a ∧ a ∉ go own k) (so own k) H A1 own1 H1) (hms : s1.ms = (frzS k ds s).ms ++ new) (hnew : ∀ j, nLM (gm new j) = true) :
    ∃ A2 own2, Rel K b A2 own2 H1 σ ⟨s.es, s.ms ++ new, s.np⟩ ∧ Up A own H A2 own2 H1 ∧ ∀ j, k ≠ j → go own2 j = go own1 j := by
  have hk : k < s.ms.length := gm_lt (by rw [g]; intro z; cases z)
  have m0 := R.mr k
  rw [g] at m0
  obtain ⟨p, vs, e1, e2, e3⟩ := m0
  have pA : A p := R.oa k p (by rw [e1]; simp)
  have hp0 : b.H0 p = none := by
    rcases R.fo k p (by rw [e1]; simp) with ⟨j, q⟩ | q
    · rw [← R.pre, go_take] at q
      split at q
      · have := R.dj k j p (by rw [e1]; simp) q
        omega
      · cases q
    · exact q
  obtain ⟨hp1, hpA⟩ := U1.kp p (.lst vs) (fun z => z.2 (by rw [e1]; simp)) e2
  have kpL : ∀ a u, ¬ A1 a → H1 a = some u → (∀ w, u ≠ .lst w) → H1 a = some u ∧ ¬ (A1 a ∨ a = p) := fun a u n q hf => by
    have na : a ≠ p := fun z => by
      rw [z, hp1] at q
      cases q
      exact hf _ rfl
    exact ⟨q, fun z => z.elim n na⟩
  have kpA : Kp A H (fun a => A1 a ∨ a = p) H1 := fun a u n q => by
    have na : a ≠ p := fun z => n (by rw [z]; exact pA)
    obtain ⟨q1, q2⟩ := U1.kp a u (fun z => n z.1) q
    exact ⟨q1, fun z => z.elim q2 na⟩
  have hl1 : own1.length = s.ms.length + new.length := by
    rw [R1.ol, hms, List.length_append, frz_len]
  have g2 : ∀ j, go (ss own1 k [p]) j = if k = j then [p] else go own1 j := fun j => by
    rw [go_ss]
    by_cases e : k = j
    · rw [if_pos ⟨e, by omega⟩, if_pos e]
    · rw [if_neg (fun z => e z.1), if_neg e]
  have ow2 : ∀ j a r, go own j = a :: r → go (ss own1 k [p]) j = a :: r := fun j a r q => by
    rw [g2]
    by_cases e : k = j
    · rw [if_pos e, ← e1, e]; exact q
    · rw [if_neg e]
      exact U1.ow j a r (by rw [go_so, if_neg e]; exact q)
  have U2 : Up A own H (fun a => A1 a ∨ a = p) (ss own1 k [p]) H1 := ⟨kpA, ow2⟩
  have np1 : s1.np = s.np := R1.np.symm.trans R.np
  refine ⟨fun a => A1 a ∨ a = p, ss own1 k [p], ⟨⟨?_, fun j => ?_, fun i j a q1 q2 => ?_, fun j => ?_, fun j a q => ?_, fun a q z => ?_⟩, R.len, fun i => ?_, fun a q => .inl (R1.ge a q), fun a o hn h0 => ?_, fun j a q => ?_, ?_, ?_, fun a q => ?_, R.a0⟩, U2, fun j hj => by rw [g2, if_neg hj]⟩
  · rw [ss_length, hl1, List.length_append]
  · rw [g2]
    by_cases e : k = j
    · subst e
      rw [if_pos rfl, gm_app, if_pos hk, g]
      exact ⟨p, vs, rfl, hp1, RpL.mono kpA e3⟩
    · rw [if_neg e]
      have mj := R1.mr j
      have hj : gm s1.ms j = gm (s.ms ++ new) j := by
        rw [hms, gm_app, gm_app, frz_len]
        split
        · rw [frz_gm hno hk, if_neg e]
        · rfl
      rw [hj] at mj
      have nn : nLM (gm (s.ms ++ new) j) = true := by
        rw [gm_app]
        split
        · exact hno j
        · exact hnew _
      cases q : gm (s.ms ++ new) j with
      | gone => trivial
      | lst ds => rw [q] at mj nn; obtain ⟨a, vs, h1, h2, h3⟩ := mj; exact ⟨a, vs, h1, h2, RpL.monoL kpL h3 nn⟩
      | dct ds => rw [q] at mj nn; obtain ⟨a, vs, h1, h2, h3⟩ := mj; exact ⟨a, vs, h1, h2, RKV.monoL kpL h3 nn⟩
      | rnd n => rw [q] at mj; exact mj
      | box n => rw [q] at mj; exact mj
      | tab _ =>
        rw [q] at mj
        obtain ⟨P, c, h1, hc, ps, h2, h3, h4⟩ := mj
        refine ⟨P, c, h1, hc, ps, h2, h3, fun pos cv e => ?_⟩
        obtain ⟨c', e1, e2, e3⟩ := h4 pos cv e
        refine ⟨c', e1, e2, fun z => z.elim e3 fun z => ?_⟩
        rw [z, hp1] at e2
        exact nomatch Option.some.inj e2
      | ins C fs => rw [q] at nn; cases nn
  · rw [g2] at q1 q2
    by_cases ei : k = i
    · by_cases ej : k = j
      · rw [← ei, ← ej]
      · rw [if_pos ei] at q1
        rw [if_neg ej] at q2
        rw [List.mem_singleton.mp q1] at q2
        exact absurd (R1.oa j p q2) hpA
    · rw [if_neg ei] at q1
      by_cases ej : k = j
      · rw [if_pos ej] at q2
        rw [List.mem_singleton.mp q2] at q1
        exact absurd (R1.oa i p q1) hpA
      · rw [if_neg ej] at q2
        exact R1.dj i j a q1 q2
  · rw [g2]
    split
    · exact nd1
    · exact R1.ld j
  · rw [g2] at q
    split at q
    · exact .inr (List.mem_singleton.mp q)
    · exact .inl (R1.oa j a q)
  · by_cases ea : a = p
    · rw [ea, hp1] at z; cases z
    · exact q.elim (fun q => R1.al a q z) ea
  · rcases R.sl i with z | ⟨v, q1, q2⟩
    · exact .inl z
    · exact .inr ⟨v, q1, q2.up U2⟩
  · exact R1.fr a o hn h0
  · rw [g2] at q
    split at q
    · rw [List.mem_singleton.mp q]; exact .inr hp0
    · exact R1.fo j a q
  · show (ss own1 k [p]).take s.np = b.own0
    rw [take_ss _ _ _ _ hnp, ← np1]; exact R1.pre
  · show s.np ≤ (ss own1 k [p]).length
    rw [ss_length, ← np1]; exact R1.npl
  · rcases q with q | q
    · exact R1.lim a q
    · rw [q]; exact .inr hp0
end
section
variable {X : Cx} {e : Expr} {we : WE}
/-- what comes back is a number, a truth, a text or None -/
def dLkS (i : Nat) (we : WE) : WE := fun s Ks => match gt s.es i with
  | .mu k => (match gm s.ms k with
    | .lst ds => s.np ≤ k ∧ (∀ j, nLM (gm s.ms j) = true) ∧ we (frzS k ds s) fun s1 x => daI x fun d => scD d = true ∧ s1.ms = (frzS k ds s).ms ∧ Ks s (.da d)
    | _ => False)
  | _ => False
theorem de_lkS (i : Nat) (he : DE X e we) : DE X e (dLkS i we) := by
  obtain ⟨te, pe, qe⟩ := he.ex
  refine ⟨_, pe, fun b A own H σ s Ks Q R h kk => ?_⟩
  unfold dLkS at h
  split at h
  · rename_i k hgi
    split at h
    · rename_i ds g
      obtain ⟨hnp, hno, h⟩ := h
      obtain ⟨R0, k0, _⟩ := R.frz g hnp
      refine qe _ _ _ _ _ _ _ _ R0 h fun A1 own1 H1 v1 s1 x1 R1 U1 E1 h1 => ?_
      obtain ⟨d, rfl, sc, hms, h1⟩ := daI_inv h1
      obtain ⟨A2, own2, R2, U2, _⟩ := R.thaw (new := []) g hnp hno R1 U1 (by rw [List.append_nil]; exact hms) fun j => by cases j <;> rfl
      have e : (⟨s.es, s.ms ++ [], s.np⟩ : S) = s := by rw [List.append_nil]
      rw [e] at R2
      exact kk _ _ _ _ _ (.da d) R2 U2 (Rp.scal (show Rp X.K A1 H1 v1 d from E1) sc) h1
    · exact h.elim
  · exact h.elim
variable {js : List Nat} {wg : WG} {wt : WT} {pos : Pos}
/-- name = [.. for .. in a list that changes later] -/
def dLcLk (l : Nat) (vs : List Nat) (wi : WI) (wg : WG) (wt : WT) (we : WE) : WE := fun s Ks => match gt s.es l with
  | .mu k => (match gm s.ms k with
    | .lst ds => s.np ≤ k ∧ (∀ j, nLM (gm s.ms j) = true) ∧ dLcM vs wi wg wt we (frzS k ds s) fun s1 x => ∃ acc, x = .mu s.ms.length ∧ s1.ms = (frzS k ds s).ms ++ [.lst acc] ∧ nLs acc = true ∧ Ks ⟨s.es, s.ms ++ [.lst acc], s.np⟩ (.mu s.ms.length)
    | _ => False)
  | _ => False
theorem ds_setLcLk (l : Nat) {i : Nat} {y : Str} {py spos : Pos} {elt tg iter : Expr} {ifs : List Expr} {scope : Scope} (own : List (Str × Nat)) {wI : WI} (hc : X.calm = true) (hN : X.N.Nodup) (hy : X.N[i]? = some y) (hyl : X.env.scope.names.lookup y = some .local)
    (hsw : swapsWith (.ListComp elt [⟨tg, iter, ifs, 0⟩] scope pos) (some (.Name y py)) spos.line X.env = pure true) (hi : DI X tg iter wI) (ok : BlkOk X.N X.env.scope scope own) (hj : ∀ j ∈ js, j ∈ own.map (·.2))
    (hg : ∀ (s : Shared) (H : Hp) (C : Addr) (cl : List (Str × Addr)) (fp : List Addr), DG (X.blk s H scope (compEnvC scope cl C X.env) fp) tg js wg) (ht : ∀ (s : Shared) (H : Hp) (C : Addr) (cl : List (Str × Addr)) (fp : List Addr), DTs (X.blk s H scope (compEnvC scope cl C X.env) fp) ifs wt)
    (he : ∀ (s : Shared) (H : Hp) (C : Addr) (cl : List (Str × Addr)) (fp : List Addr), DE (X.blk s H scope (compEnvC scope cl C X.env) fp) elt we) (hs : ∀ x, foldedSetIterable iter X.env x = pure x := by intro _; rfl) :
    DS X (.Assign [.Name y py] (.ListComp elt [⟨tg, iter, ifs, 0⟩] scope pos) spos) (sAsg (dLcLk l (own.map (·.2)) wI wg wt we) (gN i)) := by
  obtain ⟨ti, pi, qi⟩ := hi.ex
  refine ⟨_, ps_setLc (g := canG X.K js wg) (tt := canT X.K wt) (te := canE X.K we) hc hN hy hyl hsw pi ok (fun s H C cl fp => (hg s H C cl fp).can) (fun s H C cl fp => (ht s H C cl fp).can) (fun s H C cl fp => (he s H C cl fp).can) hs, asg_run (fun b A own' H σ s Ks Q R h kk => ?_) (gN_run i)⟩
  unfold dLcLk at h
  split at h
  · rename_i k hgi
    split at h
    · rename_i ds g
      obtain ⟨hnp, hno, h⟩ := h
      obtain ⟨R0, k0, _⟩ := R.frz g hnp
      refine lc_run hj qi (fun s1 ms acc => ∃ acc' : List D, En.mu s1.ms.length = En.mu s.ms.length ∧ ms ++ [MO.lst acc] = (frzS k ds s).ms ++ [MO.lst acc'] ∧ nLs acc' = true ∧ Ks ⟨s.es, s.ms ++ [MO.lst acc'], s.np⟩ (.mu s.ms.length)) b _ _ H σ _ Q R0 h fun A1 own1 H1 s1 ms acc v R1 U1 ml E1 _ hk => ?_
      obtain ⟨acc', e1, e2, e3, hk⟩ := hk
      have e1 : s1.ms.length = s.ms.length := by injection e1
      obtain ⟨A2, own2, R2, U2, g2⟩ := R.thaw (new := [.lst acc']) g hnp hno R1 U1 e2 fun j => by
        cases j with
        | zero => exact e3
        | succ j => cases j <;> rfl
      have hkl : k < s.ms.length := gm_lt (by rw [g]; intro z; cases z)
      refine kk _ _ _ _ _ (.mu s.ms.length) R2 U2 ?_ hk
      obtain ⟨a, r, h1, h2⟩ := E1
      rw [e1] at h1
      exact ⟨a, r, by rw [g2 _ (by omega)]; exact h1, h2⟩
    · exact h.elim
  · exact h.elim
end
end DL
namespace DL
open PySem L2 PySem.Spec PyProof.Rows
/-! ### is True, is False of a bool -/
section
variable {X : L2.Cx}
theorem op_isB : OpR X (compareOp .Is) (fun x y H Q => ∃ m n, x = .bl m ∧ y = .bl n ∧ Q (.bl (decide (m = n))) H) := by
  intro pins s σ H x y v u Q I rx ry h
  obtain ⟨m, n, rfl, rfl, q⟩ := h
  cases rx; cases ry
  by_cases e : m = n
  · subst e
    exact wpAny_is_self rfl ⟨.bl true, H, I, rfl, by simpa using q⟩
  · exact wpAny_is_other rfl (fun z => e (Value.bool.inj z)) ⟨.bl false, H, I, rfl, by simpa [e] using q⟩
theorem op_isNotB : OpR X (compareOp .IsNot) (fun x y H Q => ∃ m n, x = .bl m ∧ y = .bl n ∧ Q (.bl (!decide (m = n))) H) := by
  intro pins s σ H x y v u Q I rx ry h
  obtain ⟨m, n, rfl, rfl, q⟩ := h
  cases rx; cases ry
  by_cases e : m = n
  · subst e
    exact wpAny_isNot_self rfl ⟨.bl false, H, I, rfl, by simpa using q⟩
  · exact wpAny_isNot_other rfl (fun z => e (Value.bool.inj z)) ⟨.bl true, H, I, rfl, by simpa [e] using q⟩
def rdIsB (neg : Bool) : S → En → En → (S → En → Prop) → Prop := fun s x y Ks => match x, y with | .da (.bool m), .da (.bool n) => Ks s (.da (.bool (xr neg (decide (m = n))))) | _, _ => False
theorem opd_isB {K : PySem.W.Frag} : OpD K (fun x y H Q => ∃ m n, x = .bl m ∧ y = .bl n ∧ Q (.bl (decide (m = n))) H) (rdIsB false) := by
  intro b A own H σ s vx vy x y Ks Q R ex ey h k
  unfold rdIsB at h
  split at h
  · cases ex; cases ey
    exact ⟨_, _, rfl, rfl, k.da R Up.refl (.bl _) h⟩
  · exact h.elim
theorem opd_isNotB {K : PySem.W.Frag} : OpD K (fun x y H Q => ∃ m n, x = .bl m ∧ y = .bl n ∧ Q (.bl (!decide (m = n))) H) (rdIsB true) := by
  intro b A own H σ s vx vy x y Ks Q R ex ey h k
  unfold rdIsB at h
  split at h
  · cases ex; cases ey
    exact ⟨_, _, rfl, rfl, k.da R Up.refl (.bl _) h⟩
  · exact h.elim
def dIsB : WE → WE → WE := d2 (rdIsB false)
def dNotB : WE → WE → WE := d2 (rdIsB true)
variable {a b : Expr} {wa wb : WE} {pos : Pos}
theorem de_isB (ha : DE X a wa) (hb : DE X b wb) : DE X (.Compare a [.Is] [b] pos) (dIsB wa wb) := de_cmp op_isB opd_isB ha hb (nomark _)
theorem de_notB (ha : DE X a wa) (hb : DE X b wb) : DE X (.Compare a [.IsNot] [b] pos) (dNotB wa wb) := de_cmp op_isNotB opd_isNotB ha hb (nomark _)
theorem dt_isB (ha : DE X a wa) (hb : DE X b wb) : DT X (.Compare a [.Is] [b] pos) (tT (dIsB wa wb)) := dt_cmp op_isB opd_isB ha hb (nomark _)
theorem dt_notB (ha : DE X a wa) (hb : DE X b wb) : DT X (.Compare a [.IsNot] [b] pos) (tT (dNotB wa wb)) := dt_cmp op_isNotB opd_isNotB ha hb (nomark _)
end
end DL
/-! ### sorted(xs, key=f), f of the program -/
namespace DL.KJ
open PySem PySem.Calls PyProof.Rows PySem.W
theorem get_gone {h : Heap} {c : Addr} : ({ h with objs := h.objs.setIfInBounds c ⟨.none, none, .freed, #[]⟩ } : Heap).get? c = none := by
  unfold Heap.get?
  by_cases hc : c < h.objs.size
  · simp [Array.getElem?_setIfInBounds, hc]
  · simp [Array.getElem?_setIfInBounds, hc]
theorem get_gone_ne {h : Heap} {b c : Addr} (hb : b ≠ c) : ({ h with objs := h.objs.setIfInBounds c ⟨.none, none, .freed, #[]⟩ } : Heap).get? b = h.get? b := by
  unfold Heap.get?
  simp [Array.getElem?_setIfInBounds, Ne.symm hb]
section
variable {prog : Program} {w : World} {A : Around} {E : Value → Shared → Prop} {s : Shared} {a kS : Addr} {b : Bool} {vs : List Value} {e1 : Nat} {P : PySem.Fin → Shared → Prop} {kz : List PyData} {f : Value} {J : Nat → Shared → List Value → Prop}
theorem rest (hlen : kz.length = vs.length) (hZ : vs.length ≤ sizeLine) (hal : AllAlike kz) (hsk : Sortable kz) (hu : ∀ d, d ∈ kz → A.units + d.depth < cLine) (hka : kS ≠ a)
    (j0 : J 0 s []) (nk : s.heap.get? kS = some (seqObj "list" #[] 0)) (na : s.heap.get? a = some (seqObj "list" #[] e1)) (jl : ∀ i s1 ks, J i s1 ks → ks.length = i)
    (turn : ∀ (i : Nat) (v : Value), vs[i]? = some v → ∀ (s1 : Shared) (ks : List Value) (e : Nat), J i s1 ks → s1.heap.get? kS = some (seqObj "list" ks.toArray e) → s1.heap.get? a = some (seqObj "list" #[] e1) →
      wpAny (model prog w) A (call f [v]) (fun u s2 => s2.heap.get? kS = some (seqObj "list" ks.toArray e) ∧ s2.heap.get? a = some (seqObj "list" #[] e1) ∧ ∀ h', Heap.SameBut kS s2.heap h' → J (i + 1) { s2 with heap := h' } (ks ++ [u])) (fun _ _ => False) s1)
    (reads : ∀ s1 ks, J vs.length s1 ks → EachIs (fun v k => ∃ as, Reads s1.heap v k as) ks kz)
    (h : ∀ s1 ks, J vs.length s1 ks → ∀ h' tk out c, (∀ b o, b ≠ a → b ≠ kS → s1.heap.get? b = some o → h'.get? b = some o) → h'.get? a = some (seqObj "list" (List.toArray out) c) → KeyedOut b kz vs out → P (.done (.ret .none)) { s1 with heap := h', toks := tk }) :
    wpAny (model prog w) A (ksk_rest a f b vs.toArray e1 (.ref kS)) P E s := by
  unfold ksk_rest
  refine wpAny_bind (wpAny_rule ?_)
  first
    | rw [List.forIn_toArray]
    | (rw [← Array.forIn_toList]; simp only [List.toList_toArray])
    | rw [← Array.forIn_toList]
  refine wpAny_bind (ksk_fold (fun i s' => ∃ ks e, J i s' ks ∧ s'.heap.get? kS = some (seqObj "list" ks.toArray e) ∧ s'.heap.get? a = some (seqObj "list" #[] e1)) vs 0 s ⟨[], 0, j0, nk, na⟩ ?step ?done)
  case step =>
    rintro j x s' hx ⟨ks, e, hJ, nk', na'⟩
    simp only [Nat.zero_add] at hJ ⊢
    have hj : j < vs.length := (List.getElem?_eq_some_iff.mp hx).1
    have hz : ks.toArray.size ≤ vs.length := by rw [List.size_toArray, jl _ _ _ hJ]; omega
    refine wpAny_bind (wpAny_attempt (wpAny_mono (turn j x hx s' ks e hJ nk' na') (fun v s'' he => ?_) fun _ _ hF => hF.elim))
    obtain ⟨nk2, na2, hJ2⟩ := he
    try dsimp only
    have s1 := Heap.SameBut.update s''.heap kS (Obj.mapSeq (·.push v))
    obtain ⟨c2, hc2⟩ : ∃ c2, (s''.heap.update kS (Obj.mapSeq (·.push v))).get? kS = some (seqObj "list" (ks.toArray.push v) c2) := ⟨_, get?_update_seq nk2 (·.push v)⟩
    refine wpAny_bind (listUpdate_at nk2 rfl ?_ (Nat.le_trans hz hZ) (Nat.le_trans (Nat.le_of_eq (Array.size_push ..)) (Nat.succ_le_succ (Nat.le_trans hz hZ))))
    refine wpAny_pure ⟨rfl, ks ++ [v], c2, hJ2 _ s1, ?_, (s1.2 a hka.symm).trans na2⟩
    rw [hc2]
    simp
  case done =>
    rintro s' ⟨ks, e, hJ, nk', na'⟩
    rw [Nat.zero_add] at hJ
    have hsz : ks.toArray.size = vs.length := by rw [List.size_toArray, jl _ _ _ hJ]
    have hk' := reads _ _ hJ
    try dsimp only
    refine wpAny_bind (listItems_at nk' rfl ?_)
    have kp : KeepsBut a ({ s'.heap with objs := s'.heap.objs.setIfInBounds kS ⟨.none, none, .freed, #[]⟩ } : Heap) s'.heap := fun b o hb q => by
      by_cases hbk : b = kS
      · rw [hbk, get_gone] at q; cases q
      · rw [get_gone_ne hbk] at q; exact q
    refine keyH_end (κ := dataKind s'.heap kz) kp get_gone nk' na' hka (by rw [List.toList_toArray]; exact SortsAt.data (s := s') hk' hal hsk hu) hsz hZ fun h3 tk3 c k3 n3 => ?_
    rw [List.toList_toArray] at n3
    exact h s' ks hJ h3 tk3 _ c (fun b o h1 h2 q => k3 b o h1 (by rw [get_gone_ne h2]; exact q)) n3 ⟨s'.heap, ks, hal, rfl, hk'⟩
theorem tree {n : Nat} (ho : s.heap.get? a = some (seqObj "list" vs.toArray n)) (hlen : kz.length = vs.length) (hZ : vs.length ≤ sizeLine) (hal : AllAlike kz) (hsk : Sortable kz) (hu : ∀ d, d ∈ kz → A.units + d.depth < cLine)
    (j0 : J 0 { s with heap := sortingHeap s.heap a vs } []) (jl : ∀ i s1 ks, J i s1 ks → ks.length = i)
    (turn : ∀ (i : Nat) (v : Value), vs[i]? = some v → ∀ (s1 : Shared) (ks : List Value) (e e1 : Nat), J i s1 ks → s1.heap.get? (s.heap.objs.size + 1) = some (seqObj "list" ks.toArray e) → s1.heap.get? a = some (seqObj "list" #[] e1) →
      wpAny (model prog w) A (call f [v]) (fun u s2 => s2.heap.get? (s.heap.objs.size + 1) = some (seqObj "list" ks.toArray e) ∧ s2.heap.get? a = some (seqObj "list" #[] e1) ∧ ∀ h', Heap.SameBut (s.heap.objs.size + 1) s2.heap h' → J (i + 1) { s2 with heap := h' } (ks ++ [u])) (fun _ _ => False) s1)
    (reads : ∀ s1 ks, J vs.length s1 ks → EachIs (fun v k => ∃ as, Reads s1.heap v k as) ks kz)
    (h : ∀ s1 ks, J vs.length s1 ks → ∀ h' tk out c, (∀ b o, b ≠ a → b ≠ s.heap.objs.size + 1 → s1.heap.get? b = some o → h'.get? b = some o) → h'.get? a = some (seqObj "list" (List.toArray out) c) → KeyedOut b kz vs out → P (.done (.ret .none)) { s1 with heap := h', toks := tk }) :
    wpAny (model prog w) A (ksk_tree a f b) P E s := by
  have ha : a < s.heap.objs.size := Heap.lt_size ho
  obtain ⟨e1, ho1⟩ : ∃ e1, (s.heap.update a (Obj.mapSeq fun _ => (#[] : Array Value))).get? a = some (seqObj "list" #[] e1) := ⟨_, get?_update_seq ho fun _ => #[]⟩
  have hkS : ((s.heap.update a (Obj.mapSeq fun _ => (#[] : Array Value))).push (seqObj "tuple" vs.toArray 0)).objs.size = s.heap.objs.size + 1 := by rw [size_push', Heap.size_update]
  unfold ksk_tree
  refine wpAny_bind (listItems_at ho rfl ?_)
  refine wpAny_bind (listUpdate_at ho rfl ?_ (by rw [List.size_toArray]; exact hZ) (Nat.zero_le _))
  refine wpAny_bind (seqEpoch_at ho1 rfl ?_)
  refine wpAny_bind (wpAny_newTuple ?_ (by show vs.length ≤ _; exact hZ))
  refine wpAny_bind (wpAny_newList ?_ (Nat.zero_le _))
  refine wpAny_holding ?_
  rw [← hkS] at turn h
  refine rest (J := J) (kz := kz) (s := { s with heap := sortingHeap s.heap a vs }) (kS := ((s.heap.update a (Obj.mapSeq fun _ => (#[] : Array Value))).push (seqObj "tuple" vs.toArray 0)).objs.size)
    hlen hZ hal hsk hu (by rw [hkS]; exact Nat.ne_of_gt (Nat.lt_succ_of_lt ha)) j0 (Heap.get?_push_size _ rfl) (Heap.get?_push_of_some _ (Heap.get?_push_of_some _ ho1)) jl (fun i v hv s1 ks e => turn i v hv s1 ks e e1) reads h
theorem sorted {l : Addr} {kw : List (Str × Value)} {Q : Value → Shared → Prop} (hl : s.heap.IsList l vs.toArray) (hlen : kz.length = vs.length) (hZ : vs.length ≤ sizeLine) (hal : AllAlike kz) (hsk : Sortable kz) (hu : ∀ d, d ∈ kz → A.units + 2 + d.depth < cLine)
    (ha1 : argsOk "sorted" ⟨[.ref l], kw⟩) (ha2 : ∀ x, argsOk "list.sort" ⟨[.ref x], kw⟩) (ht : ∀ x, Builtin.«list.sort» ⟨[.ref x], kw⟩ = ksk_tree x f b)
    (j0 : ∀ h', (∀ b o, s.heap.get? b = some o → h'.get? b = some o) → J 0 { s with heap := h' } []) (jl : ∀ i s1 ks, J i s1 ks → ks.length = i)
    (turn : ∀ (i : Nat) (v : Value), vs[i]? = some v → ∀ (s1 : Shared) (ks : List Value) (e e1 : Nat), J i s1 ks → s1.heap.get? (s.heap.objs.size + 3) = some (seqObj "list" ks.toArray e) → s1.heap.get? (s.heap.objs.size + 1) = some (seqObj "list" #[] e1) →
      wpAny (model prog w) A.in1.in1 (call f [v]) (fun u s2 => s2.heap.get? (s.heap.objs.size + 3) = some (seqObj "list" ks.toArray e) ∧ s2.heap.get? (s.heap.objs.size + 1) = some (seqObj "list" #[] e1) ∧ ∀ h', Heap.SameBut (s.heap.objs.size + 3) s2.heap h' → J (i + 1) { s2 with heap := h' } (ks ++ [u])) (fun _ _ => False) s1)
    (reads : ∀ s1 ks, J vs.length s1 ks → EachIs (fun v k => ∃ as, Reads s1.heap v k as) ks kz)
    (h : ∀ s1 ks, J vs.length s1 ks → ∀ h' tk out c, (∀ b o, b ≠ s.heap.objs.size + 1 → b ≠ s.heap.objs.size + 3 → s1.heap.get? b = some o → h'.get? b = some o) → h'.get? (s.heap.objs.size + 1) = some (seqObj "list" (List.toArray out) c) → KeyedOut b kz vs out → Q (.ref (s.heap.objs.size + 1)) { s1 with heap := h', toks := tk }) :
    wpAny (model prog w) A (call (.builtin "sorted") [.ref l] kw) Q E s := by
  refine sorted_of_sort hl hZ ha1 ha2 fun E' => ?_
  rw [ht]
  have hsz : (copyHeap s.heap vs).objs.size + 1 = s.heap.objs.size + 3 := by
    unfold copyHeap
    rw [size_push', Heap.size_update, size_push']
  rw [← hsz] at turn h
  refine tree (J := J) (kz := kz) (s := { s with heap := copyHeap s.heap vs }) (copyHeap_at s.heap vs) hlen hZ hal hsk (fun d hd => hu d hd) (j0 _ fun b o q => sorting_copy_old q) jl turn reads fun s1 ks hJ h' tk out c k1 k2 k3 => ⟨rfl, h s1 ks hJ h' tk out c k1 k2 k3⟩
end
end DL.KJ
namespace DL
open PySem L2 PySem.Spec PyProof.Rows
section
variable {X : L2.Cx}
theorem Inv.turned2 {pins : List (Addr × Obj)} {σ : L2.St} {H : Hp} {s : Shared} {h' : Heap} {t' : Nat} {it ju : Addr} (I : Inv X pins σ H s) (k : ∀ b o, b ≠ it → b ≠ ju → s.heap.get? b = some o → h'.get? b = some o) (f : FpOk X pins H it) (g : FpOk X pins H ju) :
    Inv X pins σ H { s with heap := h', toks := t' } := by
  obtain ⟨f1, f2, f3, f4, f5, f6⟩ := f
  obtain ⟨g1, g2, g3, g4, g5, g6⟩ := g
  have nit : ∀ b u, H b = some u → b ≠ it := fun b u e z => by rw [z, f1] at e; cases e
  have nju : ∀ b u, H b = some u → b ≠ ju := fun b u e z => by rw [z, g1] at e; cases e
  have hc2 : ∀ b : Addr, b ∉ [it, ju] → b ≠ it ∧ b ≠ ju := fun b hb => ⟨fun z => hb (by simp [z]), fun z => hb (by simp [z])⟩
  refine I.step (g' := s.gens) (d' := s.drawn) (ch := [it, ju]) (fun b hb => ?_) (fun b o _ _ hc e _ => k b o (hc2 b hc).1 (hc2 b hc).2 e) (fun b o _ _ hc e _ => ⟨o.slots, k b o (hc2 b hc).1 (hc2 b hc).2 e⟩) (fun _ _ _ _ n => n)
    (fun b o hc e => ⟨o, k b o (hc2 b hc).1 (hc2 b hc).2 e⟩) (fun _ _ e => e) (fun _ _ _ e => e) (fun b ps e => ⟨#[], by rw [e]; simp⟩) (fun m hm => ?_) (fun b u e => ?_) I.bare
  · rcases List.mem_cons.mp hb with rfl | hb
    · exact ⟨f4, f2, f5, f6⟩
    · obtain rfl := List.mem_singleton.mp hb
      exact ⟨g4, g2, g5, g6⟩
  · obtain ⟨o, es, ep, ho, r⟩ := hm
    exact ⟨o, es, ep, k _ o (Ne.symm f2) (Ne.symm g2) ho, r⟩
  · refine (I.hok b u e).stay (fun c v hc q => k c v ?_ ?_ q) (fun _ q => q) fun _ _ q => q
    · rcases hc with z | z
      · rw [z]; exact nit b u e
      · exact nit c _ z
    · rcases hc with z | z
      · rw [z]; exact nju b u e
      · exact nju c _ z
theorem FpOk.other {pins : List (Addr × Obj)} {H H' : Hp} {b : Addr} (f : FpOk X pins H b) (h : H' b = none) : FpOk X pins H' b := ⟨h, f.2⟩
/-- the keys, one call behind the other -/
def KeyRun (sp : Sp) : List V → List V → Hp → (List V → Hp → Prop) → Prop
  | [], us, H, Q => Q us H
  | x :: xs, us, H, Q => sp [x] H (fun u H' => KeyRun sp xs (us ++ [u]) H' Q) E0
def sortV (its : List V) (kz : List D) : List V := ((its.zip kz).mergeSort (PySem.W.dataLe false (·.2))).map (·.1)
def rSortKey (K : PySem.W.Frag) (f : Addr) (sp : Sp) : List V → List V → Hp → VK → Prop := fun vs zs H Q => ∃ (l : Addr) (its : List V) (kz : List D), vs = [.ref l] ∧ zs = [.ref f] ∧ SqL K H l its ∧ kz.length = its.length ∧ canSort kz ∧
  KeyRun sp its [] H fun us H' => DpAll K H' us kz ∧ ∀ p, H' p = none → Q (.ref p) (upd H' p (.lst (sortV its kz)))
theorem reads_each {h : Heap} : ∀ {ds : List D} {us : List Value} {as : List Addr}, ReadsAll h us ds as → PySem.W.EachIs (fun (u : Value) (d : D) => ∃ as, Reads h u d as) us ds
  | [], _, _, r => by cases r; exact .nil
  | d :: ds, _, _, .cons r t => .cons ⟨_, r⟩ (reads_each t)
theorem each_zip2 : ∀ {its : List V} {us : List Value} {kz : List D}, Vals its us → kz.length = its.length → PySem.W.EachIs (fun (u : Value) (z : V × D) => RelV z.1 u) us (its.zip kz)
  | [], _, _, .nil, _ => .nil
  | x :: xs, _, [], .cons r t, h => by simp at h
  | x :: xs, _, d :: ds, .cons r t, h => .cons r (each_zip2 t (by simpa using h))
theorem cr_sortKey {k : Nat} {f : Addr} {fd : FuncData} {ps : List Str} {sp : Sp} (F : FnOkG X.prog X.w X.K X.mg X.base CX0 k f fd ps sp) (hr : RoomG k X.A.in1.in1) (hu : X.A.units + 64 < cLine) (hb : Binds X.K fd ps []) (hps : ps.length = 1) :
    CallRK X (.builtin "sorted") [Str.ofString "key"] (rSortKey X.K f sp) := by
  intro pins s σ H vs zs us ws Q I r rz h
  obtain ⟨l, its, kz, rfl, rfl, hs, hlen, hc, hrun⟩ := h
  obtain rfl := Vals.ref1 r
  obtain ⟨w1, rfl, e1⟩ := vals1 rz
  obtain rfl : w1 = Value.ref f := e1
  obtain ⟨uits, rv, hl, hz⟩ := I.list hs
  have hlv := rv.length
  have size1 : s.heap.objs.size ≤ s.heap.objs.size + 1 := Nat.le_succ _
  have size3 : s.heap.objs.size ≤ s.heap.objs.size + 3 := by omega
  refine KJ.sorted (b := false) (vs := uits) (kz := kz) (f := .ref f)
    (J := fun i s1 ks => ∃ (H1 : Hp) (us1 : List V), Inv X pins σ H1 s1 ∧ FpOk X pins H1 (s.heap.objs.size + 1) ∧ FpOk X pins H1 (s.heap.objs.size + 3) ∧ Vals us1 ks ∧ us1.length = i ∧ KeyRun sp (its.drop i) us1 H1 fun us H' => DpAll X.K H' us kz ∧ ∀ p, H' p = none → Q (.ref p) (upd H' p (.lst (sortV its kz))))
    hl.isList (by rw [hlen, hlv]) (by rw [← hlv]; exact hz) hc.1 hc.2.1 (fun d hd => ?_) (ksk_s1 _ _) (fun _ => ksk_l1 _ _) (fun _ => ksk_t1 _ _) (fun h' kh => ?_) (fun i s1 ks hJ => ?_) (fun i v hv s1 ks e e1 hJ g3 g1 => ?_) (fun s1 ks hJ => ?_) fun s1 ks hJ h' tk out c kh hg ko => ?_
  · have := depth_le_all hd
    have := hc.2.2.2
    omega
  · exact ⟨H, [], I.kept (t' := s.toks) kh, I.fpOk size1 (I.hok.fresh size1), I.fpOk size3 (I.hok.fresh size3), .nil, rfl, hrun⟩
  · obtain ⟨H1, us1, _, _, _, rr, hl1, _⟩ := hJ
    rw [← rr.length]; exact hl1
  · obtain ⟨H1, us1, I1, f1, f3, rr, hl1, hk⟩ := hJ
    have hi : i < its.length := by rw [hlv]; exact (List.getElem?_eq_some_iff.mp hv).1
    have hx : its[i]? = some its[i] := List.getElem?_eq_getElem hi
    obtain ⟨v', hv', rx⟩ := rv.get hx
    rw [hv] at hv'
    obtain rfl := Option.some.inj hv'
    rw [List.drop_eq_getElem_cons hi] at hk
    have I2 : Inv X ((s.heap.objs.size + 3, seqObj "list" ks.toArray e) :: (s.heap.objs.size + 1, seqObj "list" #[] e1) :: pins) σ H1 s1 := I1.pins_of fun p hp => by
      rcases List.mem_cons.mp hp with rfl | hp
      · exact ⟨g3, f3.1, f3.2.1, f3.2.2.1, fun v z => by cases z⟩
      · rcases List.mem_cons.mp hp with rfl | hp
        · exact ⟨g1, f1.1, f1.2.1, f1.2.2.1, fun v z => by cases z⟩
        · exact I1.pin p (List.mem_append_right _ hp)
    have r1 : Vals [its[i]] [v] := .cons rx .nil
    refine wpAny_call (codeAny_mono (F.run X.A.in1.in1 X.stack s1 H1 ⟨[v], []⟩ [v] [its[i]] _ E0 hr.r hr.g I1.env0.in1.in1 (by have := hb s1 [v] I1.kIn (by rw [hps]; rfl); simpa using this) r1 hk) fun rr2 s2 hq => ?_)
    cases rr2 with
    | error er => exact False.elim hq
    | ok fl =>
      cases fl with
      | next => exact False.elim hq
      | brk => exact False.elim hq
      | cont => exact False.elim hq
      | ret u =>
        obtain ⟨vu, H2, I3, ru, hk2⟩ := I2.after hq
        have p3 := I3.pin (s.heap.objs.size + 3, seqObj "list" ks.toArray e) (List.mem_append_right _ (.head _))
        have p1 := I3.pin (s.heap.objs.size + 1, seqObj "list" #[] e1) (List.mem_append_right _ (.tail _ (.head _)))
        refine ⟨p3.1, p1.1, fun h' hsb => ?_⟩
        have I4 : Inv X pins σ H2 s2 := I3.pins_of fun p hp => I3.pin p (List.mem_append_right _ (.tail _ (.tail _ hp)))
        have F3 := FpOk.other f3 p3.2.1
        refine ⟨H2, us1 ++ [vu], I4.turned (it := s.heap.objs.size + 3) (t' := s2.toks) (fun b o hb q => (hsb.2 b hb).trans q) F3.1 F3.2.1 F3.2.2.2.1 F3.2.2.2.2.1 F3.2.2.2.2.2, FpOk.other f1 p1.2.1, F3, rr.append (.cons ru .nil), by rw [List.length_append, hl1]; rfl, hk2⟩
  · obtain ⟨H1, us1, I1, f1, f3, rr, hl1, hk⟩ := hJ
    rw [← hlv, List.drop_length] at hk
    obtain ⟨hd, _⟩ := hk
    obtain ⟨as, hr2⟩ := Dp.readsAll I1 _ _ ks hd rr
    exact reads_each hr2
  · obtain ⟨H1, us1, I1, f1, f3, rr, hl1, hk⟩ := hJ
    rw [← hlv, List.drop_length] at hk
    obtain ⟨hd, q⟩ := hk
    have I2 : Inv X pins σ H1 { s1 with heap := h', toks := tk } := Inv.turned2 I1 kh f1 f3
    have hzl : (its.zip kz).map (·.2) = kz := List.map_snd_zip (by omega)
    have eo := PySem.W.keyedOut_each (R := fun (u : Value) (z : V × D) => RelV z.1 u) (bs := its.zip kz) (·.2) (by rw [hzl]; exact ko) (each_zip2 rv hlen)
    have hol : (sortV its kz).length ≤ sizeLine := by
      unfold sortV
      rw [List.length_map, List.length_mergeSort, List.length_zip]
      omega
    exact ⟨.ref _, upd H1 (s.heap.objs.size + 1) (.lst (sortV its kz)), I2.take (t' := tk) (h' := h') (fun b ob _ e => e) f1 ⟨hol, out, c, vals_each eo, hg⟩, rfl, q _ f1.1⟩
def sortKD (key : D → D) (ds : List D) : List D := ds.mergeSort (PySem.W.dataLe false key)
theorem sortV_pairs {zs : List (V × D)} {key : D → D} : sortV (zs.map (·.1)) ((zs.map (·.2)).map key) = (zs.mergeSort (PySem.W.dataLe false fun z => key z.2)).map (·.1) := by
  unfold sortV
  have e : (zs.map (·.1)).zip ((zs.map (·.2)).map key) = zs.map fun z => (z.1, key z.2) := by
    induction zs with
    | nil => rfl
    | cons z zs ih => rw [List.map_cons, List.map_cons, List.map_cons, List.zip_cons_cons, ih]; rfl
  have m := List.map_mergeSort (r := PySem.W.dataLe false fun z : V × D => key z.2) (s := PySem.W.dataLe false fun z : V × D => z.2) (f := fun z : V × D => (z.1, key z.2)) (l := zs) fun _ _ _ _ => rfl
  rw [e, ← m, List.map_map]
  rfl
theorem sortKD_pairs {zs : List (V × D)} {key : D → D} : sortKD key (zs.map (·.2)) = (zs.mergeSort (PySem.W.dataLe false fun z => key z.2)).map (·.2) := by
  unfold sortKD
  exact (List.map_mergeSort (r := PySem.W.dataLe false fun z : V × D => key z.2) (s := PySem.W.dataLe false key) (f := fun z : V × D => z.2) (l := zs) fun _ _ _ _ => rfl).symm
def cSortKy (sp : SpD) : S → List En → (S → En → Prop) → Prop := fun s xs Ks => a1 xs fun x => ∃ (ds : List D) (key : D → D), vw s x = some (.list ds) ∧ (∀ d ∈ ds, CallV sp s [.da d] fun s' r => s' = s ∧ r = .da (key d)) ∧ canSort (ds.map key) ∧ Ks s (.da (.list (sortKD key ds)))
theorem keyRun_d {K : PySem.W.Frag} {sp : SpD} {b : Bd} {σ : L2.St} {s : S} {key : D → D} {Qe : List V → Hp → Prop} : ∀ (vs : List V) (ds : List D) (us : List V) (kds : List D) (A : Addr → Prop) (own : List (List Addr)) (H : Hp), Rel K b A own H σ s → RpL K A H vs ds → RpL K A H us kds →
    (∀ d ∈ ds, CallV sp s [.da d] fun s' r => s' = s ∧ r = .da (key d)) → (∀ A' own' H' us', Rel K b A' own' H' σ s → Up A own H A' own' H' → RpL K A' H' us' (kds ++ ds.map key) → Qe us' H') → KeyRun (spOf K 1 sp) vs us H Qe
  | _, _, us, kds, A, own, H, R, .nil, ru, _, fin => fin A own H us R Up.refl (by rw [List.map_nil, List.append_nil]; exact ru)
  | v :: vs, d :: ds, us, kds, A, own, H, R, .cons rv rt, ru, hk, fin => by
    have hd := hk d (List.mem_cons_self ..)
    show spOf K 1 sp [v] H (fun u H' => KeyRun (spOf K 1 sp) vs (us ++ [u]) H' Qe) E0
    refine callW_run (ks := []) (xs := [.da d]) hd.1 rfl R ⟨rv, trivial⟩ hd.2 fun A' own' H' v' s' x R' U' ex hks => ?_
    obtain ⟨rfl, rfl⟩ := hks
    refine keyRun_d vs ds (us ++ [v']) (kds ++ [key d]) A' own' H' R' (RpL.mono U'.kp rt) ?_ (fun d' hd' => hk d' (List.mem_cons_of_mem _ hd')) fun A2 own2 H2 us' R2 U2 r2 => fin A2 own2 H2 us' R2 (U'.trans U2) ?_
    · have : ∀ {l : List V} {m : List D}, RpL K A' H' l m → RpL K A' H' (l ++ [v']) (m ++ [key d]) := fun {l m} h => by
        induction l generalizing m with
        | nil => cases h; exact .cons ex .nil
        | cons y l ih => cases h with | cons h1 h2 => exact .cons h1 (ih h2)
      exact this (RpL.mono U'.kp ru)
    · rw [List.map_cons]
      simpa [List.append_assoc] using r2
theorem de_sortKey {k : Nat} {st : Stmt} {ps : List Str} {sp : SpD} {y : Str} {a : Expr} {wa : WE} {p pos py pk : Pos} (O : Ok X.prog X.w X.K X.mg X.base k y st ps 1 sp) (hps : ps.length = 1) (hr : RoomG (k + 1) X.A) (hg : Gl X "sorted") (hm : X.mg "sorted" = none) (hgy : Gl X y) (ha : DE X a wa)
    (hdb : (y == ("__debug__" : Str)) = false := by decide) (he : starEach (a :: []) X.env = (false, eval a X.env) :: starEach [] X.env := by rfl)
    (he2 : backTo pos (starEach (a :: []) X.env) = (false, eval a X.env) :: backTo pos (starEach [] X.env) := by rfl) (hpl : (backTo pos (starEach (a :: []) X.env)).any (·.1) = false := by rfl)
    (hall : (backToKw pos (keywordEach [⟨some "key", .Name y py, pk⟩] X.env)).all (·.1.isSome) = true := by rfl) (hnone : (backToKw pos (keywordEach [⟨some "key", .Name y py, pk⟩] X.env)).any (·.1.isNone) = false := by rfl) (hks : (backToKw pos (keywordEach [⟨some "key", .Name y py, pk⟩] X.env)).filterMap (·.1) = [Str.ofString "key"] := by rfl) :
    DE X (.Call (.Name "sorted" p) [a] [⟨some "key", .Name y py, pk⟩] pos) (dCall (cSortKy sp) (aCons wa aNil)) := by
  obtain ⟨f, fd, at', F⟩ := O.ex
  obtain ⟨ta, pa, qa⟩ := (da_cons ha da_nil he).ex
  have hr2 : RoomG k X.A.in1.in1 := ⟨⟨hr.r.hd, by have := hr.r.dp; show X.A.depth + 3 * k + 5 < _; omega, by have := hr.r.un; show X.A.units + 1 + 1 + 16 * k + 200 < _; omega⟩, hr.g⟩
  refine ⟨_, pe_callBK (cr_sortKey F hr2 (by have := hr.r.un; omega) at'.b hps) hg hm (by decide +kernel) pa (pk_cons (pe_glob hgy at'.g (v := .ref f) rfl hdb) pk_nil) (he := he2) (hpl := hpl) (hall := hall) (hnone := hnone) (hks := hks), fun b A own H σ s Ks Q R h kk => ?_⟩
  refine qa b A own H σ s _ _ R h fun A1 o1 H1 vs s1 xs R1 U1 E1 h1 => ?_
  obtain ⟨v, x, rfl, e1, ds, key, hd, hk, hc, h⟩ := a1_inv E1 h1
  show rSortKey X.K f (spOf X.K 1 sp) [v] [.ref f] H1 Q
  obtain ⟨l, us, rfl, hs, r⟩ := vw_lst R1 e1 hd
  obtain ⟨zs, rfl, rfl, hz⟩ := rpl_zip r
  refine ⟨l, zs.map (·.1), (zs.map (·.2)).map key, rfl, rfl, hs, by simp, hc, ?_⟩
  refine keyRun_d _ _ [] [] A1 o1 H1 R1 r .nil hk fun A2 o2 H2 us' R2 U2 r2 => ⟨r2.dp (by rw [List.nil_append]; exact hc.2.2.1), fun q hq => ?_⟩
  rw [sortV_pairs]
  rw [sortKD_pairs] at h
  refine new_lst R2 ((kk.up U1).up U2) ?_ hq h
  exact rpl_map fun z hm => Rp.mono U2.kp (hz z ((List.mergeSort_perm _ _).mem_iff.mp hm))
/-- the first place of a number in a list of numbers, which may be one that changes -/
def dIndexV (wa wb : WE) : WE := fun s Ks => wa s fun s1 x => (∃ ds, vw s1 x = some (.list ds)) ∧ wb s1 fun s2 y => i1 y fun v => ∃ (ns : List Int) (j : Nat), vw s2 x = some (.list (ns.map .int)) ∧ ns[j]? = some v ∧ (∀ m, m < j → ns[m]? ≠ some v) ∧ Ks s2 (.da (.int (j : Nat)))
theorem de_indexV {a b : Expr} {wa wb : WE} {apos cpos : Pos} (ho : DE X a wa) (hi : DE X b wb)
    (hbase : attributeBase a "index" X.env (eval a X.env) = eval a X.env := by rfl)
    (hfew : ((backTo cpos (starEach (b :: []) X.env)).all (fun x => !x.1) && (backToKw cpos (keywordEach [] X.env)).all (fun x => x.1.isSome)
      && decide ((b :: []).length + ([] : List Keyword).length + (if ([] : List Keyword).isEmpty then 0 else 1) < 30)) = true := by rfl)
    (hline : (apos.endLine == cpos.line) = true := by rfl) (hs : starEach (b :: []) X.env = (false, eval b X.env) :: starEach [] X.env := by rfl) (hplain : (backTo cpos (starEach [] X.env)).any (·.1) = false := by rfl) :
    DE X (.Call (.Attribute a "index" apos) [b] [] cpos) (dIndexV wa wb) := by
  obtain ⟨ta, pa, qa⟩ := ho.ex
  obtain ⟨tr, pr, qr⟩ := (da_cons hi da_nil hs).ex
  refine ⟨_, pe_bm PySem.F.plainAttrs_list PySem.F.slot_list_index PySem.F.type_list_index mt_index pa pr hbase hfew hline hs hplain, fun b A own H σ s Ks Q R h k => ?_⟩
  show ta σ H fun x H1 => tyV X.K "list" x H1 ∧ tr σ H1 fun xs H2 => rIndex X.K x xs H2 Q
  refine qa _ _ _ _ _ _ _ _ R h fun A1 o1 H1 v1 s1 x1 R1 U1 E1 h1 => ?_
  obtain ⟨⟨ds, hd⟩, h1⟩ := h1
  obtain ⟨p, us, rfl, l1, r1⟩ := vw_lst R1 E1 hd
  refine ⟨.inl ⟨rfl, _, l1⟩, ?_⟩
  refine qr _ _ _ _ _ _ (fun s2 xs => a1 xs fun y => i1 y fun v => ∃ (ns : List Int) (j : Nat), vw s2 x1 = some (.list (ns.map .int)) ∧ ns[j]? = some v ∧ (∀ m, m < j → ns[m]? ≠ some v) ∧ Ks s2 (.da (.int (j : Nat)))) _ R1 h1 fun A2 o2 H2 vs s2 xs R2 U2 E2 h2 => ?_
  obtain ⟨v, y, rfl, E3, h2⟩ := a1_inv E2 h2
  obtain ⟨z, rfl, ns, j, hv, hj, hlt, h2⟩ := i1_inv h2
  cases E3
  obtain ⟨p2, us2, e2, l2, r2⟩ := vw_lst R2 (E1.up U2) hv
  cases e2
  obtain rfl := RpL.ofInts r2
  refine ⟨p, ns.map V.int, .int z, j, .int z, rfl, rfl, l2, rfl, ?_, ?_, ?_, fun m z' hm hz => ?_, (k.up (U1.trans U2)).da R2 Up.refl (.int _) h2⟩
  · rw [List.all_map]; exact List.all_eq_true.mpr fun _ _ => rfl
  · rw [List.getElem?_map, hj]; rfl
  · show (z == z) = true
    simp
  · rw [List.getElem?_map] at hz
    cases q : ns[m]? with
    | none => rw [q] at hz; cases hz
    | some z2 =>
      rw [q] at hz
      cases hz
      show (z2 == z) = false
      have := hlt m hm
      rw [q] at this
      exact beq_eq_false_iff_ne.mpr fun e => this (by rw [e])
/-- len(set(xs)): as many as xs has, just where no two are the same -/
theorem firstMet_full (ns : List Int) : ∀ i, i ≤ ns.length → (PyProof.Rows.firstMet (fun i => ns.getD i 0) i).length = i → PyProof.Rows.firstMet (fun i => ns.getD i 0) i = ns.take i ∧ (ns.take i).Nodup
  | 0, _, _ => ⟨rfl, by rw [List.take_zero]; exact List.nodup_nil⟩
  | i + 1, hi, h => by
    have hlt : i < ns.length := hi
    have hle := PyProof.Rows.firstMet_length_le (fun i => ns.getD i 0) i
    have e1 : ns.getD i 0 = ns[i] := by rw [List.getD_eq_getElem?_getD, List.getElem?_eq_getElem hlt]; rfl
    have e2 : ns.take (i + 1) = ns.take i ++ [ns[i]] := by rw [List.take_add_one, List.getElem?_eq_getElem hlt]; rfl
    rw [PyProof.Rows.firstMet_succ] at h ⊢
    show PyProof.Rows.step_dedup _ (ns.getD i 0) = _ ∧ _
    replace h : (PyProof.Rows.step_dedup (PyProof.Rows.firstMet (fun i => ns.getD i 0) i) (ns.getD i 0)).length = i + 1 := h
    unfold PyProof.Rows.step_dedup at h ⊢
    split at h
    · omega
    · rename_i c
      rw [List.length_append] at h
      replace h : _ + 1 = i + 1 := h
      obtain ⟨f1, f2⟩ := firstMet_full ns i (Nat.le_of_lt hlt) (by omega)
      rw [f1] at c ⊢
      rw [if_neg c, e2, e1]
      refine ⟨rfl, List.nodup_append.mpr ⟨f2, by simp, fun x hx y hy e => ?_⟩⟩
      have hy : y = ns[i] := by simpa using hy
      exact c (List.any_eq_true.mpr ⟨x, hx, by rw [e, hy, e1]; exact beq_self_eq_true _⟩)
theorem firstMet_iff (ns : List Int) : (PyProof.Rows.firstMet (fun i => ns.getD i 0) ns.length).length = ns.length ↔ ns.Nodup := by
  constructor
  · intro h
    have := (firstMet_full ns ns.length (Nat.le_refl _) h).2
    rwa [List.take_length] at this
  · intro h
    rw [firstMet_nodup ns h ns.length (Nat.le_refl _), List.take_length]
def tLenSetJ (K : PySem.W.Frag) (ta : TE) : TE := fun σ H Q => ta σ H fun x H1 => ∃ (l : Addr) (ns : List Int), x = .ref l ∧ SqL K H1 l (ns.map V.int) ∧ ns.length ≤ 4000 ∧ ∀ m : Nat, m ≤ ns.length → (m = ns.length ↔ ns.Nodup) → Q (.int m) H1
theorem pe_lenSetJ {a : Expr} {ta : TE} {p p2 q : Pos} (hg : Gl X "len") (hm : X.mg "len" = none) (hg2 : Gl X "set") (hm2 : X.mg "set" = none) (ha : PE X a ta) (hc : X.calm = true)
    (na : starEach [a] X.env = (false, eval a X.env) :: starEach [] X.env := by rfl) : PE X (.Call (.Name "len" p) [.Call (.Name "set" p2) [a] [] q] [] pos) (tLenSetJ X.K ta) := by
  refine ⟨fun pins s σ H Q I h => ?_⟩
  refine Call_ (ld_blt I hg hm boot_len ?_)
  refine PyProof.Rows.callWith_builtin1 (PyProof.Rows.args_cons ?_ rfl) rfl rfl
  refine Call_ (ld_blt I hg2 hm2 PyProof.Rows.boot_set ?_)
  refine PyProof.Rows.callWith_type1 (PyProof.Rows.args_cons (thn (ha.run pins s σ H _ I h) fun v s1 ⟨x, H1, I1, r1, q1⟩ => PyProof.Rows.args_nil ?_) na) na rfl
  obtain ⟨l, ns, rfl, hq, hl, q1⟩ := q1
  cases r1
  obtain ⟨its, r, pl, hz⟩ := I1.list hq
  have hlen : its.toArray.size = ns.length := by rw [List.size_toArray, ← r.length, List.length_map]
  refine call_set_list (I1.ok.hd hc) pl.isList (by simpa using RZ.intsAre_vals r) (by rw [hlen]; unfold scanBound; omega) fun h' tk hS hk => ?_
  refine PyProof.Rows.args_nil ?_
  rw [hlen] at hS
  have hiff := firstMet_iff ns
  have hle := PyProof.Rows.firstMet_length_le (fun i => ns.getD i 0) ns.length
  obtain ⟨o, es, ep, t, ho, hex, hd, _, _, _, hf, hn⟩ := hS
  have I2 : Inv X pins σ H1 { s1 with heap := h', toks := tk } := I1.kept fun b o e => hk b o (Heap.lt_size e) e
  exact call_len_set ho hex hd hf (by rw [hn] <;> omega) ⟨.int (PyProof.Rows.firstMet (fun i => ns.getD i 0) ns.length).length, H1, I2.tok _, ⟨_, by rw [hn]⟩, q1 _ hle hiff⟩
def dLenSet (wa : WE) : WE := fun s Ks => wa s fun s1 x => ∃ ns : List Int, vw s1 x = some (.list (ns.map .int)) ∧ ns.length ≤ 4000 ∧ ∀ m : Nat, m ≤ ns.length → (m = ns.length ↔ ns.Nodup) → Ks s1 (.da (.int (m : Nat)))
theorem de_lenSet {a : Expr} {wa : WE} {p p2 q : Pos} (hc : X.calm = true) (hg : Gl X "len") (hm : X.mg "len" = none) (hg2 : Gl X "set") (hm2 : X.mg "set" = none) (ha : DE X a wa)
    (na : starEach [a] X.env = (false, eval a X.env) :: starEach [] X.env := by rfl) : DE X (.Call (.Name "len" p) [.Call (.Name "set" p2) [a] [] q] [] pos) (dLenSet wa) := by
  obtain ⟨ta, pa, qa⟩ := ha.ex
  refine ⟨_, pe_lenSetJ hg hm hg2 hm2 pa hc (na := na), fun b A own H σ s Ks Q R h k => ?_⟩
  refine qa _ _ _ _ _ _ _ _ R h fun A1 o1 H1 v1 s1 x1 R1 U1 E1 h1 => ?_
  obtain ⟨ns, hd, hl, h1⟩ := h1
  obtain ⟨l, us, rfl, l1, r1⟩ := vw_lst R1 E1 hd
  obtain rfl := RpL.ofInts r1
  exact ⟨l, ns, rfl, l1, hl, fun m hm hi => (k.up U1).da R1 Up.refl (.int _) (h1 m hm hi)⟩
end
end DL
namespace DL
open PySem L2 PySem.Spec PyProof.Rows
/-! ### sorted(set(xs)) of a list of ints -/
/-- a set just made -/
def eset (w : World) : Obj := { cls := .type "set", dict := none, data := .set #[] 0 (.fresh 0 0 (!w.params.followText "set-order")) }
section
variable {P : Program} {w : World} {A : Around} {E : Value → Shared → Prop} {s : Shared}
theorem set_of_list {l : Addr} {vs : Array Value} {ns : List Int} {Q : Value → Shared → Prop} (h0 : A.handled = none) (hl : s.heap.IsList l vs) (hv : IntsAre vs.toList ns) (hb : ns.length + 1 < scanBound)
    (k : ∀ (h' : Heap) (tk c : Nat), SetR w h' s.heap.objs.size (fun j => decide (j ∈ ns)) c → c ≤ ns.length → (∀ b o, s.heap.get? b = some o → h'.get? b = some o) → Q (.ref s.heap.objs.size) { s with heap := h', toks := tk }) :
    wpAny (model P w) A (call (.type "set") [.ref l]) Q E s := by
  have hsz : vs.size = ns.length := by rw [← Array.length_toList]; exact hv.length
  obtain ⟨c, tl, hmro⟩ := F.called_set.mro
  have m1 := F.called_set.made
  have m2 := F.called_set.sub
  refine wpAny_call (codeAny_of_tree ?_)
  show wpAny _ _ (callAny (.type "set") _) _ _ _
  refine wpAny_pure ⟨Code.quiet_builtin _ (by decide +kernel), codeAny_builtin F.entry_type_call ?_⟩
  rw [Around.under_plain (weight_type_call_type "set" [.ref l] []) rfl]
  have m3 := F.called_set.notType
  have m4 := F.called_set.canCreate
  have m5 := F.typeCall_set_1 (.ref l)
  repeat (any_goals (first | assumption | wp_step))
  refine codeAny_mono (code_set_led1 (.ref l) (E := E) (Q₁ := fun x t => x = .ref s.heap.objs.size ∧ t = { s with heap := s.heap.push (eset w) }) ⟨rfl, rfl⟩) fun r t hr => ?_
  cases r with
  | error e => exact hr
  | ok fl =>
    cases fl with
    | ret x =>
      obtain ⟨rfl, rfl⟩ := hr
      have g0 : (s.heap.push (eset w)).get? s.heap.objs.size = some (eset w) := Heap.get?_push_size _ rfl
      have gT : Shared.TypeIs { s with heap := s.heap.push (eset w) } (.ref s.heap.objs.size) "set" := ⟨_, g0, rfl⟩
      have i1 := F.called_set.init.lookup
      have i2 := F.called_set.init.bind (.ref s.heap.objs.size)
      repeat (any_goals (first | assumption | wp_step))
      refine codeAny_mono (codeAny_call_builtin (R := wants (fun r t => r = .none ∧ ∃ h' tk c, t = { s with heap := h', toks := tk } ∧ SetR w h' s.heap.objs.size (fun j => decide (j ∈ ns)) c ∧ c ≤ ns.length ∧
          (∀ b o, s.heap.get? b = some o → h'.get? b = some o)) E) F.called_set.init.plain F.entry_set_init (check_set_init_1 gT ?_)) fun r t hr => ?_
      · obtain ⟨⟨oc, od, oa, os⟩, ho, e1, nl, e2⟩ := hl
        simp only at e1 e2
        subst e1; subst e2
        have hlt : l < s.heap.objs.size := Heap.lt_size ho
        have ho2 : (s.heap.push (eset w)).get? l = some { cls := .type "list", dict := od, data := .seq vs nl, slots := os } := Heap.get?_push_of_some _ ho
        have u1 := F.sub_list_set
        have u2 := F.sub_list_frozenset
        have u3 : (Value.type "list" == Value.type "dict") = false := by decide
        have hl2 : (s.heap.push (eset w)).IsList l vs := ⟨_, ho2, rfl, nl, rfl⟩
        unfold Builtin.«set.__init__» noKeywords Builtin.Frozenset.updateFrom
        generalize hPI : pyIter = PI
        wp_walk
        subst hPI
        refine wpAny_pyIter_list hl2 ?_
        refine wpAny_bind (wpAny_runValue ?_)
        have z1 : (s.heap.push (eset w)).objs.size = s.heap.objs.size + 1 := Heap.size_push ..
        have n1 : l ≠ (s.heap.push (eset w)).objs.size := by rw [z1]; exact Nat.ne_of_lt (Nat.lt_succ_of_lt hlt)
        have n2 : s.heap.objs.size ∉ [(s.heap.push (eset w)).objs.size, l] := by
          intro z
          rcases List.mem_cons.mp z with z | z
          · exact absurd z (by rw [z1]; exact Nat.ne_of_lt (Nat.lt_succ_self _))
          · exact absurd (List.mem_singleton.mp z) (Nat.ne_of_gt hlt)
        refine set_update_ints ((Walks.list (by simp [h0]) _ l n1 vs).toS) s.heap.objs.size n2 ns hsz hb (fun i v hi => ?_) (vs.size - 0) 0 _ (by omega) (Nat.zero_le _) ⟨⟨_, Heap.get?_push_size _ rfl, rfl, rfl⟩, (hl2.push _)⟩ ?_ ?_
        · have hi2 : i < ns.length := by rw [← hsz]; exact (Array.getElem?_eq_some_iff.mp hi).1
          obtain ⟨t, e⟩ := PyProof.Rows.IntsAre.int_at hv i v (by rw [Array.getElem?_toList]; exact hi)
          exact ⟨ns[i], t, List.getElem?_eq_getElem hi2, by rw [e, List.getD_eq_getElem?_getD, List.getElem?_eq_getElem hi2]; rfl⟩
        · exact ⟨0, Nat.le_refl 0, setR_new_at (Heap.get?_push_of_some _ g0)⟩
        · rintro ⟨h', g', d', tk', os'⟩ c' hm hc hS
          have x1 : g' = s.gens := hm.gens
          have x2 : d' = s.drawn := hm.drawn
          have x3 : os' = s.os := hm.os
          subst x1; subst x2; subst x3
          show wpAny _ _ _ _ _ _
          refine wpAny_pure ?_
          show wpAny _ _ (ret Value.none) _ _ _
          refine wpAny_pure ⟨rfl, h', tk', c', rfl, hS, by rw [← hsz]; exact hc, fun b o e => ?_⟩
          have hb2 : b < s.heap.objs.size := Heap.lt_size e
          refine hm.heap b o (fun z => ?_) (Heap.get?_push_of_some _ (Heap.get?_push_of_some _ e))
          rcases List.mem_cons.mp z with z | z
          · exact absurd z (Nat.ne_of_lt hb2)
          · exact absurd (List.mem_singleton.mp z) (by rw [z1]; exact Nat.ne_of_lt (Nat.lt_succ_of_lt hb2))
      · cases r with
        | error e => exact hr
        | ok fl =>
          cases fl with
          | ret r =>
            obtain ⟨rfl, h', tk, c', rfl, y1, y2, y3⟩ := hr
            repeat (any_goals (first | assumption | wp_step))
            exact k _ _ _ y1 y2 y3
          | _ => exact hr.elim
    | _ => exact hr.elim
end
section
variable {X : L2.Cx}
def tSortSet (K : PySem.W.Frag) (ta : TE) : TE := fun σ H Q => ta σ H fun x H1 => ∃ (l : Addr) (ns : List Int), x = .ref l ∧ SqL K H1 l (ns.map V.int) ∧ ns.length < 64 ∧ ∀ (p : Addr) (out : List Int), out.Pairwise (· < ·) → (∀ k, k ∈ out ↔ k ∈ ns) → H1 p = none → Q (.ref p) (upd H1 p (.lst (out.map V.int)))
theorem pe_sortSet {a : Expr} {ta : TE} {p p2 q pos : Pos} (hc : X.calm = true) (hg : Gl X "sorted") (hm : X.mg "sorted" = none) (hg2 : Gl X "set") (hm2 : X.mg "set" = none) (ha : PE X a ta)
    (na : starEach [a] X.env = (false, eval a X.env) :: starEach [] X.env := by rfl) : PE X (.Call (.Name "sorted" p) [.Call (.Name "set" p2) [a] [] q] [] pos) (tSortSet X.K ta) := by
  refine ⟨fun pins s σ H Q I h => ?_⟩
  refine Call_ (ld_blt I hg hm (show bootBuiltins "sorted" = some (.builtin "sorted") by decide +kernel) ?_)
  refine PyProof.Rows.callWith_builtin1 (PyProof.Rows.args_cons ?_ rfl) rfl rfl
  refine Call_ (ld_blt I hg2 hm2 PyProof.Rows.boot_set ?_)
  refine PyProof.Rows.callWith_type1 (PyProof.Rows.args_cons (thn (ha.run pins s σ H _ I h) fun v s1 ⟨x, H1, I1, r1, q1⟩ => PyProof.Rows.args_nil ?_) na) na rfl
  obtain ⟨l, ns, rfl, hq, hl, q1⟩ := q1
  cases r1
  obtain ⟨its, r, pl, hz⟩ := I1.list hq
  have hlen : its.toArray.size = ns.length := by rw [List.size_toArray, ← r.length, List.length_map]
  refine set_of_list (I1.ok.hd hc) pl.isList (ns := ns) (by simpa using RZ.intsAre_vals r) (by unfold scanBound; omega) fun h' tk c R1 hcn hk => ?_
  refine PyProof.Rows.args_nil ?_
  refine sorted_set (s := { s1 with heap := h', toks := tk }) R1 (I1.ok.hd hc) (by omega) fun s' pp out cc os k1 g1 o1 hz1 hp hI hlt hmem hn => ?_
  have kall : ∀ b u, s1.heap.get? b = some u → s'.heap.get? b = some u := fun b u e => k1 b u (hk b u e)
  have hle : s1.heap.objs.size ≤ pp := Nat.le_trans (Nat.le_of_lt R1.lt) hz1
  have hlen2 : (os.map V.int).length ≤ sizeLine := by rw [List.length_map, hn, sizeLine_eq]; omega
  have hn0 : H1 pp = none := I1.hok.fresh hle
  have J : Inv X pins σ (upd H1 pp (.lst (os.map V.int))) s' := I1.call' (ch := []) o1 (Un.laid kall hle hn0) (I1.hok.laid kall hle ⟨hlen2, out.toList, cc, vals_of_ints hI, hp⟩) (by rw [g1]; exact I1.bare) (fun _ z => nomatch z)
  exact ⟨.ref pp, _, J, rfl, q1 pp os hlt (fun k => by rw [hmem k]; exact decide_eq_true_iff) hn0⟩
def dSortSet (wa : WE) : WE := fun s Ks => wa s fun s1 x => ∃ ns : List Int, vw s1 x = some (.list (ns.map .int)) ∧ ns.length < 64 ∧ ∀ out : List Int, out.Pairwise (· < ·) → (∀ k, k ∈ out ↔ k ∈ ns) → Ks s1 (.da (.list (out.map .int)))
theorem de_sortSet {a : Expr} {wa : WE} {p p2 q pos : Pos} (hc : X.calm = true) (hg : Gl X "sorted") (hm : X.mg "sorted" = none) (hg2 : Gl X "set") (hm2 : X.mg "set" = none) (ha : DE X a wa)
    (na : starEach [a] X.env = (false, eval a X.env) :: starEach [] X.env := by rfl) : DE X (.Call (.Name "sorted" p) [.Call (.Name "set" p2) [a] [] q] [] pos) (dSortSet wa) := by
  obtain ⟨ta, pa, qa⟩ := ha.ex
  refine ⟨_, pe_sortSet hc hg hm hg2 hm2 pa (na := na), fun b A own H σ s Ks Q R h k => ?_⟩
  refine qa _ _ _ _ _ _ _ _ R h fun A1 o1 H1 v1 s1 x1 R1 U1 E1 h1 => ?_
  obtain ⟨ns, hd, hl, h1⟩ := h1
  obtain ⟨l, us, rfl, l1, r1⟩ := vw_lst R1 E1 hd
  obtain rfl := RpL.ofInts r1
  refine ⟨l, ns, rfl, l1, hl, fun pp out ho hm3 hq => ?_⟩
  refine new_lst R1 (k.up U1) ?_ hq (h1 out ho hm3)
  exact RpL.ints
end
end DL
namespace DL
open PySem L2 PySem.Spec PyProof.Rows
/-! ### str(..) of data -/
section
variable {X : L2.Cx} {a : Expr} {wa : WE}
/-- str(d) -/
def strD : D → Str
  | .str x => x
  | d => d.shown
def rStrD (K : PySem.W.Frag) : List V → Hp → VK → Prop := fun vs H Q => ∃ (v : V) (d : D), vs = [v] ∧ Dp K H v d ∧ d.showable = true ∧ d.hasDict = false ∧ d.depth ≤ 40 ∧ d.shown.length ≤ sizeLine ∧ Q (.str (strD d)) H
theorem cr_strD (hu : X.A.units + 64 < cLine) (hg : X.A.guards = some []) : CallR X (.type "str") (rStrD X.K) := by
  intro pins s σ H vs us Q I r h
  obtain ⟨v, d, rfl, hd, hs, hn, hdp, hsz, q⟩ := h
  by_cases hr : ∃ l, v = .ref l
  · obtain ⟨l, rfl⟩ := hr
    have ed : strD d = d.shown := by cases hd <;> rfl
    rw [Vals.ref1 r]
    obtain ⟨as, rd⟩ := Dp.reads I d (.ref l) (.ref l) hd rfl
    exact str_of_reads (h₀ := s.heap) rd hs (fun z => by rw [hn] at z; cases z) hg (by omega) (fun _ _ e => e) (fun h' u tk hk => ⟨.str d.shown, H, I.kept (t' := tk) hk, ⟨u, rfl⟩, by rw [← ed]; exact q⟩) hsz
  · cases hd with
    | lst q1 q2 => exact absurd ⟨_, rfl⟩ hr
    | tup q1 q2 => exact absurd ⟨_, rfl⟩ hr
    | non =>
      obtain ⟨u, rfl, r1⟩ := vals1 r
      cases r1
      exact PySem.P.str_of_none ⟨.str _, H, I.tok _, ⟨_, rfl⟩, q⟩
    | bl b =>
      obtain ⟨u, rfl, r1⟩ := vals1 r
      cases r1
      exact PySem.P.str_of_bool ⟨.str _, H, I.tok _, ⟨_, rfl⟩, q⟩
    | int i =>
      obtain ⟨u, rfl, t, rfl⟩ := vals1 r
      exact PySem.P.str_of_int (by simpa [PyData.showable] using hs) ⟨.str _, H, I.tok _, ⟨_, rfl⟩, q⟩
    | str x =>
      obtain ⟨u, rfl, t, rfl⟩ := vals1 r
      exact PySem.P.str_of_str ⟨.str x, H, I, ⟨t, rfl⟩, q⟩
def cStrD : S → List En → (S → En → Prop) → Prop := fun s xs Ks => a1 xs fun x => onO (vw s x) fun d => fitD [d] ∧ d.showable = true ∧ d.hasDict = false ∧ d.shown.length ≤ sizeLine ∧ d.depth ≤ 40 ∧ Ks s (.da (.str (strD d)))
theorem cd_strD {K : PySem.W.Frag} : CallD K (rStrD K) cStrD := by
  intro b A own H σ s vs xs Ks Q R E h k
  obtain ⟨v, x, rfl, e1, h⟩ := a1_inv E h
  obtain ⟨d, hd, hf, hs, hn, hz, hdp, h⟩ := onO_inv h
  have dp := vw_dp R e1 hd (by have := hf.1; rw [PyData.canLayAll0, Bool.and_eq_true] at this; exact this.1)
  exact ⟨_, _, rfl, dp, hs, hn, hdp, hz, k.da R Up.refl (.str _) h⟩
theorem de_strD {k : Nat} {p pos : Pos} (hr : RoomG k X.A) (hg : Gl X "str") (hm : X.mg "str" = none) (ha : DE X a wa) (he : starEach (a :: []) X.env = (false, eval a X.env) :: starEach [] X.env := by rfl) : DE X (.Call (.Name "str" p) [a] [] pos) (dCall cStrD (aCons wa aNil)) :=
  de_callTy (cr_strD (hu64 hr) hr.g) cd_strD hg hm (by decide +kernel) (da_cons ha da_nil he) (he := he)
end
/-! ### a slice of a list or of a tuple -/
section
variable {X : L2.Cx} {e : Expr} {we : WE} {pos : Pos}
def rdSlA : S → En → Option Int → Option Int → (S → En → Prop) → Prop := fun s x l u Ks => match x with | .da (.list ds) => Ks s (.da (.list (cutD ds l u))) | .da (.tuple ds) => Ks s (.da (.tuple (cutD ds l u))) | _ => False
theorem de_slA {lo hi : Option Expr} {wl wh : WO} {p2 : Pos} (he : DE X e we) (hl : DO X lo wl) (hh : DO X hi wh) : DE X (.Subscript e (.Slice lo hi none p2) pos) (dSl rdSlA we wl wh) :=
  de_slice (SlR.or sl_list sl_tupA) (fun b A own H σ s v x l u Ks Q R E h k => by
    unfold rdSlA at h
    split at h
    · rename_i ds
      obtain ⟨a, vs, rfl, q, r⟩ := vw_lst R E rfl
      exact .inl ⟨a, vs, rfl, q, fun p hp => new_lst R k (r.cut l u) hp h⟩
    · rename_i ds
      obtain ⟨a, vs, rfl, q, r⟩ := vw_tup R E rfl
      refine .inr ⟨a, vs, rfl, q, fun z => ?_, fun _ p hp => new_tup R k (r.cut l u) hp h⟩
      rw [r.length] at z
      rw [cutD_all _ z.1 z.2] at h
      exact k.da R Up.refl E h
    · exact h.elim) he hl hh
end
/-- all signs are signs -/
def TxOk (x : Str) : Prop := ∀ c ∈ x.cps.toList, c < 0x110000
theorem chr_lt (c : Char) : c.toNat < 0x110000 := by
  have h := c.valid
  show c.val.toNat < _
  rcases h with h | h
  · exact Nat.lt_trans h (by decide)
  · exact h.2
theorem TxOk.of (s : String) : TxOk (Str.ofString s) := fun c hc => by
  have hc : c ∈ (Str.ofString s).cps.toList := hc
  have e : (Str.ofString s).cps.toList = s.toList.map Char.toNat := by rw [Str.ofString_eq_toList]
  rw [e] at hc
  obtain ⟨a, _, rfl⟩ := List.mem_map.mp hc
  exact chr_lt a
theorem TxOk.app {x y : Str} (hx : TxOk x) (hy : TxOk y) : TxOk (x ++ y) := fun c hc => by
  have e : (x ++ y).cps = x.cps ++ y.cps := rfl
  rw [e, Array.toList_append] at hc
  rcases List.mem_append.mp hc with h | h
  · exact hx c h
  · exact hy c h
theorem TxOk.join {ts : List Str} (h : ∀ t ∈ ts, TxOk t) : TxOk (Str.join ", " ts) := fun c hc => by
  rcases (PyProof.Rows.mem_join ", " c ts).mp hc with ⟨t, ht, hm⟩ | ⟨_, hm⟩
  · exact h t ht c hm
  · exact TxOk.of ", " c hm
theorem reprChar_ok {q c : Nat} (hc : c < 0x110000) : ∀ e ∈ Builtin.Str.reprChar q c, e < 0x110000 := by
  intro e he
  unfold Builtin.Str.reprChar at he
  have hx : ∀ w, e ∈ List.replicate w 48 ++ (Nat.toDigits 16 c).map Char.toNat → e < 0x110000 := fun w h => by
    rcases List.mem_append.mp h with h | h
    · rw [(List.mem_replicate.mp h).2]; decide
    · obtain ⟨a, _, rfl⟩ := List.mem_map.mp h
      exact chr_lt a
  have h2 : ∀ (a b : Nat), a < 0x110000 → b < 0x110000 → e ∈ [a, b] → e < 0x110000 := fun a b ha hb h => by
    rcases List.mem_cons.mp h with rfl | h
    · exact ha
    · rw [List.mem_singleton.mp h]; exact hb
  simp only at he
  split at he
  · exact h2 _ _ (by decide) hc he
  split at he
  · exact h2 _ _ (by decide) (by decide) he
  split at he
  · exact h2 _ _ (by decide) (by decide) he
  split at he
  · exact h2 _ _ (by decide) (by decide) he
  split at he
  · rw [List.mem_singleton.mp he]; exact hc
  split at he
  · rcases List.mem_append.mp he with h | h
    · exact h2 _ _ (by decide) (by decide) h
    · exact hx _ h
  split at he
  · rcases List.mem_append.mp he with h | h
    · exact h2 _ _ (by decide) (by decide) h
    · exact hx _ h
  · rcases List.mem_append.mp he with h | h
    · exact h2 _ _ (by decide) (by decide) h
    · exact hx _ h
theorem foldl_ok {q : Nat} : ∀ (l : List Nat) (acc : Array Nat), (∀ c ∈ l, c < 0x110000) → (∀ c ∈ acc.toList, c < 0x110000) → ∀ c ∈ (l.foldl (fun out c => out ++ (Builtin.Str.reprChar q c).toArray) acc).toList, c < 0x110000
  | [], _, _, h => h
  | c :: l, acc, hl, h => by
    refine foldl_ok l _ (fun d hd => hl d (List.mem_cons_of_mem _ hd)) fun d hd => ?_
    rw [Array.toList_append] at hd
    rcases List.mem_append.mp hd with hd | hd
    · exact h d hd
    · exact reprChar_ok (hl c (List.mem_cons_self ..)) d hd
theorem TxOk.repr {x : Str} (h : TxOk x) : TxOk (reprText x) := fun c hc => by
  have hq : reprQuote x < 0x110000 := by
    unfold reprQuote
    split <;> decide
  have e : (reprText x).cps = (x.cps.foldl (fun out c => out ++ (Builtin.Str.reprChar (reprQuote x) c).toArray) #[reprQuote x]).push (reprQuote x) := rfl
  rw [e, Array.toList_push, ← Array.foldl_toList] at hc
  rcases List.mem_append.mp hc with hc | hc
  · exact foldl_ok x.cps.toList _ h (fun d hd => by rw [List.mem_singleton.mp hd]; exact hq) c hc
  · rw [List.mem_singleton.mp hc]; exact hq
theorem strOk_iff {x : Str} : PyData.strOk x = true ↔ TxOk x := by
  unfold PyData.strOk TxOk
  rw [Array.all_eq_true_iff_forall_mem]
  constructor
  · intro h c hc
    have := h c (Array.mem_toList_iff.mp hc)
    simpa using this
  · intro h c hc
    exact decide_eq_true (h c (Array.mem_toList_iff.mpr hc))
mutual
theorem shown_ok : ∀ d : D, d.canLay0 = true → TxOk d.shown
  | .none, _ => by simp only [PyData.shown]; exact TxOk.of _
  | .bool b, _ => by cases b <;> simp only [PyData.shown] <;> exact TxOk.of _
  | .int i, _ => by simp only [PyData.shown]; exact TxOk.of _
  | .str x, h => by
    simp only [PyData.shown]
    exact (strOk_iff.mp (by simpa [PyData.canLay0] using h)).repr
  | .list xs, h => by
    rw [PyData.shown_list]
    exact ((TxOk.of _).app (TxOk.join (shownAll_ok xs (by simpa [PyData.canLay0] using h)))).app (TxOk.of _)
  | .tuple xs, h => by
    rw [PyData.shown_tuple]
    exact ((TxOk.of _).app (TxOk.join (shownAll_ok xs (by simpa [PyData.canLay0] using h)))).app (TxOk.of _)
  | .dict _, h => by simp [PyData.canLay0] at h
theorem shownAll_ok : ∀ xs : List D, PyData.canLayAll0 xs = true → ∀ t ∈ PyData.shownAll xs, TxOk t
  | [], _, t, ht => by rw [PyData.shownAll] at ht; cases ht
  | x :: xs, h, t, ht => by
    have h' : x.canLay0 = true ∧ PyData.canLayAll0 xs = true := by simpa [PyData.canLayAll0] using h
    rw [PyData.shownAll] at ht
    rcases List.mem_cons.mp ht with rfl | ht
    · exact shown_ok x h'.1
    · exact shownAll_ok xs h'.2 t ht
end
/-- the text of d has at most n signs -/
structure ShT (n : Nat) (d : D) : Prop where
  s : d.showable = true
  h : d.hasDict = false
  l : d.shown.length ≤ n
theorem ShT.mono {n m : Nat} {d : D} (h : ShT n d) (hm : n ≤ m) : ShT m d := ⟨h.s, h.h, Nat.le_trans h.l hm⟩
theorem ShT.none : ShT 4 .none := ⟨rfl, rfl, by show ((("None" : String) : Str)).length ≤ 4; decide⟩
theorem ShT.bool (b : Bool) : ShT 5 (.bool b) := ⟨rfl, rfl, by cases b <;> decide⟩
theorem ShT.int {k : Nat} {i : Int} (h : i.natAbs < 2 ^ k) (hk : 0 < k) (hk2 : k ≤ 1900) : ShT (k + 1) (.int i) := by
  have hl : i.natAbs.log2 < k := by
    rcases Nat.eq_zero_or_pos i.natAbs with z | z
    · rw [z]; simpa using hk
    · exact (Nat.log2_lt (by omega)).mpr h
  refine ⟨by simp only [PyData.showable]; exact decide_eq_true (by omega), rfl, ?_⟩
  simp only [PyData.shown]
  rw [PySem.ofString_length]
  exact int_text_length_le hk hl
theorem ShT.str {x : Str} (h : ∀ c ∈ x.cps.toList, c < 16 ^ 8) : ShT (10 * x.length + 2) (.str x) := ⟨rfl, rfl, by simp only [PyData.shown]; exact StrLaws.reprText_len x h⟩
theorem piled_le {n : Nat} : ∀ {ds : List D}, (∀ d ∈ ds, ShT n d) → piled (PyData.shownAll ds) ≤ ds.length * (n + 2)
  | [], _ => Nat.zero_le _
  | d :: ds, h => by
    rw [PyData.shownAll, piled_cons, List.length_cons, Nat.succ_mul]
    have := (h d (List.mem_cons_self ..)).l
    have := piled_le (ds := ds) fun x hx => h x (List.mem_cons_of_mem _ hx)
    omega
theorem showAll {n : Nat} : ∀ {ds : List D}, (∀ d ∈ ds, ShT n d) → PyData.showableAll ds = true ∧ PyData.hasDictAll ds = false
  | [], _ => ⟨rfl, rfl⟩
  | d :: ds, h => by
    have a := h d (List.mem_cons_self ..)
    have b := showAll (ds := ds) fun x hx => h x (List.mem_cons_of_mem _ hx)
    rw [PyData.showableAll, PyData.hasDictAll, a.s, a.h, b.1, b.2]
    exact ⟨rfl, rfl⟩
theorem listText_le (ts : List Str) : (listText ts).length ≤ piled ts + 2 := by
  cases ts with
  | nil => decide
  | cons t r =>
    have h := textFrom_length_pos r 1 (("[" : Str) ++ (if (0 : Nat) > 0 then ", " else "" : String) ++ t) (Nat.succ_pos 0)
    have e : ((("[" : Str) ++ (if (0 : Nat) > 0 then ", " else "" : String) ++ t)).length = 1 + t.length := by
      rw [strLen_append, strLen_append]; rfl
    have hX : (listText (t :: r)).length = (textFrom 0 "[" (t :: r)).length + 1 := by
      show (textFrom 0 "[" (t :: r) ++ "]").length = _
      rw [strLen_append]; rfl
    have hY : (textFrom 0 "[" (t :: r)).length = (textFrom 1 (("[" : Str) ++ (if (0 : Nat) > 0 then ", " else "" : String) ++ t) r).length := rfl
    rw [piled_cons]
    omega
theorem tupleText_le (ts : List Str) : (tupleText ts).length ≤ piled ts + 3 := by
  unfold tupleText
  rw [strLen_append, strLen_append]
  have e1 : ((("(" : String) : Str)).length = 1 := rfl
  have e3 : (((if ts.length == 1 then ",)" else ")" : String) : Str)).length ≤ 2 := by split <;> decide
  rw [e1]
  by_cases h : ts = []
  · subst h
    have : (Str.join ", " ([] : List Str)).length = 0 := rfl
    omega
  · have := join_length_add ts h
    omega
theorem ShT.list {n : Nat} {ds : List D} (h : ∀ d ∈ ds, ShT n d) : ShT (ds.length * (n + 2) + 2) (.list ds) := by
  have a := showAll h
  refine ⟨by simp only [PyData.showable]; exact a.1, by simp only [PyData.hasDict]; exact a.2, ?_⟩
  simp only [PyData.shown]
  have := listText_le (PyData.shownAll ds)
  have := piled_le h
  omega
theorem ShT.tuple {n : Nat} {ds : List D} (h : ∀ d ∈ ds, ShT n d) : ShT (ds.length * (n + 2) + 3) (.tuple ds) := by
  have a := showAll h
  refine ⟨by simp only [PyData.showable]; exact a.1, by simp only [PyData.hasDict]; exact a.2, ?_⟩
  simp only [PyData.shown]
  have := tupleText_le (PyData.shownAll ds)
  have := piled_le h
  omega
/-- the same, with room: its depth, its form -/
structure Shw (n p : Nat) (d : D) : Prop where
  t : ShT n d
  p : d.depth ≤ p
  o : okS true d = true
theorem Shw.mono {n m p q : Nat} {d : D} (h : Shw n p d) (hm : n ≤ m) (hp : p ≤ q) : Shw m q d := ⟨h.t.mono hm, Nat.le_trans h.p hp, h.o⟩
theorem Shw.none : Shw 4 0 .none := ⟨ShT.none, by simp [PyData.depth], rfl⟩
theorem Shw.bool (b : Bool) : Shw 5 0 (.bool b) := ⟨ShT.bool b, by simp [PyData.depth], rfl⟩
theorem Shw.int {k : Nat} {i : Int} (h : i.natAbs < 2 ^ k) (hk : 0 < k) (hk2 : k ≤ 1900) : Shw (k + 1) 0 (.int i) := ⟨ShT.int h hk hk2, by simp [PyData.depth], rfl⟩
theorem Shw.str {x : Str} (h : ∀ c ∈ x.cps.toList, c < 16 ^ 8) (ho : PyData.canLay0 (.str x) = true) : Shw (10 * x.length + 2) 0 (.str x) := ⟨ShT.str h, by simp [PyData.depth], ho⟩
theorem Shw.text {x : Str} (h : TxOk x) : Shw (10 * x.length + 2) 0 (.str x) := Shw.str (fun c hc => Nat.lt_trans (h c hc) (by decide)) (by simpa [PyData.canLay0] using strOk_iff.mpr h)
theorem Shw.txt (s : String) : Shw (10 * (Str.ofString s).length + 2) 0 (.str s) := Shw.text (TxOk.of s)
theorem Shw.list {n p : Nat} {ds : List D} (h : ∀ d ∈ ds, Shw n p d) (hl : ds.length ≤ sizeLine) : Shw (ds.length * (n + 2) + 2) (p + 1) (.list ds) := by
  refine ⟨ShT.list fun d hd => (h d hd).t, ?_, ?_⟩
  · simp only [PyData.depth]
    have := depth_of (n := p) fun d hd => (h d hd).p
    omega
  · rw [okS, Bool.and_eq_true]
    exact ⟨okSs_of fun d hd => (h d hd).o, decide_eq_true hl⟩
theorem Shw.tuple {n p : Nat} {ds : List D} (h : ∀ d ∈ ds, Shw n p d) (hl : ds.length ≤ sizeLine) : Shw (ds.length * (n + 2) + 3) (p + 1) (.tuple ds) := by
  refine ⟨ShT.tuple fun d hd => (h d hd).t, ?_, ?_⟩
  · simp only [PyData.depth]
    have := depth_of (n := p) fun d hd => (h d hd).p
    omega
  · rw [okS, Bool.and_eq_true]
    exact ⟨okSs_of fun d hd => (h d hd).o, decide_eq_true hl⟩
theorem Shw.t1 {n p : Nat} {a : D} (ha : Shw n p a) : Shw (n + 5) (p + 1) (.tuple [a]) :=
  (Shw.tuple (ds := [a]) (fun d hd => by rw [List.mem_singleton.mp hd]; exact ha) (by show 1 ≤ sizeLine; decide)).mono (by show 1 * (n + 2) + 3 ≤ _; omega) (Nat.le_refl _)
theorem Shw.t2 {n p : Nat} {a b : D} (ha : Shw n p a) (hb : Shw n p b) : Shw (2 * n + 7) (p + 1) (.tuple [a, b]) :=
  (Shw.tuple (ds := [a, b]) (fun d hd => by rcases List.mem_cons.mp hd with rfl | hd; exact ha; rw [List.mem_singleton.mp hd]; exact hb) (by show 2 ≤ sizeLine; decide)).mono (by show 2 * (n + 2) + 3 ≤ _; omega) (Nat.le_refl _)
theorem Shw.t3 {n p : Nat} {a b c : D} (ha : Shw n p a) (hb : Shw n p b) (hc : Shw n p c) : Shw (3 * n + 9) (p + 1) (.tuple [a, b, c]) :=
  (Shw.tuple (ds := [a, b, c]) (fun d hd => by
    rcases List.mem_cons.mp hd with rfl | hd
    · exact ha
    · rcases List.mem_cons.mp hd with rfl | hd
      · exact hb
      · rw [List.mem_singleton.mp hd]; exact hc) (by show 3 ≤ sizeLine; decide)).mono (by show 3 * (n + 2) + 3 ≤ _; omega) (Nat.le_refl _)
theorem Shw.fit {n p : Nat} {d : D} (h : Shw n p d) (hp : p ≤ 60) : fitD [d] := ⟨by rw [PyData.canLayAll0, okS_lay h.o]; rfl, by simp only [PyData.depthAll]; have := h.p; omega⟩
theorem Shw.lay {n p : Nat} {d : D} (h : Shw n p d) : d.canLay0 = true := okS_lay h.o
theorem Shw.txo {n p : Nat} {x : Str} (h : Shw n p (.str x)) : TxOk x := strOk_iff.mp (by simpa [PyData.canLay0] using h.lay)
theorem Shw.shn {n p : Nat} {d : D} (h : Shw n p d) : TxOk (strD d) := by
  cases d with
  | str x => exact h.txo
  | none => exact shown_ok _ h.lay
  | bool _ => exact shown_ok _ h.lay
  | int _ => exact shown_ok _ h.lay
  | list _ => exact shown_ok _ h.lay
  | tuple _ => exact shown_ok _ h.lay
  | dict _ => exact shown_ok _ h.lay
theorem reprText_le (x : Str) : x.length ≤ (reprText x).length := by
  have h : ∀ (q : Nat) (l : List Nat) (acc : Array Nat), acc.size + l.length ≤ (l.foldl (fun out c => out ++ (Builtin.Str.reprChar q c).toArray) acc).size := by
    intro q l
    induction l with
    | nil => intro acc; exact Nat.le_refl _
    | cons c r ih =>
      intro acc
      have h1 := ih (acc ++ (Builtin.Str.reprChar q c).toArray)
      rw [Array.size_append] at h1
      have h2 : 1 ≤ (Builtin.Str.reprChar q c).toArray.size := by
        show 1 ≤ (Builtin.Str.reprChar q c).length
        unfold Builtin.Str.reprChar
        simp only
        repeat' split
        all_goals simp
      rw [List.length_cons, List.foldl_cons]
      omega
  have e : (reprText x).cps = (x.cps.foldl (fun out c => out ++ (Builtin.Str.reprChar (reprQuote x) c).toArray) #[reprQuote x]).push (reprQuote x) := rfl
  show x.cps.size ≤ (reprText x).cps.size
  rw [e, Array.size_push, ← Array.foldl_toList]
  have := h (reprQuote x) x.cps.toList #[reprQuote x]
  have e2 : x.cps.toList.length = x.cps.size := Array.length_toList
  omega
/-- str(d) as data -/
theorem Shw.strd {n p : Nat} {d : D} (h : Shw n p d) : Shw (10 * n + 2) 0 (.str (strD d)) := by
  refine (Shw.text h.shn).mono ?_ (Nat.le_refl _)
  have hl := h.t.l
  have : (strD d).length ≤ d.shown.length := by
    cases d with
    | str x => exact reprText_le x
    | none => exact Nat.le_refl _
    | bool _ => exact Nat.le_refl _
    | int _ => exact Nat.le_refl _
    | list _ => exact Nat.le_refl _
    | tuple _ => exact Nat.le_refl _
    | dict _ => exact Nat.le_refl _
  omega
theorem Shw.all {n p : Nat} {ds : List D} {x : D} (h : Shw n p x) (e : seqD x = some ds) : ∀ d ∈ ds, Shw n p d := by
  have key : ∀ (ts : List Str) (t : Str), t ∈ ts → t.length + 2 ≤ piled ts := by
    intro ts
    induction ts with
    | nil => intro t ht; cases ht
    | cons a r ih =>
      intro t ht
      rw [piled_cons]
      rcases List.mem_cons.mp ht with rfl | ht
      · omega
      · have := ih t ht; omega
  have mem : ∀ (l : List D) (d : D), d ∈ l → d.shown ∈ PyData.shownAll l := by
    intro l
    induction l with
    | nil => intro d hd; cases hd
    | cons a r ih =>
      intro d hd
      rw [PyData.shownAll]
      rcases List.mem_cons.mp hd with rfl | hd
      · exact List.mem_cons_self ..
      · exact List.mem_cons_of_mem _ (ih d hd)
  have sh : ∀ (l : List D) (d : D), d ∈ l → PyData.showableAll l = true → d.showable = true := by
    intro l
    induction l with
    | nil => intro d hd; cases hd
    | cons a r ih =>
      intro d hd h
      rw [PyData.showableAll, Bool.and_eq_true] at h
      rcases List.mem_cons.mp hd with rfl | hd
      · exact h.1
      · exact ih d hd h.2
  have hd' : ∀ (l : List D) (d : D), d ∈ l → PyData.hasDictAll l = false → d.hasDict = false := by
    intro l
    induction l with
    | nil => intro d hd; cases hd
    | cons a r ih =>
      intro d hd h
      rw [PyData.hasDictAll, Bool.or_eq_false_iff] at h
      rcases List.mem_cons.mp hd with rfl | hd
      · exact h.1
      · exact ih d hd h.2
  have dp : ∀ (l : List D) (d : D), d ∈ l → d.depth ≤ PyData.depthAll l := by
    intro l d hd
    obtain ⟨i, hi⟩ := List.getElem?_of_mem hd
    exact depth_get hi
  have ok : ∀ (l : List D) (d : D), d ∈ l → okSs true l = true → okS true d = true := by
    intro l d hd h
    obtain ⟨i, hi⟩ := List.getElem?_of_mem hd
    exact okSs_get h hi
  intro d hd
  have hs := h.t.s
  have hh := h.t.h
  have hl := h.t.l
  have hp := h.p
  have ho := h.o
  cases x with
  | list l =>
    obtain rfl : l = ds := Option.some.inj e
    simp only [PyData.showable] at hs
    simp only [PyData.hasDict] at hh
    simp only [PyData.shown] at hl
    simp only [PyData.depth] at hp
    rw [okS, Bool.and_eq_true] at ho
    have h1 := key _ _ (mem l d hd)
    have h2 := piled_le_listText (PyData.shownAll l)
    have h3 := dp l d hd
    exact ⟨⟨sh l d hd hs, hd' l d hd hh, by omega⟩, by omega, ok l d hd ho.1⟩
  | tuple l =>
    obtain rfl : l = ds := Option.some.inj e
    simp only [PyData.showable] at hs
    simp only [PyData.hasDict] at hh
    simp only [PyData.shown] at hl
    simp only [PyData.depth] at hp
    rw [okS, Bool.and_eq_true] at ho
    have h1 := key _ _ (mem l d hd)
    have h2 := piled_le_tupleText (PyData.shownAll l)
    have h3 := dp l d hd
    exact ⟨⟨sh l d hd hs, hd' l d hd hh, by omega⟩, by omega, ok l d hd ho.1⟩
  | none => cases e
  | bool _ => cases e
  | int _ => cases e
  | str _ => cases e
  | dict _ => cases e
theorem Shw.len {n p : Nat} {ds : List D} {x : D} (h : Shw n p x) (e : seqD x = some ds) : 2 * ds.length ≤ n ∧ ds.length ≤ sizeLine := by
  have key : ∀ (l : List D), 2 * l.length ≤ piled (PyData.shownAll l) := by
    intro l
    induction l with
    | nil => exact Nat.zero_le _
    | cons a r ih => rw [PyData.shownAll, piled_cons, List.length_cons]; omega
  have hl := h.t.l
  have ho := h.o
  cases x with
  | list l =>
    obtain rfl : l = ds := Option.some.inj e
    simp only [PyData.shown] at hl
    rw [okS, Bool.and_eq_true] at ho
    have h2 := piled_le_listText (PyData.shownAll l)
    have h3 := key l
    exact ⟨by omega, of_decide_eq_true ho.2⟩
  | tuple l =>
    obtain rfl : l = ds := Option.some.inj e
    simp only [PyData.shown] at hl
    rw [okS, Bool.and_eq_true] at ho
    have h2 := piled_le_tupleText (PyData.shownAll l)
    have h3 := key l
    exact ⟨by omega, of_decide_eq_true ho.2⟩
  | none => cases e
  | bool _ => cases e
  | int _ => cases e
  | str _ => cases e
  | dict _ => cases e
theorem str_go {n p : Nat} {d : D} {C : Prop} (h : Shw n p d) (hn : n ≤ 10 ^ 7) (hp : p ≤ 40) (c : C) : fitD [d] ∧ d.showable = true ∧ d.hasDict = false ∧ d.shown.length ≤ sizeLine ∧ d.depth ≤ 40 ∧ C :=
  ⟨h.fit (by omega), h.t.s, h.t.h, by have := h.t.l; rw [sizeLine_eq]; omega, Nat.le_trans h.p hp, c⟩
theorem Ok.noneL {P : Program} {w : World} {K : PySem.W.Frag} {mg : Str → Option Value} {base : Heap} {x : Str} {st : Stmt} {ps : List Str} {n L : Nat} {sp : SpD} (hF : ∃ f fd, At K mg x st ps f fd) (h : ∀ xs ms Ks, ¬ sp xs ms Ks) : Ok P w K mg base L x st ps n sp := by
  obtain ⟨f, fd, a⟩ := hF
  refine ⟨f, fd, a, ⟨fun vs H Q E q => ?_, fun A outer s H args us vs Q E hr _ he hb hv hs => ?_⟩⟩
  · obtain ⟨_, _, _, _, _, _, _, _, q, _⟩ := q
    exact (h _ _ _ q).elim
  · obtain ⟨_, _, _, _, _, _, _, _, q, _⟩ := hs
    exact (h _ _ _ q).elim
/-- a cut at which the state is known -/
theorem cut_eq {kl : List Nat} {m : Nat} {w u : WS} {s S0 : S} {D : Dn} (hw : w s { D with nx := fun s1 => s1.np ≤ m ∧ clS kl m s1 = S0 }) (hu : u S0 D) : sCut kl m w u s D := ⟨fun s => s = S0, hw, fun _ e => by rw [e]; exact hu⟩
/-! ### truths among numbers: x + i, x - i, -x -/
theorem gives_add_bi (b : Bool) (i : Int) (t : Tok) : Gives (Builtin.«int.__add__» ⟨[.bool b, .int i t], []⟩) (.int ((if b = true then (1 : Int) else 0) + i)) :=
  .of_wp fun M A E s Q h => by obtain ⟨hp, g, d, tk, os⟩ := s; wp_walk; exact ⟨_, rfl, h⟩
theorem gives_sub_bi (b : Bool) (i : Int) (t : Tok) : Gives (Builtin.«int.__sub__» ⟨[.bool b, .int i t], []⟩) (.int ((if b = true then (1 : Int) else 0) - i)) :=
  .of_wp fun M A E s Q h => by obtain ⟨hp, g, d, tk, os⟩ := s; wp_walk; exact ⟨_, rfl, h⟩
theorem gives_neg_b (b : Bool) : Gives (Builtin.«int.__neg__» ⟨[.bool b], []⟩) (.int (-(if b = true then (1 : Int) else 0))) :=
  .of_wp fun M A E s Q h => by obtain ⟨hp, g, d, tk, os⟩ := s; wp_walk; exact ⟨_, rfl, h⟩
section
variable {prog : Program} {w : World} {A : Around} {E : Value → Shared → Prop} {s : Shared} {b : Bool} {i : Int} {t : Tok} {Q : Value → Shared → Prop}
theorem add_bi (h : Q (.int ((if b = true then (1 : Int) else 0) + i) s.toks) { s with toks := s.toks + 1 }) : wpAny (model prog w) A (binaryOp .Add (.bool b) (.int i t)) Q E s :=
  binaryOp_left_gives (op := .Add) (T := "bool") (U := "int") (by decide) rfl (fun s' => typeIs_int s' i t) F.fills_bool_add F.fills_int_add F.sub_int_bool F.slot_bool_add F.slot_int_radd F.entry_int_add (F.args_int_add_2 _ _) (gives_add_bi b i t) trivial h
theorem sub_bi (h : Q (.int ((if b = true then (1 : Int) else 0) - i) s.toks) { s with toks := s.toks + 1 }) : wpAny (model prog w) A (binaryOp .Sub (.bool b) (.int i t)) Q E s :=
  binaryOp_left_gives (op := .Sub) (T := "bool") (U := "int") (by decide) rfl (fun s' => typeIs_int s' i t) F.fills_bool_sub F.fills_int_sub F.sub_int_bool F.slot_bool_sub F.slot_int_rsub F.entry_int_sub (F.args_int_sub_2 _ _) (gives_sub_bi b i t) trivial h
theorem neg_b (h : Q (.int (-(if b = true then (1 : Int) else 0)) s.toks) { s with toks := s.toks + 1 }) : wpAny (model prog w) A (unaryOp .USub (.bool b)) Q E s :=
  unaryOp_gives (op := .USub) (T := "bool") rfl rfl F.slot_bool_neg F.entry_int_neg (F.args_int_neg_1 _) (gives_neg_b b) h
end
section
variable {X : L2.Cx} {a c : Expr} {wa wc : WE} {pos : Pos}
def nbD : D → Option Int
  | .int i => some i
  | .bool b => some (if b = true then 1 else 0)
  | _ => none
def rNb (f : Int → Int → Int) : R2 := fun x y H Q => ∃ j, y = .int j ∧ ((∃ i, x = .int i ∧ Q (.int (f i j)) H) ∨ ∃ b : Bool, x = .bl b ∧ Q (.int (f (if b = true then 1 else 0) j)) H)
theorem op_addNb : OpR X (binaryOp .Add) (rNb fun i j => i + j) := by
  intro pins s σ H x y v u Q I rx ry h
  obtain ⟨j, rfl, ⟨i, rfl, q⟩ | ⟨b, rfl, q⟩⟩ := h
  · exact op_add pins s σ H _ _ v u Q I rx ry ⟨i, j, rfl, rfl, q⟩
  · obtain ⟨t, rfl⟩ := ry
    cases rx
    exact add_bi ⟨.int _, H, I.tok _, ⟨_, rfl⟩, q⟩
theorem op_subNb : OpR X (binaryOp .Sub) (rNb fun i j => i - j) := by
  intro pins s σ H x y v u Q I rx ry h
  obtain ⟨j, rfl, ⟨i, rfl, q⟩ | ⟨b, rfl, q⟩⟩ := h
  · exact op_sub pins s σ H _ _ v u Q I rx ry ⟨i, j, rfl, rfl, q⟩
  · obtain ⟨t, rfl⟩ := ry
    cases rx
    exact sub_bi ⟨.int _, H, I.tok _, ⟨_, rfl⟩, q⟩
theorem un_negNb : UnR X (unaryOp .USub) (fun x H Q => (∃ i, x = .int i ∧ Q (.int (-i)) H) ∨ ∃ b : Bool, x = .bl b ∧ Q (.int (-(if b = true then 1 else 0))) H) := by
  intro pins s σ H x v Q I rx h
  rcases h with ⟨i, rfl, q⟩ | ⟨b, rfl, q⟩
  · exact un_neg pins s σ H _ v Q I rx ⟨i, rfl, q⟩
  · cases rx
    exact neg_b ⟨.int _, H, I.tok _, ⟨_, rfl⟩, q⟩
def rdNb (f : Int → Int → Int) : S → En → En → (S → En → Prop) → Prop := fun s x y Ks => daI x fun d => i1 y fun j => onO (nbD d) fun i => Ks s (.da (.int (f i j)))
theorem opd_nb {K : PySem.W.Frag} {f : Int → Int → Int} : OpD K (rNb f) (rdNb f) := by
  intro b A own H σ s vx vy x y Ks Q R ex ey h k
  obtain ⟨d, rfl, h⟩ := daI_inv h
  obtain ⟨j, rfl, h⟩ := i1_inv h
  obtain ⟨i, hi, h⟩ := onO_inv h
  cases ey
  cases d with
  | int z =>
    cases ex
    obtain rfl : z = i := Option.some.inj hi
    exact ⟨j, rfl, .inl ⟨z, rfl, k.da R Up.refl (.int _) h⟩⟩
  | bool z =>
    cases ex
    obtain rfl : (if z = true then (1 : Int) else 0) = i := Option.some.inj hi
    exact ⟨j, rfl, .inr ⟨z, rfl, k.da R Up.refl (.int _) h⟩⟩
  | none => cases hi
  | str _ => cases hi
  | list _ => cases hi
  | tuple _ => cases hi
  | dict _ => cases hi
theorem de_addNb (ha : DE X a wa) (hb : DE X c wc) : DE X (.BinOp a .Add c pos) (d2 (rdNb fun i j => i + j) wa wc) := de_op op_addNb opd_nb ha hb
theorem de_subNb (ha : DE X a wa) (hb : DE X c wc) : DE X (.BinOp a .Sub c pos) (d2 (rdNb fun i j => i - j) wa wc) := de_op op_subNb opd_nb ha hb
def dNegNb (wa : WE) : WE := fun s Ks => wa s fun s1 x => daI x fun d => onO (nbD d) fun i => Ks s1 (.da (.int (-i)))
theorem de_negNb (ha : DE X a wa) : DE X (.UnaryOp .USub a pos) (dNegNb wa) := by
  obtain ⟨ta, pa, qa⟩ := ha.ex
  refine ⟨_, pe_un un_negNb pa, fun b A own H σ s Ks Q R h k => ?_⟩
  refine qa _ _ _ _ _ _ _ _ R h fun A1 o1 H1 v1 s1 x1 R1 U1 E1 h1 => ?_
  obtain ⟨d, rfl, h1⟩ := daI_inv h1
  obtain ⟨i, hi, h2⟩ := onO_inv h1
  cases d with
  | int z =>
    cases E1
    obtain rfl : z = i := Option.some.inj hi
    exact .inl ⟨z, rfl, k.da R1 U1 (.int _) h2⟩
  | bool z =>
    cases E1
    obtain rfl : (if z = true then (1 : Int) else 0) = i := Option.some.inj hi
    exact .inr ⟨z, rfl, k.da R1 U1 (.int _) h2⟩
  | none => cases hi
  | str _ => cases hi
  | list _ => cases hi
  | tuple _ => cases hi
  | dict _ => cases hi
end
/-! ### lemmas for walks that tell either -/
mutual
theorem eqv_eq : ∀ (d e : D), okS false d = true → okS false e = true → PyData.eqv d e = true → d = e
  | .none, .none, _, _, _ => rfl
  | .int i, .int j, _, _, h => by
    have : i = j := by simpa [PyData.eqv] using h
    rw [this]
  | .str x, .str y, _, _, h => by
    have : x = y := by simpa [PyData.eqv] using h
    rw [this]
  | .list l, .list m, h1, h2, h => by
    rw [okS, Bool.and_eq_true] at h1 h2
    rw [eqvs_eq l m h1.1 h2.1 (by simpa [PyData.eqv] using h)]
  | .tuple l, .tuple m, h1, h2, h => by
    rw [okS, Bool.and_eq_true] at h1 h2
    rw [eqvs_eq l m h1.1 h2.1 (by simpa [PyData.eqv] using h)]
  | .bool _, _, h, _, _ => by cases h
  | _, .bool _, _, h, _ => by cases h
  | .dict _, _, h, _, _ => by cases h
  | _, .dict _, _, h, _ => by cases h
  | .none, .int _, _, _, h => by simp [PyData.eqv] at h
  | .none, .str _, _, _, h => by simp [PyData.eqv] at h
  | .none, .list _, _, _, h => by simp [PyData.eqv] at h
  | .none, .tuple _, _, _, h => by simp [PyData.eqv] at h
  | .int _, .none, _, _, h => by simp [PyData.eqv] at h
  | .int _, .str _, _, _, h => by simp [PyData.eqv] at h
  | .int _, .list _, _, _, h => by simp [PyData.eqv] at h
  | .int _, .tuple _, _, _, h => by simp [PyData.eqv] at h
  | .str _, .none, _, _, h => by simp [PyData.eqv] at h
  | .str _, .int _, _, _, h => by simp [PyData.eqv] at h
  | .str _, .list _, _, _, h => by simp [PyData.eqv] at h
  | .str _, .tuple _, _, _, h => by simp [PyData.eqv] at h
  | .list _, .none, _, _, h => by simp [PyData.eqv] at h
  | .list _, .int _, _, _, h => by simp [PyData.eqv] at h
  | .list _, .str _, _, _, h => by simp [PyData.eqv] at h
  | .list _, .tuple _, _, _, h => by simp [PyData.eqv] at h
  | .tuple _, .none, _, _, h => by simp [PyData.eqv] at h
  | .tuple _, .int _, _, _, h => by simp [PyData.eqv] at h
  | .tuple _, .str _, _, _, h => by simp [PyData.eqv] at h
  | .tuple _, .list _, _, _, h => by simp [PyData.eqv] at h
theorem eqvs_eq : ∀ (l m : List D), okSs false l = true → okSs false m = true → PyData.eqvAll l m = true → l = m
  | [], [], _, _, _ => rfl
  | [], _ :: _, _, _, h => by simp [PyData.eqvAll] at h
  | _ :: _, [], _, _, h => by simp [PyData.eqvAll] at h
  | d :: l, e :: m, h1, h2, h => by
    rw [okSs, Bool.and_eq_true] at h1 h2
    rw [PyData.eqvAll, Bool.and_eq_true] at h
    rw [eqv_eq d e h1.1 h2.1 h.1, eqvs_eq l m h1.2 h2.2 h.2]
end
theorem eqv_iff {d e : D} (h1 : okS false d = true) (h2 : okS false e = true) : PyData.eqv d e = true ↔ d = e :=
  ⟨eqv_eq d e h1 h2, fun h => by rw [h]; exact SeqAt.eqv_refl _ (okS_lay h2)⟩
theorem snocB {α : Type} {f : α → Bool} {ds : List α} {i : Nat} {e : α} (hi : ds[i]? = some e) {b : Bool} (hb : b = f e) : ((ds.take i).map f).map PyData.bool ++ [PyData.bool b] = ((ds.take (i + 1)).map f).map PyData.bool := by
  rw [List.take_add_one, hi, hb]
  simp
theorem snocN {g : Nat → Bool} {i : Nat} {b : Bool} (hb : b = g i) : ((List.range i).map g).map PyData.bool ++ [PyData.bool b] = ((List.range (i + 1)).map g).map PyData.bool := by
  rw [List.range_succ, hb]
  simp
theorem all_mapB {α : Type} {f : α → Bool} {l : List α} : (l.map f).all id = l.all f := by
  rw [List.all_map]
  rfl
noncomputable def cd (p : Prop) : Bool := @decide p (Classical.propDecidable p)
theorem cd_iff {p : Prop} : cd p = true ↔ p := @decide_eq_true_iff p (Classical.propDecidable p)
theorem cd_not {p : Prop} (h : cd p = false) : ¬ p := fun q => by rw [cd_iff.mpr q] at h; cases h
theorem range_all {g : Nat → Bool} {n : Nat} (h : (List.range n).all g = true) {k : Nat} (hk : k < n) : g k = true := List.all_eq_true.mp h k (List.mem_range.mpr hk)
theorem range_not {g : Nat → Bool} {n : Nat} (h : (List.range n).all g = false) : ∃ k, k < n ∧ g k = false := by
  rw [List.all_eq_false] at h
  obtain ⟨k, hk, e⟩ := h
  exact ⟨k, List.mem_range.mp hk, by simpa using e⟩
theorem lenD_seq {x : D} {ds : List D} {k : Nat → Prop} (h : seqD x = some ds) (q : k ds.length) : lenD x k := by
  cases x with
  | list l => obtain rfl : l = ds := Option.some.inj h; exact q
  | tuple l => obtain rfl : l = ds := Option.some.inj h; exact q
  | none => cases h
  | bool _ => cases h
  | int _ => cases h
  | str _ => cases h
  | dict _ => cases h
end DL
namespace DL
open PySem L2 PySem.Spec PyProof.Rows
/-! ### lists and tuples of things that change -/
def sq (x : En) : Str × En := (Str.empty, x)
section
variable {K : PySem.W.Frag} {b : Bd} {A : Addr → Prop} {own : List (List Addr)} {H : Hp} {σ : L2.St} {s : S} {Ks : S → En → Prop} {Q : VK} {p : Addr}
theorem rke_of : ∀ {vs : List V} {xs : List En}, ERL K A own H vs xs → RKE K A own H (vs.map fun v => (Str.empty, v)) (xs.map sq)
  | [], [], _ => trivial
  | _ :: _, _ :: _, ⟨h, t⟩ => ⟨rfl, h, rke_of t⟩
  | [], _ :: _, h => h.elim
  | _ :: _, [], h => h.elim
theorem RKE.len : ∀ {ws : List (Str × V)} {fs : List (Str × En)}, RKE K A own H ws fs → ws.length = fs.length
  | [], [], _ => rfl
  | _ :: _, _ :: _, ⟨_, _, t⟩ => congrArg (· + 1) (RKE.len t)
  | [], _ :: _, h => h.elim
  | _ :: _, [], h => h.elim
theorem RKE.get : ∀ {ws : List (Str × V)} {fs : List (Str × En)} {i : Nat} {f : Str × En}, RKE K A own H ws fs → fs[i]? = some f → ∃ w, ws[i]? = some w ∧ ER K A own H w.2 f.2
  | [], [], _, _, _, h => by cases h
  | w :: _, _ :: _, 0, _, ⟨_, h, _⟩, e => ⟨w, rfl, by cases e; exact h⟩
  | _ :: _, _ :: _, i + 1, _, ⟨_, _, t⟩, e => RKE.get (i := i) t e
  | [], _ :: _, _, _, h, _ => h.elim
  | _ :: _, [], _, _, h, _ => h.elim
theorem RKE.snoc : ∀ {ws : List (Str × V)} {fs : List (Str × En)} {v : V} {x : En}, RKE K A own H ws fs → ER K A own H v x → RKE K A own H (ws ++ [(Str.empty, v)]) (fs ++ [sq x])
  | [], [], _, _, _, h => ⟨rfl, h, trivial⟩
  | _ :: _, _ :: _, _, _, ⟨h1, h2, t⟩, h => ⟨h1, h2, RKE.snoc t h⟩
  | [], _ :: _, _, _, h, _ => h.elim
  | _ :: _, [], _, _, h, _ => h.elim
theorem snd_map (vs : List V) : (vs.map fun v => ((Str.empty, v) : Str × V)).map (·.2) = vs := by
  rw [List.map_map]
  exact List.map_id _
theorem new_sqT {vs : List V} {xs : List En} (R : Rel K b A own H σ s) (k : PostE K b A own H σ Ks Q) (E : ERL K A own H vs xs) (hp : H p = none) (h : Ks (s.aM (.ins .tup (xs.map sq))) (.mu s.ms.length)) : Q (.ref p) (upd H p (.tup vs)) := by
  obtain ⟨R1, U1, g⟩ := R.newMu (o := .tup vs) hp (.ins .tup (xs.map sq)) fun A' own' u => ⟨p, [], _, rfl, ⟨rfl, by rw [snd_map, upd_same]⟩, (rke_of E).up u⟩
  exact k _ _ _ _ _ (.mu s.ms.length) R1 U1 ⟨p, [], g, rfl⟩ h
theorem new_sqL {vs : List V} {xs : List En} (R : Rel K b A own H σ s) (k : PostE K b A own H σ Ks Q) (E : ERL K A own H vs xs) (hp : H p = none) (h : Ks (s.aM (.ins .lst (xs.map sq))) (.mu s.ms.length)) : Q (.ref p) (upd H p (.lst vs)) := by
  obtain ⟨R1, U1, g⟩ := R.newMu (o := .lst vs) hp (.ins .lst (xs.map sq)) fun A' own' u => ⟨p, [], _, rfl, ⟨rfl, by rw [snd_map, upd_same]⟩, (rke_of E).up u⟩
  exact k _ _ _ _ _ (.mu s.ms.length) R1 U1 ⟨p, [], g, rfl⟩ h
end
section
variable {X : L2.Cx} {a c e : Expr} {es : List Expr} {wa wc we : WE} {wr : WA} {pos : Pos}
def dTupS (wr : WA) : WE := fun s Ks => wr s fun s1 xs => Ks (s1.aM (.ins .tup (xs.map sq))) (.mu s1.ms.length)
def dLstS (wr : WA) : WE := fun s Ks => wr s fun s1 xs => Ks (s1.aM (.ins .lst (xs.map sq))) (.mu s1.ms.length)
theorem de_tupS {n : Nat} {x1} (h : DAn X es n wr) (hn : n ≤ 1000 := by decide) : DE X (.Tuple es x1 pos) (dTupS wr) := by
  obtain ⟨ta, pa, qa⟩ := h.ex
  refine ⟨_, pe_tup pa, fun b A own H σ s Ks Q R h k => ?_⟩
  refine qa _ _ _ _ _ _ _ _ R h fun A1 o1 H1 vs s1 xs R1 U1 E1 h1 => ?_
  obtain ⟨hl, h1⟩ := h1
  refine ⟨?_, fun p hp => new_sqT R1 (k.up U1) E1 hp h1⟩
  rw [E1.len, hl]
  exact Nat.le_trans hn (by decide)
theorem de_lstS {n : Nat} (h : DAn X es n wr) (hn : n ≤ 1000 := by decide) : DE X (.List es pos) (dLstS wr) := by
  obtain ⟨ta, pa, qa⟩ := h.ex
  refine ⟨_, pe_lst pa, fun b A own H σ s Ks Q R h k => ?_⟩
  refine qa _ _ _ _ _ _ _ _ R h fun A1 o1 H1 vs s1 xs R1 U1 E1 h1 => ?_
  obtain ⟨hl, h1⟩ := h1
  refine ⟨?_, fun p hp => new_sqL R1 (k.up U1) E1 hp h1⟩
  rw [E1.len, hl]
  exact Nat.le_trans hn (by decide)
/-- what a thing that changes holds at a place -/
def insAt (s : S) (x : En) (k : List (Str × En) → Prop) : Prop := match x with
  | .mu j => (match gm s.ms j with | .ins .lst fs => k fs | .ins .tup fs => k fs | _ => False)
  | _ => False
theorem insAt_inv {s : S} {x : En} {k : List (Str × En) → Prop} (h : insAt s x k) : ∃ j fs sh, x = .mu j ∧ gm s.ms j = .ins sh fs ∧ (sh = .lst ∨ sh = .tup) ∧ k fs := by
  unfold insAt at h
  split at h
  · rename_i j
    split at h
    · rename_i fs g; exact ⟨j, fs, .lst, rfl, g, .inl rfl, h⟩
    · rename_i fs g; exact ⟨j, fs, .tup, rfl, g, .inr rfl, h⟩
    · exact h.elim
  · exact h.elim
def rdIxS : S → En → En → (S → En → Prop) → Prop := fun s x y Ks => insAt s x fun fs => i1 y fun i => ∃ f, L2.atI fs i = some f ∧ Ks s f.2
theorem opd_ixS {K : PySem.W.Frag} : OpD K (rIx K) rdIxS := by
  intro b A own H σ s vx vy x y Ks Q R ex ey h k
  obtain ⟨j, fs, sh, rfl, g, hsh, h⟩ := insAt_inv h
  obtain ⟨i, rfl, f, hf, h⟩ := i1_inv h
  cases ey
  have m := R.mr j
  rw [g] at m
  obtain ⟨p, r, ws, e1, e2, e3⟩ := m
  obtain ⟨p', r', e4, rfl⟩ := ex
  rw [e1] at e4
  cases e4
  obtain ⟨w, hw, ew⟩ : ∃ w, L2.atI (ws.map (·.2)) i = some w ∧ ER K A own H w f.2 := by
    unfold L2.atI at hf ⊢
    rw [List.length_map, e3.len]
    cases q : ixN fs.length i with
    | none => rw [q] at hf; cases hf
    | some n =>
      rw [q] at hf
      obtain ⟨w, h1, h2⟩ := e3.get hf
      exact ⟨w.2, by show (ws.map (·.2))[n]? = _; rw [List.getElem?_map, h1]; rfl, h2⟩
  have fin : Q w H := k _ _ _ _ _ f.2 R Up.refl ew h
  rcases hsh with rfl | rfl
  · exact .inl ⟨p, _, i, w, rfl, rfl, .inl (.inl e2.2), hw, fin⟩
  · exact .inr (.inl ⟨p, _, i, w, rfl, rfl, .inl (.inl e2.2), hw, fin⟩)
def dIxS : WE → WE → WE := d2 rdIxS
theorem de_ixS (ha : DE X a wa) (hb : DE X c wc) (hs : PlainIx c := by exact fun _ _ => rfl) : DE X (.Subscript a c pos) (dIxS wa wc) := by
  obtain ⟨ta, pa, qa⟩ := ha.ex
  obtain ⟨tb, pb, qb⟩ := hb.ex
  exact ⟨_, pe_ix ix_seq pa pb hs, d2_run opd_ixS qa qb⟩
def isLstS (s : S) (x : En) (k : Nat → List (Str × En) → Prop) : Prop := match x with
  | .mu j => (match gm s.ms j with | .ins .lst fs => k j fs | _ => False)
  | _ => False
theorem isLstS_inv {s : S} {x : En} {k : Nat → List (Str × En) → Prop} (h : isLstS s x k) : ∃ j fs, x = .mu j ∧ gm s.ms j = .ins .lst fs ∧ k j fs := by
  unfold isLstS at h
  split at h
  · rename_i j
    split at h
    · rename_i fs g; exact ⟨j, fs, rfl, g, h⟩
    · exact h.elim
  · exact h.elim
def dAppS (wa wc : WE) : WE := fun s Ks => wa s fun s1 o => isLstS s1 o fun _ _ => wc s1 fun s2 x => isLstS s2 o fun j fs => fs.length < sizeLine ∧ Ks (s2.sM j (.ins .lst (fs ++ [sq x]))) (.da .none)
theorem ins_at {K : PySem.W.Frag} {b : Bd} {A : Addr → Prop} {own : List (List Addr)} {H : Hp} {σ : L2.St} {s : S} (R : Rel K b A own H σ s) {v : V} {j : Nat} {fs : List (Str × En)} (E : ER K A own H v (.mu j)) (g : gm s.ms j = .ins .lst fs) :
    ∃ p ws, v = .ref p ∧ H p = some (.lst (ws.map (·.2))) ∧ RKE K A own H ws fs ∧ ∀ (ws' : List (Str × V)) fs', RKE K A own H ws' fs' → Rel K b A own (upd H p (.lst (ws'.map (·.2)))) σ (s.sM j (.ins .lst fs')) ∧ Up A own H A own (upd H p (.lst (ws'.map (·.2)))) := by
  have m := R.mr j
  rw [g] at m
  obtain ⟨p, r, ws, e1, ⟨rfl, e2⟩, e3⟩ := m
  obtain ⟨p', r, e4, rfl⟩ := E
  rw [e1] at e4
  cases e4
  refine ⟨p, ws, rfl, e2, e3, fun vs' ds' r' => ?_⟩
  refine R.chg j (.ins .lst ds') (fun a o n h => ?_) (fun a h => ?_) (fun u => ?_) (gm_lt (by rw [g]; intro z; cases z))
  · rw [upd_ne]; exact h
    intro z; subst z; exact n (by rw [e1]; simp)
  · rw [e1] at h
    cases List.mem_singleton.mp h
    rw [upd_same]; intro z; cases z
  · rw [e1]; exact ⟨p, [], vs', rfl, ⟨rfl, upd_same⟩, r'.up u⟩
theorem de_appS {apos cpos : Pos} (ho : DE X a wa) (hi : DE X c wc)
    (hbase : attributeBase a "append" X.env (eval a X.env) = eval a X.env := by rfl)
    (hfew : ((backTo cpos (starEach (c :: []) X.env)).all (fun x => !x.1) && (backToKw cpos (keywordEach [] X.env)).all (fun x => x.1.isSome)
      && decide ((c :: []).length + ([] : List Keyword).length + (if ([] : List Keyword).isEmpty then 0 else 1) < 30)) = true := by rfl)
    (hline : (apos.endLine == cpos.line) = true := by rfl) (hs : starEach (c :: []) X.env = (false, eval c X.env) :: starEach [] X.env := by rfl) (hplain : (backTo cpos (starEach [] X.env)).any (·.1) = false := by rfl) :
    DE X (.Call (.Attribute a "append" apos) [c] [] cpos) (dAppS wa wc) := by
  obtain ⟨ta, pa, qa⟩ := ho.ex
  obtain ⟨tr, pr, qr⟩ := (da_cons hi da_nil hs).ex
  refine ⟨_, pe_bm PySem.F.plainAttrs_list PySem.F.slot_list_append PySem.F.type_list_append mt_append pa pr hbase hfew hline hs hplain, fun b A own H σ s Ks Q R h k => ?_⟩
  show ta σ H fun x H1 => tyV X.K "list" x H1 ∧ tr σ H1 fun xs H2 => rAppend x xs H2 Q
  refine qa _ _ _ _ _ _ _ _ R h fun A1 o1 H1 v1 s1 x1 R1 U1 E1 h1 => ?_
  obtain ⟨j, fs, rfl, g, h1⟩ := isLstS_inv h1
  obtain ⟨p, ws, rfl, e2, e3, _⟩ := ins_at R1 E1 g
  refine ⟨.inl ⟨rfl, _, .inl (.inl e2)⟩, ?_⟩
  have h1' : aCons wc aNil s1 (fun s2 xs => a1 xs fun x => isLstS s2 (.mu j) fun j fs => fs.length < sizeLine ∧ Ks (s2.sM j (.ins .lst (fs ++ [sq x]))) (.da .none)) := h1
  refine qr _ _ _ _ _ _ _ _ R1 h1' fun A2 o2 H2 vs s2 xs R2 U2 E2 h2 => ?_
  obtain ⟨v, x, rfl, E3, h2⟩ := a1_inv E2 h2
  obtain ⟨j', fs', ej, g', hl, h2⟩ := isLstS_inv h2
  cases ej
  obtain ⟨p', ws', ep, f2, f3, up⟩ := ins_at R2 (E1.up U2) g'
  cases ep
  obtain ⟨R3, U3⟩ := up _ _ (f3.snoc E3)
  rw [List.map_append] at R3 U3
  exact ⟨p, _, v, rfl, rfl, f2, by rw [List.length_map, f3.len]; exact hl, k.da R3 ((U1.trans U2).trans U3) .non h2⟩
end
end DL
namespace DL
open PySem L2 PySem.Spec PyProof.Rows
/-! ### a comprehension whose list holds things that change -/
section
variable {X : Cx} {a b c e : Expr} {we : WE} {wt : WT} {wg : WG} {pos : Pos} {js : List Nat}
def lcTurnsS (vs : List Nat) (wg : WG) (wt : WT) (we : WE) (s1 : S) (ds : List D) (Kf : List MO → Prop) : Prop := ∃ I : Nat → List MO → Prop, I 0 (s1.ms ++ [.ins .lst []]) ∧
  (∀ i d ms, ds[i]? = some d → I i ms → wg (.da d) ⟨killL vs s1.es, ms, s1.np⟩ fun s2 => wt s2 fun s3 c =>
    (c = true → we s3 fun s4 x => isLstS s4 (.mu s1.ms.length) fun _ fs => fs.length < sizeLine ∧ I (i + 1) (sm s4.ms s1.ms.length (.ins .lst (fs ++ [sq x])))) ∧
    (c = false → I (i + 1) s3.ms)) ∧
  (∀ ms, I ds.length ms → Kf ms)
def dLcS (vs : List Nat) (wi : WI) (wg : WG) (wt : WT) (we : WE) : WE := fun s Ks => wi s fun s1 ds => lcTurnsS vs wg wt we s1 ds fun ms => Ks ⟨s1.es, ms, s1.np⟩ (.mu s1.ms.length)
theorem lc_runS {K : PySem.W.Frag} {wi : TI} {wI : WI} {vs : List Nat} (hj : ∀ j ∈ js, j ∈ vs)
    (qi : ∀ (b : Bd) (A : Addr → Prop) (own : List (List Addr)) (H : Hp) (σ : L2.St) (s : S) (Ks : S → List D → Prop) (Q : It → Hp → Prop), Rel K b A own H σ s → wI s Ks → PostI K b A own H σ Ks Q → wi σ H Q)
    (Kf : S → List MO → Prop) (b : Bd) (A : Addr → Prop) (own : List (List Addr)) (H : Hp) (σ : L2.St) (s : S) (Q : VK) (R : Rel K b A own H σ s)
    (h : wI s fun s1 ds => lcTurnsS vs wg wt we s1 ds (Kf s1))
    (k : ∀ (A' : Addr → Prop) (own' : List (List Addr)) (H' : Hp) (s1 : S) (ms : List MO) (v : V), Rel K b A' own' H' σ ⟨s1.es, ms, s1.np⟩ → Up A own H A' own' H' → ER K A' own' H' v (.mu s1.ms.length) → Kf s1 ms → Q v H') :
    tLc wi (canG K js wg) (canT K wt) (canE K we) vs σ H Q := by
  show wi σ H fun J H1 => ∀ D, H1 D = none → ∃ W : Nat → Nat → Hp → Prop, (∃ m, W 0 m (upd H1 D (.lst []))) ∧ ∀ i m H, W i m H →
    (J.stop i H ∧ Q (.ref D) H) ∨ (J.go i H ∧ ∃ Nx : Hp → Prop, (∀ H', Nx H' → ∃ m', m' < m ∧ W (i + 1) m' H') ∧ ∀ x H', J.yld i H x H' → canG K js wg x (wipe σ vs) H' fun σ2 H2 => wipe σ2 vs = wipe σ vs ∧ canT K wt σ2 H2 fun b H3 =>
      if b = true then canE K we σ2 H3 fun y H4 => ∃ acc, H4 D = some (.lst acc) ∧ acc.length < sizeLine ∧ Nx (upd H4 D (.lst (acc ++ [y]))) else Nx H3)
  refine qi _ _ _ _ _ _ _ _ R h fun A1 o1 H1 s1 ds J R1 U1 wk h1 => ?_
  obtain ⟨I, h0, hs, hd⟩ := h1
  intro D hD
  obtain ⟨R0, U0, g0⟩ := R1.newMu (o := .lst []) hD (.ins .lst []) fun A' own' u => ⟨D, [], [], rfl, ⟨rfl, by rw [upd_same]; rfl⟩, trivial⟩
  refine ⟨fun i n H2 => n = ds.length - i ∧ i ≤ ds.length ∧ ∃ (A2 : Addr → Prop) (o2 : List (List Addr)) (ms : List MO), Rel K b A2 o2 H2 σ ⟨s1.es, ms, s1.np⟩ ∧ Up A1 o1 H1 A2 o2 H2 ∧ go o2 s1.ms.length = [D] ∧ I i ms,
    ⟨_, rfl, Nat.zero_le _, _, _, _, R0, U0, g0, h0⟩, ?_⟩
  rintro i n H2 ⟨rfl, hi, A2, o2, ms, R2, U2, g2, hI⟩
  obtain ⟨wstop, wgo⟩ := wk A2 H2 U2.kp i
  by_cases hlt : i < ds.length
  · obtain ⟨hgo, hy⟩ := wgo ds[i] (List.getElem?_eq_getElem hlt)
    refine .inr ⟨hgo, fun H' => ∃ (A3 : Addr → Prop) (o3 : List (List Addr)) (ms3 : List MO), Rel K b A3 o3 H' σ ⟨s1.es, ms3, s1.np⟩ ∧ Up A1 o1 H1 A3 o3 H' ∧ go o3 s1.ms.length = [D] ∧ I (i + 1) ms3,
      fun H' ⟨A3, o3, ms3, r3, u3, g3, i3⟩ => ⟨ds.length - (i + 1), by omega, rfl, hlt, A3, o3, ms3, r3, u3, g3, i3⟩, fun x H3 hx => ?_⟩
    obtain ⟨R3, U3, rx⟩ := hy x H3 hx o2 σ _ R2
    have R3w := R3.wiped vs
    have back : ∀ (A5 : Addr → Prop) (o5 : List (List Addr)) (H5 : Hp) (σ4 : L2.St) (s5 : S), Rel K b A5 o5 H5 σ4 s5 → Up A2 o2 H3 A5 o5 H5 → Rel K b A5 o5 H5 σ ⟨s1.es, s5.ms, s1.np⟩ ∧ Up A1 o1 H1 A5 o5 H5 ∧ go o5 s1.ms.length = [D] := by
      intro A5 o5 H5 σ4 s5 R5 U5
      have npe : s5.np = s1.np := R5.np.symm.trans R1.np
      have u : Up A1 o1 H1 A5 o5 H5 := ⟨(U2.kp.trans U3.kp).trans U5.kp, fun k a r e => U5.ow _ _ _ (U2.ow _ _ _ e)⟩
      have r := R5.slots (σ' := σ) (es' := s1.es) R1.len fun j => (R1.sl j).imp id fun ⟨v, e, q⟩ => ⟨v, e, q.up u⟩
      refine ⟨?_, u, U5.ow _ _ _ g2⟩
      have e : ({ s5 with es := s1.es } : S) = ⟨s1.es, s5.ms, s1.np⟩ := by rw [← npe]
      rw [e] at r
      exact r
    refine ⟨b, A2, o2, ⟨killL vs s1.es, ms, s1.np⟩, .da ds[i], _, R3w, rx, hs i _ ms (List.getElem?_eq_getElem hlt) hI, fun A4 o4 H4 σ2 s2 R4 U4 S4 h4 => ⟨wipe_sto S4 hj, b, A4, o4, s2, _, R4, h4, fun A5 o5 H5 s3 c R5 U5 h5 => ?_⟩⟩
    cases c with
    | false =>
      rw [if_neg (by decide)]
      have i5 := h5.2 rfl
      obtain ⟨r, u, g⟩ := back A5 o5 H5 σ2 s3 R5 (U4.trans U5)
      exact ⟨_, _, _, r, u, g, i5⟩
    | true =>
      rw [if_pos rfl]
      refine ⟨b, A5, o5, s3, _, R5, h5.1 rfl, fun A6 o6 H6 v s4 x R6 U6 E6 h6 => ?_⟩
      obtain ⟨j, fs, ej, g6, hl, i6⟩ := isLstS_inv h6
      cases ej
      have go6 : go o6 s1.ms.length = [D] := ((U4.trans U5).trans U6).ow _ _ _ g2
      obtain ⟨p, ws, ep, e2, e3, up⟩ := ins_at R6 (v := .ref D) ⟨D, [], go6, rfl⟩ g6
      cases ep
      obtain ⟨R7, U7⟩ := up _ _ (e3.snoc E6)
      rw [List.map_append] at R7 U7
      refine ⟨ws.map (·.2), e2, by rw [List.length_map, e3.len]; exact hl, ?_⟩
      obtain ⟨r, u, g⟩ := back A6 o6 _ σ2 _ R7 (((U4.trans U5).trans U6).trans U7)
      exact ⟨_, _, _, r, u, g, i6⟩
  · have e : i = ds.length := by omega
    subst e
    exact .inl ⟨wstop (Nat.le_refl _), k _ _ _ s1 ms _ R2 (U1.trans U2) ⟨D, [], g2, rfl⟩ (hd ms hI)⟩
theorem ds_setLcS {i : Nat} {y : Str} {py spos : Pos} {elt tg iter : Expr} {ifs : List Expr} {scope : Scope} (own : List (Str × Nat)) {wI : WI} (hc : X.calm = true) (hN : X.N.Nodup) (hy : X.N[i]? = some y) (hyl : X.env.scope.names.lookup y = some .local)
    (hsw : swapsWith (.ListComp elt [⟨tg, iter, ifs, 0⟩] scope pos) (some (.Name y py)) spos.line X.env = pure true) (hi : DI X tg iter wI) (ok : BlkOk X.N X.env.scope scope own) (hj : ∀ j ∈ js, j ∈ own.map (·.2))
    (hg : ∀ (s : Shared) (H : Hp) (C : Addr) (cl : List (Str × Addr)) (fp : List Addr), DG (X.blk s H scope (compEnvC scope cl C X.env) fp) tg js wg) (ht : ∀ (s : Shared) (H : Hp) (C : Addr) (cl : List (Str × Addr)) (fp : List Addr), DTs (X.blk s H scope (compEnvC scope cl C X.env) fp) ifs wt)
    (he : ∀ (s : Shared) (H : Hp) (C : Addr) (cl : List (Str × Addr)) (fp : List Addr), DE (X.blk s H scope (compEnvC scope cl C X.env) fp) elt we) (hs : ∀ x, foldedSetIterable iter X.env x = pure x := by intro _; rfl) :
    DS X (.Assign [.Name y py] (.ListComp elt [⟨tg, iter, ifs, 0⟩] scope pos) spos) (sAsg (dLcS (own.map (·.2)) wI wg wt we) (gN i)) := by
  obtain ⟨ti, pi, qi⟩ := hi.ex
  refine ⟨_, ps_setLc (g := canG X.K js wg) (tt := canT X.K wt) (te := canE X.K we) hc hN hy hyl hsw pi ok (fun s H C cl fp => (hg s H C cl fp).can) (fun s H C cl fp => (ht s H C cl fp).can) (fun s H C cl fp => (he s H C cl fp).can) hs, asg_run (fun b A own' H σ s Ks Q R h k => ?_) (gN_run i)⟩
  exact lc_runS hj qi (fun s1 ms => Ks ⟨s1.es, ms, s1.np⟩ (.mu s1.ms.length)) b A own' H σ s Q R h fun A' own' H' s1 ms v R1 U1 E1 hk => k _ _ _ _ _ (.mu s1.ms.length) R1 U1 E1 hk
end
/-! ### states told otherwise -/
structure Adj (s s' : S) : Prop where
  ex : ∀ {K : PySem.W.Frag} {b : Bd} {A : Addr → Prop} {own : List (List Addr)} {H : Hp} {σ : L2.St}, Rel K b A own H σ s → ∃ (A' : Addr → Prop) (own' : List (List Addr)), Rel K b A' own' H σ s' ∧ Kp A H A' H
theorem Adj.refl {s : S} : Adj s s := ⟨fun R => ⟨_, _, R, Kp.refl⟩⟩
theorem Adj.trans {s t u : S} (h : Adj s t) (g : Adj t u) : Adj s u := ⟨fun R => by
  obtain ⟨_, _, R1, k1⟩ := h.ex R
  obtain ⟨_, _, R2, k2⟩ := g.ex R1
  exact ⟨_, _, R2, k1.trans k2⟩⟩
theorem Adj.frz {s : S} (k : Nat) {ds : List D} (g : gm s.ms k = .lst ds) (hk : s.np ≤ k) : Adj s (frzS k ds s) := ⟨fun R => by
  obtain ⟨R1, k1, _⟩ := R.frz g hk
  exact ⟨_, _, R1, k1⟩⟩
theorem rke_da {K : PySem.W.Frag} {A : Addr → Prop} {own : List (List Addr)} {H : Hp} : ∀ {ws : List (Str × V)} {ds : List D}, RKE K A own H ws (ds.map fun d => sq (.da d)) → RpL K A H (ws.map (·.2)) ds
  | [], [], _ => .nil
  | _ :: _, _ :: _, ⟨_, h, t⟩ => .cons h (rke_da t)
  | [], _ :: _, h => h.elim
  | _ :: _, [], h => h.elim
/-- all it holds is data: a list of data -/
theorem Adj.ripe {s : S} (j : Nat) (ds : List D) (g : gm s.ms j = .ins .lst (ds.map fun d => sq (.da d))) : Adj s (s.sM j (.lst ds)) := ⟨fun {K b A own H σ} R => by
  have m := R.mr j
  rw [g] at m
  obtain ⟨p, r, ws, e1, ⟨rfl, e2⟩, e3⟩ := m
  have := R.chg (H' := H) j (.lst ds) (fun a o n h => h) (fun a h => by
    rw [e1] at h
    cases List.mem_singleton.mp h
    rw [e2]; intro z; cases z) (fun u => ⟨p, _, e1, e2, rke_da e3⟩) (gm_lt (by rw [g]; intro z; cases z))
  exact ⟨_, _, this.1, Kp.refl⟩⟩
section
variable {X : Cx}
def sAdj (w : WS) : WS := fun s D => ∃ s', Adj s s' ∧ w s' D
theorem dss_adj {sts : List Stmt} {w : WS} (h : DSs X sts w) : DSs X sts (sAdj w) := by
  obtain ⟨t, p, q⟩ := h.ex
  refine ⟨t, p, fun b A own H σ s D E R h m => ?_⟩
  obtain ⟨s', a, h⟩ := h
  obtain ⟨_, _, R1, k1⟩ := a.ex R
  exact q _ _ _ _ _ _ _ _ R1 h (m.up k1)
end
/-! ### what is given back may be told otherwise at a def's end: what was made on the way is let go -/
theorem Adj.cut {s : S} (m : Nat) (hm : s.np ≤ m) : Adj s (clS [] m s) := ⟨fun R => ⟨_, _, R.cl [] m hm, Kp.refl⟩⟩
/-- a state and a value told otherwise -/
structure AdjE (s : S) (x : En) (s' : S) (x' : En) : Prop where
  ex : ∀ {K : PySem.W.Frag} {b : Bd} {A : Addr → Prop} {own : List (List Addr)} {H : Hp} {σ : L2.St} {v : V}, Rel K b A own H σ s → ER K A own H v x → ∃ (A' : Addr → Prop) (own' : List (List Addr)), Rel K b A' own' H σ s' ∧ Kp A H A' H ∧ ER K A' own' H v x'
theorem AdjE.refl {s : S} {x : En} : AdjE s x s x := ⟨fun R E => ⟨_, _, R, Kp.refl, E⟩⟩
theorem AdjE.cut {s : S} {x : En} (m : Nat) (hm : s.np ≤ m) : AdjE s x (clS [] m s) (limE m x) := ⟨fun R E => ⟨_, _, R.cl [] m hm, Kp.refl, E.lim⟩⟩
theorem AdjE.da {s s' : S} {d : D} (h : Adj s s') : AdjE s (.da d) s' (.da d) := ⟨fun R E => by
  obtain ⟨A', o', R', k⟩ := h.ex R
  exact ⟨A', o', R', k, Rp.mono k E⟩⟩
theorem AdjE.trans {s t u : S} {x y z : En} (h : AdjE s x t y) (g : AdjE t y u z) : AdjE s x u z := ⟨fun R E => by
  obtain ⟨_, _, R1, k1, E1⟩ := h.ex R E
  obtain ⟨_, _, R2, k2, E2⟩ := g.ex R1 E1
  exact ⟨_, _, R2, k1.trans k2, E2⟩⟩
section
variable {X : Cx} {sts : List Stmt} {w : WS}
def rtD (D : Dn) : Dn where
  nx := fun s => ∃ s', Adj s s' ∧ D.nx s'
  rt := fun s x => ∃ s' x', AdjE s x s' x' ∧ D.rt s' x'
  bk := D.bk
  ct := D.ct
def sRta (w : WS) : WS := fun s D => w s (rtD D)
theorem dss_rta (h : DSs X sts w) : DSs X sts (sRta w) := by
  obtain ⟨t, p, q⟩ := h.ex
  refine ⟨t, p, fun b A own H σ s D E R h m => q _ _ _ _ _ _ _ _ R h ⟨fun A1 o1 H1 σ1 s1 R1 k1 h1 => ?_, fun A1 o1 H1 σ1 s1 v x R1 k1 e1 h1 => ?_, m.bk, m.ct⟩⟩
  · obtain ⟨s2, a, h2⟩ := h1
    obtain ⟨_, _, R2, k2⟩ := a.ex R1
    exact m.nx _ _ _ _ _ R2 (k1.trans k2) h2
  · obtain ⟨s2, x2, a, h2⟩ := h1
    obtain ⟨_, _, R2, k2, e2⟩ := a.ex R1 e1
    exact m.rt _ _ _ _ _ _ _ R2 (k1.trans k2) e2 h2
end
end DL
namespace DL
open PySem L2 PySem.Spec PyProof.Rows
/-! ### a call to which the draws' state goes as it is, lists that change are lent as data; what comes back is a number, a truth, a text or None -/
def rnM : MO → Bool
  | .rnd _ => true
  | _ => false
def allR : List MO → Bool
  | [] => true
  | m :: ms => rnM m && allR ms
theorem allR_gm : ∀ (ms : List MO) (i : Nat), allR ms = true → i < ms.length → ∃ n, gm ms i = .rnd n
  | m :: ms, 0, h, _ => by
    have h := (Bool.and_eq_true_iff.mp h).1
    cases m with
    | rnd n => exact ⟨n, rfl⟩
    | box _ => cases h
    | tab _ => cases h
    | gone => cases h
    | lst _ => cases h
    | dct _ => cases h
    | ins _ _ => cases h
  | m :: ms, i + 1, h, l => allR_gm ms i (Bool.and_eq_true_iff.mp h).2 (by simpa using l)
/-- the places of the draws' states -/
def rnks (s : S) : List En → List Nat
  | [] => []
  | .mu k :: r => if rnM (gm s.ms k) = true then k :: rnks s r else rnks s r
  | _ :: r => rnks s r
def mixE (ks : List Nat) (s : S) : En → Option En
  | .no => some .no
  | .da d => some (.da d)
  | .mu j => match posOf ks j with
    | some i => some (.mu i)
    | none => match vw s (.mu j) with | some d => some (.da d) | none => none
def mixL (ks : List Nat) (s : S) : List En → Option (List En)
  | [] => some []
  | x :: xs => match mixE ks s x with | some y => (match mixL ks s xs with | some ys => some (y :: ys) | none => none) | none => none
def CallM0 (sp : SpD) (ks : List Nat) : S → List En → (S → En → Prop) → Prop := fun s xs Ks => onO (mixL ks s xs) fun ys => allR (pick ks s.ms) = true ∧ sp ys (pick ks s.ms) fun ms' r => ms'.length = ks.length ∧ allR ms' = true ∧ daI r fun d => scD d = true ∧ Ks (s.cM ks ms') (.da d)
def CallM (sp : SpD) : S → List En → (S → En → Prop) → Prop := fun s xs Ks => (rnks s xs).Nodup ∧ CallM0 sp (rnks s xs) s xs Ks
theorem MR.rnd_any {K : PySem.W.Frag} {A A' : Addr → Prop} {own own' : List (List Addr)} {H : Hp} {l : List Addr} {n : Nat} (h : MR K A own H l (.rnd n)) : MR K A' own' H l (.rnd n) := h
theorem mix_er {K : PySem.W.Frag} {b : Bd} {A A0 : Addr → Prop} {own : List (List Addr)} {H : Hp} {σ : L2.St} {s : S} {ks : List Nat} (R : Rel K b A own H σ s) (h0 : ∀ a, A0 a → ∃ j, j ∈ ks ∧ a ∈ go own j) : ∀ {vs : List V} {xs ys : List En}, ERL K A own H vs xs → mixL ks s xs = some ys → ERL K A0 (pickO ks own) H vs ys
  | [], [], _, _, e => by cases e; trivial
  | v :: vs, x :: xs, ys, ⟨h, t⟩, e => by
    have kp : Kp A H A0 H := fun a u n q => ⟨q, fun z => by obtain ⟨j, _, hj⟩ := h0 a z; exact n (R.oa j a hj)⟩
    unfold mixL at e
    cases q : mixE ks s x with
    | none => rw [q] at e; cases e
    | some y =>
      rw [q] at e
      simp only at e
      cases q2 : mixL ks s xs with
      | none => rw [q2] at e; cases e
      | some zs =>
        rw [q2] at e
        cases e
        refine ⟨?_, mix_er R h0 t q2⟩
        cases x with
        | no => cases q; trivial
        | da d => cases q; exact Rp.mono kp h
        | mu j =>
          unfold mixE at q
          simp only at q
          cases q3 : posOf ks j with
          | some i =>
            rw [q3] at q
            cases q
            obtain ⟨a, r, h1, h2⟩ := h
            exact ⟨a, r, by rw [go_pickO ks own i j (posOf_some q3)]; exact h1, h2⟩
          | none =>
            rw [q3] at q
            simp only at q
            have hj : j ∉ ks := fun hm => by
              have : ∀ (ks : List Nat), j ∈ ks → posOf ks j ≠ none := by
                intro ks
                induction ks with
                | nil => intro h; cases h
                | cons k ks ih =>
                  intro h
                  unfold posOf
                  split
                  · intro z; cases z
                  · rename_i ne
                    rcases List.mem_cons.mp h with z | z
                    · exact absurd z.symm ne
                    · intro y
                      rw [Option.map_eq_none_iff] at y
                      exact ih z y
              exact this ks hm q3
            obtain ⟨a, r, g, rfl⟩ := h
            have m := R.mr j
            unfold vw at q
            simp only at q
            cases q4 : gm s.ms j with
            | lst ds =>
              rw [q4] at q m
              cases q
              obtain ⟨a', vs', e1, e2, e3⟩ := m
              rw [e1] at g
              cases g
              exact .lst ⟨e2, fun z => by
                obtain ⟨i, hi, hh⟩ := h0 a z
                have := R.dj i j a hh (by rw [e1]; simp)
                exact hj (this ▸ hi)⟩ (RpL.mono kp e3)
            | gone => rw [q4] at q; cases q
            | dct _ => rw [q4] at q; cases q
            | rnd _ => rw [q4] at q; cases q
            | box _ => rw [q4] at q; cases q
            | tab _ => rw [q4] at q; cases q
            | ins _ _ => rw [q4] at q; cases q
theorem callM_run {K : PySem.W.Frag} {sp : SpD} {ks : List Nat} {n : Nat} (nd : ks.Nodup) {b : Bd} {A : Addr → Prop} {own : List (List Addr)} {H : Hp} {σ : L2.St} {s : S} {vs : List V} {xs : List En} {Ks : S → En → Prop} {Q : VK} {E : XK}
    (hn : vs.length = n) (R : Rel K b A own H σ s) (e : ERL K A own H vs xs) (h : CallM0 sp ks s xs Ks) (k : PostE K b A own H σ Ks Q) : spOf K n sp vs H Q E := by
  obtain ⟨ys, hr, hp, h⟩ := onO_inv h
  have rn : ∀ i, i < ks.length → ∃ m, gm s.ms (nthN ks i) = .rnd m := fun i hi => by
    obtain ⟨m, q⟩ := allR_gm _ i hp (by rw [pick_length]; exact hi)
    rw [gm_pick ks s.ms i _ (nthN_get ks i hi)] at q
    exact ⟨m, q⟩
  have kl : ∀ i j, ks[i]? = some j → j < s.ms.length := fun i j q => gm_lt fun z => by
    have hi := (List.getElem?_eq_some_iff.mp q).1
    obtain ⟨m, q2⟩ := rn i hi
    have e1 : nthN ks i = j := by have := nthN_get ks i hi; rw [q] at this; exact (Option.some.inj this).symm
    rw [e1, z] at q2
    cases q2
  have ndx : ∀ i i' j, ks[i]? = some j → ks[i']? = some j → i = i' := fun i i' j q q' => nd_ix nd q q'
  have pk : ∀ i a, a ∈ go (pickO ks own) i → i < ks.length ∧ a ∈ go own (nthN ks i) := fun i a h => by
    by_cases hi : i < ks.length
    · rw [go_pickO ks own i _ (nthN_get ks i hi)] at h
      exact ⟨hi, h⟩
    · rw [go_ge _ _ (by rw [pickO_length]; omega)] at h; cases h
  have hA0 : ∀ a, (∃ i, a ∈ go (pickO ks own) i) → ∃ j, j ∈ ks ∧ a ∈ go own j := fun a ⟨i, hi⟩ => by
    obtain ⟨h1, h2⟩ := pk i a hi
    exact ⟨_, List.mem_of_getElem? (nthN_get ks i h1), h2⟩
  refine ⟨fun a => ∃ i, a ∈ go (pickO ks own) i, pickO ks own, ys, pick ks s.ms, _, hn, mix_er R hA0 e hr, ⟨by rw [pickO_length, pick_length], fun i => ?_, fun i i' a h1 h2 => ?_, fun i => ?_, fun i a h1 => ⟨i, h1⟩, fun a ⟨i, hi⟩ => R.al a (R.oa _ a (pk i a hi).2)⟩, h, fun A' own' H' v ms' x O ot ge li fr fo ex hk => ?_⟩
  · by_cases hi : i < ks.length
    · have q := nthN_get ks i hi
      rw [go_pickO ks own i _ q, gm_pick ks s.ms i _ q]
      obtain ⟨m, q2⟩ := rn i hi
      have m0 := R.mr (nthN ks i)
      rw [q2] at m0 ⊢
      exact m0.rnd_any
    · rw [gm_ge _ _ (by rw [pick_length]; omega)]; trivial
  · obtain ⟨l1, h1⟩ := pk i a h1
    obtain ⟨l2, h2⟩ := pk i' a h2
    have := R.dj _ _ a h1 h2
    exact ndx i i' _ (nthN_get ks i l1) (by rw [nthN_get ks i' l2, this])
  · by_cases hi : i < ks.length
    · rw [go_pickO ks own i _ (nthN_get ks i hi)]; exact R.ld _
    · rw [go_ge _ _ (by rw [pickO_length]; omega)]; exact List.nodup_nil
  · obtain ⟨ml, hap, hk⟩ := hk
    obtain ⟨d, rfl, sc, hk⟩ := daI_inv hk
    have ol : own'.length = ks.length := by rw [O.ol, ml]
    have eo : own' = pickO ks own := by rw [← ot, pickO_length, List.take_of_length_le (by omega)]
    subst eo
    have fr2 : ∀ a o, (∀ j, j ∈ ks → a ∉ go own j) → H a = some o → H' a = some o := fun a o n q => fr a o (fun i hi => by
      obtain ⟨h1, h2⟩ := pk i a hi
      exact n _ (List.mem_of_getElem? (nthN_get ks i h1)) h2) q
    have u : Up A own H A own H' := ⟨fun a o n q => ⟨fr2 a o (fun j _ hj => n (R.oa j a hj)) q, n⟩, fun _ _ _ h => h⟩
    have dr : ms'.drop ks.length = [] := List.drop_eq_nil_of_le (by omega)
    refine k A own H' v (s.cM ks ms') (.da d) ⟨⟨?_, fun j => ?_, R.dj, R.ld, R.oa, fun a hA => ?_⟩, R.len, fun i => (R.sl i).imp id fun ⟨v, q, r⟩ => ⟨v, q, r.up u⟩, R.ge, fun a o q h0 => ?_, R.fo, R.pre, R.npl, R.lim, R.a0⟩ u (Rp.scal (show Rp K A' H' v d from ex) sc) hk
    · show own.length = (putM ks ms' s.ms ++ ms'.drop ks.length).length
      rw [dr, List.append_nil, putM_length, R.ol]
    · show MR K A own H' (go own j) (gm (putM ks ms' s.ms ++ ms'.drop ks.length) j)
      rw [dr, List.append_nil]
      by_cases hm : j ∈ ks
      · obtain ⟨i, hi⟩ := List.getElem?_of_mem hm
        have hil := (List.getElem?_eq_some_iff.mp hi).1
        have e1 : nthN ks i = j := by have := nthN_get ks i hil; rw [hi] at this; exact (Option.some.inj this).symm
        rw [gm_putM ks ms' s.ms i j nd hi (by omega) (kl i j hi)]
        have m0 := O.mr i
        obtain ⟨m, q2⟩ := allR_gm _ i hap (by omega)
        rw [q2] at m0 ⊢
        rw [go_pickO ks own i _ hi] at m0
        exact m0.rnd_any
      · rw [gm_putM_not ks ms' s.ms j hm]
        exact (R.mr j).up u fun a o ha q => fr2 a o (fun i hi hh => hm (by rw [R.dj j i a ha hh]; exact hi)) q
    · intro z
      cases q : H a with
      | none => exact R.al a hA q
      | some o =>
        by_cases hk : ∃ j, j ∈ ks ∧ a ∈ go own j
        · obtain ⟨j, hj, hh⟩ := hk
          obtain ⟨i, hi⟩ := List.getElem?_of_mem hj
          exact O.al a (O.oa i a (by rw [go_pickO ks own i _ hi]; exact hh)) z
        · rw [fr2 a o (fun j hj hh => hk ⟨j, hj, hh⟩) q] at z
          cases z
    · refine fr2 a o (fun j hj hh => ?_) (R.fr a o q h0)
      rcases R.fo j a hh with ⟨j', q'⟩ | q'
      · exact q j' q'
      · rw [h0] at q'; cases q'
section
variable {X : Cx} {e : Expr} {es : List Expr} {wr : WA}
theorem de_callM {k : Nat} {st : Stmt} {ps : List Str} {sp : SpD} {x : Str} {p pos : Pos} {n : Nat} (O : Ok X.prog X.w X.K X.mg X.base k x st ps n sp) (hr : RoomG k X.A) (hg : Gl X x)
    (ha : DAn X (e :: es) n wr) (hdb : (x == ("__debug__" : Str)) = false := by decide) (he : starEach (e :: es) X.env = (false, eval e X.env) :: starEach es X.env := by rfl) (hpl : (backTo pos (starEach es X.env)).any (·.1) = false := by rfl) :
    DE X (.Call (.Name x p) (e :: es) [] pos) (dCall (CallM sp) wr) := by
  obtain ⟨f, fd, a, F⟩ := O.ex
  obtain ⟨ta, pa, qa⟩ := ha.ex
  refine ⟨_, pe_callG F hr.r hr.g hg a.g a.kp a.b .nil (pass0 (X := X)) pa hdb he hpl, fun b A own H σ s Ks Q R h kk => ?_⟩
  show ta σ H fun vs H1 => spOf X.K n sp (vs ++ []) H1 Q E0
  refine qa _ _ _ _ _ _ _ _ R h fun A1 o1 H1 vs s1 xs R1 U1 E1 h1 => ?_
  rw [List.append_nil]
  exact callM_run h1.2.1 (E1.len.trans h1.1) R1 E1 h1.2.2 (kk.up U1)
/-- a list just made is data at once -/
def dFrzE (we : WE) : WE := fun s Ks => we s fun s1 x => match x with
  | .mu k => (match gm s1.ms k with
    | .lst ds => s1.np ≤ k ∧ s.ms.length ≤ k ∧ Ks (frzS k ds s1) (.da (.list ds))
    | _ => False)
  | x => Ks s1 x
theorem de_frzE {a : Expr} {wa : WE} (he : DE X a wa) : DE X a (dFrzE wa) := by
  obtain ⟨te, pe, qe⟩ := he.ex
  refine ⟨_, pe, fun b A own H σ s Ks Q R h kk => ?_⟩
  refine qe _ _ _ _ _ _ _ _ R h fun A1 o1 H1 v1 s1 x1 R1 U1 E1 h1 => ?_
  cases x1 with
  | no => exact kk _ _ _ _ _ .no R1 U1 E1 h1
  | da d => exact kk _ _ _ _ _ (.da d) R1 U1 E1 h1
  | mu k =>
    cases g : gm s1.ms k with
    | lst ds =>
      simp only [g] at h1
      obtain ⟨hnp, hk, h1⟩ := h1
      obtain ⟨R2, k2, e2⟩ := R1.frz g hnp
      refine kk _ _ _ _ _ (.da (.list ds)) R2 ⟨U1.kp.trans k2, fun j a r q => ?_⟩ (e2 v1 E1) h1
      have hj : j < own.length := Nat.lt_of_not_le fun z => by rw [go_ge _ _ z] at q; cases q
      have := R.ol
      rw [go_so, if_neg (by omega)]
      exact U1.ow j a r q
    | gone => simp only [g] at h1
    | dct _ => simp only [g] at h1
    | rnd _ => simp only [g] at h1
    | box _ => simp only [g] at h1
    | tab _ => simp only [g] at h1
    | ins _ _ => simp only [g] at h1
end
end DL
namespace DL
open PySem L2 PySem.Spec PyProof.Rows
/-! ### the same as CallM, and tuples of things that change are lent as data, too -/
def viF (s : S) : List (Str × En) → Option (List D)
  | [] => some []
  | f :: r => match vw s f.2 with | some d => (match viF s r with | some ds => some (d :: ds) | none => none) | none => none
def vwS (s : S) (x : En) : Option D := match x with
  | .mu j => (match gm s.ms j with
    | .ins .tup fs => (match viF s fs with | some ds => some (.tuple ds) | none => none)
    | _ => vw s (.mu j))
  | x => vw s x
def mixE2 (ks : List Nat) (s : S) : En → Option En
  | .no => some .no
  | .da d => some (.da d)
  | .mu j => match posOf ks j with
    | some i => some (.mu i)
    | none => match vwS s (.mu j) with | some d => some (.da d) | none => none
def mixL2 (ks : List Nat) (s : S) : List En → Option (List En)
  | [] => some []
  | x :: xs => match mixE2 ks s x with | some y => (match mixL2 ks s xs with | some ys => some (y :: ys) | none => none) | none => none
def CallN0 (sp : SpD) (ks : List Nat) : S → List En → (S → En → Prop) → Prop := fun s xs Ks => onO (mixL2 ks s xs) fun ys => allR (pick ks s.ms) = true ∧ sp ys (pick ks s.ms) fun ms' r => ms'.length = ks.length ∧ allR ms' = true ∧ daI r fun d => scD d = true ∧ Ks (s.cM ks ms') (.da d)
def CallN (sp : SpD) : S → List En → (S → En → Prop) → Prop := fun s xs Ks => (rnks s xs).Nodup ∧ CallN0 sp (rnks s xs) s xs Ks
theorem mix_er2 {K : PySem.W.Frag} {b : Bd} {A A0 : Addr → Prop} {own : List (List Addr)} {H : Hp} {σ : L2.St} {s : S} {ks : List Nat} (R : Rel K b A own H σ s) (h0 : ∀ a, A0 a → ∃ j, j ∈ ks ∧ a ∈ go own j) (hrn : ∀ j, j ∈ ks → ∃ n, gm s.ms j = .rnd n) : ∀ {vs : List V} {xs ys : List En}, ERL K A own H vs xs → mixL2 ks s xs = some ys → ERL K A0 (pickO ks own) H vs ys
  | [], [], _, _, e => by cases e; trivial
  | v :: vs, x :: xs, ys, ⟨h, t⟩, e => by
    have kp : Kp A H A0 H := fun a u n q => ⟨q, fun z => by obtain ⟨j, _, hj⟩ := h0 a z; exact n (R.oa j a hj)⟩
    unfold mixL2 at e
    cases q : mixE2 ks s x with
    | none => rw [q] at e; cases e
    | some y =>
      rw [q] at e
      simp only at e
      cases q2 : mixL2 ks s xs with
      | none => rw [q2] at e; cases e
      | some zs =>
        rw [q2] at e
        cases e
        refine ⟨?_, mix_er2 R h0 hrn t q2⟩
        cases x with
        | no => cases q; trivial
        | da d => cases q; exact Rp.mono kp h
        | mu j =>
          unfold mixE2 at q
          simp only at q
          cases q3 : posOf ks j with
          | some i =>
            rw [q3] at q
            cases q
            obtain ⟨a, r, h1, h2⟩ := h
            exact ⟨a, r, by rw [go_pickO ks own i j (posOf_some q3)]; exact h1, h2⟩
          | none =>
            rw [q3] at q
            simp only at q
            have hj : j ∉ ks := fun hm => by
              have : ∀ (ks : List Nat), j ∈ ks → posOf ks j ≠ none := by
                intro ks
                induction ks with
                | nil => intro h; cases h
                | cons k ks ih =>
                  intro h
                  unfold posOf
                  split
                  · intro z; cases z
                  · rename_i ne
                    rcases List.mem_cons.mp h with z | z
                    · exact absurd z.symm ne
                    · intro y
                      rw [Option.map_eq_none_iff] at y
                      exact ih z y
              exact this ks hm q3
            obtain ⟨a, r, g, rfl⟩ := h
            have m := R.mr j
            unfold vwS at q
            simp only at q
            have one : ∀ (i : Nat) (v : V) (d : D), i ∉ ks → ER K A own H v (.mu i) → vw s (.mu i) = some d → Rp K A0 H v d := fun i v d hi h e => by
              obtain ⟨a, r, g, rfl⟩ := h
              have m := R.mr i
              unfold vw at e
              simp only at e
              cases q4 : gm s.ms i with
              | lst ds =>
                rw [q4] at e m
                cases e
                obtain ⟨a', vs', e1, e2, e3⟩ := m
                rw [e1] at g
                cases g
                exact .lst ⟨e2, fun z => by
                  obtain ⟨i', hi', hh⟩ := h0 a z
                  have := R.dj i' i a hh (by rw [e1]; simp)
                  exact hi (this ▸ hi')⟩ (RpL.mono kp e3)
              | gone => rw [q4] at e; cases e
              | dct _ => rw [q4] at e; cases e
              | rnd _ => rw [q4] at e; cases e
              | box _ => rw [q4] at e; cases e
              | tab _ => rw [q4] at e; cases e
              | ins _ _ => rw [q4] at e; cases e
            have oth : ((match vw s (.mu j) with | some d => some (En.da d) | none => none) = some y) → ER K A0 (pickO ks own) H (.ref a) y := fun qq => by
              cases hv : vw s (.mu j) with
              | none => rw [hv] at qq; cases qq
              | some d => rw [hv] at qq; cases qq; exact one j _ _ hj ⟨a, r, g, rfl⟩ hv
            cases q4 : gm s.ms j with
            | ins C fs =>
              rw [q4] at q m
              cases C with
              | tup =>
                simp only at q
                cases q5 : viF s fs with
                | none => rw [q5] at q; cases q
                | some ds =>
                  rw [q5] at q
                  cases q
                  obtain ⟨a', r', ws, e1, ⟨rfl, e2⟩, e3⟩ := m
                  rw [e1] at g
                  cases g
                  have all : ∀ (ws : List (Str × V)) (fs : List (Str × En)) (ds : List D), RKE K A own H ws fs → viF s fs = some ds → RpL K A0 H (ws.map (·.2)) ds := by
                    intro ws
                    induction ws with
                    | nil => intro fs ds h e; cases fs with
                      | nil => cases e; exact .nil
                      | cons _ _ => exact h.elim
                    | cons w ws ih => intro fs ds h e; cases fs with
                      | nil => exact h.elim
                      | cons f fs =>
                        obtain ⟨_, h1, h2⟩ := h
                        unfold viF at e
                        cases q6 : vw s f.2 with
                        | none => rw [q6] at e; cases e
                        | some d =>
                          rw [q6] at e
                          simp only at e
                          cases q7 : viF s fs with
                          | none => rw [q7] at e; cases e
                          | some ds' =>
                            rw [q7] at e
                            cases e
                            refine .cons ?_ (ih fs ds' h2 q7)
                            cases hf : f.2 with
                            | no => rw [hf] at q6; cases q6
                            | da d' => rw [hf] at q6 h1; cases q6; exact Rp.mono kp h1
                            | mu i =>
                              rw [hf] at q6 h1
                              refine one i _ _ (fun hi => ?_) h1 q6
                              obtain ⟨m, hm⟩ := hrn i hi
                              unfold vw at q6
                              simp only at q6
                              rw [hm] at q6
                              cases q6
                  exact .tup (.inl ⟨e2, fun z => by
                    obtain ⟨i', hi', hh⟩ := h0 a z
                    have := R.dj i' j a hh (by rw [e1]; simp)
                    exact hj (this ▸ hi')⟩) (all ws fs ds e3 q5)
              | lst => exact oth q
              | obj _ => exact oth q
              | dct => exact oth q
              | fzd _ => exact oth q
              | exc _ => exact oth q
            | lst ds => rw [q4] at q; exact oth q
            | gone => rw [q4] at q; exact oth q
            | dct _ => rw [q4] at q; exact oth q
            | rnd _ => rw [q4] at q; exact oth q
            | box _ => rw [q4] at q; exact oth q
            | tab _ => rw [q4] at q; exact oth q
theorem callN_run {K : PySem.W.Frag} {sp : SpD} {ks : List Nat} {n : Nat} (nd : ks.Nodup) {b : Bd} {A : Addr → Prop} {own : List (List Addr)} {H : Hp} {σ : L2.St} {s : S} {vs : List V} {xs : List En} {Ks : S → En → Prop} {Q : VK} {E : XK}
    (hn : vs.length = n) (R : Rel K b A own H σ s) (e : ERL K A own H vs xs) (h : CallN0 sp ks s xs Ks) (k : PostE K b A own H σ Ks Q) : spOf K n sp vs H Q E := by
  obtain ⟨ys, hr, hp, h⟩ := onO_inv h
  have rn : ∀ i, i < ks.length → ∃ m, gm s.ms (nthN ks i) = .rnd m := fun i hi => by
    obtain ⟨m, q⟩ := allR_gm _ i hp (by rw [pick_length]; exact hi)
    rw [gm_pick ks s.ms i _ (nthN_get ks i hi)] at q
    exact ⟨m, q⟩
  have kl : ∀ i j, ks[i]? = some j → j < s.ms.length := fun i j q => gm_lt fun z => by
    have hi := (List.getElem?_eq_some_iff.mp q).1
    obtain ⟨m, q2⟩ := rn i hi
    have e1 : nthN ks i = j := by have := nthN_get ks i hi; rw [q] at this; exact (Option.some.inj this).symm
    rw [e1, z] at q2
    cases q2
  have ndx : ∀ i i' j, ks[i]? = some j → ks[i']? = some j → i = i' := fun i i' j q q' => nd_ix nd q q'
  have pk : ∀ i a, a ∈ go (pickO ks own) i → i < ks.length ∧ a ∈ go own (nthN ks i) := fun i a h => by
    by_cases hi : i < ks.length
    · rw [go_pickO ks own i _ (nthN_get ks i hi)] at h
      exact ⟨hi, h⟩
    · rw [go_ge _ _ (by rw [pickO_length]; omega)] at h; cases h
  have hA0 : ∀ a, (∃ i, a ∈ go (pickO ks own) i) → ∃ j, j ∈ ks ∧ a ∈ go own j := fun a ⟨i, hi⟩ => by
    obtain ⟨h1, h2⟩ := pk i a hi
    exact ⟨_, List.mem_of_getElem? (nthN_get ks i h1), h2⟩
  refine ⟨fun a => ∃ i, a ∈ go (pickO ks own) i, pickO ks own, ys, pick ks s.ms, _, hn, mix_er2 R hA0 (fun j hj => by obtain ⟨i, hi⟩ := List.getElem?_of_mem hj; have hl := (List.getElem?_eq_some_iff.mp hi).1; have e1 : nthN ks i = j := by { have := nthN_get ks i hl; rw [hi] at this; exact (Option.some.inj this).symm }; rw [← e1]; exact rn i hl) e hr, ⟨by rw [pickO_length, pick_length], fun i => ?_, fun i i' a h1 h2 => ?_, fun i => ?_, fun i a h1 => ⟨i, h1⟩, fun a ⟨i, hi⟩ => R.al a (R.oa _ a (pk i a hi).2)⟩, h, fun A' own' H' v ms' x O ot ge li fr fo ex hk => ?_⟩
  · by_cases hi : i < ks.length
    · have q := nthN_get ks i hi
      rw [go_pickO ks own i _ q, gm_pick ks s.ms i _ q]
      obtain ⟨m, q2⟩ := rn i hi
      have m0 := R.mr (nthN ks i)
      rw [q2] at m0 ⊢
      exact m0.rnd_any
    · rw [gm_ge _ _ (by rw [pick_length]; omega)]; trivial
  · obtain ⟨l1, h1⟩ := pk i a h1
    obtain ⟨l2, h2⟩ := pk i' a h2
    have := R.dj _ _ a h1 h2
    exact ndx i i' _ (nthN_get ks i l1) (by rw [nthN_get ks i' l2, this])
  · by_cases hi : i < ks.length
    · rw [go_pickO ks own i _ (nthN_get ks i hi)]; exact R.ld _
    · rw [go_ge _ _ (by rw [pickO_length]; omega)]; exact List.nodup_nil
  · obtain ⟨ml, hap, hk⟩ := hk
    obtain ⟨d, rfl, sc, hk⟩ := daI_inv hk
    have ol : own'.length = ks.length := by rw [O.ol, ml]
    have eo : own' = pickO ks own := by rw [← ot, pickO_length, List.take_of_length_le (by omega)]
    subst eo
    have fr2 : ∀ a o, (∀ j, j ∈ ks → a ∉ go own j) → H a = some o → H' a = some o := fun a o n q => fr a o (fun i hi => by
      obtain ⟨h1, h2⟩ := pk i a hi
      exact n _ (List.mem_of_getElem? (nthN_get ks i h1)) h2) q
    have u : Up A own H A own H' := ⟨fun a o n q => ⟨fr2 a o (fun j _ hj => n (R.oa j a hj)) q, n⟩, fun _ _ _ h => h⟩
    have dr : ms'.drop ks.length = [] := List.drop_eq_nil_of_le (by omega)
    refine k A own H' v (s.cM ks ms') (.da d) ⟨⟨?_, fun j => ?_, R.dj, R.ld, R.oa, fun a hA => ?_⟩, R.len, fun i => (R.sl i).imp id fun ⟨v, q, r⟩ => ⟨v, q, r.up u⟩, R.ge, fun a o q h0 => ?_, R.fo, R.pre, R.npl, R.lim, R.a0⟩ u (Rp.scal (show Rp K A' H' v d from ex) sc) hk
    · show own.length = (putM ks ms' s.ms ++ ms'.drop ks.length).length
      rw [dr, List.append_nil, putM_length, R.ol]
    · show MR K A own H' (go own j) (gm (putM ks ms' s.ms ++ ms'.drop ks.length) j)
      rw [dr, List.append_nil]
      by_cases hm : j ∈ ks
      · obtain ⟨i, hi⟩ := List.getElem?_of_mem hm
        have hil := (List.getElem?_eq_some_iff.mp hi).1
        have e1 : nthN ks i = j := by have := nthN_get ks i hil; rw [hi] at this; exact (Option.some.inj this).symm
        rw [gm_putM ks ms' s.ms i j nd hi (by omega) (kl i j hi)]
        have m0 := O.mr i
        obtain ⟨m, q2⟩ := allR_gm _ i hap (by omega)
        rw [q2] at m0 ⊢
        rw [go_pickO ks own i _ hi] at m0
        exact m0.rnd_any
      · rw [gm_putM_not ks ms' s.ms j hm]
        exact (R.mr j).up u fun a o ha q => fr2 a o (fun i hi hh => hm (by rw [R.dj j i a ha hh]; exact hi)) q
    · intro z
      cases q : H a with
      | none => exact R.al a hA q
      | some o =>
        by_cases hk : ∃ j, j ∈ ks ∧ a ∈ go own j
        · obtain ⟨j, hj, hh⟩ := hk
          obtain ⟨i, hi⟩ := List.getElem?_of_mem hj
          exact O.al a (O.oa i a (by rw [go_pickO ks own i _ hi]; exact hh)) z
        · rw [fr2 a o (fun j hj hh => hk ⟨j, hj, hh⟩) q] at z
          cases z
    · refine fr2 a o (fun j hj hh => ?_) (R.fr a o q h0)
      rcases R.fo j a hh with ⟨j', q'⟩ | q'
      · exact q j' q'
      · rw [h0] at q'; cases q'
section
variable {X : Cx} {e : Expr} {es : List Expr} {wr : WA}
theorem de_callN {k : Nat} {st : Stmt} {ps : List Str} {sp : SpD} {x : Str} {p pos : Pos} {n : Nat} (O : Ok X.prog X.w X.K X.mg X.base k x st ps n sp) (hr : RoomG k X.A) (hg : Gl X x)
    (ha : DAn X (e :: es) n wr) (hdb : (x == ("__debug__" : Str)) = false := by decide) (he : starEach (e :: es) X.env = (false, eval e X.env) :: starEach es X.env := by rfl) (hpl : (backTo pos (starEach es X.env)).any (·.1) = false := by rfl) :
    DE X (.Call (.Name x p) (e :: es) [] pos) (dCall (CallN sp) wr) := by
  obtain ⟨f, fd, a, F⟩ := O.ex
  obtain ⟨ta, pa, qa⟩ := ha.ex
  refine ⟨_, pe_callG F hr.r hr.g hg a.g a.kp a.b .nil (pass0 (X := X)) pa hdb he hpl, fun b A own H σ s Ks Q R h kk => ?_⟩
  show ta σ H fun vs H1 => spOf X.K n sp (vs ++ []) H1 Q E0
  refine qa _ _ _ _ _ _ _ _ R h fun A1 o1 H1 vs s1 xs R1 U1 E1 h1 => ?_
  rw [List.append_nil]
  exact callN_run h1.2.1 (E1.len.trans h1.1) R1 E1 h1.2.2 (kk.up U1)
end
end DL
namespace DL
open PySem L2 PySem.Spec PyProof.Rows
/-! ### things of own classes: their fields -/
def getT {α : Type} (fs : List (Str × α)) (f : Str) : Option α := (fs.find? fun q => decide (q.1 = f)).map (·.2)
theorem getT_lookup {α : Type} {f : Str} : ∀ fs : List (Str × α), fs.lookup f = getT fs f
  | [] => rfl
  | (g, x) :: r => by
    unfold getT
    rw [List.lookup_cons, List.find?_cons]
    by_cases h : g = f
    · subst h; simp
    · rw [show (f == g) = false from beq_eq_false_iff_ne.mpr (Ne.symm h), show decide ((g, x).1 = f) = false from decide_eq_false h]
      exact getT_lookup r
def putE {α : Type} (f : Str) (y : α) : List (Str × α) → List (Str × α)
  | [] => [(f, y)]
  | (g, z) :: r => if g = f then (g, y) :: r else (g, z) :: putE f y r
section
variable {K : PySem.W.Frag} {b : Bd} {A : Addr → Prop} {own : List (List Addr)} {H : Hp} {σ : L2.St} {s : S}
theorem RKE.look {f : Str} : ∀ {ws : List (Str × V)} {fs : List (Str × En)} {y : En}, RKE K A own H ws fs → fs.lookup f = some y → ∃ v, ws.lookup f = some v ∧ ER K A own H v y
  | [], [], _, _, e => by cases e
  | (g, w) :: ws, (g', x) :: fs, y, ⟨e0, h, t⟩, e => by
    obtain rfl : g = g' := e0
    rw [List.lookup_cons] at e ⊢
    cases q : f == g with
    | true => rw [q] at e; cases e; exact ⟨w, rfl, h⟩
    | false => rw [q] at e; exact RKE.look t e
  | [], _ :: _, _, h, _ => h.elim
  | _ :: _, [], _, h, _ => h.elim
theorem RKE.put {f : Str} {v : V} {y : En} (hv : ER K A own H v y) : ∀ {ws : List (Str × V)} {fs : List (Str × En)}, RKE K A own H ws fs → RKE K A own H (putF f v ws) (putE f y fs)
  | [], [], _ => ⟨rfl, hv, trivial⟩
  | (g, w) :: ws, (g', x) :: fs, ⟨e0, h, t⟩ => by
    obtain rfl : g = g' := e0
    unfold putF putE
    by_cases q : g = f
    · rw [if_pos q, if_pos q]; exact ⟨rfl, hv, t⟩
    · rw [if_neg q, if_neg q]; exact ⟨rfl, h, RKE.put hv t⟩
  | [], _ :: _, h => h.elim
  | _ :: _, [], h => h.elim
/-- an own class's object: read, and written -/
theorem obj_at (R : Rel K b A own H σ s) {v : V} {j : Nat} {c : Str} {fs : List (Str × En)} (E : ER K A own H v (.mu j)) (g : gm s.ms j = .ins (.obj c) fs) :
    ∃ p C dx ws, v = .ref p ∧ PySem.W.nsIn K mainGlobals c = some (some (.ref C)) ∧ H p = some (.ins C dx ws) ∧ RKE K A own H ws fs ∧
      ∀ (ws' : List (Str × V)) fs', RKE K A own H ws' fs' → Rel K b A own (upd H p (.ins C dx ws')) σ (s.sM j (.ins (.obj c) fs')) ∧ Up A own H A own (upd H p (.ins C dx ws')) := by
  have m := R.mr j
  rw [g] at m
  obtain ⟨p, r, ws, e1, ⟨C, dx, e0, rfl, e2, e2'⟩, e3⟩ := m
  obtain ⟨p', r, e4, rfl⟩ := E
  rw [e1] at e4
  cases e4
  have ne : dx ≠ p := fun z => by
    have := R.ld j
    rw [e1, z] at this
    simp at this
  refine ⟨p, C, dx, ws, rfl, e0, e2, e3, fun vs' ds' r' => ?_⟩
  refine R.chg j (.ins (.obj c) ds') (fun a o n h => ?_) (fun a h => ?_) (fun u => ?_) (gm_lt (by rw [g]; intro z; cases z))
  · rw [upd_ne]; exact h
    intro z; subst z; exact n (by rw [e1]; simp)
  · rw [e1] at h
    by_cases q : a = p
    · subst q; rw [upd_same]; intro z; cases z
    · rw [upd_ne q]
      rcases List.mem_cons.mp h with z | z
      · exact absurd z q
      · cases List.mem_singleton.mp z; rw [e2']; intro z; cases z
  · rw [e1]; exact ⟨p, [dx], vs', rfl, ⟨C, dx, e0, rfl, upd_same, by rw [upd_ne ne]; exact e2'⟩, r'.up u⟩
end
/-- what own classes must be for e.f -/
def FOk (K : PySem.W.Frag) (cs : List Str) (f : Str) : Prop := ∀ c ∈ cs, ∀ C, PySem.W.nsIn K mainGlobals c = some (some (.ref C)) → Cls K C ∧ NoAttr K C f
section
variable {X : L2.Cx} {a c e : Expr} {es : List Expr} {wa wc we : WE} {wr : WA} {pos : Pos}
def fldW (cs : List Str) (s : S) (x : En) (k : Nat → Str → List (Str × En) → Prop) : Prop := ∃ j c fs, x = .mu j ∧ gm s.ms j = .ins (.obj c) fs ∧ c ∈ cs ∧ k j c fs
def dFld (cs : List Str) (f : Str) (wa : WE) : WE := fun s Ks => wa s fun s1 x => fldW cs s1 x fun _ _ fs => ∃ y, getT fs f = some y ∧ Ks s1 y
theorem de_fld {cs : List Str} {f : Str} (F : FOk X.K cs f) (he : DE X e we) (hb : attributeBase e f X.env (eval e X.env) = eval e X.env := by rfl) : DE X (.Attribute e f pos) (dFld cs f we) := by
  obtain ⟨te, pe, qe⟩ := he.ex
  refine ⟨_, pe_fld pe hb, fun b A own H σ s Ks Q R h k => ?_⟩
  show te σ H fun x H1 => ∃ a C dx fs v, x = .ref a ∧ H1 a = some (.ins C dx fs) ∧ Cls X.K C ∧ NoAttr X.K C f ∧ fs.lookup f = some v ∧ Q v H1
  refine qe _ _ _ _ _ _ _ _ R h fun A1 o1 H1 v1 s1 x1 R1 U1 E1 h1 => ?_
  obtain ⟨j, c, fs, rfl, g, hc, y, hy, h1⟩ := h1
  obtain ⟨p, C, dx, ws, rfl, n, hp, r, _⟩ := obj_at R1 E1 g
  obtain ⟨v, hv, ev⟩ := r.look ((getT_lookup fs).trans hy)
  exact ⟨p, C, dx, ws, v, rfl, hp, (F c hc C n).1, (F c hc C n).2, hv, k _ _ _ _ _ y R1 U1 ev h1⟩
def sFldSet (cs : List Str) (f : Str) (wa wv : WE) : WS := fun s D => wv s fun s1 y => wa s1 fun s2 x => fldW cs s2 x fun j c fs => fs.length < 1000 ∧ D.nx (s2.sM j (.ins (.obj c) (putE f y fs)))
theorem ds_fld {cs : List Str} {f : Str} {pos' : Pos} (F : FOk X.K cs f) (ha : DE X a wa) (hv : DE X e we) (hs : swapsWith e (some (.Attribute a f pos')) pos.line X.env = pure false := by rfl) : DS X (.Assign [.Attribute a f pos'] e pos) (sFldSet cs f wa we) := by
  obtain ⟨ta, pa, qa⟩ := ha.ex
  obtain ⟨te, pe, qe⟩ := hv.ex
  refine ⟨_, ps_fld pa pe hs, fun b A own H σ s D E R h m => ?_⟩
  show te σ H fun y H1 => ta σ H1 fun x H2 => ∃ a C dx fs, x = .ref a ∧ H2 a = some (.ins C dx fs) ∧ Cls X.K C ∧ NoAttr X.K C f ∧ fs.length < 1000 ∧ E.nx σ (upd H2 a (.ins C dx (putF f y fs)))
  refine qe _ _ _ _ _ _ _ _ R h fun A1 o1 H1 v1 s1 x1 R1 U1 E1 h1 => ?_
  refine qa _ _ _ _ _ _ _ _ R1 h1 fun A2 o2 H2 v2 s2 x2 R2 U2 E2 h2 => ?_
  obtain ⟨j, c, fs, rfl, g, hc, hl, h2⟩ := h2
  obtain ⟨p, C, dx, ws, rfl, n, hp, r, up⟩ := obj_at R2 E2 g
  obtain ⟨R3, U3⟩ := up _ _ (r.put (f := f) (E1.up U2))
  exact ⟨p, C, dx, ws, rfl, hp, (F c hc C n).1, (F c hc C n).2, by rw [r.len]; exact hl, m.nx _ _ _ _ _ R3 ((U1.trans U2).trans U3).kp h2⟩
def sFldAug (cs : List Str) (f : Str) (g : Int → Int → Int) (wa wv : WE) : WS := fun s D => wa s fun s1 x => fldW cs s1 x fun j c fs => ∃ i, getT fs f = some (.da (.int i)) ∧ wv s1 fun s2 y => i1 y fun z => ∃ fs', gm s2.ms j = .ins (.obj c) fs' ∧ fs'.length < 1000 ∧ D.nx (s2.sM j (.ins (.obj c) (putE f (.da (.int (g i z))) fs')))
theorem ds_fldAug {cs : List Str} {f : Str} {tpos : Pos} {op : Operator} {g : Int → Int → Int} (hop : InOp X op (fun x y H Q => ∃ i j, x = .int i ∧ y = .int j ∧ Q (.int (g i j)) H)) (F : FOk X.K cs f) (ha : DE X a wa) (hv : DE X e we) : DS X (.AugAssign (.Attribute a f tpos) op e pos) (sFldAug cs f g wa we) := by
  obtain ⟨ta, pa, qa⟩ := ha.ex
  obtain ⟨te, pe, qe⟩ := hv.ex
  refine ⟨_, ps_fldaug pa pe hop, fun b A own H σ s D E R h m => ?_⟩
  show ta σ H fun x H1 => ∃ a C dx fs v, x = .ref a ∧ H1 a = some (.ins C dx fs) ∧ Cls X.K C ∧ NoAttr X.K C f ∧ fs.lookup f = some v ∧
    te σ H1 fun y H2 => (fun x y H Q => ∃ i j, x = .int i ∧ y = .int j ∧ Q (.int (g i j)) H) v y H2 fun z H3 => ∃ dx' fs', H3 a = some (.ins C dx' fs') ∧ fs'.length < 1000 ∧ E.nx σ (upd H3 a (.ins C dx' (putF f z fs')))
  refine qa _ _ _ _ _ _ _ _ R h fun A1 o1 H1 v1 s1 x1 R1 U1 E1 h1 => ?_
  obtain ⟨j, c, fs, rfl, gj, hc, i, hi, h1⟩ := h1
  obtain ⟨p, C, dx, ws, rfl, n, hp, r, _⟩ := obj_at R1 E1 gj
  obtain ⟨v, hv, ev⟩ := r.look ((getT_lookup fs).trans hi)
  cases ev
  refine ⟨p, C, dx, ws, _, rfl, hp, (F c hc C n).1, (F c hc C n).2, hv, ?_⟩
  refine qe _ _ _ _ _ _ _ _ R1 h1 fun A2 o2 H2 v2 s2 x2 R2 U2 E2 h2 => ?_
  obtain ⟨z, rfl, h2⟩ := i1_inv h2
  obtain ⟨fs', gj', hl, h2⟩ := h2
  cases E2
  obtain ⟨p', C', dx', ws', ep, n', hp', r', up⟩ := obj_at R2 (E1.up U2) gj'
  cases ep
  obtain ⟨R3, U3⟩ := up _ _ (r'.put (f := f) (v := .int (g i z)) (y := .da (.int (g i z))) (.int _))
  have eC : C' = C := by
    rw [n] at n'
    cases n'
    rfl
  subst eC
  exact ⟨i, z, rfl, rfl, dx', ws', hp', by rw [r'.len]; exact hl, m.nx _ _ _ _ _ R3 ((U1.trans U2).trans U3).kp h2⟩
end
/-! ### calls to which all that changes goes as it is -/
def CallT (sp : SpD) : S → List En → (S → En → Prop) → Prop := fun s xs Ks => sp xs s.ms fun ms' r => Ks ⟨s.es, ms', s.np⟩ r
theorem callT_run {K : PySem.W.Frag} {sp : SpD} {n : Nat} {b : Bd} {A : Addr → Prop} {own : List (List Addr)} {H : Hp} {σ : L2.St} {s : S} {vs : List V} {xs : List En} {Ks : S → En → Prop} {Q : VK} {E : XK}
    (hn : vs.length = n) (R : Rel K b A own H σ s) (e : ERL K A own H vs xs) (h : CallT sp s xs Ks) (k : PostE K b A own H σ Ks Q) : spOf K n sp vs H Q E := by
  refine ⟨A, own, xs, s.ms, _, hn, e, R.toOwn, h, fun A' own' H' v ms' x O ot ge li fr fo ex hk => ?_⟩
  have notOwn : ∀ a, ¬ A a → ∀ j, a ∉ go own j := fun a n j hj => n (R.oa j a hj)
  have u : Up A own H A' own' H' := ⟨fun a o n q => ⟨fr a o (notOwn a n) q, fun z => by
      rcases li a z with z | z
      · exact n z
      · rw [z] at q; cases q⟩, fun k a r q => by
      rw [← ot, go_take] at q
      split at q
      · exact q
      · cases q⟩
  refine k A' own' H' v ⟨s.es, ms', s.np⟩ x ⟨O, R.len, fun i => (R.sl i).imp id fun ⟨v, q, r⟩ => ⟨v, q, r.up u⟩, fun a q => ge a (R.ge a q), fun a o n q => ?_, fun i a h1 => ?_, ?_, ?_, fun a q => ?_, R.a0⟩ u ex hk
  · refine fr a o (fun i hi => ?_) (R.fr a o n q)
    rcases R.fo _ a hi with ⟨j, z⟩ | z
    · exact n j z
    · rw [z] at q; cases q
  · rcases fo i a h1 with ⟨j, z⟩ | z
    · exact R.fo j a z
    · exact .inr (R.fresh0 z)
  · have := R.pre
    rw [← ot, List.take_take, Nat.min_eq_left R.npl] at this
    exact this
  · have := congrArg List.length ot
    rw [List.length_take] at this
    have := R.npl
    show s.np ≤ _
    omega
  · rcases li a q with z | z
    · exact R.lim a z
    · exact .inr (R.fresh0 z)
section
variable {X : L2.Cx} {k : Nat} {f C : Addr} {fd : FuncData} {ps : List Str} {sp : L2.Sp} {CX : CXT} {E : XK} {x m : Str} {p pos apos : Pos} {e o : Expr} {es : List Expr} {t : TA} {ta : TE}
theorem run_fnG {pins : List (Addr × Obj)} {σ : L2.St} {H : Hp} {s : Shared} {Q : VK} {us : List Value} {vs : List V} (F : FnOkG X.prog X.w X.K X.mg X.base CX k f fd ps sp) (hr : RoomG k X.A) (hb : Binds X.K fd ps []) (hx : Passes CX X E)
    (I : Inv X pins σ H s) (r : Vals vs us) (h : sp vs H Q E) : wpAny (model X.prog X.w) X.A (PySem.call (.ref f) us) (EP X pins σ Q) X.xe s := by
  have hl : us.length = ps.length := by rw [← r.length]; exact F.len _ _ _ _ h
  have hb' := hb s us I.kIn (by rw [List.append_nil]; exact hl)
  rw [List.append_nil] at hb'
  refine wpAny_call (codeAny_mono (F.run X.A X.stack s H ⟨us, []⟩ us vs Q E hr.r hr.g I.env0 hb' r h) fun r s' hq => ?_)
  cases r with
  | error e => exact hx pins σ H s e s' I hq
  | ok fl =>
    cases fl with
    | ret u => exact I.after hq
    | next => exact False.elim hq
    | brk => exact False.elim hq
    | cont => exact False.elim hq
theorem pe_methT {pl : Sem Bool} (he : PE X o ta) (c : Cls X.K C) (hm : Meth X.K C m f) (F : FnOkG X.prog X.w X.K X.mg X.base CX k f fd ps sp) (hr : RoomG k X.A) (hb : Binds X.K fd ps []) (hx : Passes CX X E) (ha : PA X (e :: es) t)
    (hst : starEach (e :: es) X.env = (false, eval e X.env) :: starEach es X.env := by rfl) (hpl : (backTo pos (starEach es X.env)).any (·.1) = false := by rfl)
    (ht : eval (.Call (.Attribute o m apos) (e :: es) [] pos) X.env = (do
      let ov ← eval o X.env
      standAt apos.atName
      let (f, first) ← holding [ov] (getMethod ov m pl)
      callWith pos f first (backTo pos (starEach (e :: es) X.env)) (backToKw pos (keywordEach [] X.env))) := by rfl) :
    PE X (.Call (.Attribute o m apos) (e :: es) [] pos) (tMeth C m sp [] E ta t) := by
  refine ⟨fun pins s σ H Q I h => ?_⟩
  refine PySem.W.methodCall_KW (pl := pl) (thn (he.run pins s σ H _ I h) fun u s1 ⟨x, H1, I1, rx, a, dx, fs, ex, ea, l, q⟩ => ?_) ht
  subst ex
  obtain rfl : u = Value.ref a := rx
  refine getmeth_ok I1 ea c hm l ?_
  refine PySem.W.callWith_K (first := [.ref a]) (h₀ := X.base) I.ok.mod.kin hm.kp (thn (ha.run pos pins s1 σ H1 _ I1 q) fun us s2 ⟨vs, H2, I2, r, q2⟩ => ⟨I2.kIn, ?_⟩) hst hpl
  have q2 : sp (V.ref a :: (vs ++ [])) H2 Q E := q2
  rw [List.append_nil] at q2
  exact run_fnG (us := .ref a :: us) (vs := .ref a :: vs) F hr hb hx I2 (.cons rfl r) q2
theorem pe_methT0 {pl : Sem Bool} (he : PE X o ta) (c : Cls X.K C) (hm : Meth X.K C m f) (F : FnOkG X.prog X.w X.K X.mg X.base CX k f fd ps sp) (hr : RoomG k X.A) (hb : Binds X.K fd ps []) (hx : Passes CX X E)
    (ht : eval (.Call (.Attribute o m apos) [] [] pos) X.env = (do
      let ov ← eval o X.env
      standAt apos.atName
      let (f, first) ← holding [ov] (getMethod ov m pl)
      callWith pos f first (backTo pos (starEach [] X.env)) (backToKw pos (keywordEach [] X.env))) := by rfl) :
    PE X (.Call (.Attribute o m apos) [] [] pos) (tMeth C m sp [] E ta tNil) := by
  refine ⟨fun pins s σ H Q I h => ?_⟩
  refine PySem.W.methodCall_KW (pl := pl) (thn (he.run pins s σ H _ I h) fun u s1 ⟨x, H1, I1, rx, a, dx, fs, ex, ea, l, q⟩ => ?_) ht
  subst ex
  obtain rfl : u = Value.ref a := rx
  refine getmeth_ok I1 ea c hm l ?_
  exact PySem.W.callWith_K0 (first := [.ref a]) I1.kIn hm.kp (run_fnG (us := [.ref a]) (vs := [.ref a]) F hr hb hx I1 (.cons rfl .nil) q)
theorem RoomG.make {A : Around} (r : RoomG (k + 1) A) (C : Addr) (us : List Value) (kw : List (Str × Value)) : RoomG k (A.under (.builtin "type.__call__" ⟨.ref C :: us, kw⟩)) :=
  ⟨r.r.make C us kw, by
    have := r.g
    rw [← this]
    rfl⟩
theorem run_makeT {pins : List (Addr × Obj)} {σ : L2.St} {H : Hp} {s : Shared} {Q : VK} {us : List Value} {vs : List V} (M : Mk X.K C f) (F : FnOkG X.prog X.w X.K X.mg X.base CX k f fd ps sp) (hr : RoomG (k + 1) X.A) (hb : Binds X.K fd ps [])
    (hx : Passes CX X E) (I : Inv X pins σ H s) (r : Vals vs us)
    (h : ∀ x dx, H x = none → H dx = none → dx ≠ x → sp (.ref x :: vs) (upd (upd H dx (.own x)) x (.ins C dx [])) (fun v H2 => v = .non ∧ Q (.ref x) H2) E) :
    wpAny (model X.prog X.w) X.A (PySem.call (.ref C) us) (EP X pins σ Q) X.xe s := by
  have hq := h (s.heap.objs.size + 1) s.heap.objs.size (I.hok.fresh (Nat.le_succ _)) (I.hok.fresh (Nat.le_refl _)) (Nat.ne_of_lt (Nat.lt_succ_self _))
  have I2 := Inv.made (C := C) I
  have r2 : Vals (V.ref (s.heap.objs.size + 1) :: vs) (Value.ref (s.heap.objs.size + 1) :: us) := .cons rfl r
  have hl : (Value.ref (s.heap.objs.size + 1) :: us).length = ps.length := by
    have e := r2.length
    rw [F.len _ _ _ _ hq] at e
    exact e.symm
  have hb' := hb _ (Value.ref (s.heap.objs.size + 1) :: us) I2.kIn (by rw [List.append_nil]; exact hl)
  rw [List.append_nil] at hb'
  refine wpAny_call (make_map (f := f) I.kIn M.makes M.init (beq_iff_eq.mp M.fn) (codeAny_mono (F.run _ X.stack _ _ ⟨Value.ref (s.heap.objs.size + 1) :: us, []⟩ (Value.ref (s.heap.objs.size + 1) :: us) _ _ E (hr.make C us []).r (hr.make C us []).g
    (I2.env0.make C us []) hb' r2 hq) fun r s' hq' => ?_))
  cases r with
  | error e => exact hx pins σ _ _ e s' I2 hq'
  | ok fl =>
    cases fl with
    | ret u =>
      obtain ⟨v, H', I3, rv, ev, q3⟩ := I2.after hq'
      subst ev
      exact ⟨rv, ⟨V.ref (s.heap.objs.size + 1), H', I3, rfl, q3⟩⟩
    | next => exact False.elim hq'
    | brk => exact False.elim hq'
    | cont => exact False.elim hq'
theorem pe_makeT (M : Mk X.K C f) (F : FnOkG X.prog X.w X.K X.mg X.base CX k f fd ps sp) (hr : RoomG (k + 1) X.A) (hg : Gl X x) (hm : X.mg x = some (.ref C)) (hb : Binds X.K fd ps []) (hx : Passes CX X E)
    (ha : PA X (e :: es) t) (hdb : (x == ("__debug__" : Str)) = false := by decide) (he : starEach (e :: es) X.env = (false, eval e X.env) :: starEach es X.env := by rfl) (hpl : (backTo pos (starEach es X.env)).any (·.1) = false := by rfl) :
    PE X (.Call (.Name x p) (e :: es) [] pos) (tMake C sp [] E t) := by
  refine ⟨fun pins s σ H Q I h => ?_⟩
  refine wpAny_Call_Name_kw (ld_glob I hg hm ?_ hdb)
  refine PySem.W.callWith_K (h₀ := X.base) I.ok.mod.kin M.kp (thn (ha.run pos pins s σ H _ I h) fun us s1 ⟨vs, H1, I1, r, q⟩ => ⟨I1.kIn, ?_⟩) he hpl
  exact run_makeT M F hr hb hx I1 r fun x dx h1 h2 h3 => by have := q x dx h1 h2 h3; rw [List.append_nil] at this; exact this
end
/-! ### facts of defs, methods, makers -/
structure AtM (K : PySem.W.Frag) (c m q : Str) (st : Stmt) (ps : List Str) (C f : Addr) (fd : FuncData) : Prop where
  n : PySem.W.nsIn K mainGlobals c = some (some (.ref C))
  cl : Cls K C
  me : Meth K C m f
  F : Fun K m q st f fd
  b : Binds K fd ps []
structure OkM (P : Program) (w : World) (K : PySem.W.Frag) (mg : Str → Option Value) (base : Heap) (k : Nat) (c m q : Str) (st : Stmt) (ps : List Str) (n : Nat) (sp : SpD) : Prop where
  ex : ∃ C f fd, AtM K c m q st ps C f fd ∧ FnOkG P w K mg base CX0 k f fd ps (spOf K n sp)
structure AtI (K : PySem.W.Frag) (mg : Str → Option Value) (c q : Str) (st : Stmt) (ps : List Str) (C f : Addr) (fd : FuncData) : Prop where
  n : PySem.W.nsIn K mainGlobals c = some (some (.ref C))
  g : mg c = some (.ref C)
  mke : Mk K C f
  F : Fun K "__init__" q st f fd
  b : Binds K fd ps []
structure OkI (P : Program) (w : World) (K : PySem.W.Frag) (mg : Str → Option Value) (base : Heap) (k : Nat) (c q : Str) (st : Stmt) (ps : List Str) (n : Nat) (sp : SpD) : Prop where
  ex : ∃ C f fd, AtI K mg c q st ps C f fd ∧ FnOkG P w K mg base CX0 k f fd ps (spOf K n sp)
section
variable {X : L2.Cx} {a e o : Expr} {es : List Expr} {wa we : WE} {wr : WA}
theorem de_callT {k : Nat} {st : Stmt} {ps : List Str} {sp : SpD} {x : Str} {p pos : Pos} {n : Nat} (O : Ok X.prog X.w X.K X.mg X.base k x st ps n sp) (hr : RoomG k X.A) (hg : Gl X x)
    (ha : DAn X (e :: es) n wr) (hdb : (x == ("__debug__" : Str)) = false := by decide) (he : starEach (e :: es) X.env = (false, eval e X.env) :: starEach es X.env := by rfl) (hpl : (backTo pos (starEach es X.env)).any (·.1) = false := by rfl) :
    DE X (.Call (.Name x p) (e :: es) [] pos) (dCall (CallT sp) wr) := by
  obtain ⟨f, fd, a, F⟩ := O.ex
  obtain ⟨ta, pa, qa⟩ := ha.ex
  refine ⟨_, pe_callG F hr.r hr.g hg a.g a.kp a.b .nil (pass0 (X := X)) pa hdb he hpl, fun b A own H σ s Ks Q R h kk => ?_⟩
  show ta σ H fun vs H1 => spOf X.K n sp (vs ++ []) H1 Q E0
  refine qa _ _ _ _ _ _ _ _ R h fun A1 o1 H1 vs s1 xs R1 U1 E1 h1 => ?_
  rw [List.append_nil]
  exact callT_run (E1.len.trans h1.1) R1 E1 h1.2 (kk.up U1)
def dMeth (c m : Str) (sp : SpD) (wo : WE) (wr : WA) : WE := fun s Ks => wo s fun s1 x => fldW [c] s1 x fun _ _ fs => getT fs m = none ∧ wr s1 fun s2 xs => CallT sp s2 (x :: xs) Ks
theorem RKE.lookN {K : PySem.W.Frag} {A : Addr → Prop} {own : List (List Addr)} {H : Hp} {f : Str} : ∀ {ws : List (Str × V)} {fs : List (Str × En)}, RKE K A own H ws fs → fs.lookup f = none → ws.lookup f = none
  | [], [], _, _ => rfl
  | (g, w) :: ws, (g', x) :: fs, ⟨e0, h, t⟩, e => by
    obtain rfl : g = g' := e0
    rw [List.lookup_cons] at e ⊢
    cases q : f == g with
    | true => rw [q] at e; cases e
    | false => rw [q] at e; exact RKE.lookN t e
  | [], _ :: _, h, _ => h.elim
  | _ :: _, [], h, _ => h.elim
theorem de_meth {k : Nat} {st : Stmt} {ps : List Str} {sp : SpD} {c m q : Str} {apos pos : Pos} {n : Nat} (O : OkM X.prog X.w X.K X.mg X.base k c m q st ps (n + 1) sp) (hr : RoomG k X.A) {pl : Sem Bool} (ho : DE X o we)
    (ha : DAn X (e :: es) n wr) (hst : starEach (e :: es) X.env = (false, eval e X.env) :: starEach es X.env := by rfl) (hpl : (backTo pos (starEach es X.env)).any (·.1) = false := by rfl)
    (ht : eval (.Call (.Attribute o m apos) (e :: es) [] pos) X.env = (do
      let ov ← eval o X.env
      standAt apos.atName
      let (f, first) ← holding [ov] (getMethod ov m pl)
      callWith pos f first (backTo pos (starEach (e :: es) X.env)) (backToKw pos (keywordEach [] X.env))) := by rfl) :
    DE X (.Call (.Attribute o m apos) (e :: es) [] pos) (dMeth c m sp we wr) := by
  obtain ⟨C, f, fd, a, F⟩ := O.ex
  obtain ⟨to, po, qo⟩ := ho.ex
  obtain ⟨ta, pa, qa⟩ := ha.ex
  refine ⟨_, pe_methT po a.cl a.me F hr a.b (pass0 (X := X)) pa hst hpl ht, fun b A own H σ s Ks Q R h kk => ?_⟩
  show to σ H fun x H1 => ∃ a dx fs, x = .ref a ∧ H1 a = some (.ins C dx fs) ∧ fs.lookup m = none ∧ ta σ H1 fun vs H2 => spOf X.K (n + 1) sp (x :: (vs ++ [])) H2 Q E0
  refine qo _ _ _ _ _ _ _ _ R h fun A1 o1 H1 v1 s1 x1 R1 U1 E1 h1 => ?_
  obtain ⟨j, c', fs, rfl, g, hc, hl, h1⟩ := h1
  cases List.mem_singleton.mp hc
  obtain ⟨p, C', dx, ws, rfl, n', hp, r, _⟩ := obj_at R1 E1 g
  rw [a.n] at n'
  cases n'
  refine ⟨p, dx, ws, rfl, hp, r.lookN ((getT_lookup fs).trans hl), ?_⟩
  refine qa _ _ _ _ _ _ _ _ R1 h1 fun A2 o2 H2 vs s2 xs R2 U2 E2 h2 => ?_
  rw [List.append_nil]
  exact callT_run (xs := .mu j :: xs) (congrArg (· + 1) (E2.len.trans h2.1)) R2 ⟨E1.up U2, E2⟩ h2.2 (kk.up (U1.trans U2))
theorem de_meth0 {k : Nat} {st : Stmt} {ps : List Str} {sp : SpD} {c m q : Str} {apos pos : Pos} (O : OkM X.prog X.w X.K X.mg X.base k c m q st ps 1 sp) (hr : RoomG k X.A) {pl : Sem Bool} (ho : DE X o we)
    (ht : eval (.Call (.Attribute o m apos) [] [] pos) X.env = (do
      let ov ← eval o X.env
      standAt apos.atName
      let (f, first) ← holding [ov] (getMethod ov m pl)
      callWith pos f first (backTo pos (starEach [] X.env)) (backToKw pos (keywordEach [] X.env))) := by rfl) :
    DE X (.Call (.Attribute o m apos) [] [] pos) (dMeth c m sp we aNil) := by
  obtain ⟨C, f, fd, a, F⟩ := O.ex
  obtain ⟨to, po, qo⟩ := ho.ex
  refine ⟨_, pe_methT0 po a.cl a.me F hr a.b (pass0 (X := X)) ht, fun b A own H σ s Ks Q R h kk => ?_⟩
  show to σ H fun x H1 => ∃ a dx fs, x = .ref a ∧ H1 a = some (.ins C dx fs) ∧ fs.lookup m = none ∧ spOf X.K 1 sp (x :: ([] ++ [])) H1 Q E0
  refine qo _ _ _ _ _ _ _ _ R h fun A1 o1 H1 v1 s1 x1 R1 U1 E1 h1 => ?_
  obtain ⟨j, c', fs, rfl, g, hc, hl, h1⟩ := h1
  cases List.mem_singleton.mp hc
  obtain ⟨p, C', dx, ws, rfl, n', hp, r, _⟩ := obj_at R1 E1 g
  rw [a.n] at n'
  cases n'
  exact ⟨p, dx, ws, rfl, hp, r.lookN ((getT_lookup fs).trans hl), callT_run (xs := [.mu j]) rfl R1 ⟨E1, trivial⟩ h1 (kk.up U1)⟩
end
/-! ### a new object at more than one place -/
theorem Rel.newMuL {K : PySem.W.Frag} {b : Bd} {A : Addr → Prop} {own : List (List Addr)} {H H' : Hp} {σ : L2.St} {s : S} (r : Rel K b A own H σ s) (l : List Addr) (hp : ∀ p ∈ l, H p = none) (hnd : l.Nodup) (hx : ∀ a u, H a = some u → H' a = some u) (hn : ∀ p ∈ l, H' p ≠ none) (m : MO)
    (hm : ∀ (A' : Addr → Prop) (own' : List (List Addr)), Up A own H A' own' H' → MR K A' own' H' l m) :
    Rel K b (fun a => A a ∨ a ∈ l) (own ++ [l]) H' σ { s with ms := s.ms ++ [m] } ∧ Up A own H (fun a => A a ∨ a ∈ l) (own ++ [l]) H' ∧ go (own ++ [l]) s.ms.length = l := by
  have gl : ∀ k, go (own ++ [l]) k = if k < own.length then go own k else if k = own.length then l else [] := fun k => by
    rw [go_app]
    by_cases h : k < own.length
    · rw [if_pos h, if_pos h]
    · rw [if_neg h, if_neg h]
      by_cases h2 : k = own.length
      · subst h2; rw [Nat.sub_self, if_pos rfl]; rfl
      · rw [if_neg h2]; exact go_ge _ _ (by simp; omega)
  have gml : ∀ k, gm (s.ms ++ [m]) k = if k < own.length then gm s.ms k else if k = own.length then m else .gone := fun k => by
    rw [gm_app, ← r.ol]
    by_cases h : k < own.length
    · rw [if_pos h, if_pos h]
    · rw [if_neg h, if_neg h]
      by_cases h2 : k = own.length
      · subst h2; rw [Nat.sub_self, if_pos rfl]; rfl
      · rw [if_neg h2]; exact gm_ge _ _ (by simp; omega)
  have u : Up A own H (fun a => A a ∨ a ∈ l) (own ++ [l]) H' := ⟨fun a o n h => ⟨hx _ _ h, fun z => by
      rcases z with z | z
      · exact n z
      · rw [hp a z] at h; cases h⟩, fun k a q h => by
      rw [gl]
      by_cases h1 : k < own.length
      · rw [if_pos h1]; exact h
      · rw [go_ge _ _ (by omega)] at h; cases h⟩
  have np : ∀ k p, p ∈ l → p ∉ go own k := fun k p hl h => r.al p (r.oa k p h) (hp p hl)
  refine ⟨⟨⟨by simp [r.ol], fun k => ?_, fun k j a h1 h2 => ?_, fun k => ?_, fun k a h => ?_, fun a h => ?_⟩, r.len, fun i => (r.sl i).imp id fun ⟨v, e, h⟩ => ⟨v, e, h.up u⟩, fun a h => .inl (r.ge a h), fun a o n h => hx _ _ (r.fr a o n h), fun k a h => ?_, ?_, ?_, fun a h => ?_, r.a0⟩, u, ?_⟩
  · rw [gl, gml]
    by_cases h1 : k < own.length
    · rw [if_pos h1, if_pos h1]; exact (r.mr k).up u fun a o _ h => hx a o h
    · rw [if_neg h1, if_neg h1]
      by_cases h2 : k = own.length
      · rw [if_pos h2, if_pos h2]; exact hm _ _ u
      · rw [if_neg h2, if_neg h2]; trivial
  · rw [gl] at h1 h2
    by_cases k1 : k < own.length
    · rw [if_pos k1] at h1
      by_cases j1 : j < own.length
      · rw [if_pos j1] at h2; exact r.dj k j a h1 h2
      · rw [if_neg j1] at h2
        by_cases j2 : j = own.length
        · rw [if_pos j2] at h2; exact (np _ _ h2 h1).elim
        · rw [if_neg j2] at h2; cases h2
    · rw [if_neg k1] at h1
      by_cases k2 : k = own.length
      · rw [if_pos k2] at h1
        by_cases j1 : j < own.length
        · rw [if_pos j1] at h2; exact (np _ _ h1 h2).elim
        · rw [if_neg j1] at h2
          by_cases j2 : j = own.length
          · omega
          · rw [if_neg j2] at h2; cases h2
      · rw [if_neg k2] at h1; cases h1
  · rw [gl]
    split
    · exact r.ld k
    · split
      · exact hnd
      · exact List.nodup_nil
  · rw [gl] at h
    split at h
    · exact .inl (r.oa k a h)
    · split at h
      · exact .inr h
      · cases h
  · rcases h with h | h
    · intro z
      cases q : H a with
      | none => exact r.al a h q
      | some o => rw [hx a o q] at z; cases z
    · exact hn a h
  · rw [gl] at h
    split at h
    · exact r.fo k a h
    · split at h
      · exact .inr (r.fresh0 (hp a h))
      · cases h
  · rw [List.take_append_of_le_length r.npl]; exact r.pre
  · rw [List.length_append]; have := r.npl; show s.np ≤ _; omega
  · rcases h with h | h
    · exact r.lim a h
    · exact .inr (r.fresh0 (hp a h))
  · rw [gl, ← r.ol, if_neg (Nat.lt_irrefl _), if_pos rfl]
section
variable {X : L2.Cx} {a e o : Expr} {es : List Expr} {wa we : WE} {wr : WA}
def dMake (c : Str) (sp : SpD) (wr : WA) : WE := fun s Ks => wr s fun s1 xs => sp (.mu s1.ms.length :: xs) (s1.ms ++ [.ins (.obj c) []]) fun ms' r => r = .da .none ∧ Ks ⟨s1.es, ms', s1.np⟩ (.mu s1.ms.length)
theorem de_make {k : Nat} {st : Stmt} {ps : List Str} {sp : SpD} {c q : Str} {p pos : Pos} {n : Nat} (O : OkI X.prog X.w X.K X.mg X.base k c q st ps (n + 1) sp) (hr : RoomG (k + 1) X.A) (hg : Gl X c)
    (ha : DAn X (e :: es) n wr) (hdb : (c == ("__debug__" : Str)) = false := by decide) (he : starEach (e :: es) X.env = (false, eval e X.env) :: starEach es X.env := by rfl) (hpl : (backTo pos (starEach es X.env)).any (·.1) = false := by rfl) :
    DE X (.Call (.Name c p) (e :: es) [] pos) (dMake c sp wr) := by
  obtain ⟨C, f, fd, a, F⟩ := O.ex
  obtain ⟨ta, pa, qa⟩ := ha.ex
  refine ⟨_, pe_makeT a.mke F hr hg a.g a.b (pass0 (X := X)) pa hdb he hpl, fun b A own H σ s Ks Q R h kk => ?_⟩
  show ta σ H fun vs H1 => ∀ x dx, H1 x = none → H1 dx = none → dx ≠ x → spOf X.K (n + 1) sp (.ref x :: (vs ++ [])) (upd (upd H1 dx (.own x)) x (.ins C dx [])) (fun v H2 => v = .non ∧ Q (.ref x) H2) E0
  refine qa _ _ _ _ _ _ _ _ R h fun A1 o1 H1 vs s1 xs R1 U1 E1 h1 => ?_
  intro x dx hx hdx ne
  rw [List.append_nil]
  obtain ⟨R2, U2, g2⟩ := R1.newMuL (H' := upd (upd H1 dx (.own x)) x (.ins C dx [])) [x, dx] (fun p hp => by
    rcases List.mem_cons.mp hp with rfl | hp
    · exact hx
    · cases List.mem_singleton.mp hp; exact hdx) (List.nodup_cons.mpr ⟨fun z => ne (List.mem_singleton.mp z).symm, by simp⟩) (fun a u h => by
    rw [upd_ne (ne_of_none h hx), upd_ne (ne_of_none h hdx)]; exact h) (fun p hp => by
    rcases List.mem_cons.mp hp with rfl | hp
    · rw [upd_same]; intro z; cases z
    · cases List.mem_singleton.mp hp; rw [upd_ne ne, upd_same]; intro z; cases z) (.ins (.obj c) []) (fun A' own' u => ⟨x, [dx], [], rfl, ⟨C, dx, a.n, rfl, upd_same, by rw [upd_ne ne, upd_same]⟩, trivial⟩)
  refine callT_run (s := { s1 with ms := s1.ms ++ [.ins (.obj c) []] }) (xs := .mu s1.ms.length :: xs) (Ks := fun s' r => r = .da .none ∧ Ks s' (.mu s1.ms.length)) (congrArg (· + 1) (E1.len.trans h1.1)) R2 ⟨⟨x, [dx], g2, rfl⟩, E1.up U2⟩ h1.2 ?_
  intro A3 o3 H3 v3 s3 x3 R3 U3 E3 h3
  obtain ⟨rfl, h3⟩ := h3
  cases E3
  exact ⟨rfl, kk _ _ _ _ _ (.mu s1.ms.length) R3 ((U1.trans U2).trans U3) ⟨x, [dx], U3.ow _ _ _ g2, rfl⟩ h3⟩
end
/-! ### loops and cuts that keep all that changes -/
def clA (kl : List Nat) (s : S) : S := ⟨killL kl s.es, s.ms, s.np⟩
theorem Rel.clA {K : PySem.W.Frag} {b : Bd} {A : Addr → Prop} {own : List (List Addr)} {H : Hp} {σ : L2.St} {s : S} (r : Rel K b A own H σ s) (kl : List Nat) : Rel K b A own H σ (clA kl s) := by
  refine r.slots (by rw [killL_length]; exact r.len) fun i => ?_
  rcases gt_killL kl s.es i with q | ⟨_, q⟩
  · exact .inl q
  · rw [q]; exact r.sl i
section
variable {X : L2.Cx} {a b c e : Expr} {wa wb we : WE} {wt : WT} {w u : WS} {sts : List Stmt} {tg : Expr} {pos : Pos}
def sCutA (kl : List Nat) (w u : WS) : WS := fun s D => ∃ M : S → Prop, w s { D with nx := fun s1 => M (clA kl s1) } ∧ ∀ s1, M s1 → u s1 D
theorem dss_cutA {st : Stmt} (kl : List Nat) (h1 : DS X st w) (h2 : DSs X sts u) : DSs X (st :: sts) (sCutA kl w u) := by
  obtain ⟨t1, p1, q1⟩ := h1.ex
  obtain ⟨t2, p2, q2⟩ := h2.ex
  refine ⟨_, pss_cons p1 p2, fun b A own H σ s D E R h mt => ?_⟩
  obtain ⟨M, h1, h2⟩ := h
  show t1 { E with nx := t2 E } σ H
  exact q1 _ _ _ _ _ _ _ _ R h1 ⟨fun A' o' H' σ' s' R' k h' => q2 _ _ _ _ _ _ _ _ (R'.clA kl) (h2 _ h') (mt.up k), mt.rt, mt.bk, mt.ct⟩
def sForA (kl : List Nat) (wi : WI) (wg : WG) (wb : WS) : WS := fun s D => wi s fun s1 ds => ∃ I : Nat → S → Prop, I 0 (clA kl s1) ∧
  (∀ i d s2, ds[i]? = some d → I i s2 → wg (.da d) s2 fun s3 => wb s3 { D with nx := fun s4 => I (i + 1) (clA kl s4), ct := fun s4 => I (i + 1) (clA kl s4), bk := D.nx }) ∧
  (∀ s2, I ds.length s2 → D.nx s2)
theorem ds_forA (kl : List Nat) {wi : WI} {js : List Nat} {wg : WG} {it : Expr} (hp : PassesOwn (model X.prog X.w) X.A X.env X.xe) (hc : X.calm = true) (hi : DI X tg it wi) (hg : DG X tg js wg) (hb : DSs X sts w)
    (hs : ∀ x, foldedSetIterable it X.env x = pure x := by intro _; rfl) : DS X (.For tg it sts [] pos) (sForA kl wi wg w) := by
  obtain ⟨ti, pi, qi⟩ := hi.ex
  obtain ⟨g, pg, qg⟩ := hg.ex
  obtain ⟨tb, pb, qb⟩ := hb.ex
  refine ⟨_, ps_for hp hc pi pg pb hs, fun b A own H σ s D E R h mt => ?_⟩
  show ti σ H fun J H1 => ∃ W : Nat → Nat → L2.St → Hp → Prop, (∃ m, W 0 m σ H1) ∧ ∀ i m σ H, W i m σ H →
    (J.stop i H ∧ E.nx σ H) ∨ (J.go i H ∧ ∃ N : L2.St → Hp → Prop, (∀ σ' H', N σ' H' → ∃ m', m' < m ∧ W (i + 1) m' σ' H') ∧ ∀ x H', J.yld i H x H' → g x σ H' fun σ2 H2 => tb { E with nx := N, ct := N, bk := E.nx } σ2 H2)
  refine qi _ _ _ _ _ _ _ _ R h fun A1 o1 H1 s1 ds J R1 U1 wk h1 => ?_
  obtain ⟨I, h0, hs, hd⟩ := h1
  refine ⟨fun i k σ2 H2 => k = ds.length - i ∧ i ≤ ds.length ∧ ∃ (A2 : Addr → Prop) (o2 : List (List Addr)) (s2 : S), Rel X.K b A2 o2 H2 σ2 s2 ∧ Kp A1 H1 A2 H2 ∧ I i s2, ⟨_, rfl, Nat.zero_le _, A1, _, _, R1.clA kl, Kp.refl, h0⟩, ?_⟩
  rintro i k σ2 H2 ⟨rfl, hi, A2, o2, s2, R2, kp, hI⟩
  obtain ⟨wstop, wgo⟩ := wk A2 H2 kp i
  by_cases hlt : i < ds.length
  · obtain ⟨hgo, hy⟩ := wgo ds[i] (List.getElem?_eq_getElem hlt)
    refine .inr ⟨hgo, fun σ' H' => ∃ (A3 : Addr → Prop) (o3 : List (List Addr)) (s3 : S), Rel X.K b A3 o3 H' σ' s3 ∧ Kp A1 H1 A3 H' ∧ I (i + 1) s3, fun σ' H' ⟨A3, o3, s3, r3, k3, i3⟩ => ⟨ds.length - (i + 1), by omega, rfl, hlt, A3, o3, s3, r3, k3, i3⟩, fun x H3 hx => ?_⟩
    obtain ⟨R3, U3, rx⟩ := hy x H3 hx o2 σ2 s2 R2
    refine qg _ _ _ _ _ _ _ _ _ _ R3 (show ER X.K A2 o2 H3 x (.da ds[i]) from rx) (hs i _ s2 (List.getElem?_eq_getElem hlt) hI) fun A4 o4 H4 σ4 s4 R4 U4 _ h4 => ?_
    have kp4 : Kp A1 H1 A4 H4 := (kp.trans U3.kp).trans U4.kp
    exact qb _ _ _ _ _ _ _ _ R4 h4 ⟨fun A5 o5 H5 σ5 s5 R5 k5 h5 => ⟨A5, _, _, R5.clA kl, kp4.trans k5, h5⟩, fun A5 o5 H5 σ5 s5 v x R5 k5 e5 h5 => mt.rt _ _ _ _ _ _ _ R5 ((U1.kp.trans kp4).trans k5) e5 h5,
      fun A5 o5 H5 σ5 s5 R5 k5 h5 => mt.nx _ _ _ _ _ R5 ((U1.kp.trans kp4).trans k5) h5, fun A5 o5 H5 σ5 s5 R5 k5 h5 => ⟨A5, _, _, R5.clA kl, kp4.trans k5, h5⟩⟩
  · have e : i = ds.length := by omega
    subst e
    exact .inl ⟨wstop (Nat.le_refl _), mt.nx _ _ _ _ _ R2 (U1.kp.trans kp) (hd _ hI)⟩
def sWhileA (kl : List Nat) (wt : WT) (wb : WS) : WS := fun s D => ∃ (I : S → Prop) (μ : S → Nat), I (clA kl s) ∧
  ∀ s2, I s2 → wt s2 fun s3 c => (c = true → wb s3 { D with nx := fun s4 => I (clA kl s4) ∧ μ (clA kl s4) < μ s2, ct := fun s4 => I (clA kl s4) ∧ μ (clA kl s4) < μ s2, bk := D.nx }) ∧ (c = false → D.nx s3)
theorem ds_whileA (kl : List Nat) (hp : PassesOwn (model X.prog X.w) X.A X.env X.xe) (hc : DT X c wt) (hb : DSs X sts w) : DS X (.While c sts [] pos) (sWhileA kl wt w) := by
  obtain ⟨tc, pc, qc⟩ := hc.ex
  obtain ⟨tb, pb, qb⟩ := hb.ex
  refine ⟨_, ps_while hp pc pb, fun b A own H σ s D E R h mt => ?_⟩
  show ∃ W : Nat → L2.St → Hp → Prop, (∃ m, W m σ H) ∧ ∀ m σ H, W m σ H →
    tc σ H fun b H1 => if b = true then ∃ N : L2.St → Hp → Prop, (∀ σ' H', N σ' H' → ∃ m', m' < m ∧ W m' σ' H') ∧ tb { E with nx := N, ct := N, bk := E.nx } σ H1 else E.nx σ H1
  obtain ⟨I, μ, h0, hs⟩ := h
  refine ⟨fun k σ2 H2 => ∃ (A2 : Addr → Prop) (o2 : List (List Addr)) (s2 : S), k = μ s2 ∧ Rel X.K b A2 o2 H2 σ2 s2 ∧ Kp A H A2 H2 ∧ I s2, ⟨_, A, _, _, rfl, R.clA kl, Kp.refl, h0⟩, ?_⟩
  rintro k σ2 H2 ⟨A2, o2, s2, rfl, R2, kp, hI⟩
  refine qc _ _ _ _ _ _ _ _ R2 (hs s2 hI) fun A3 o3 H3 s3 c R3 U3 h3 => ?_
  have kp3 := kp.trans U3.kp
  cases c with
  | true =>
    rw [if_pos rfl]
    refine ⟨fun σ' H' => ∃ (A4 : Addr → Prop) (o4 : List (List Addr)) (s4 : S), Rel X.K b A4 o4 H' σ' s4 ∧ Kp A H A4 H' ∧ I s4 ∧ μ s4 < μ s2, fun σ' H' ⟨A4, o4, s4, r4, k4, i4, l4⟩ => ⟨_, l4, A4, o4, s4, rfl, r4, k4, i4⟩, ?_⟩
    exact qb _ _ _ _ _ _ _ _ R3 (h3.1 rfl) ⟨fun A5 o5 H5 σ5 s5 R5 k5 h5 => ⟨A5, _, _, R5.clA kl, kp3.trans k5, h5.1, h5.2⟩, fun A5 o5 H5 σ5 s5 v x R5 k5 e5 h5 => mt.rt _ _ _ _ _ _ _ R5 (kp3.trans k5) e5 h5,
      fun A5 o5 H5 σ5 s5 R5 k5 h5 => mt.nx _ _ _ _ _ R5 (kp3.trans k5) h5, fun A5 o5 H5 σ5 s5 R5 k5 h5 => ⟨A5, _, _, R5.clA kl, kp3.trans k5, h5.1, h5.2⟩⟩
  | false => rw [if_neg (by decide)]; exact mt.nx _ _ _ _ _ R3 kp3 (h3.2 rfl)
end
/-! ### defs whose ends keep all that changes -/
def endT (Ks : List MO → En → Prop) : Dn where
  nx := fun s => Ks s.ms (.da .none)
  rt := fun s x => onE x (Ks s.ms)
  bk := fun _ => False
  ct := fun _ => False
section
variable {P : Program} {w : World} {K : PySem.W.Frag} {mg : Str → Option Value} {base : Heap}
theorem fn_dataT {x qual : Str} {st : Stmt} {f : Addr} {fd : FuncData} {N ps : List Str} {k : Nat} {sp : SpD} (F : Fun K x qual st f fd) (Sc : FnScope N ps (defScope st)) (W : WS)
    (hb : ∀ (cdv : Value) (A : Around) (outer : List Env) (s : Shared) (H : Hp) (E : XK), RoomG k (A.deeper (PyProof.Rows.envOfC qual (defScope st) s.heap.objs.size f cdv)) → DSs (cxOf CX0 P w K mg base N qual (defScope st) f cdv A outer s H E).nox (defBody st) W)
    (hsp : ∀ xs ms Ks, sp xs ms Ks → xs.length = ps.length → W ⟨xs ++ nos (N.length - ps.length), ms, ms.length⟩ (endT Ks)) : FnOkG P w K mg base CX0 (k + 1) f fd ps (spOf K ps.length sp) := by
  refine fun_okG F Sc (fun vs H Q E h => ?_) (fun cdv A outer s H vs Q E hr h => ?_)
  · obtain ⟨_, _, _, _, _, hn, _⟩ := h
    exact hn
  · obtain ⟨Av, own, xs, ms, Ks, hn, he, ho, hs, k1⟩ := h
    obtain ⟨t, pt, qt⟩ := (hb cdv A outer s H E hr).ex
    have hxl : xs.length = ps.length := he.len.symm.trans hn
    have hN : ps.length ≤ N.length := by
      have := congrArg List.length Sc.pre
      rw [List.length_take] at this
      omega
    refine ⟨t, pt, ?_⟩
    have R : Rel K ⟨H, own, Av⟩ Av own H (start N vs) ⟨xs ++ nos (N.length - ps.length), ms, ms.length⟩ := by
      refine ⟨ho, ?_, fun i => ?_, fun a h => h, fun a o n h => h, fun k a h => .inl ⟨k, h⟩, ?_, ?_, fun a h => .inl h, ho.al⟩
      · show (vs.map some ++ List.replicate (N.length - vs.length) none).length = _
        simp [nos_length, hn, hxl]
      · show gt (xs ++ nos (N.length - ps.length)) i = .no ∨ ∃ v, (vs.map some ++ List.replicate (N.length - vs.length) none)[i]? = some (some v) ∧ _
        rw [hn]
        exact start_at N he _ i
      · show own.take ms.length = own
        rw [← ho.ol]; exact List.take_length
      · show ms.length ≤ own.length
        rw [ho.ol]; exact Nat.le_refl _
    have fin : ∀ (A' : Addr → Prop) (own' : List (List Addr)) (H' : Hp) (σ' : L2.St) (s' : S) (v : V) (x : En), Rel K ⟨H, own, Av⟩ A' own' H' σ' s' → ER K A' own' H' v x → Ks s'.ms x → Q v H' := by
      intro A' own' H' σ' s' v x R' ex hx
      have np : own.length = s'.np := R'.np
      have hpre : own'.take own.length = own := by rw [np]; exact R'.pre
      exact k1 A' own' H' v s'.ms x R'.toOwn hpre R'.ge R'.lim (fun a o n h => R'.fr a o n h) R'.fo ex hx
    refine qt _ _ _ _ _ _ (endT Ks) _ R (hsp xs ms Ks hs hxl) ⟨fun A' own' H' σ' s' R' _ h => fin A' own' H' σ' s' .non (.da .none) R' .non h, fun A' own' H' σ' s' v x R' _ ex h => fin A' own' H' σ' s' v x R' ex (onE_inv h).2, fun _ _ _ _ _ _ _ h => h.elim, fun _ _ _ _ _ _ _ h => h.elim⟩
theorem ok_dataT {x : Str} {st : Stmt} {N ps : List Str} {k n n0 : Nat} {sp : SpD} (hF : ∃ f fd, At K mg x st ps f fd) (Sc : FnScope N ps (defScope st)) (W : WS)
    (hb : ∀ (f : Addr) (cdv : Value) (A : Around) (outer : List Env) (s : Shared) (H : Hp) (E : XK), RoomG k (A.deeper (PyProof.Rows.envOfC x (defScope st) s.heap.objs.size f cdv)) → DSs (cxOf CX0 P w K mg base N x (defScope st) f cdv A outer s H E).nox (defBody st) W)
    (hsp : ∀ xs ms Ks, sp xs ms Ks → xs.length = n → W (st0 xs n0 ms ms.length) (endT Ks)) (hn : ps.length = n := by rfl) (hn0 : N.length - ps.length = n0 := by rfl) : Ok P w K mg base (k + 1) x st ps n sp := by
  obtain ⟨f, fd, a⟩ := hF
  subst hn
  subst hn0
  exact ⟨f, fd, a, fn_dataT a.F Sc W (hb f) hsp⟩
theorem ok_dataM {c m q : Str} {st : Stmt} {N ps : List Str} {k n n0 : Nat} {sp : SpD} (hF : ∃ C f fd, AtM K c m q st ps C f fd) (Sc : FnScope N ps (defScope st)) (W : WS)
    (hb : ∀ (f : Addr) (cdv : Value) (A : Around) (outer : List Env) (s : Shared) (H : Hp) (E : XK), RoomG k (A.deeper (PyProof.Rows.envOfC q (defScope st) s.heap.objs.size f cdv)) → DSs (cxOf CX0 P w K mg base N q (defScope st) f cdv A outer s H E).nox (defBody st) W)
    (hsp : ∀ xs ms Ks, sp xs ms Ks → xs.length = n → W (st0 xs n0 ms ms.length) (endT Ks)) (hn : ps.length = n := by rfl) (hn0 : N.length - ps.length = n0 := by rfl) : OkM P w K mg base (k + 1) c m q st ps n sp := by
  obtain ⟨C, f, fd, a⟩ := hF
  subst hn
  subst hn0
  exact ⟨C, f, fd, a, fn_dataT a.F Sc W (hb f) hsp⟩
theorem ok_dataI {c q : Str} {st : Stmt} {N ps : List Str} {k n n0 : Nat} {sp : SpD} (hF : ∃ C f fd, AtI K mg c q st ps C f fd) (Sc : FnScope N ps (defScope st)) (W : WS)
    (hb : ∀ (f : Addr) (cdv : Value) (A : Around) (outer : List Env) (s : Shared) (H : Hp) (E : XK), RoomG k (A.deeper (PyProof.Rows.envOfC q (defScope st) s.heap.objs.size f cdv)) → DSs (cxOf CX0 P w K mg base N q (defScope st) f cdv A outer s H E).nox (defBody st) W)
    (hsp : ∀ xs ms Ks, sp xs ms Ks → xs.length = n → W (st0 xs n0 ms ms.length) (endT Ks)) (hn : ps.length = n := by rfl) (hn0 : N.length - ps.length = n0 := by rfl) : OkI P w K mg base (k + 1) c q st ps n sp := by
  obtain ⟨C, f, fd, a⟩ := hF
  subst hn
  subst hn0
  exact ⟨C, f, fd, a, fn_dataT a.F Sc W (hb f) hsp⟩
end
/-! ### what changes is closed: no thing leads beyond -/
def Clo (ms : List MO) : Prop := takM ms.length ms.length ms = ms
theorem RKE.lt {K : PySem.W.Frag} {A : Addr → Prop} {own : List (List Addr)} {H : Hp} {n : Nat} (hn : own.length = n) : ∀ {ws : List (Str × V)} {fs : List (Str × En)}, RKE K A own H ws fs → limF n fs = fs
  | [], [], _ => rfl
  | _ :: _, (f, x) :: fs, ⟨_, h, t⟩ => by
    show (f, limE n x) :: limF n fs = _
    rw [RKE.lt hn t]
    cases x with
    | no => rfl
    | da d => rfl
    | mu k =>
      obtain ⟨a, r, g, _⟩ := h
      have : k < own.length := Nat.lt_of_not_le fun z => by rw [go_ge _ _ z] at g; cases g
      show (f, bif Nat.blt k n then En.mu k else .no) :: fs = _
      rw [show Nat.blt k n = true from by rw [← hn]; simpa using this]
      rfl
  | [], _ :: _, h => h.elim
  | _ :: _, [], h => h.elim
theorem takM_id (m : Nat) : ∀ (n : Nat) (l : List MO), l.length ≤ n → (∀ k, limM m (gm l k) = gm l k) → takM m n l = l
  | 0, [], _, _ => rfl
  | 0, _ :: _, h, _ => by simp at h
  | n + 1, [], _, _ => rfl
  | n + 1, x :: r, h, q => by
    show limM m x :: takM m n r = _
    rw [show limM m x = x from q 0, takM_id m n r (by simpa using h) fun k => q (k + 1)]
theorem Rel.clo {K : PySem.W.Frag} {b : Bd} {A : Addr → Prop} {own : List (List Addr)} {H : Hp} {σ : L2.St} {s : S} (R : Rel K b A own H σ s) : Clo s.ms := by
  refine takM_id _ _ _ (Nat.le_refl _) fun k => ?_
  have m := R.mr k
  cases q : gm s.ms k with
  | gone => rfl
  | lst _ => rfl
  | dct _ => rfl
  | rnd _ => rfl
  | box _ => rfl
  | tab _ => rfl
  | ins C fs =>
    rw [q] at m
    obtain ⟨a, r, ws, _, _, e⟩ := m
    show MO.ins C (limF s.ms.length fs) = _
    rw [RKE.lt R.ol e]
theorem Clo.app {ms r : List MO} (h : Clo ms) : takM ms.length ms.length (ms ++ r) = ms := by
  rw [takM_app _ _ _ rfl]; exact h
section
variable {X : L2.Cx} {tg e : Expr} {wi : WI} {sts : List Stmt} {w : WS}
theorem di_cl (h : DI X tg e wi) : DI X tg e (fun s Ks => wi s fun s1 ds => Clo s1.ms → Ks s1 ds) := by
  obtain ⟨t, p, q⟩ := h.ex
  exact ⟨t, p, fun b A own H σ s Ks Q R h k => q _ _ _ _ _ _ _ _ R h fun A' own' H' s' ds J R' U' wk h' => k _ _ _ _ _ _ R' U' wk (h' R'.clo)⟩
def sClo (w : WS) : WS := fun s D => Clo s.ms → w s D
theorem dss_clo (h : DSs X sts w) : DSs X sts (sClo w) := by
  obtain ⟨t, p, q⟩ := h.ex
  exact ⟨t, p, fun b A own H σ s D E R h m => q _ _ _ _ _ _ _ _ R (h R.clo) m⟩
end
/-! ### dicts, of data or of things that change -/
def putT {α : Type} (fs : List (Str × α)) (f : Str) (x : α) : List (Str × α) := if (fs.any fun q => decide (q.1 = f)) = true then fs.map (fun q => if q.1 = f then (q.1, x) else q) else fs ++ [(f, x)]
def mergeT {α : Type} (fs more : List (Str × α)) : List (Str × α) := more.foldl (fun acc q => putT acc q.1 q.2) fs
def keyed (ws : List (Str × V)) : List (Key × V) := ws.map fun p => (.inr p.1, p.2)
/-- the value behind a key; none: no dict -/
def dvl (ms : List MO) (j : Nat) (key : Key) : Option (Option En) := match gm ms j with
  | .dct kvs => some ((findD kvs key).map En.da)
  | .ins .dct fs => some (match key with | .inr f => getT fs f | .inl _ => none)
  | _ => none
section
variable {K : PySem.W.Frag} {b : Bd} {A : Addr → Prop} {own : List (List Addr)} {H : Hp} {σ : L2.St} {s : S}
theorem rke_find {f : Str} : ∀ {ws : List (Str × V)} {fs : List (Str × En)}, RKE K A own H ws fs → (getT fs f = none ∧ valV (keyed ws) (.inr f) = none) ∨ ∃ y v, getT fs f = some y ∧ valV (keyed ws) (.inr f) = some v ∧ ER K A own H v y
  | [], [], _ => .inl ⟨rfl, rfl⟩
  | p :: ws, q :: fs, ⟨e, r, t⟩ => by
    unfold getT
    rw [List.find?_cons]
    show _ ∨ ∃ y v, _ ∧ valV ((.inr p.1, p.2) :: keyed ws) (.inr f) = some v ∧ _
    by_cases h : q.1 = f
    · rw [decide_eq_true h, valV_pos (show (Sum.inr p.1 : Key) = .inr f from congrArg Sum.inr (e.trans h))]; exact .inr ⟨_, _, rfl, rfl, r⟩
    · rw [decide_eq_false h]
      have hk : ¬ (Sum.inr p.1 : Key) = .inr f := fun z => h (e.symm.trans (Sum.inr.inj z))
      rcases rke_find (f := f) t with ⟨q1, q2⟩ | ⟨y, v, q1, q2, q3⟩
      · exact .inl ⟨q1, (valV_neg hk).trans q2⟩
      · exact .inr ⟨y, v, q1, (valV_neg hk).trans q2, q3⟩
  | [], _ :: _, h => h.elim
  | _ :: _, [], h => h.elim
theorem rke_inl {i : Int} : ∀ (ws : List (Str × V)), valV (keyed ws) (.inl i) = none
  | [] => rfl
  | p :: ws => (valV_neg (show ¬ (Sum.inr p.1 : Key) = .inl i from fun z => nomatch z)).trans (rke_inl ws)
theorem rke_any {f : Str} : ∀ {ws : List (Str × V)} {fs : List (Str × En)}, RKE K A own H ws fs → ((keyed ws).any fun kv => decide (kv.1 = (Sum.inr f : Key))) = (fs.any fun q => decide (q.1 = f))
  | [], [], _ => rfl
  | p :: ws, q :: fs, ⟨e, _, t⟩ => by
    show (decide ((Sum.inr p.1 : Key) = .inr f) || (keyed ws).any _) = _
    rw [List.any_cons, rke_any t, show decide ((Sum.inr p.1 : Key) = .inr f) = decide (q.1 = f) from by rw [show p.1 = q.1 from e]; by_cases h : q.1 = f <;> simp [h]]
  | [], _ :: _, h => h.elim
  | _ :: _, [], h => h.elim
theorem rke_map {f : Str} {v : V} {x : En} (r : ER K A own H v x) : ∀ {ws : List (Str × V)} {fs : List (Str × En)}, RKE K A own H ws fs →
    ∃ ws', (keyed ws).map (fun kv => if kv.1 = (Sum.inr f : Key) then (kv.1, v) else kv) = keyed ws' ∧ RKE K A own H ws' (fs.map (fun q => if q.1 = f then (q.1, x) else q))
  | [], [], _ => ⟨[], rfl, trivial⟩
  | p :: ws, q :: fs, ⟨e, r', t⟩ => by
    obtain ⟨ws', h1, h2⟩ := rke_map (f := f) r t
    show ∃ ws'', (if (Sum.inr p.1 : Key) = .inr f then ((Sum.inr p.1 : Key), v) else (.inr p.1, p.2)) :: (keyed ws).map _ = keyed ws'' ∧ _
    rw [List.map_cons]
    by_cases h : q.1 = f
    · rw [if_pos h, if_pos (congrArg Sum.inr (e.trans h))]
      exact ⟨(p.1, v) :: ws', by rw [h1]; rfl, e, r, h2⟩
    · rw [if_neg h, if_neg fun z => h (e.symm.trans (Sum.inr.inj z))]
      exact ⟨p :: ws', by rw [h1]; rfl, e, r', h2⟩
  | [], _ :: _, h => h.elim
  | _ :: _, [], h => h.elim
theorem rke_snoc {f : Str} {v : V} {x : En} (r : ER K A own H v x) : ∀ {ws : List (Str × V)} {fs : List (Str × En)}, RKE K A own H ws fs → RKE K A own H (ws ++ [(f, v)]) (fs ++ [(f, x)])
  | [], [], _ => ⟨rfl, r, trivial⟩
  | _ :: _, _ :: _, ⟨e, r', t⟩ => ⟨e, r', rke_snoc r t⟩
  | [], _ :: _, h => h.elim
  | _ :: _, [], h => h.elim
theorem rke_put {f : Str} {v : V} {x : En} (r : ER K A own H v x) {ws : List (Str × V)} {fs : List (Str × En)} (h : RKE K A own H ws fs) : ∃ ws', putK (keyed ws) (.inr f) v = keyed ws' ∧ RKE K A own H ws' (putT fs f x) := by
  unfold putK putT
  rw [rke_any h]
  split
  · exact rke_map r h
  · exact ⟨ws ++ [(f, v)], by simp [keyed], rke_snoc r h⟩
theorem rke_merge : ∀ {ms : List (Str × V)} {more : List (Str × En)} {ws : List (Str × V)} {fs : List (Str × En)}, RKE K A own H ms more → RKE K A own H ws fs → ∃ ws', mergeK (keyed ws) (keyed ms) = keyed ws' ∧ RKE K A own H ws' (mergeT fs more)
  | [], [], ws, _, _, h => ⟨ws, rfl, h⟩
  | p :: ms, q :: more, ws, fs, ⟨e, r, t⟩, h => by
    obtain ⟨ws', h1, h2⟩ := rke_put (f := q.1) r h
    obtain ⟨ws'', h3, h4⟩ := rke_merge t h2
    refine ⟨ws'', ?_, h4⟩
    show mergeK (putK (keyed ws) (.inr p.1) p.2) (keyed ms) = _
    rw [show p.1 = q.1 from e, h1, h3]
  | [], _ :: _, _, _, h, _ => h.elim
  | _ :: _, [], _, _, h, _ => h.elim
theorem keyed_len (ws : List (Str × V)) : (keyed ws).length = ws.length := by simp [keyed]
/-- a dict of things that change: read, and written -/
theorem dsn_at (R : Rel K b A own H σ s) {v : V} {j : Nat} {fs : List (Str × En)} (E : ER K A own H v (.mu j)) (g : gm s.ms j = .ins .dct fs) :
    ∃ p ws, v = .ref p ∧ H p = some (.dK (keyed ws)) ∧ RKE K A own H ws fs ∧ ∀ (ws' : List (Str × V)) fs', RKE K A own H ws' fs' → Rel K b A own (upd H p (.dK (keyed ws'))) σ (s.sM j (.ins .dct fs')) ∧ Up A own H A own (upd H p (.dK (keyed ws'))) := by
  have m := R.mr j
  rw [g] at m
  obtain ⟨p, r, ws, e1, ⟨rfl, e2⟩, e3⟩ := m
  obtain ⟨p', r, e4, rfl⟩ := E
  rw [e1] at e4
  cases e4
  refine ⟨p, ws, rfl, e2, e3, fun vs' ds' r' => ?_⟩
  refine R.chg j (.ins .dct ds') (fun a o n h => ?_) (fun a h => ?_) (fun u => ?_) (gm_lt (by rw [g]; intro z; cases z))
  · rw [upd_ne]; exact h
    intro z; subst z; exact n (by rw [e1]; simp)
  · rw [e1] at h
    cases List.mem_singleton.mp h
    rw [upd_same]; intro z; cases z
  · rw [e1]; exact ⟨p, [], vs', rfl, ⟨rfl, upd_same⟩, r'.up u⟩
/-- what a dict has behind a key -/
theorem dvl_at (R : Rel K b A own H σ s) {v : V} {j : Nat} {key : Key} {o : Option En} (E : ER K A own H v (.mu j)) (g : dvl s.ms j key = some o) :
    ∃ p ws, v = .ref p ∧ H p = some (.dK ws) ∧ ((o = none ∧ valV ws key = none) ∨ ∃ y u, o = some y ∧ valV ws key = some u ∧ ER K A own H u y) := by
  unfold dvl at g
  split at g
  · rename_i kvs g0
    cases g
    obtain ⟨p, vs, rfl, e2, e3, _, _⟩ := mud_at R E g0
    refine ⟨p, vs, rfl, e2, ?_⟩
    rcases e3.find (k := key) with ⟨q1, q2⟩ | ⟨d, u, q1, q2, q3⟩
    · exact .inl ⟨by rw [q1]; rfl, q2⟩
    · exact .inr ⟨.da d, u, by rw [q1]; rfl, q2, q3⟩
  · rename_i fs g0
    cases g
    obtain ⟨p, ws, rfl, e2, e3, _⟩ := dsn_at R E g0
    refine ⟨p, _, rfl, e2, ?_⟩
    cases key with
    | inl i => exact .inl ⟨rfl, rke_inl ws⟩
    | inr f => exact rke_find e3
  · cases g
end
section
variable {X : L2.Cx} {a c e f : Expr} {es : List Expr} {wa wc we wf : WE} {wr : WA} {pos : Pos}
def dky (x : En) (k : Key → Prop) : Prop := daI x fun kd => onO (keyD kd) k
theorem dky_inv {K : PySem.W.Frag} {A : Addr → Prop} {own : List (List Addr)} {H : Hp} {v : V} {x : En} {k : Key → Prop} (E : ER K A own H v x) (h : dky x k) : ∃ key, v = kV key ∧ k key := by
  obtain ⟨kd, rfl, h⟩ := daI_inv h
  obtain ⟨key, hk, h⟩ := onO_inv h
  exact ⟨key, keyD_rp E hk, h⟩
def dGetG (wd wk : WE) : WE := fun s Ks => wd s fun s1 o => wk s1 fun s2 i => dky i fun key => ∃ j y, o = .mu j ∧ dvl s2.ms j key = some (some y) ∧ Ks s2 y
theorem de_dgetG (hu : X.A.units + 1 < cLine) (ho : DE X a wa) (hi : DE X c wc) (hs : NoSl c := by exact fun _ _ => rfl) : DE X (.Subscript a c pos) (dGetG wa wc) := by
  obtain ⟨ta, pa, qa⟩ := ho.ex
  obtain ⟨tb, pb, qb⟩ := hi.ex
  refine ⟨_, pe_dget hu pa pb hs, fun b A own H σ s Ks Q R h k => ?_⟩
  show ta σ H fun x H1 => tb σ H1 fun y H2 => ∃ a v, x = .ref a ∧ DGet H2 a y (some v) ∧ Q v H2
  refine qa _ _ _ _ _ _ _ _ R h fun A1 o1 H1 v1 s1 x1 R1 U1 E1 h1 => ?_
  refine qb _ _ _ _ _ _ _ _ R1 h1 fun A2 o2 H2 v2 s2 x2 R2 U2 E2 h2 => ?_
  obtain ⟨key, rfl, j, y, rfl, g, h2⟩ := dky_inv E2 h2
  obtain ⟨p, ws, rfl, hp, q⟩ := dvl_at R2 (E1.up U2) g
  rcases q with ⟨q, _⟩ | ⟨y', u, q1, q2, q3⟩
  · cases q
  · cases q1
    exact ⟨p, u, rfl, by rw [← q2]; exact DGet.k hp, k _ _ _ _ _ y R2 (U1.trans U2) q3 h2⟩
def dInG (neg : Bool) (wk wd : WE) : WE := fun s Ks => wk s fun s1 i => wd s1 fun s2 o => dky i fun key => ∃ j r, o = .mu j ∧ dvl s2.ms j key = some r ∧ Ks s2 (.da (.bool (xr neg r.isSome)))
theorem inG_run {neg : Bool} {ta tb : TE} (qa : ∀ (b : Bd) (A : Addr → Prop) (own : List (List Addr)) (H : Hp) (σ : L2.St) (s : S) (Ks : S → En → Prop) (Q : VK), Rel X.K b A own H σ s → wa s Ks → PostE X.K b A own H σ Ks Q → ta σ H Q)
    (qb : ∀ (b : Bd) (A : Addr → Prop) (own : List (List Addr)) (H : Hp) (σ : L2.St) (s : S) (Ks : S → En → Prop) (Q : VK), Rel X.K b A own H σ s → wc s Ks → PostE X.K b A own H σ Ks Q → tb σ H Q)
    (b : Bd) (A : Addr → Prop) (own : List (List Addr)) (H : Hp) (σ : L2.St) (s : S) (Ks : S → En → Prop) (Q : VK) (R : Rel X.K b A own H σ s) (h : dInG neg wc wa s Ks) (k : PostE X.K b A own H σ Ks Q) :
    tb σ H fun y H1 => ta σ H1 fun x H2 => ∃ a o, x = .ref a ∧ DGet H2 a y o ∧ Q (.bl (xr neg o.isSome)) H2 := by
  refine qb _ _ _ _ _ _ _ _ R h fun A1 o1 H1 v1 s1 x1 R1 U1 E1 h1 => ?_
  refine qa _ _ _ _ _ _ _ _ R1 h1 fun A2 o2 H2 v2 s2 x2 R2 U2 E2 h2 => ?_
  obtain ⟨key, rfl, j, r, rfl, g, h2⟩ := dky_inv (E1.up U2) h2
  obtain ⟨p, ws, rfl, hp, q⟩ := dvl_at R2 E2 g
  refine ⟨p, _, rfl, DGet.k hp, ?_⟩
  rcases q with ⟨q, q2⟩ | ⟨y', u, q1, q2, q3⟩
  · rw [q2]; rw [q] at h2; exact (k.up (U1.trans U2)).da R2 Up.refl (.bl _) h2
  · rw [q2]; rw [q1] at h2; exact (k.up (U1.trans U2)).da R2 Up.refl (.bl _) h2
theorem de_dinG (hu : X.A.units + 1 < cLine) (hi : DE X c wc) (ho : DE X a wa) (hm : behindInMarks .In a = false := by rfl) : DE X (.Compare c [.In] [a] pos) (dInG false wc wa) := by
  obtain ⟨ta, pa, qa⟩ := ho.ex
  obtain ⟨tb, pb, qb⟩ := hi.ex
  exact ⟨_, pe_cmp (pc_din hu pb pa) hm, fun b A own H σ s Ks Q R h k => inG_run (neg := false) qa qb b A own H σ s Ks Q R h k⟩
theorem de_dnotinG (hu : X.A.units + 1 < cLine) (hi : DE X c wc) (ho : DE X a wa) (hm : behindInMarks .NotIn a = false := by rfl) : DE X (.Compare c [.NotIn] [a] pos) (dInG true wc wa) := by
  obtain ⟨ta, pa, qa⟩ := ho.ex
  obtain ⟨tb, pb, qb⟩ := hi.ex
  exact ⟨_, pe_cmp (pc_dnotin hu pb pa) hm, fun b A own H σ s Ks Q R h k => inG_run (neg := true) qa qb b A own H σ s Ks Q R h k⟩
theorem dt_dinG (hu : X.A.units + 1 < cLine) (hi : DE X c wc) (ho : DE X a wa) (hm : behindInMarks .In a = false := by rfl) : DT X (.Compare c [.In] [a] pos) (tT (dInG false wc wa)) := by
  obtain ⟨ta, pa, qa⟩ := ho.ex
  obtain ⟨tb, pb, qb⟩ := hi.ex
  exact ⟨_, pt_cmp (pc_din hu pb pa) hm, tT_run fun b A own H σ s Ks Q R h k => inG_run (neg := false) qa qb b A own H σ s Ks Q R h k⟩
theorem dt_dnotinG (hu : X.A.units + 1 < cLine) (hi : DE X c wc) (ho : DE X a wa) (hm : behindInMarks .NotIn a = false := by rfl) : DT X (.Compare c [.NotIn] [a] pos) (tT (dInG true wc wa)) := by
  obtain ⟨ta, pa, qa⟩ := ho.ex
  obtain ⟨tb, pb, qb⟩ := hi.ex
  exact ⟨_, pt_cmp (pc_dnotin hu pb pa) hm, tT_run fun b A own H σ s Ks Q R h k => inG_run (neg := true) qa qb b A own H σ s Ks Q R h k⟩
def orE (r : Option En) (x : En) : En := match r with | some y => y | none => x
def dGet2G (wd wk wx : WE) : WE := fun s Ks => wd s fun s1 o => (∃ j r, o = .mu j ∧ dvl s1.ms j (.inl 0) = some r) ∧ wk s1 fun s2 i => wx s2 fun s3 x => dky i fun key => ∃ j r, o = .mu j ∧ dvl s3.ms j key = some r ∧ Ks s3 (orE r x)
theorem de_get2G {apos cpos : Pos} (hu : X.A.units + 1 < cLine) (ho : DE X a wa) (hi : DE X c wc) (hx : DE X f wf) (m : M2 X a "get" apos c f cpos := by exact ⟨rfl, rfl, rfl, rfl⟩) : DE X (.Call (.Attribute a "get" apos) [c, f] [] cpos) (dGet2G wa wc wf) := by
  obtain ⟨ta, pa, qa⟩ := ho.ex
  obtain ⟨tb, pb, qb⟩ := hi.ex
  obtain ⟨tc, pc, qc⟩ := hx.ex
  refine ⟨_, pe_dget2 hu pa pb pc m, fun b A own H σ s Ks Q R h k => ?_⟩
  show ta σ H fun x H1 => ∃ a, x = .ref a ∧ IsD H1 a ∧ tb σ H1 fun y H2 => tc σ H2 fun z H3 => ∃ o, DGet H3 a y o ∧ Q (o.getD z) H3
  refine qa _ _ _ _ _ _ _ _ R h fun A1 o1 H1 v1 s1 x1 R1 U1 E1 h1 => ?_
  obtain ⟨⟨j, r, rfl, g⟩, h1⟩ := h1
  obtain ⟨p, ws, rfl, hp, _⟩ := dvl_at R1 E1 g
  refine ⟨p, rfl, .inl ⟨_, .inl hp⟩, ?_⟩
  refine qb _ _ _ _ _ _ _ _ R1 h1 fun A2 o2 H2 v2 s2 x2 R2 U2 E2 h2 => ?_
  refine qc _ _ _ _ _ _ _ _ R2 h2 fun A3 o3 H3 v3 s3 x3 R3 U3 E3 h3 => ?_
  obtain ⟨key, rfl, j', r', ej, g', h3⟩ := dky_inv (E2.up U3) h3
  cases ej
  obtain ⟨p', ws', ep, hp', q⟩ := dvl_at R3 (E1.up (U2.trans U3)) g'
  cases ep
  refine ⟨_, DGet.k hp', ?_⟩
  rcases q with ⟨q, q2⟩ | ⟨y', u, q1, q2, q3⟩
  · rw [q2]; rw [q] at h3; exact k _ _ _ _ _ x3 R3 ((U1.trans U2).trans U3) E3 h3
  · rw [q2]; rw [q1] at h3; exact k _ _ _ _ _ y' R3 ((U1.trans U2).trans U3) q3 h3
def dputW (ms : List MO) (j : Nat) (key : Key) (x : En) (k : List MO → Prop) : Prop :=
  (∃ kvs d, gm ms j = .dct kvs ∧ x = .da d ∧ kvs.length < sizeLine ∧ k (sm ms j (.dct (putD kvs key d)))) ∨ (∃ fs f, gm ms j = .ins .dct fs ∧ key = .inr f ∧ fs.length < sizeLine ∧ k (sm ms j (.ins .dct (putT fs f x))))
def gSetG (wo wi : WE) : WG := fun x s Ks => wo s fun s1 o => wi s1 fun s2 i => dky i fun key => ∃ j, o = .mu j ∧ dputW s2.ms j key x fun ms => Ks ⟨s2.es, ms, s2.np⟩
theorem dput_run {K : PySem.W.Frag} {b : Bd} {A : Addr → Prop} {own : List (List Addr)} {H : Hp} {σ : L2.St} {s : S} (R : Rel K b A own H σ s) {v u : V} {j : Nat} {key : Key} {x : En} (E : ER K A own H v (.mu j)) (Eu : ER K A own H u x) {k : List MO → Prop} (h : dputW s.ms j key x k) :
    ∃ p H', v = .ref p ∧ DPut H p (kV key) u H' ∧ ∃ ms, Rel K b A own H' σ ⟨s.es, ms, s.np⟩ ∧ Up A own H A own H' ∧ k ms := by
  rcases h with ⟨kvs, d, g, rfl, hl, h⟩ | ⟨fs, f, g, rfl, hl, h⟩
  · obtain ⟨p, vs, rfl, e2, e3, _, up⟩ := mud_at R E g
    obtain ⟨R3, U3⟩ := up _ _ (e3.put (k := key) Eu)
    exact ⟨p, _, rfl, DPut.k e2 (by rw [e3.len]; exact hl), _, R3, U3, h⟩
  · obtain ⟨p, ws, rfl, e2, e3, up⟩ := dsn_at R E g
    obtain ⟨ws', e4, e5⟩ := rke_put (f := f) Eu e3
    obtain ⟨R3, U3⟩ := up _ _ e5
    refine ⟨p, _, rfl, DPut.k (k := .inr f) e2 (by rw [keyed_len, e3.len]; exact hl), _, ?_, ?_, h⟩
    · rw [e4]; exact R3
    · rw [e4]; exact U3
theorem dg_setG (hu : X.A.units + 1 < cLine) (ho : DE X a wa) (hi : DE X c wc) (hh : ∀ v, assign (.Subscript a c pos) X.env v = (do
      let ov ← holding [v] (eval a X.env)
      let iv ← holding [v, ov] (eval c X.env)
      standAt pos
      holding [v, ov, iv] (setItem ov iv v)
      release [v, ov, iv] []) := by intro _; rfl) : DG X (.Subscript a c pos) [] (gSetG wa wc) := by
  obtain ⟨ta, pa, qa⟩ := ho.ex
  obtain ⟨tb, pb, qb⟩ := hi.ex
  refine ⟨_, pg_sub pa pb (set_dict hu) hh, fun b A own H σ s v x Ks Q R E h k => ?_⟩
  show ta σ H fun o H1 => tb σ H1 fun i H2 => rSetD o i v H2 fun H3 => Q σ H3
  refine qa _ _ _ _ _ _ _ _ R h fun A1 o1 H1 v1 s1 x1 R1 U1 E1 h1 => ?_
  refine qb _ _ _ _ _ _ _ _ R1 h1 fun A2 o2 H2 v2 s2 x2 R2 U2 E2 h2 => ?_
  obtain ⟨key, rfl, j, rfl, hq⟩ := dky_inv E2 h2
  obtain ⟨p, H', rfl, hd, ms, R3, U3, h3⟩ := dput_run R2 (E1.up U2) (E.up (U1.trans U2)) hq
  exact ⟨p, H', rfl, hd, k _ _ _ _ _ R3 ((U1.trans U2).trans U3) Sto.refl h3⟩
end
/-! ### d.update(other), d.pop(k), displays, sorted(d) -/
section
variable {X : L2.Cx} {o e : Expr} {apos cpos : Pos} {td ty : TE}
def tDUpd (td ty : TE) : TE := fun σ H Q => td σ H fun x H1 => ∃ a, x = .ref a ∧ IsD H1 a ∧ ty σ H1 fun y H2 => ∃ kvs b more, y = .ref b ∧ a ≠ b ∧ H2 a = some (.dK kvs) ∧ H2 b = some (.dK more) ∧ kvs.length + more.length ≤ sizeLine ∧ Q .non (upd H2 a (.dK (mergeK kvs more)))
theorem pe_dupd (ho : PE X o td) (he : PE X e ty) (m : M1 X o "update" apos e cpos) : PE X (.Call (.Attribute o "update" apos) [e] [] cpos) (tDUpd td ty) := by
  refine ⟨fun pins s σ H Q I h => ?_⟩
  refine wpAny_Call_method m.base m.few m.line PySem.F.plainAttrs_dict PySem.F.slot_dict_update PySem.F.type_dict_update (thn (ho.run pins s σ H _ I h) fun u s1 ⟨x, H1, I1, rx, a, ex, d, q1⟩ => ?_)
  subst ex
  obtain rfl : u = Value.ref a := rx
  obtain ⟨t1, t2, _⟩ := isD_at I1 d
  refine ⟨t1, t2, ?_⟩
  rw [m.trees]
  refine Calls.callWith_builtin rfl (Calls.evalArgs_plain (Calls.spliced_cons (thn (he.run pins s1 σ H1 _ I1 q1) fun iv s2 ⟨y, H2, I2, ry, kvs, b, more, ey, ne, ea, eb, hl, q2⟩ => Calls.spliced_nil ?_)))
  subst ey
  obtain rfl : iv = Value.ref b := ry
  obtain ⟨z, hd, vs, rel, dd⟩ := dk_of I2.hok ea
  obtain ⟨z2, hd2, vs2, rel2, dd2⟩ := dk_of I2.hok eb
  refine call_meetsIn PySem.F.slot_dict_update dd.typeIs PySem.F.entry_dict_update (PySem.F.args_dict_update_2 _ _) (meets_dict_update (mixKind X.prog X.w) a b ne hd2) ⟨vs, vs2, dd, dd2, by rw [← rel.length, ← rel2.length]; exact hl, fun h' dd' _ hs => ⟨.non, _, d_write I2 (by rw [ea]; exact True.intro) hs (let ⟨q, _, _, hq, _⟩ := dd'; ⟨q, hq⟩) (dk_new (Nat.le_trans (length_mergeK _ _) hl) hd (KV.merge rel2 rel) dd'), rfl, q2⟩⟩
end
section
variable {X : L2.Cx} {a c e f : Expr} {es : List Expr} {wa wc we wf : WE} {wr : WA} {pos : Pos}
def dUpdG (wd wo : WE) : WE := fun s Ks => wd s fun s1 x => (∃ j fs, x = .mu j ∧ gm s1.ms j = .ins .dct fs) ∧ wo s1 fun s2 y => ∃ j i fs gs, x = .mu j ∧ y = .mu i ∧ i ≠ j ∧ gm s2.ms j = .ins .dct fs ∧ gm s2.ms i = .ins .dct gs ∧ fs.length + gs.length ≤ sizeLine ∧ Ks (s2.sM j (.ins .dct (mergeT fs gs))) (.da .none)
theorem de_updG {apos cpos : Pos} (ho : DE X a wa) (hi : DE X c wc) (m : M1 X a "update" apos c cpos := by exact ⟨rfl, rfl, rfl, rfl⟩) : DE X (.Call (.Attribute a "update" apos) [c] [] cpos) (dUpdG wa wc) := by
  obtain ⟨ta, pa, qa⟩ := ho.ex
  obtain ⟨tb, pb, qb⟩ := hi.ex
  refine ⟨_, pe_dupd pa pb m, fun b A own H σ s Ks Q R h k => ?_⟩
  show ta σ H fun x H1 => ∃ a, x = .ref a ∧ IsD H1 a ∧ tb σ H1 fun y H2 => ∃ kvs b more, y = .ref b ∧ a ≠ b ∧ H2 a = some (.dK kvs) ∧ H2 b = some (.dK more) ∧ kvs.length + more.length ≤ sizeLine ∧ Q .non (upd H2 a (.dK (mergeK kvs more)))
  refine qa _ _ _ _ _ _ _ _ R h fun A1 o1 H1 v1 s1 x1 R1 U1 E1 h1 => ?_
  obtain ⟨⟨j, fs, rfl, g⟩, h1⟩ := h1
  obtain ⟨p, ws, rfl, hp, _⟩ := dsn_at R1 E1 g
  refine ⟨p, rfl, .inl ⟨_, .inl hp⟩, ?_⟩
  refine qb _ _ _ _ _ _ _ _ R1 h1 fun A2 o2 H2 v2 s2 x2 R2 U2 E2 h2 => ?_
  obtain ⟨j', i, fs', gs, ej, rfl, ne, g', g2, hl, h3⟩ := h2
  cases ej
  obtain ⟨p', ws', ep, hp', r', up⟩ := dsn_at R2 (E1.up U2) g'
  cases ep
  obtain ⟨p2, ws2, rfl, hp2, r2, _⟩ := dsn_at R2 E2 g2
  obtain ⟨ws3, e3, r3⟩ := rke_merge r2 r'
  obtain ⟨R3, U3⟩ := up _ _ r3
  refine ⟨_, p2, _, rfl, fun z => ne ?_, hp', hp2, by rw [keyed_len, keyed_len, r'.len, r2.len]; exact hl, ?_⟩
  · obtain ⟨a1, r1, g1, ea⟩ := E2
    obtain ⟨a2, r2', g2', ea2⟩ := E1.up U2
    cases ea; cases ea2
    exact R2.dj i j p (by rw [g1, z]; simp) (by rw [g2']; simp)
  · rw [e3]
    exact k.da R3 ((U1.trans U2).trans U3) .non h3
def dropD (kvs : List (Key × D)) (k : Key) : List (Key × D) := kvs.filter fun kv => decide (kv.1 ≠ k)
theorem RKV.drop {K : PySem.W.Frag} {A : Addr → Prop} {H : Hp} {k : Key} : ∀ {ws : List (Key × V)} {kvs : List (Key × D)}, RKV K A H ws kvs → RKV K A H (dropK ws k) (dropD kvs k)
  | [], [], _ => trivial
  | p :: ws, q :: kvs, ⟨e, r, t⟩ => by
    unfold dropK dropD
    rw [List.filter_cons, List.filter_cons]
    by_cases h : q.1 = k
    · rw [if_neg (by simp [e.trans h]), if_neg (by simp [h])]; exact RKV.drop t
    · rw [if_pos (by simp; exact fun z => h (e.symm.trans z)), if_pos (by simp; exact h)]; exact ⟨e, r, RKV.drop t⟩
def dPopG (wd wk : WE) : WE := fun s Ks => wd s fun s1 x => (∃ j kvs, x = .mu j ∧ gm s1.ms j = .dct kvs) ∧ wk s1 fun s2 i => dky i fun key => ∃ j kvs d, x = .mu j ∧ gm s2.ms j = .dct kvs ∧ findD kvs key = some d ∧ Ks (s2.sM j (.dct (dropD kvs key))) (.da d)
theorem de_popG {apos cpos : Pos} (ho : DE X a wa) (hi : DE X c wc) (m : M1 X a "pop" apos c cpos := by exact ⟨rfl, rfl, rfl, rfl⟩) : DE X (.Call (.Attribute a "pop" apos) [c] [] cpos) (dPopG wa wc) := by
  obtain ⟨ta, pa, qa⟩ := ho.ex
  obtain ⟨tb, pb, qb⟩ := hi.ex
  refine ⟨_, pe_dpop1 pa pb m, fun b A own H σ s Ks Q R h k => ?_⟩
  show ta σ H fun x H1 => ∃ a, x = .ref a ∧ IsD H1 a ∧ tb σ H1 fun y H2 => ∃ kvs k v, H2 a = some (.dK kvs) ∧ y = kV k ∧ valV kvs k = some v ∧ Q v (upd H2 a (.dK (dropK kvs k)))
  refine qa _ _ _ _ _ _ _ _ R h fun A1 o1 H1 v1 s1 x1 R1 U1 E1 h1 => ?_
  obtain ⟨⟨j, kvs, rfl, g⟩, h1⟩ := h1
  obtain ⟨p, ws, rfl, hp, _⟩ := mud_at R1 E1 g
  refine ⟨p, rfl, .inl ⟨_, .inl hp⟩, ?_⟩
  refine qb _ _ _ _ _ _ _ _ R1 h1 fun A2 o2 H2 v2 s2 x2 R2 U2 E2 h2 => ?_
  obtain ⟨key, rfl, j', kvs', d, ej, g', hd, h3⟩ := dky_inv E2 h2
  cases ej
  obtain ⟨p', ws', ep, hp', r', _, up⟩ := mud_at R2 (E1.up U2) g'
  cases ep
  rcases r'.find (k := key) with ⟨q1, q2⟩ | ⟨d', v', q1, q2, q3⟩
  · rw [q1] at hd; cases hd
  · rw [q1] at hd; cases hd
    obtain ⟨R3, U3⟩ := up _ _ (r'.drop (k := key))
    exact ⟨ws', key, v', hp', rfl, q2, k.da R3 ((U1.trans U2).trans U3) (Rp.mono U3.kp q3) h3⟩
/-- the pairs of a display with texts as keys -/
structure DPs (X : L2.Cx) (pos : Pos) (keys : List (Option Expr)) (values : List Expr) (ks : List Str) (w : WA) : Prop where
  ex : ∃ trs, PPs X pos keys values trs ∧ ∀ (b : Bd) (A : Addr → Prop) (own : List (List Addr)) (H : Hp) (σ : L2.St) (s : S) (Ks : S → List En → Prop) (Q : List (V × V) → Hp → Prop), Rel X.K b A own H σ s → w s Ks →
    (∀ (A' : Addr → Prop) (own' : List (List Addr)) (H' : Hp) (s' : S) (xs : List En) (ws : List (Str × V)), Rel X.K b A' own' H' σ s' → Up A own H A' own' H' → RKE X.K A' own' H' ws (ks.zip xs) → ks.length = xs.length → Ks s' xs → Q (ws.map fun p => (V.str p.1, p.2)) H') → tPairs trs σ H Q
theorem dps_nil : DPs X pos [] [] [] aNil := ⟨_, pps_nil, fun b A own H σ s Ks Q R h k => k A own H s [] [] R Up.refl trivial rfl h⟩
theorem dps_cons {keys : List (Option Expr)} {values : List Expr} {ks : List Str} {x : Str} {i : Nat} {p1 : Pos} (hv : DE X e we) (hr : DPs X pos keys values ks wr) : DPs X pos (some (.Constant (.str x) i p1) :: keys) (e :: values) (x :: ks) (aCons we wr) := by
  obtain ⟨te, pe, qe⟩ := hv.ex
  obtain ⟨trs, pr, qr⟩ := hr.ex
  refine ⟨_, pps_cons pe_str pe pr, fun b A own H σ s Ks Q R h k => ?_⟩
  show te σ H fun y H2 => tPairs trs σ H2 fun ps H3 => Q ((.str x, y) :: ps) H3
  refine qe _ _ _ _ _ _ _ _ R h fun A1 o1 H1 v1 s1 x1 R1 U1 E1 h1 => ?_
  refine qr _ _ _ _ _ _ _ _ R1 h1 fun A2 o2 H2 s2 xs ws R2 U2 E2 hl h2 => ?_
  exact k A2 o2 H2 s2 (x1 :: xs) ((x, v1) :: ws) R2 (U1.trans U2) ⟨rfl, E1.up U2, E2⟩ (congrArg (· + 1) hl) h2
def dDisp (ks : List Str) (wr : WA) : WE := fun s Ks => wr (s.aM (.ins .dct [])) fun s1 xs => gm s1.ms s.ms.length = .ins .dct [] ∧ Ks (s1.sM s.ms.length (.ins .dct (mergeT [] (ks.zip xs)))) (.mu s.ms.length)
theorem de_disp {keys : List (Option Expr)} {values : List Expr} {ks : List Str} (h : DPs X pos keys values ks wr) (hall : keys.all (·.isSome) = true := by rfl) (hl : keys.length = values.length := by rfl) (h0 : keys ≠ [] := by exact fun z => nomatch z) (h15 : keys.length ≤ 15 := by decide) (hks : ks.length ≤ 15 := by decide) : DE X (.Dict keys values pos) (dDisp ks wr) := by
  obtain ⟨trs, p, q⟩ := h.ex
  refine ⟨_, pe_disp p hall hl h0 h15, fun b A own H σ s Ks Q R h k => ?_⟩
  show ∀ p, H p = none → tPairs trs σ (upd H p (.dK [])) fun ps H2 => H2 p = some (.dK []) ∧ ∃ kvs : List (Key × V), ps = kvs.map (fun kv => (kV kv.1, kv.2)) ∧ kvs.length ≤ 15 ∧ Q (.ref p) (upd H2 p (.dK (mergeK [] kvs)))
  intro p hp
  obtain ⟨R1, U1, g1⟩ := R.newMu (o := .dK []) hp (.ins .dct []) fun A' own' u => ⟨p, [], [], rfl, ⟨rfl, upd_same⟩, trivial⟩
  refine q _ _ _ _ _ _ _ _ R1 h fun A2 o2 H2 s2 xs ws R2 U2 E2 hlx h2 => ?_
  have E1 : ER X.K A2 o2 H2 (.ref p) (.mu s.ms.length) := ⟨p, [], U2.ow _ _ _ g1, rfl⟩
  obtain ⟨p', ws', ep, hp', r', up⟩ := dsn_at R2 E1 h2.1
  cases ep
  have w0 : ws' = [] := by
    cases ws' with
    | nil => rfl
    | cons _ _ => exact r'.elim
  subst w0
  obtain ⟨ws3, e3, r3⟩ := rke_merge E2 r'
  obtain ⟨R3, U3⟩ := up _ _ r3
  have hlen : ws.length ≤ 15 := by
    rw [E2.len, List.length_zip]
    omega
  refine ⟨hp', keyed ws, by simp [keyed, kV], by rw [keyed_len]; exact hlen, ?_⟩
  have e3 : mergeK [] (keyed ws) = keyed ws3 := e3
  rw [e3]
  exact k _ _ _ _ _ (.mu s.ms.length) R3 ((U1.trans U2).trans U3) (E1.up U3) h2.2
/-- sorted(d), the keys texts -/
def kTxt : List (Key × D) → Option (List Str)
  | [] => some []
  | (.inr x, _) :: r => match kTxt r with | some xs => some (x :: xs) | none => none
  | _ :: _ => none
def dkeysT (ms : List MO) (j : Nat) : Option (List Str) := match gm ms j with
  | .dct kvs => kTxt kvs
  | .ins .dct fs => some (fs.map (·.1))
  | _ => none
theorem kTxt_map : ∀ {kvs : List (Key × D)} {is : List Str}, kTxt kvs = some is → kvs.map (·.1) = is.map Sum.inr
  | [], _, h => by cases h; rfl
  | (.inr i, d) :: r, _, h => by
    unfold kTxt at h
    split at h
    · rename_i is q
      cases h
      rw [List.map_cons, List.map_cons, kTxt_map q]
    · cases h
  | (.inl x, d) :: r, _, h => by cases h
def cSortT : S → List En → (S → En → Prop) → Prop := fun s xs Ks => a1 xs fun o => ∃ j is, o = .mu j ∧ dkeysT s.ms j = some is ∧ is.length < 64 ∧ ∀ is' : List Str, is'.Perm is → sortedS is' = true → Ks s (.da (.list (is'.map .str)))
theorem rke_keys {K : PySem.W.Frag} {A : Addr → Prop} {own : List (List Addr)} {H : Hp} : ∀ {ws : List (Str × V)} {fs : List (Str × En)}, RKE K A own H ws fs → (keyed ws).map (·.1) = (fs.map (·.1)).map Sum.inr
  | [], [], _ => rfl
  | p :: ws, q :: fs, ⟨e, _, t⟩ => by
    show (Sum.inr p.1 : Key) :: (keyed ws).map (·.1) = _
    rw [rke_keys t, show p.1 = q.1 from e]; rfl
  | [], _ :: _, h => h.elim
  | _ :: _, [], h => h.elim
theorem cd_sortT {K : PySem.W.Frag} : CallD K (fun xs H Q => ∃ (a : Addr) (kvs : List (Key × V)) (ks : List Str), xs = [.ref a] ∧ Rd H a (.dK kvs) ∧ kvs.map (·.1) = ks.map Sum.inr ∧ ks.length < 64 ∧
    ∀ ys p, ys.Perm ks → sortedS ys = true → H p = none → Q (.ref p) (upd H p (.lst (ys.map V.str)))) cSortT := by
  intro b A own H σ s vs xs Ks Q R E h k
  obtain ⟨v, x, rfl, e1, j, is, rfl, g, hl, h⟩ := a1_inv E h
  unfold dkeysT at g
  split at g
  · rename_i kvs g0
    obtain ⟨d, vs, rfl, e2, e3, e4, _⟩ := mud_at R e1 g0
    exact ⟨d, vs, is, rfl, .inl e2, e3.keys.trans (kTxt_map g), hl, fun ys p h1 h2 hp => new_lst R k RpL.strs hp (h ys h1 h2)⟩
  · rename_i fs g0
    cases g
    obtain ⟨d, ws, rfl, e2, e3, _⟩ := dsn_at R e1 g0
    exact ⟨d, _, _, rfl, .inl e2, rke_keys e3, hl, fun ys p h1 h2 hp => new_lst R k RpL.strs hp (h ys h1 h2)⟩
  · cases g
theorem de_sortT {p : Pos} (hc : X.calm = true) (hg : Gl X "sorted") (hm : X.mg "sorted" = none) (ha : DE X a wa) (he : starEach (a :: []) X.env = (false, eval a X.env) :: starEach [] X.env := by rfl) : DE X (.Call (.Name "sorted" p) [a] [] pos) (dCall cSortT (aCons wa aNil)) := de_callB (call_sortedD hc) cd_sortT hg hm (by decide +kernel) (da_cons ha da_nil he) (he := he)
/-- {} for things that change -/
def dNewS : WE := fun s Ks => Ks (s.aM (.ins .dct [])) (.mu s.ms.length)
theorem de_newS : DE X (.Dict [] [] pos) dNewS := ⟨_, pe_dnewK, fun b A own H σ s Ks Q R h k => by
  intro p hp
  obtain ⟨R1, U1, g⟩ := R.newMu (o := .dK []) hp (.ins .dct []) fun A' own' u => ⟨p, [], [], rfl, ⟨rfl, upd_same⟩, trivial⟩
  exact k _ _ _ _ _ (.mu s.ms.length) R1 U1 ⟨p, [], g, rfl⟩ h⟩
end
end DL
namespace DL
open PySem L2 PySem.Spec PyProof.Rows
/-! ### methods of texts -/
section
variable {X : Cx} {o e a b : Expr} {wo we wa wb : WE} {pos : Pos}
def dPart (wo we : WE) : WE := fun s Ks => wo s fun s1 x => daI x fun d => match d with
  | .str a => we s1 fun s2 y => daI y fun c => match c with
    | .str b => (b.length == 0) = false ∧ a.length ≤ sizeLine ∧ Ks s2 (.da (.tuple [.str (Txt.partition a b).1, .str (Txt.partition a b).2.1, .str (Txt.partition a b).2.2]))
    | _ => False
  | _ => False
theorem de_partition {apos pos : Pos} (ho : DE X o wo) (he : DE X e we) (hs : starEach [e] X.env = [(false, eval e X.env)] := by rfl) (hbase : attributeBase o "partition" X.env (eval o X.env) = eval o X.env := by rfl) (hline : (apos.endLine == pos.line) = true := by rfl) :
    DE X (.Call (.Attribute o "partition" apos) [e] [] pos) (dPart wo we) := by
  obtain ⟨to, po, qo⟩ := ho.ex
  obtain ⟨te, pe, qe⟩ := he.ex
  refine ⟨_, pe_partition po pe hs hbase hline, fun b A own H σ s Ks Q R h k => ?_⟩
  refine qo _ _ _ _ _ _ _ _ R h fun A1 o1 H1 v1 s1 x1 R1 U1 E1 h1 => ?_
  obtain ⟨d, rfl, h2⟩ := daI_inv h1
  clear h1
  split at h2
  · rename_i a
    cases (show Rp X.K A1 H1 v1 (.str a) from E1)
    refine ⟨⟨a, rfl⟩, ?_⟩
    refine qe _ _ _ _ _ _ _ _ R1 h2 fun A2 o2 H2 v2 s2 x2 R2 U2 E2 h3 => ?_
    obtain ⟨c, rfl, h4⟩ := daI_inv h3
    clear h3
    split at h4
    · rename_i b
      cases (show Rp X.K A2 H2 v2 (.str b) from E2)
      obtain ⟨g1, g2, h5⟩ := h4
      exact ⟨a, b, rfl, rfl, g1, g2, fun p hp => new_tup R2 (k.up (U1.trans U2)) (.cons (.str _) (.cons (.str _) (.cons (.str _) .nil))) hp h5⟩
    · exact h4.elim
  · exact h2.elim
/-- what a method of a text tells: a text -/
def dTx (f : Str → D → (Str → Prop) → Prop) (wo we : WE) : WE := fun s Ks => wo s fun s1 x => daI x fun d => match d with
  | .str a => we s1 fun s2 y => daI y fun c => f a c fun z => Ks s2 (.da (.str z))
  | _ => False
def fRstrip : Str → D → (Str → Prop) → Prop := fun a c k => match c with | .str b => a.length ≤ sizeLine ∧ k (Txt.rstripChars a b) | _ => False
def fZfill : Str → D → (Str → Prop) → Prop := fun a c k => match c with | .int i => PySem.PadOk i = true ∧ k (Txt.zfill a i) | _ => False
theorem de_rstripC {apos pos : Pos} (ho : DE X o wo) (he : DE X e we) (hs : starEach [e] X.env = [(false, eval e X.env)] := by rfl) (hbase : attributeBase o "rstrip" X.env (eval o X.env) = eval o X.env := by rfl) (hline : (apos.endLine == pos.line) = true := by rfl) :
    DE X (.Call (.Attribute o "rstrip" apos) [e] [] pos) (dTx fRstrip wo we) := by
  obtain ⟨to, po, qo⟩ := ho.ex
  obtain ⟨te, pe, qe⟩ := he.ex
  refine ⟨_, pe_m1 PySem.F.slot_str_rstrip PySem.F.type_str_rstrip mt_rstripChars po pe hs hbase hline, fun b A own H σ s Ks Q R h k => ?_⟩
  refine qo _ _ _ _ _ _ _ _ R h fun A1 o1 H1 v1 s1 x1 R1 U1 E1 h1 => ?_
  obtain ⟨d, rfl, h2⟩ := daI_inv h1
  clear h1
  split at h2
  · rename_i a
    cases (show Rp X.K A1 H1 v1 (.str a) from E1)
    refine ⟨⟨a, rfl⟩, ?_⟩
    refine qe _ _ _ _ _ _ _ _ R1 h2 fun A2 o2 H2 v2 s2 x2 R2 U2 E2 h3 => ?_
    obtain ⟨c, rfl, h4⟩ := daI_inv h3
    clear h3
    unfold fRstrip at h4
    split at h4
    · rename_i b
      cases (show Rp X.K A2 H2 v2 (.str b) from E2)
      exact ⟨a, b, rfl, rfl, h4.1, k.da R2 (U1.trans U2) (.str _) h4.2⟩
    · exact h4.elim
  · exact h2.elim
theorem de_zfill {apos pos : Pos} (ho : DE X o wo) (he : DE X e we) (hs : starEach [e] X.env = [(false, eval e X.env)] := by rfl) (hbase : attributeBase o "zfill" X.env (eval o X.env) = eval o X.env := by rfl) (hline : (apos.endLine == pos.line) = true := by rfl) :
    DE X (.Call (.Attribute o "zfill" apos) [e] [] pos) (dTx fZfill wo we) := by
  obtain ⟨to, po, qo⟩ := ho.ex
  obtain ⟨te, pe, qe⟩ := he.ex
  refine ⟨_, pe_m1 PySem.F.slot_str_zfill PySem.F.type_str_zfill mt_zfill po pe hs hbase hline, fun b A own H σ s Ks Q R h k => ?_⟩
  refine qo _ _ _ _ _ _ _ _ R h fun A1 o1 H1 v1 s1 x1 R1 U1 E1 h1 => ?_
  obtain ⟨d, rfl, h2⟩ := daI_inv h1
  clear h1
  split at h2
  · rename_i a
    cases (show Rp X.K A1 H1 v1 (.str a) from E1)
    refine ⟨⟨a, rfl⟩, ?_⟩
    refine qe _ _ _ _ _ _ _ _ R1 h2 fun A2 o2 H2 v2 s2 x2 R2 U2 E2 h3 => ?_
    obtain ⟨c, rfl, h4⟩ := daI_inv h3
    clear h3
    unfold fZfill at h4
    split at h4
    · rename_i i
      cases (show Rp X.K A2 H2 v2 (.int i) from E2)
      exact ⟨a, i, rfl, rfl, h4.1, k.da R2 (U1.trans U2) (.str _) h4.2⟩
    · exact h4.elim
  · exact h2.elim
/-! ### a text in a text -/
def rdInS (neg : Bool) : S → En → En → (S → En → Prop) → Prop := fun s x y Ks => match x, y with
  | .da (.str i), .da (.str j) => Ks s (.da (.bool (xr neg (!(Builtin.Str.occurrences j i 0 j.length 1).isEmpty))))
  | _, _ => False
theorem opd_inS {K : PySem.W.Frag} : OpD K (fun x y H Q => ∃ i j, x = .str i ∧ y = .str j ∧ Q (.bl (!(Builtin.Str.occurrences j i 0 j.length 1).isEmpty)) H) (rdInS false) := by
  intro b A own H σ s vx vy x y Ks Q R ex ey h k
  unfold rdInS at h
  split at h
  · rename_i i j
    cases (show Rp K A H vx (.str i) from ex)
    cases (show Rp K A H vy (.str j) from ey)
    exact ⟨i, j, rfl, rfl, k.da R Up.refl (.bl _) h⟩
  · exact h.elim
theorem de_inS (ha : DE X a wa) (hb : DE X b wb) (hm : behindInMarks .In b = false := by rfl) : DE X (.Compare a [.In] [b] pos) (d2 (rdInS false) wa wb) := de_cmp op_in_str opd_inS ha hb hm
/-! ### one sign, so many times -/
def rRepC : R2 := fun x y H Q => ∃ c k, x = .str ⟨#[c]⟩ ∧ y = .int k ∧ -(2 ^ 63) ≤ k ∧ k ≤ 1000 ∧ Q (.str (SX.S (List.replicate k.toNat c))) H
theorem foldl_one (c : Nat) : ∀ (n : Nat) (acc : List Nat), (List.replicate n (#[c] : Array Nat)).foldl (· ++ ·) acc.toArray = (acc ++ List.replicate n c).toArray
  | 0, acc => by simp
  | n + 1, acc => by
    rw [List.replicate_succ, List.foldl_cons]
    have e : acc.toArray ++ #[c] = (acc ++ [c]).toArray := by simp
    rw [e, foldl_one c n, List.append_assoc]
    rfl
theorem op_repC : OpR X (binaryOp .Mult) rRepC := by
  intro pins s σ H x y v u Q I rx ry h
  obtain ⟨c, k, rfl, rfl, h1, h2, q⟩ := h
  obtain ⟨t, rfl⟩ := rx
  obtain ⟨t', rfl⟩ := ry
  have h3 : ¬ k ≥ 2 ^ 63 := by omega
  have h4 : ¬ k < -(2 ^ 63) := by omega
  refine PySem.P.mul_str (by rw [decide_eq_false h4, decide_eq_false h3]; rfl) (fun g _ => ?_) (fun g _ => ?_) ?_
  · show ¬ (((1 : Nat) : Int) > (2 ^ 63 - 1) / k)
    have : 1 ≤ (2 ^ 63 - 1 : Int) / k := (Int.le_ediv_iff_mul_le (by omega)).mpr (by omega)
    omega
  · show Builtin.Str.tooLong (1 * k.toNat) = false
    unfold Builtin.Str.tooLong
    exact decide_eq_false (by rw [sizeLine_eq]; omega)
  · have fin : ∀ (t : Tok) (n : Nat), ∃ y H', Inv X pins σ H' { s with toks := n } ∧ RelV y (Value.str (SX.S (List.replicate k.toNat c)) t) ∧ Q y H' := fun t n => ⟨.str (SX.S (List.replicate k.toNat c)), H, I.tok n, ⟨t, rfl⟩, q⟩
    by_cases g : k < 1
    · rw [if_pos g]
      have e : k.toNat = 0 := by omega
      rw [e] at fin
      exact ⟨by decide, fin _ _⟩
    · rw [if_neg g]
      by_cases g1 : k = 1
      · subst g1
        rw [if_pos (by rfl)]
        exact fin t s.toks
      · have g2 : ((k == 1 || (⟨#[c]⟩ : Str).length == 0) = true) ↔ False := by
          rw [show ((⟨#[c]⟩ : Str).length == 0) = false from rfl, Bool.or_false, beq_iff_eq]
          exact iff_of_false g1 id
        rw [if_neg g2.mp]
        have e : (List.replicate k.toNat (#[c] : Array Nat)).foldl (· ++ ·) #[] = (List.replicate k.toNat c).toArray := foldl_one c k.toNat []
        show Made.post (Made.str ⟨(List.replicate k.toNat (#[c] : Array Nat)).foldl (· ++ ·) #[]⟩) _ s
        rw [e]
        refine ⟨?_, fin _ _⟩
        show (SX.S (List.replicate k.toNat c)).length ≤ sizeLine
        rw [SX.S_len, List.length_replicate, sizeLine_eq]
        omega
def rdRepC : S → En → En → (S → En → Prop) → Prop := fun s x y Ks => match x, y with
  | .da (.str z), .da (.int k) => ∃ c, z = ⟨#[c]⟩ ∧ -(2 ^ 63) ≤ k ∧ k ≤ 1000 ∧ Ks s (.da (.str (SX.S (List.replicate k.toNat c))))
  | _, _ => False
theorem opd_repC {K : PySem.W.Frag} : OpD K rRepC rdRepC := by
  intro b A own H σ s vx vy x y Ks Q R ex ey h k
  unfold rdRepC at h
  split at h
  · rename_i z i
    cases (show Rp K A H vx (.str z) from ex)
    cases (show Rp K A H vy (.int i) from ey)
    obtain ⟨c, rfl, h1, h2, h3⟩ := h
    exact ⟨c, i, rfl, rfl, h1, h2, k.da R Up.refl (.str _) h3⟩
  · exact h.elim
theorem de_repstr (ha : DE X a wa) (hb : DE X b wb) : DE X (.BinOp a .Mult b pos) (d2 rdRepC wa wb) := de_op op_repC opd_repC ha hb
/-! ### raise that is not come to -/
def sNever : WS := fun _ _ => False
theorem ds_never {st : Stmt} : DS X st sNever := ⟨fun _ _ _ => False, ⟨fun _ _ _ _ _ _ h => h.elim⟩, fun _ _ _ _ _ _ _ _ _ h _ => h.elim⟩
end
end DL
namespace DL
open PySem L2 PySem.Spec PyProof.Rows
/-! ### ways out: own classes of errors, by name -/
abbrev WEx := S → (S → En → Prop) → (S → Str → Prop) → Prop
abbrev WSx := S → Dn → (S → Str → Prop) → Prop
def CN (K : PySem.W.Frag) (c : Str) (C : Addr) : Prop := PySem.W.nsIn K mainGlobals c = some (some (.ref C))
def MtX (K : PySem.W.Frag) (b : Bd) (A : Addr → Prop) (H : Hp) (Kx : S → Str → Prop) (W : WX) : Prop := ∀ (A' : Addr → Prop) (own' : List (List Addr)) (H' : Hp) (σ' : L2.St) (s' : S) (c : Str) (C : Addr), Rel K b A' own' H' σ' s' → Kp A H A' H' → CN K c C → Kx s' c → W (.ref C) none σ' H'
theorem MtX.up {K : PySem.W.Frag} {b : Bd} {A A' : Addr → Prop} {H H' : Hp} {Kx : S → Str → Prop} {W : WX} (p : MtX K b A H Kx W) (u : Kp A H A' H') : MtX K b A' H' Kx W := fun _ _ _ _ _ _ _ r q => p _ _ _ _ _ _ _ r (u.trans q)
structure DEx (X : Cx) (W : WX) (e : Expr) (w : WEx) : Prop where
  ex : ∃ te, PE X e te ∧ ∀ (b : Bd) (A : Addr → Prop) (own : List (List Addr)) (H : Hp) (σ : L2.St) (s : S) (Ks : S → En → Prop) (Kx : S → Str → Prop) (Q : VK), Rel X.K b A own H σ s → w s Ks Kx → PostE X.K b A own H σ Ks Q → MtX X.K b A H Kx W → te σ H Q
structure DSx (X : Cx) (W : WX) (st : Stmt) (w : WSx) : Prop where
  ex : ∃ t, PS X st t ∧ ∀ (b : Bd) (A : Addr → Prop) (own : List (List Addr)) (H : Hp) (σ : L2.St) (s : S) (D : Dn) (Kx : S → Str → Prop) (E : Ends), Rel X.K b A own H σ s → w s D Kx → Mt X.K b A H D E → MtX X.K b A H Kx W → t E σ H
structure DSsx (X : Cx) (W : WX) (st : List Stmt) (w : WSx) : Prop where
  ex : ∃ t, PSs X st t ∧ ∀ (b : Bd) (A : Addr → Prop) (own : List (List Addr)) (H : Hp) (σ : L2.St) (s : S) (D : Dn) (Kx : S → Str → Prop) (E : Ends), Rel X.K b A own H σ s → w s D Kx → Mt X.K b A H D E → MtX X.K b A H Kx W → t E σ H
def xE (w : WE) : WEx := fun s Ks _ => w s Ks
def xS (w : WS) : WSx := fun s D _ => w s D
section
variable {X : Cx} {W : WX} {e a c : Expr} {es : List Expr} {we wa : WE} {wr : WA} {vx ux : WEx} {st : Stmt} {sts sts2 : List Stmt} {w : WS} {v u : WSx} {wt : WT} {wg : WG} {pos : Pos}
theorem DE.x (h : DE X e we) : DEx X W e (xE we) := by
  obtain ⟨t, p, q⟩ := h.ex
  exact ⟨t, p, fun b A own H σ s Ks Kx Q R h k _ => q _ _ _ _ _ _ _ _ R h k⟩
theorem DS.x (h : DS X st w) : DSx X W st (xS w) := by
  obtain ⟨t, p, q⟩ := h.ex
  exact ⟨t, p, fun b A own H σ s D Kx E R h m _ => q _ _ _ _ _ _ _ _ R h m⟩
theorem DSs.x (h : DSs X sts w) : DSsx X W sts (xS w) := by
  obtain ⟨t, p, q⟩ := h.ex
  exact ⟨t, p, fun b A own H σ s D Kx E R h m _ => q _ _ _ _ _ _ _ _ R h m⟩
def sSeqX (v u : WSx) : WSx := fun s D Kx => v s { D with nx := fun s1 => u s1 D Kx } Kx
theorem dsx_cons (h1 : DSx X W st v) (h2 : DSsx X W sts u) : DSsx X W (st :: sts) (sSeqX v u) := by
  obtain ⟨t1, p1, q1⟩ := h1.ex
  obtain ⟨t2, p2, q2⟩ := h2.ex
  refine ⟨_, pss_cons p1 p2, fun b A own H σ s D Kx E R h m mx => ?_⟩
  show t1 { E with nx := t2 E } σ H
  exact q1 _ _ _ _ _ _ _ _ _ R h ⟨fun A' o' H' σ' s' R' k h' => q2 _ _ _ _ _ _ _ _ _ R' h' (m.up k) (mx.up k), m.rt, m.bk, m.ct⟩ mx
theorem dsx_one (h1 : DSx X W st v) : DSsx X W [st] v := by
  obtain ⟨t1, p1, q1⟩ := h1.ex
  exact ⟨_, pss_one p1, q1⟩
def sIfX (wt : WT) (v u : WSx) : WSx := fun s D Kx => wt s fun s1 c => (c = true → v s1 D Kx) ∧ (c = false → u s1 D Kx)
theorem dsx_if (hc : DT X c wt) (ha : DSsx X W sts v) (hb : DSsx X W sts2 u) : DSx X W (.If c sts sts2 pos) (sIfX wt v u) := by
  obtain ⟨tc, pc, qc⟩ := hc.ex
  obtain ⟨ta, pa, qa⟩ := ha.ex
  obtain ⟨tb, pb, qb⟩ := hb.ex
  refine ⟨_, ps_if pc pa pb, fun b A own H σ s D Kx E R h m mx => ?_⟩
  show tc σ H fun b H1 => if b = true then ta E σ H1 else tb E σ H1
  refine qc _ _ _ _ _ _ _ _ R h fun A1 o1 H1 s1 c R1 U1 h1 => ?_
  cases c with
  | true => rw [if_pos rfl]; exact qa _ _ _ _ _ _ _ _ _ R1 (h1.1 rfl) (m.up U1.kp) (mx.up U1.kp)
  | false => rw [if_neg (by decide)]; exact qb _ _ _ _ _ _ _ _ _ R1 (h1.2 rfl) (m.up U1.kp) (mx.up U1.kp)
def sExpX (v : WEx) : WSx := fun s D Kx => v s (fun s1 _ => D.nx s1) Kx
theorem dsx_exp (he : DEx X W e vx) (hs : swapsWith e none pos.line X.env = pure false := by rfl) : DSx X W (.Expr e pos) (sExpX vx) := by
  obtain ⟨te, pe, qe⟩ := he.ex
  exact ⟨_, ps_expr pe hs, fun b A own H σ s D Kx E R h m mx => qe _ _ _ _ _ _ _ _ _ R h (fun A1 o1 H1 v1 s1 x1 R1 U1 E1 h1 => m.nx _ _ _ _ _ R1 U1.kp h1) mx⟩
def sRetX (v : WEx) : WSx := fun s D Kx => v s D.rt Kx
theorem dsx_ret (he : DEx X W e vx) : DSx X W (.Return (some e) pos) (sRetX vx) := by
  obtain ⟨te, pe, qe⟩ := he.ex
  exact ⟨_, ps_ret pe, fun b A own H σ s D Kx E R h m mx => qe _ _ _ _ _ _ _ _ _ R h (fun A1 o1 H1 v1 s1 x1 R1 U1 E1 h1 => m.rt _ _ _ _ _ _ _ R1 U1.kp E1 h1) mx⟩
def sAsgX (v : WEx) (wg : WG) : WSx := fun s D Kx => v s (fun s1 x => wg x s1 D.nx) Kx
theorem dsx_set {i : Nat} {x : Str} {pos' : Pos} (hN : X.N.Nodup) (hi : X.N[i]? = some x) (hx : Loc X.env.scope x) (he : DEx X W e vx) (hs : swapsWith e (some (.Name x pos')) pos.line X.env = pure false := by rfl) (hf : X.fn x = true ∨ X.env.scope.names.lookup x = some .local := by first | exact .inl rfl | exact .inr rfl | assumption) :
    DSx X W (.Assign [.Name x pos'] e pos) (sAsgX vx (gN i)) := by
  obtain ⟨te, pe, qe⟩ := he.ex
  refine ⟨_, ps_set hN hi hx pe hs hf, fun b A own H σ s D Kx E R h m mx => ?_⟩
  show te σ H fun x H1 => gName i x σ H1 E.nx
  refine qe _ _ _ _ _ _ _ _ _ R h (fun A1 o1 H1 v1 s1 x1 R1 U1 E1 h1 => ?_) mx
  exact gN_run (X := X) i _ _ _ _ _ _ _ _ _ _ R1 E1 h1 fun A2 o2 H2 σ2 s2 R2 U2 _ h2 => m.nx _ _ _ _ _ R2 (U1.trans U2).kp h2
def dIfX (wt : WT) (v u : WEx) : WEx := fun s Ks Kx => wt s fun s1 c => (c = true → v s1 Ks Kx) ∧ (c = false → u s1 Ks Kx)
theorem dex_if {b : Expr} (hc : DT X c wt) (ha : DEx X W a vx) (hb : DEx X W b ux) : DEx X W (.IfExp c a b pos) (dIfX wt vx ux) := by
  obtain ⟨tc, pc, qc⟩ := hc.ex
  obtain ⟨ta, pa, qa⟩ := ha.ex
  obtain ⟨tb, pb, qb⟩ := hb.ex
  refine ⟨_, pe_ifExp pc pa pb, fun b A own H σ s Ks Kx Q R h k mx => ?_⟩
  show tc σ H fun c H1 => if c = true then ta σ H1 Q else tb σ H1 Q
  refine qc _ _ _ _ _ _ _ _ R h fun A1 o1 H1 s1 c R1 U1 h1 => ?_
  cases c with
  | true => rw [if_pos rfl]; exact qa _ _ _ _ _ _ _ _ _ R1 (h1.1 rfl) (k.up U1) (mx.up U1.kp)
  | false => rw [if_neg (by decide)]; exact qb _ _ _ _ _ _ _ _ _ R1 (h1.2 rfl) (k.up U1) (mx.up U1.kp)
/-! ### raise -/
/-- an own class of errors without __init__ -/
structure ExcA (K : PySem.W.Frag) (mg : Str → Option Value) (x : Str) : Prop where
  ex : ∃ C, mg x = some (.ref C) ∧ CN K x C ∧ PySem.W.excIn K C [.type "ValueError", .type "Exception", .type "BaseException", .type "object"] "ValueError.__new__" = true ∧ PySem.W.keepIn K (.ref C) = true ∧
    PySem.W.subIn K (.ref C) (.type "BaseException") = some true ∧ PySem.W.typeIn K (.ref C) = some (.type "type")
def sRaise (x : Str) : WSx := fun s _ Kx => Kx s x
theorem dsx_raise {x m : Str} {j : Nat} {p p2 pos2 : Pos} (hc : X.calm = true) (tk : Takes X W) (F : ExcA X.K X.mg x) (hg : Gl X x) (hdb : (x == ("__debug__" : Str)) = false := by decide) :
    DSx X W (.Raise (some (.Call (.Name x p) [.Constant (.str m) j p2] [] pos2)) none pos) (sRaise x) := by
  obtain ⟨C, h1, h2, h3, h4, h5, h6⟩ := F.ex
  exact ⟨_, ps_raise hc tk (pmk_own PySem.F.excBase_ValueError h3 h1 h4 (raises_own h5 h6) hg hdb), fun b A own H σ s D Kx E R h m mx => mx _ _ _ _ _ _ _ R Kp.refl h2 h⟩
end
/-! ### calls of defs that raise -/
abbrev SpX := List En → List MO → (List MO → En → Prop) → (List MO → Str → Prop) → Prop
def spOfX (K : PySem.W.Frag) (n : Nat) (sp : SpX) : Sp := fun vs H Q E => ∃ (A : Addr → Prop) (own : List (List Addr)) (xs : List En) (ms : List MO) (Ks : List MO → En → Prop) (Kx : List MO → Str → Prop), vs.length = n ∧ ERL K A own H vs xs ∧ Own K A own H ms ∧ sp xs ms Ks Kx ∧
  (∀ (A' : Addr → Prop) (own' : List (List Addr)) (H' : Hp) (v : V) (ms' : List MO) (x : En), Own K A' own' H' ms' → own'.take own.length = own → (∀ a, A a → A' a) → (∀ a, A' a → A a ∨ H a = none) → (∀ a o, (∀ k, a ∉ go own k) → H a = some o → H' a = some o) →
    (∀ k a, a ∈ go own' k → (∃ j, a ∈ go own j) ∨ H a = none) → ER K A' own' H' v x → Ks ms' x → Q v H') ∧
  (∀ (A' : Addr → Prop) (own' : List (List Addr)) (H' : Hp) (ms' : List MO) (c : Str) (C : Addr), Own K A' own' H' ms' → own'.take own.length = own → (∀ a, A a → A' a) → (∀ a, A' a → A a ∨ H a = none) → (∀ a o, (∀ k, a ∉ go own k) → H a = some o → H' a = some o) →
    (∀ k a, a ∈ go own' k → (∃ j, a ∈ go own j) ∨ H a = none) → CN K c C → Kx ms' c → E (.ref C) none H')
theorem rel_after {K : PySem.W.Frag} {b : Bd} {A A' : Addr → Prop} {own own' : List (List Addr)} {H H' : Hp} {σ : L2.St} {s : S} {ms' : List MO} (R : Rel K b A own H σ s) (O : Own K A' own' H' ms') (ot : own'.take own.length = own) (ge : ∀ a, A a → A' a)
    (li : ∀ a, A' a → A a ∨ H a = none) (fr : ∀ a o, (∀ k, a ∉ go own k) → H a = some o → H' a = some o) (fo : ∀ k a, a ∈ go own' k → (∃ j, a ∈ go own j) ∨ H a = none) :
    Rel K b A' own' H' σ ⟨s.es, ms', s.np⟩ ∧ Up A own H A' own' H' := by
  have notOwn : ∀ a, ¬ A a → ∀ j, a ∉ go own j := fun a n j hj => n (R.oa j a hj)
  have u : Up A own H A' own' H' := ⟨fun a o n q => ⟨fr a o (notOwn a n) q, fun z => by
      rcases li a z with z | z
      · exact n z
      · rw [z] at q; cases q⟩, fun k a r q => by
      rw [← ot, go_take] at q
      split at q
      · exact q
      · cases q⟩
  refine ⟨⟨O, R.len, fun i => (R.sl i).imp id fun ⟨v, q, r⟩ => ⟨v, q, r.up u⟩, fun a q => ge a (R.ge a q), fun a o n q => ?_, fun i a h1 => ?_, ?_, ?_, fun a q => ?_, R.a0⟩, u⟩
  · refine fr a o (fun i hi => ?_) (R.fr a o n q)
    rcases R.fo _ a hi with ⟨j, z⟩ | z
    · exact n j z
    · rw [z] at q; cases q
  · rcases fo i a h1 with ⟨j, z⟩ | z
    · exact R.fo j a z
    · exact .inr (R.fresh0 z)
  · have := R.pre
    rw [← ot, List.take_take, Nat.min_eq_left R.npl] at this
    exact this
  · have := congrArg List.length ot
    rw [List.length_take] at this
    have := R.npl
    show s.np ≤ _
    omega
  · rcases li a q with z | z
    · exact R.lim a z
    · exact .inr (R.fresh0 z)
def CallTX (sp : SpX) : S → List En → (S → En → Prop) → (S → Str → Prop) → Prop := fun s xs Ks Kx => sp xs s.ms (fun ms' r => Ks ⟨s.es, ms', s.np⟩ r) fun ms' c => Kx ⟨s.es, ms', s.np⟩ c
theorem callTX_run {K : PySem.W.Frag} {sp : SpX} {n : Nat} {b : Bd} {A : Addr → Prop} {own : List (List Addr)} {H : Hp} {σ : L2.St} {s : S} {vs : List V} {xs : List En} {Ks : S → En → Prop} {Kx : S → Str → Prop} {Q : VK} {W : WX}
    (hn : vs.length = n) (R : Rel K b A own H σ s) (e : ERL K A own H vs xs) (h : CallTX sp s xs Ks Kx) (k : PostE K b A own H σ Ks Q) (mx : MtX K b A H Kx W) : spOfX K n sp vs H Q (L2.WE W σ) := by
  refine ⟨A, own, xs, s.ms, _, _, hn, e, R.toOwn, h, fun A' own' H' v ms' x O ot ge li fr fo ex hk => ?_, fun A' own' H' ms' c C O ot ge li fr fo hc hk => ?_⟩
  · obtain ⟨R', u⟩ := rel_after R O ot ge li fr fo
    exact k A' own' H' v ⟨s.es, ms', s.np⟩ x R' u ex hk
  · obtain ⟨R', u⟩ := rel_after R O ot ge li fr fo
    exact mx A' own' H' σ ⟨s.es, ms', s.np⟩ c C R' u.kp hc hk
structure OkX (P : Program) (w : World) (K : PySem.W.Frag) (mg : Str → Option Value) (base : Heap) (k : Nat) (x : Str) (st : Stmt) (ps : List Str) (n : Nat) (sp : SpX) : Prop where
  ex : ∃ f fd, At K mg x st ps f fd ∧ FnOkG P w K mg base (L2.CX P w) k f fd ps (spOfX K n sp)
structure OkMX (P : Program) (w : World) (K : PySem.W.Frag) (mg : Str → Option Value) (base : Heap) (k : Nat) (c m q : Str) (st : Stmt) (ps : List Str) (n : Nat) (sp : SpX) : Prop where
  ex : ∃ C f fd, AtM K c m q st ps C f fd ∧ FnOkG P w K mg base (L2.CX P w) k f fd ps (spOfX K n sp)
section
variable {X : L2.Cx} {CX : CXT} {k : Nat} {f C : Addr} {fd : FuncData} {ps : List Str} {sp : L2.Sp} {E : L2.St → XK} {x m : Str} {p pos apos : Pos} {e o : Expr} {es : List Expr} {ta : TE} {t : TA}
theorem run_fnXG {pins : List (Addr × Obj)} {σ : L2.St} {H : Hp} {s : Shared} {Q : VK} {us : List Value} {vs : List V} (F : FnOkG X.prog X.w X.K X.mg X.base CX k f fd ps sp) (hr : RoomG k X.A) (hb : Binds X.K fd ps []) (hx : PassesAt CX X σ (E σ))
    (I : Inv X pins σ H s) (r : Vals vs us) (h : sp vs H Q (E σ)) : wpAny (model X.prog X.w) X.A (PySem.call (.ref f) us) (EP X pins σ Q) X.xe s := by
  have hl : us.length = ps.length := by rw [← r.length]; exact F.len _ _ _ _ h
  have b := hb s us I.kIn (by rw [List.append_nil]; exact hl)
  rw [List.append_nil] at b
  refine wpAny_call (codeAny_mono (F.run X.A X.stack s H ⟨us, []⟩ us vs Q (E σ) hr.r hr.g I.env0 b r h) fun r s' hq => ?_)
  cases r with
  | error e => exact hx pins H s e s' I hq
  | ok fl =>
    cases fl with
    | ret u => exact I.after hq
    | next => exact False.elim hq
    | brk => exact False.elim hq
    | cont => exact False.elim hq
theorem pe_callXG (F : FnOkG X.prog X.w X.K X.mg X.base CX k f fd ps sp) (hr : RoomG k X.A) (hg : Gl X x) (hm : X.mg x = some (.ref f)) (hk : PySem.W.keepIn X.K (.ref f) = true) (hb : Binds X.K fd ps []) (hx : ∀ σ, PassesAt CX X σ (E σ))
    (ha : PA X (e :: es) t) (hdb : (x == ("__debug__" : Str)) = false := by decide) (he : starEach (e :: es) X.env = (false, eval e X.env) :: starEach es X.env := by rfl) (hpl : (backTo pos (starEach es X.env)).any (·.1) = false := by rfl) :
    PE X (.Call (.Name x p) (e :: es) [] pos) (tCallS sp E t) := by
  refine ⟨fun pins s σ H Q I h => ?_⟩
  refine wpAny_Call_Name_kw (ld_glob I hg hm ?_ hdb)
  refine PySem.W.callWith_K (h₀ := X.base) I.ok.mod.kin hk (thn (ha.run pos pins s σ H _ I h) fun us s1 ⟨vs, H1, I1, r, q⟩ => ⟨I1.kIn, ?_⟩) he hpl
  exact run_fnXG F hr hb (hx σ) I1 r q
def tMethS (C : Addr) (m : Str) (sp : Sp) (E : L2.St → XK) (to : TE) (t : TA) : TE := fun σ H Q => to σ H fun x H1 => ∃ a dx fs, x = .ref a ∧ H1 a = some (.ins C dx fs) ∧ fs.lookup m = none ∧ t σ H1 fun vs H2 => sp (x :: vs) H2 Q (E σ)
theorem pe_methX {pl : Sem Bool} (he : PE X o ta) (c : Cls X.K C) (hm : Meth X.K C m f) (F : FnOkG X.prog X.w X.K X.mg X.base CX k f fd ps sp) (hr : RoomG k X.A) (hb : Binds X.K fd ps []) (hx : ∀ σ, PassesAt CX X σ (E σ)) (ha : PA X (e :: es) t)
    (hst : starEach (e :: es) X.env = (false, eval e X.env) :: starEach es X.env := by rfl) (hpl : (backTo pos (starEach es X.env)).any (·.1) = false := by rfl)
    (ht : eval (.Call (.Attribute o m apos) (e :: es) [] pos) X.env = (do
      let ov ← eval o X.env
      standAt apos.atName
      let (f, first) ← holding [ov] (getMethod ov m pl)
      callWith pos f first (backTo pos (starEach (e :: es) X.env)) (backToKw pos (keywordEach [] X.env))) := by rfl) :
    PE X (.Call (.Attribute o m apos) (e :: es) [] pos) (tMethS C m sp E ta t) := by
  refine ⟨fun pins s σ H Q I h => ?_⟩
  refine PySem.W.methodCall_KW (pl := pl) (thn (he.run pins s σ H _ I h) fun u s1 ⟨x, H1, I1, rx, a, dx, fs, ex, ea, l, q⟩ => ?_) ht
  subst ex
  obtain rfl : u = Value.ref a := rx
  refine getmeth_ok I1 ea c hm l ?_
  refine PySem.W.callWith_K (first := [.ref a]) (h₀ := X.base) I.ok.mod.kin hm.kp (thn (ha.run pos pins s1 σ H1 _ I1 q) fun us s2 ⟨vs, H2, I2, r, q2⟩ => ⟨I2.kIn, ?_⟩) hst hpl
  exact run_fnXG (us := .ref a :: us) (vs := .ref a :: vs) F hr hb (hx σ) I2 (.cons rfl r) q2
theorem pe_methX0 {pl : Sem Bool} (he : PE X o ta) (c : Cls X.K C) (hm : Meth X.K C m f) (F : FnOkG X.prog X.w X.K X.mg X.base CX k f fd ps sp) (hr : RoomG k X.A) (hb : Binds X.K fd ps []) (hx : ∀ σ, PassesAt CX X σ (E σ))
    (ht : eval (.Call (.Attribute o m apos) [] [] pos) X.env = (do
      let ov ← eval o X.env
      standAt apos.atName
      let (f, first) ← holding [ov] (getMethod ov m pl)
      callWith pos f first (backTo pos (starEach [] X.env)) (backToKw pos (keywordEach [] X.env))) := by rfl) :
    PE X (.Call (.Attribute o m apos) [] [] pos) (tMethS C m sp E ta tNil) := by
  refine ⟨fun pins s σ H Q I h => ?_⟩
  refine PySem.W.methodCall_KW (pl := pl) (thn (he.run pins s σ H _ I h) fun u s1 ⟨x, H1, I1, rx, a, dx, fs, ex, ea, l, q⟩ => ?_) ht
  subst ex
  obtain rfl : u = Value.ref a := rx
  refine getmeth_ok I1 ea c hm l ?_
  exact PySem.W.callWith_K0 (first := [.ref a]) I1.kIn hm.kp (run_fnXG (us := [.ref a]) (vs := [.ref a]) F hr hb (hx σ) I1 (.cons rfl .nil) q)
end
section
variable {X : Cx} {W : WX} {e o : Expr} {es : List Expr} {we : WE} {wr : WA}
def dCallX (rd : S → List En → (S → En → Prop) → (S → Str → Prop) → Prop) (wr : WA) : WEx := fun s Ks Kx => wr s fun s1 xs => rd s1 xs Ks Kx
theorem dex_call {k : Nat} {st : Stmt} {ps : List Str} {sp : SpX} {x : Str} {p pos : Pos} {n : Nat} (tk : Takes X W) (O : OkX X.prog X.w X.K X.mg X.base k x st ps n sp) (hr : RoomG k X.A) (hg : Gl X x)
    (ha : DAn X (e :: es) n wr) (hdb : (x == ("__debug__" : Str)) = false := by decide) (he : starEach (e :: es) X.env = (false, eval e X.env) :: starEach es X.env := by rfl) (hpl : (backTo pos (starEach es X.env)).any (·.1) = false := by rfl) :
    DEx X W (.Call (.Name x p) (e :: es) [] pos) (dCallX (CallTX sp) wr) := by
  obtain ⟨f, fd, a, F⟩ := O.ex
  obtain ⟨ta, pa, qa⟩ := ha.ex
  refine ⟨_, pe_callXG F hr hg a.g a.kp a.b (passAt tk) pa hdb he hpl, fun b A own H σ s Ks Kx Q R h kk mx => ?_⟩
  show ta σ H fun vs H1 => spOfX X.K n sp vs H1 Q (L2.WE W σ)
  refine qa _ _ _ _ _ _ _ _ R h fun A1 o1 H1 vs s1 xs R1 U1 E1 h1 => ?_
  exact callTX_run (E1.len.trans h1.1) R1 E1 h1.2 (kk.up U1) (mx.up U1.kp)
def dMethX (c m : Str) (sp : SpX) (wo : WE) (wr : WA) : WEx := fun s Ks Kx => wo s fun s1 x => fldW [c] s1 x fun _ _ fs => getT fs m = none ∧ wr s1 fun s2 xs => CallTX sp s2 (x :: xs) Ks Kx
theorem dex_meth {k : Nat} {st : Stmt} {ps : List Str} {sp : SpX} {c m q : Str} {apos pos : Pos} {n : Nat} (tk : Takes X W) (O : OkMX X.prog X.w X.K X.mg X.base k c m q st ps (n + 1) sp) (hr : RoomG k X.A) {pl : Sem Bool} (ho : DE X o we)
    (ha : DAn X (e :: es) n wr) (hst : starEach (e :: es) X.env = (false, eval e X.env) :: starEach es X.env := by rfl) (hpl : (backTo pos (starEach es X.env)).any (·.1) = false := by rfl)
    (ht : eval (.Call (.Attribute o m apos) (e :: es) [] pos) X.env = (do
      let ov ← eval o X.env
      standAt apos.atName
      let (f, first) ← holding [ov] (getMethod ov m pl)
      callWith pos f first (backTo pos (starEach (e :: es) X.env)) (backToKw pos (keywordEach [] X.env))) := by rfl) :
    DEx X W (.Call (.Attribute o m apos) (e :: es) [] pos) (dMethX c m sp we wr) := by
  obtain ⟨C, f, fd, a, F⟩ := O.ex
  obtain ⟨to, po, qo⟩ := ho.ex
  obtain ⟨ta, pa, qa⟩ := ha.ex
  refine ⟨_, pe_methX po a.cl a.me F hr a.b (passAt tk) pa hst hpl ht, fun b A own H σ s Ks Kx Q R h kk mx => ?_⟩
  show to σ H fun x H1 => ∃ a dx fs, x = .ref a ∧ H1 a = some (.ins C dx fs) ∧ fs.lookup m = none ∧ ta σ H1 fun vs H2 => spOfX X.K (n + 1) sp (x :: vs) H2 Q (L2.WE W σ)
  refine qo _ _ _ _ _ _ _ _ R h fun A1 o1 H1 v1 s1 x1 R1 U1 E1 h1 => ?_
  obtain ⟨j, c', fs, rfl, g, hc, hl, h1⟩ := h1
  cases List.mem_singleton.mp hc
  obtain ⟨p, C', dx, ws, rfl, n', hp, r, _⟩ := obj_at R1 E1 g
  rw [a.n] at n'
  cases n'
  refine ⟨p, dx, ws, rfl, hp, r.lookN ((getT_lookup fs).trans hl), ?_⟩
  refine qa _ _ _ _ _ _ _ _ R1 h1 fun A2 o2 H2 vs s2 xs R2 U2 E2 h2 => ?_
  exact callTX_run (xs := .mu j :: xs) (congrArg (· + 1) (E2.len.trans h2.1)) R2 ⟨E1.up U2, E2⟩ h2.2 (kk.up (U1.trans U2)) (mx.up (U1.trans U2).kp)
theorem dex_meth0 {k : Nat} {st : Stmt} {ps : List Str} {sp : SpX} {c m q : Str} {apos pos : Pos} (tk : Takes X W) (O : OkMX X.prog X.w X.K X.mg X.base k c m q st ps 1 sp) (hr : RoomG k X.A) {pl : Sem Bool} (ho : DE X o we)
    (ht : eval (.Call (.Attribute o m apos) [] [] pos) X.env = (do
      let ov ← eval o X.env
      standAt apos.atName
      let (f, first) ← holding [ov] (getMethod ov m pl)
      callWith pos f first (backTo pos (starEach [] X.env)) (backToKw pos (keywordEach [] X.env))) := by rfl) :
    DEx X W (.Call (.Attribute o m apos) [] [] pos) (dMethX c m sp we aNil) := by
  obtain ⟨C, f, fd, a, F⟩ := O.ex
  obtain ⟨to, po, qo⟩ := ho.ex
  refine ⟨_, pe_methX0 po a.cl a.me F hr a.b (passAt tk) ht, fun b A own H σ s Ks Kx Q R h kk mx => ?_⟩
  show to σ H fun x H1 => ∃ a dx fs, x = .ref a ∧ H1 a = some (.ins C dx fs) ∧ fs.lookup m = none ∧ spOfX X.K 1 sp [x] H1 Q (L2.WE W σ)
  refine qo _ _ _ _ _ _ _ _ R h fun A1 o1 H1 v1 s1 x1 R1 U1 E1 h1 => ?_
  obtain ⟨j, c', fs, rfl, g, hc, hl, h1⟩ := h1
  cases List.mem_singleton.mp hc
  obtain ⟨p, C', dx, ws, rfl, n', hp, r, _⟩ := obj_at R1 E1 g
  rw [a.n] at n'
  cases n'
  exact ⟨p, dx, ws, rfl, hp, r.lookN ((getT_lookup fs).trans hl), callTX_run (xs := [.mu j]) rfl R1 ⟨E1, trivial⟩ h1 (kk.up U1) (mx.up U1.kp)⟩
end
/-! ### a caught error that is kept -/
section
variable {X : Cx} {pins : List (Addr × Obj)} {σ : L2.St} {H : Hp} {s : Shared}
theorem exV_ok {P : Program} {w : World} {H : Hp} {h : Heap} {a : Addr} {cls : Value} {oe : Obj} {vs : Array Value} (e : h.get? a = some oe) (z1 : oe.cls = cls) (z2 : oe.dict = none) (d : oe.data = .fields vs) : ObjOk P w H h a (ExV cls a) :=
  ⟨⟨oe, vs, e, z1, z2, d⟩, ⟨oe, e⟩, fun _ _ ⟨o, v, q, r⟩ k => ⟨o, v, k o q, r⟩⟩
theorem _root_.L2.Inv.track {a : Addr} {oe : Obj} {vs : Array Value} {cls : Value} (I : Inv X pins σ H s) (e : s.heap.get? a = some oe) (z1 : oe.cls = cls) (z2 : oe.dict = none) (d : oe.data = .fields vs) (na : H a = none) (nL : a ≠ X.env.locals)
    (np : ∀ p ∈ X.pn ++ pins, p.1 ≠ a) (n0 : X.s_0.heap.get? a = none) : Inv X pins σ (upd H a (ExV cls a)) s := by
  refine ⟨I.ok, I.os, I.bare, ⟨I.base.keep, I.base.slot, fun b o q n hx => ?_, I.base.there, fun b xs q => ?_, fun b o u q => ?_, fun b ps q => ?_⟩, I.loc, I.cell, ?_, fun x c q => ?_, fun p hp => ?_, fun b u q => ?_, I.len⟩
  · rw [upd_ne (fun z => by rw [z, n0] at q; cases q)]
    exact I.base.free b o q n hx
  · have h := I.base.tups b xs q
    rw [upd_ne (ne_of_none h na)]
    exact h
  · have h := I.base.frzs b o u q
    rw [upd_ne (ne_of_none h na)]
    exact h
  · obtain ⟨m, h⟩ := I.base.tbls b ps q
    exact ⟨m, by rw [upd_ne (ne_of_none h na)]; exact h⟩
  · rw [upd_ne (fun z => nL z.symm)]
    exact I.free
  · rw [upd_ne (fun z => ?_)]
    · exact I.freeC x c q
    · obtain ⟨v, o, ho, hd⟩ := I.cell x c q
      rw [z, e] at ho
      cases ho
      rw [d] at hd
      cases hd
  · obtain ⟨q1, q2, q3⟩ := I.pin p hp
    refine ⟨q1, ?_, q3⟩
    rw [upd_ne (np p hp)]
    exact q2
  · by_cases hb : b = a
    · subst hb
      rw [upd_same] at q
      cases q
      exact exV_ok e z1 z2 d
    · rw [upd_ne hb] at q
      exact (I.hok b u q).stay (fun c v _ h => h) (fun c h => by rw [upd_ne (ne_of_none h na)]; exact h) fun c xs h => by rw [upd_ne (ne_of_none h na)]; exact h
end
/-- what the clause 'except x as n' wishes, the error kept behind it -/
def wAsT (K : PySem.W.Frag) (c : Value) (i : Nat) (ts : Addr → Value → Option Addr → TS) (Wout : WX) (D : Ends) : WX := fun cls d σ H =>
  ∃ b, PySem.W.exmOne K cls c = some b ∧ (b = true → d = none ∧ ∀ a, H a = none → ts a cls d { nx := fun σ' H' => H' a = none → D.nx (σ'.set i none) (upd H' a (ExV cls a)), rt := fun v H' => H' a = none → D.rt v (upd H' a (ExV cls a)), bk := fun σ' H' => H' a = none → D.bk (σ'.set i none) (upd H' a (ExV cls a)), ct := fun σ' H' => H' a = none → D.ct (σ'.set i none) (upd H' a (ExV cls a)) } (σ.set i (some (.ref a))) H) ∧
    (b = false → Wout cls d σ H)
section
variable {X : Cx} {x n : Str} {c : Value} {i : Nat} {body suite : List Stmt} {b₀ : Stmt} {np pos pos' : Pos} {tb : WX → TS} {ts : Addr → Value → Option Addr → TS} {Wout : WX}
theorem ps_try_asT (hex : X.ex = []) (hs : X.stack = X.env :: X.outer) (hf : X.env.frame = some X.env.locals) (hN : X.N.Nodup) (hi : X.N[i]? = some n) (hln : X.env.kindOf n = some .local) (hc : Names X x c) (tk : Takes X Wout)
    (hb : ∀ (W : WX) (pn : List (Addr × Obj)) (xe : Value → Shared → Prop), Takes (X.tr pn xe) W → PassesOwn (model X.prog X.w) X.A X.env xe → PSs (X.tr pn xe) body (tb W))
    (hsu : ∀ (a : Addr) (oe : Obj) (cls : Value) (d : Option Addr) (pn : List (Addr × Obj)), Zc cls d oe → (∃ vs, oe.data = .fields vs) → PSs (X.suite a ((a, oe) :: pn)) (b₀ :: suite) (ts a cls d)) :
    PS X (.Try body [.ExceptHandler (some (.Name x np)) (some n) (b₀ :: suite) pos'] [] [] pos) (fun D σ H => tb (wAsT X.K c i ts Wout D) D σ H) := by
  refine ⟨fun pins s σ H D I h => ?_⟩
  have ok := I.ok
  have hfr : X.A.frames = some (X.env :: X.outer) := by rw [ok.frames, hs]
  have hloc : Loc X.env.scope n := .inl hln
  refine wpAny_Try_except ?_
  refine wpAny_mono ((hb (wAsT X.K c i ts Wout D) (X.pn ++ pins) (fun e s₁ => wpAny (model X.prog X.w) X.A (noteFrame e X.env) (fun _ s₂ => wpAny (model X.prog X.w) X.A (setFlight e none) (fun _ s₃ =>
    wpAny (model X.prog X.w) X.A (handleBy e X.env [.ExceptHandler (some (.Name x np)) (some n) (b₀ :: suite) pos']) (SP X pins D) X.xe s₃) X.xe s₂) X.xe s₁) (fun u s' xx => ?_) PassesOwn.looking).run [] s σ H D (I.toTry _) h) (fun f s1 hsp => ?_) (fun e s1 he => he)
  · -- the catch
    obtain ⟨a, B, sI, pins', σ', H', cls, d, rfl, J', nb, up, sky, na, os, ag, b, hb1, hyes, hno⟩ := xx
    have J : Inv X pins σ' H' sI := J'.ofTry ok
    have sky' : Sky B (X.env :: X.outer) a (Zc cls d) X.env.locals s'.heap := by rw [← hs]; exact sky
    show wpAny (model X.prog X.w) X.A (noteFrame (.ref a) X.env) _ _ _
    refine Sky.land Zc.steady hfr hf sky' fun h3 fl3 up3 => ?_
    have J3 : Inv X pins σ' H' { s' with heap := h3 } := J.landed nb fl3.1 (up.trans up3) os ag
    obtain ⟨oe3, vs3, he3, hz3, hd3⟩ := fl3.there
    have notFr : ∀ {h : Heap} {o : Obj} {vs : Array Value}, h.FunFrames B (X.env :: X.outer) → h.get? a = some o → o.data = .fields vs → a ∉ frs (X.env :: X.outer) := fun {h o vs} ff e dd hm => by
      obtain ⟨_, o', e', hnf⟩ := ff.mem hm
      rw [e] at e'; cases e'
      exact hnf _ dd
    have nfr := notFr fl3.2.2.1 he3 hd3
    have nL : a ≠ X.env.locals := fun z => nfr (List.mem_filterMap.mpr ⟨X.env, List.mem_cons_self, by rw [hf, z]⟩)
    have nF : a ∉ X.fs := fun hm => by
      obtain ⟨e, he, q⟩ := List.mem_filterMap.mp hm
      exact nfr (List.mem_filterMap.mpr ⟨e, List.mem_cons_of_mem _ he, q⟩)
    have S3 := J3.suite he3 hd3 na nL nF
    refine wpAny_handleBy_cons (codeAny_handlers_test ?_) (by intro q; cases q)
    have LT : PySem.W.Looks (model X.prog X.w) h3 (typeOf (.ref a)) cls := fun A Q E s k q => wpAny_typeOf_ref (k _ _ he3) (by rw [hz3.1]; exact q)
    have LM := PySem.W.exm_one (M := model X.prog X.w) (J3.kIn) LT hb1
    have test : ∀ {Q : Value → Shared → Prop} {E : Value → Shared → Prop}, Q c { s' with heap := h3 } → wpAny (model X.prog X.w) (X.A.mark (some (.ref a))) (eval (.Name x np) X.env) Q E { s' with heap := h3 } := fun {Q E} q => by
      obtain ⟨hg, hdbg, hm | ⟨hm, hv, hnn⟩⟩ := hc
      · exact ld_glob (X := X.suite a ((a, oe3) :: (X.pn ++ pins))) S3 hg hm q hdbg
      · exact ld_blt (X := X.suite a ((a, oe3) :: (X.pn ++ pins))) S3 hg hm hv q hnn hdbg
    refine test (LM.here ?_)
    cases b with
    | true =>
      obtain ⟨hd0, hyes⟩ := hyes rfl
      subst hd0
      obtain ⟨_, k2, _, _⟩ := id fl3
      have sIa : sI.heap.get? a = none := by
        cases q : sI.heap.get? a with
        | none => rfl
        | some o =>
          have z := nb a o q (by rw [hs]; exact nfr)
          rw [k2] at z
          cases z
      have npin : ∀ p ∈ X.pn ++ pins, p.1 ≠ a := fun p hp z => by
        have e := (J.pin p hp).1
        rw [z, sIa] at e
        cases e
      have n0 : X.s_0.heap.get? a = none := by
        cases q : X.s_0.heap.get? a with
        | none => rfl
        | some o =>
          obtain ⟨o', e⟩ := J.base.there a o q (by rw [hex]; exact fun z => nomatch z)
          rw [sIa] at e
          cases e
      refine codeAny_handlers_suite_as ?_
      refine HandSPX.lands_againZ fl3 fun h4 fl4 up4 => ?_
      have J4 : Inv X pins σ' H' { s' with heap := h4 } := J.landed nb fl4.1 ((up.trans up3).trans up4) os ag
      obtain ⟨oe4, vs4, he4, hz4, hd4⟩ := fl4.there
      have S4 := J4.suite he4 hd4 na nL nF
      refine store_ok (X := X.suite a ((a, oe4) :: (X.pn ++ pins))) (v := .ref a) S4 hN hi hloc rfl (fun s5 S5 => ?_) (.inr hln)
      refine wpAny_mono ((hsu a oe4 cls none (X.pn ++ pins) hz4 ⟨_, hd4⟩).run [] s5 _ H' _ S5 (hyes a na)) (fun f s6 hsp => ?_) (fun _ _ z => False.elim z)
      have end_ : ∀ {σ6 : L2.St} {H6 : Hp} {Q : Shared → Prop}, Inv (X.suite a ((a, oe4) :: (X.pn ++ pins))) [] σ6 H6 s6 → (H6 a = none → ∀ s7, Inv X pins (σ6.set i none) (upd H6 a (ExV cls a)) s7 → Q s7) →
          wpAny (model X.prog X.w) X.A (do bindName X.env n .none; unbindBehindTheSuite X.env n pos') (fun _ s7 => Q s7) X.xe s6 := fun {σ6 H6 Q} S6 hq => by
        obtain ⟨p1, p2, p3, p4, p5⟩ := S6.pin (a, oe4) (by rw [List.append_nil]; exact List.mem_cons_self)
        exact gone_ok (Inv.track (S6.unsuite ok) p1 hz4.1 hz4.2 hd4 p2 p3 npin n0) hN hi hln (hq p2)
      cases f with
      | next =>
        obtain ⟨σ6, H6, S6, q6⟩ := hsp
        exact end_ S6 fun n6 s7 J7 => ⟨_, _, J7, q6 n6⟩
      | brk =>
        obtain ⟨σ6, H6, S6, q6⟩ := hsp
        exact end_ S6 fun n6 s7 J7 => ⟨_, _, J7, q6 n6⟩
      | cont =>
        obtain ⟨σ6, H6, S6, q6⟩ := hsp
        exact end_ S6 fun n6 s7 J7 => ⟨_, _, J7, q6 n6⟩
      | ret u =>
        obtain ⟨v6, σ6, H6, S6, r6, q6⟩ := hsp
        exact end_ S6 fun n6 s7 J7 => ⟨_, _, _, J7, r6, q6 n6⟩
    | false =>
      show wpAny _ X.A (handleBy (.ref a) X.env []) _ _ _
      refine wpAny_handleBy_nil ?_
      obtain ⟨k1, k2, k3, oe, vs, T, oT, ts', he, hz, hd, h1, hr⟩ := id fl3
      unfold PySem.passOn
      refine wpAny_bind (wpAny_field he hd h1 ?_)
      rw [if_neg (show ¬ ((Value.ref T == Value.none) = true) from by simp)]
      have fin : wpAny (model X.prog X.w) X.A (setFlight (.ref a) X.env.frame) (fun _ s4 => wpAny (model X.prog X.w) X.A (throw (.ref a) : Sem Flow) (SP X pins D) X.xe s4) X.xe { s' with heap := h3 } := by
        rw [hf]
        refine HandSPX.setFlight_upZ fl3 fun h4 hh4 up4 => wpAny_throw (tk _ _ ?_)
        exact ⟨a, B, sI, pins, σ', H', cls, d, rfl, J, nb, (up.trans up3).trans up4, .inr (.inr (by rw [hs]; exact hh4)), na, os, ag, hno rfl⟩
      first
        | exact wpAny_bind (wpAny_pure (wpAny_bind fin))
        | exact wpAny_bind fin
  · cases f with
    | next =>
      obtain ⟨σ', H', J', q⟩ := hsp
      exact wpAny_execs_nil ⟨σ', H', J'.ofTry ok, q⟩
    | brk =>
      obtain ⟨σ', H', J', q⟩ := hsp
      exact ⟨σ', H', J'.ofTry ok, q⟩
    | cont =>
      obtain ⟨σ', H', J', q⟩ := hsp
      exact ⟨σ', H', J'.ofTry ok, q⟩
    | ret u =>
      obtain ⟨v, σ', H', J', r, q⟩ := hsp
      exact ⟨v, σ', H', J'.ofTry ok, r, q⟩
end
end DL
namespace DL
open PySem L2 PySem.Spec PyProof.Rows
def canSx (K : PySem.W.Frag) (W : WX) (w : WSx) : TS := fun E σ H => ∃ (b : Bd) (A : Addr → Prop) (own : List (List Addr)) (s : S) (D : Dn) (Kx : S → Str → Prop), Rel K b A own H σ s ∧ w s D Kx ∧ Mt K b A H D E ∧ MtX K b A H Kx W
theorem DSsx.can {X : Cx} {W : WX} {sts : List Stmt} {w : WSx} (h : DSsx X W sts w) : PSs X sts (canSx X.K W w) := by
  obtain ⟨t, p, q⟩ := h.ex
  exact ⟨fun pins s σ H D I ⟨b, A, own, s', Dd, Kx, R, hw, m, mx⟩ => p.run pins s σ H D I (q _ _ _ _ _ _ _ _ _ R hw m mx)⟩
theorem Rel.unset {K : PySem.W.Frag} {b : Bd} {A : Addr → Prop} {own : List (List Addr)} {H : Hp} {σ : L2.St} {s : S} (r : Rel K b A own H σ s) (i : Nat) : Rel K b A own H (σ.set i none) { s with es := st s.es i .no } := by
  refine r.slots (es' := st s.es i .no) (by rw [List.length_set, st_length]; exact r.len) fun j => ?_
  rw [gt_st]
  by_cases e : i = j ∧ i < s.es.length
  · rw [if_pos e]; exact .inl rfl
  · rw [if_neg e]
    rcases r.sl j with q | ⟨v, e', q⟩
    · exact .inl q
    · by_cases ij : i = j
      · subst ij
        have : ¬ i < s.es.length := fun z => e ⟨rfl, z⟩
        rw [List.getElem?_eq_none (by rw [r.len]; omega)] at e'
        cases e'
      · exact .inr ⟨v, by rw [List.getElem?_set_ne ij]; exact e', q⟩
/-- try: body, except BondError as n: y = n -/
def sTryAs (i j : Nat) (cs : List Str) (v : WSx) : WS := fun s D => v s D fun s1 c => c ∈ cs ∧ Nat.blt i s1.es.length = true ∧ D.nx ⟨st (st s1.es j (.mu s1.ms.length)) i .no, s1.ms ++ [.ins (.exc c) []], s1.np⟩
/-- the class x catches errors of the classes cs -/
structure ExmT (K : PySem.W.Frag) (mg : Str → Option Value) (x : Str) (cs : List Str) : Prop where
  ex : ∃ cv, mg x = some cv ∧ ∀ c ∈ cs, ∀ C, CN K c C → PySem.W.exmOne K (.ref C) cv = some true
section
variable {X : Cx} {body : List Stmt} {i j : Nat} {cs : List Str} {v : WSx} {xc n y : Str} {np py pn pa pos pos' : Pos}
theorem ds_try (hex : X.ex = []) (hs : X.stack = X.env :: X.outer) (hf : X.env.frame = some X.env.locals) (hN : X.N.Nodup) (hi : X.N[i]? = some n) (hj : X.N[j]? = some y) (hij : i ≠ j) (hln : X.env.kindOf n = some .local) (hly : Loc X.env.scope y) (hvn : Vis X.env.scope n)
    (F : ExmT X.K X.mg xc cs) (hg : Gl X xc) (hb : ∀ (W : WX) (pq : List (Addr × Obj)) (xe : Value → Shared → Prop), Takes (X.tr pq xe) W → PassesOwn (model X.prog X.w) X.A X.env xe → DSsx (X.tr pq xe) W body v)
    (hfy : X.fn y = true ∨ X.env.scope.names.lookup y = some .local := by first | exact .inl rfl | exact .inr rfl | assumption)
    (hdb : (xc == ("__debug__" : Str)) = false := by decide) (hdn : (n == ("__debug__" : Str)) = false := by decide) (hdc : (n == ("__classdict__" : Str)) = false := by decide) (hsw : swapsWith (.Name n pn) (some (.Name y py)) pa.line X.env = pure false := by rfl) :
    DS X (.Try body [.ExceptHandler (some (.Name xc np)) (some n) [.Assign [.Name y py] (.Name n pn) pa] pos'] [] [] pos) (sTryAs i j cs v) := by
  obtain ⟨cv, hm, hx⟩ := F.ex
  refine ⟨_, ps_try_asT (Wout := fun _ _ _ _ => False) (tb := fun W => canSx X.K W v) (ts := fun _ _ _ => tAsg (tVar i) (gName j)) hex hs hf hN hi hln ⟨hg, hdb, .inl hm⟩ takes0 (fun W pq xe tk po => (hb W pq xe tk po).can)
    (fun a oe cls d pq _ _ => pss_one (ps_set (X := X.suite a ((a, oe) :: pq)) hN hj hly (pe_var (X := X.suite a ((a, oe) :: pq)) hi hvn hdn hdc) hsw hfy)), fun b A own H σ s D E R h m => ?_⟩
  refine ⟨b, A, own, s, D, _, R, h, m, fun A' own' H' σ' s' c C R' kp hcn hk => ⟨true, hx c hk.1 C hcn, fun _ => ⟨rfl, fun a na => ?_⟩, fun z => nomatch z⟩⟩
  obtain ⟨hcs, hlt, hk⟩ := hk
  have hlt : i < s'.es.length := by simpa using hlt
  show ∃ v, (σ'.set i (some (V.ref a)))[i]? = some (some v) ∧ (H' a = none → E.nx (((σ'.set i (some (V.ref a))).set j (some v)).set i none) (upd H' a (ExV (.ref C) a)))
  refine ⟨.ref a, by rw [List.getElem?_set_self (by rw [R'.len]; exact hlt)], fun _ => ?_⟩
  obtain ⟨R1, U1, g1⟩ := R'.newMu (o := ExV (.ref C) a) na (.ins (.exc c) []) fun A2 o2 u => ⟨a, [], [], rfl, ⟨rfl, C, hcn, upd_same⟩, trivial⟩
  have R2 := (R1.slot (i := j) (v := .ref a) (x := .mu s'.ms.length) ⟨a, [], g1, rfl⟩).unset i
  have e : ((σ'.set i (some (V.ref a))).set j (some (V.ref a))).set i none = (σ'.set j (some (V.ref a))).set i none := by
    rw [List.set_comm _ _ hij, List.set_set]
  rw [e]
  exact m.nx _ _ _ _ _ R2 (kp.trans U1.kp) hk
end
/-! ### isinstance of a kept error -/
def rIsx (K : PySem.W.Frag) : List V → Hp → VK → Prop := fun xs H Q => ∃ (a D : Addr) (c : V) (cv : Value) (b : Bool), xs = [.ref a, c] ∧ H a = some (ExV (.ref D) a) ∧ ExcC K D ∧ ClsV c cv ∧ PySem.W.kitOne K (.ref D) cv = some b ∧ Q (.bl b) H
def rIsxT (K : PySem.W.Frag) : List V → Hp → VK → Prop := fun xs H Q => ∃ (a D tp : Addr) (cs : List V) (us : List Value) (b : Bool), xs = [.ref a, .ref tp] ∧ H a = some (ExV (.ref D) a) ∧ H tp = some (.tup cs) ∧ ExcC K D ∧ Paired ClsV cs us ∧ PySem.W.kitAny K (.ref D) us = some b ∧ Q (.bl b) H
section
variable {X : Cx} {pins : List (Addr × Obj)} {σ : L2.St} {H : Hp} {s : Shared}
theorem inst_of {a D : Addr} (I : Inv X pins σ H s) (e : H a = some (ExV (.ref D) a)) : ∃ oe, PySem.W.InstAt s.heap a oe D none := by
  obtain ⟨⟨oe, vs, h1, h2, h3, h4⟩, _⟩ := (show ObjOk X.prog X.w H s.heap a (ExV (.ref D) a) from I.hok a _ e)
  refine ⟨oe, ?_⟩
  obtain ⟨oc, od, oda, osl⟩ := oe
  dsimp only at h2 h3 h4
  subst h2 h3 h4
  exact ⟨h1, rfl, rfl, trivial⟩
theorem call_isx : CallR X (.builtin "isinstance") (rIsx X.K) := by
  intro pins s σ H xs us Q I r h
  obtain ⟨a, D, c, cv, b, rfl, e, C, hc, hk, q⟩ := h
  obtain ⟨u1, u2, rfl, r1, r2⟩ := vals2 r
  cases (show u1 = Value.ref a from r1)
  have e2 := hc.eq r2
  subst e2
  obtain ⟨oe, J⟩ := inst_of I e
  exact PySem.W.kia_one (PySem.W.handS_kitx_exc C.hg C.hk C.hs C.hd C.ha C.hn C.ht C.hm) I.kIn J hk (fun z => nomatch z) fun tk => ⟨.bl b, H, I.tok tk, rfl, q⟩
theorem call_isxT : CallR X (.builtin "isinstance") (rIsxT X.K) := by
  intro pins s σ H xs us Q I r h
  obtain ⟨a, D, tp, cs, ws, b, rfl, e, hT, C, k, hk, q⟩ := h
  obtain ⟨u1, u2, rfl, r1, r2⟩ := vals2 r
  cases (show u1 = Value.ref a from r1)
  cases (show u2 = Value.ref tp from r2)
  obtain ⟨oe, J⟩ := inst_of I e
  obtain ⟨_, its, rv, o, h1, h2, n, h3⟩ := (show ObjOk X.prog X.w H s.heap tp (.tup cs) from I.hok tp _ hT)
  have e3 := ClsV.all k rv
  subst e3
  obtain ⟨oc, od, dt, sl⟩ := o
  simp only at h2 h3
  subst h2 h3
  exact PySem.W.kia_tup (PySem.W.handS_kitx_exc C.hg C.hk C.hs C.hd C.ha C.hn C.ht C.hm) I.kIn J h1 hk (fun z => nomatch z) fun tk => ⟨.bl b, H, I.tok tk, rfl, q⟩
end
/-- what isinstance(e, x) tells of errors of the classes fs; x an own class, or ValueError -/
structure IsxT (K : PySem.W.Frag) (mg : Str → Option Value) (x : Str) (fs : List (Str × Bool)) : Prop where
  ex : ∃ cv c, (c = V.ty "ValueError" ∧ cv = .type "ValueError" ∧ x = Str.ofString "ValueError" ∧ mg x = none ∨ ∃ C, c = V.ref C ∧ cv = .ref C ∧ mg x = some (.ref C)) ∧ ∀ p ∈ fs, ∀ D, CN K p.1 D → ExcC K D ∧ PySem.W.kitOne K (.ref D) cv = some p.2
/-- .. isinstance(e, (x, ..)) -/
structure IsxsT (K : PySem.W.Frag) (mg : Str → Option Value) (xs : List Str) (fs : List (Str × Bool)) : Prop where
  ex : ∃ Cs : List Addr, xs.map mg = Cs.map (fun C => some (.ref C)) ∧ ∀ p ∈ fs, ∀ D, CN K p.1 D → ExcC K D ∧ PySem.W.kitAny K (.ref D) (Cs.map .ref) = some p.2
def dIsx (fs : List (Str × Bool)) (wa : WE) : WE := fun s Ks => wa s fun s1 x => ∃ j c es r, x = .mu j ∧ gm s1.ms j = .ins (.exc c) es ∧ (c, r) ∈ fs ∧ Ks s1 (.da (.bool r))
section
variable {X : Cx} {a e : Expr} {wa : WE} {pos : Pos}
theorem exc_at {K : PySem.W.Frag} {b : Bd} {A : Addr → Prop} {own : List (List Addr)} {H : Hp} {σ : L2.St} {s : S} (R : Rel K b A own H σ s) {v : V} {j : Nat} {c : Str} {es : List (Str × En)} (E : ER K A own H v (.mu j)) (g : gm s.ms j = .ins (.exc c) es) :
    ∃ p C, v = .ref p ∧ CN K c C ∧ H p = some (ExV (.ref C) p) := by
  have m := R.mr j
  rw [g] at m
  obtain ⟨p, r, ws, e1, ⟨e0, C, h1, h2⟩, _⟩ := m
  obtain ⟨p', r', e4, rfl⟩ := E
  rw [e1] at e4
  cases e4
  exact ⟨p, C, rfl, h1, h2⟩
theorem de_isx {x : Str} {fs : List (Str × Bool)} {p p2 : Pos} (F : IsxT X.K X.mg x fs) (hg : Gl X "isinstance") (hm : X.mg "isinstance" = none) (hgx : Gl X x) (ha : DE X a wa) (hdx : (x == ("__debug__" : Str)) = false := by decide)
    (he : starEach (a :: [.Name x p2]) X.env = (false, eval a X.env) :: starEach [.Name x p2] X.env := by rfl) (hpl : (backTo pos (starEach [.Name x p2] X.env)).any (·.1) = false := by rfl) : DE X (.Call (.Name "isinstance" p) [a, .Name x p2] [] pos) (dIsx fs wa) := by
  obtain ⟨cv, c, hc, hF⟩ := F.ex
  obtain ⟨ta, pa, qa⟩ := ha.ex
  have cl : ClsV c cv := by
    rcases hc with ⟨rfl, rfl, _⟩ | ⟨C, rfl, rfl, _⟩
    · exact .ty _
    · exact .own _
  have px : PE X (.Name x p2) (tC c) := by
    rcases hc with ⟨rfl, rfl, rfl, hmx⟩ | ⟨C, rfl, rfl, hmx⟩
    · exact pe_bltn hgx hmx (show bootBuiltins (Str.ofString "ValueError") = some (.type "ValueError") by rfl) (show RelV (.ty "ValueError") (.type "ValueError") from rfl)
    · exact pe_glob hgx hmx (show RelV (.ref C) (.ref C) from rfl) hdx
  refine ⟨_, pe_callB call_isx hg hm (show bootBuiltins "isinstance" = some (.builtin "isinstance") by rfl) (pa_cons pa (pa_cons px pa_nil) he) (he := he) (hpl := hpl), fun b A own H σ s Ks Q R h k => ?_⟩
  show ta σ H fun v H1 => rIsx X.K [v, c] H1 Q
  refine qa _ _ _ _ _ _ _ _ R h fun A1 o1 H1 v1 s1 x1 R1 U1 E1 h1 => ?_
  obtain ⟨j, cc, es, r, rfl, g, hcr, h1⟩ := h1
  obtain ⟨q, C, rfl, hcn, hq⟩ := exc_at R1 E1 g
  obtain ⟨hC, hk⟩ := hF _ hcr C hcn
  exact ⟨q, C, c, cv, r, rfl, hq, hC, cl, hk, k _ _ _ _ _ (.da (.bool r)) R1 U1 (.bl r) h1⟩
/-- is it nothing -/
def rdIsNx : S → En → En → (S → En → Prop) → Prop := fun s x y Ks => match x, y with
  | .mu j, .da .none => (∃ c es, gm s.ms j = .ins (.exc c) es) ∧ Ks s (.da (.bool false))
  | x, y => rdIsN false s x y Ks
theorem opd_isNx {K : PySem.W.Frag} : OpD K (fun x y H Q => y = .non ∧ Q (.bl (decide (x = .non))) H) rdIsNx := by
  intro b A own H σ s vx vy x y Ks Q R ex ey h k
  cases x with
  | mu j =>
    cases y with
    | da d =>
      cases d with
      | none =>
        obtain ⟨⟨c, es, g⟩, h⟩ := h
        obtain ⟨p, C, rfl, _, _⟩ := exc_at R ex g
        cases ey
        refine ⟨rfl, ?_⟩
        rw [show decide (V.ref p = V.non) = false from rfl]
        exact k _ _ _ _ _ (.da (.bool false)) R Up.refl (.bl false) h
      | _ => exact h.elim
    | _ => exact h.elim
  | da d => exact opd_isN _ _ _ _ _ _ _ _ _ _ _ _ R ex ey h k
  | no => exact opd_isN _ _ _ _ _ _ _ _ _ _ _ _ R ex ey h k
theorem de_isNx {b : Expr} {wb : WE} (ha : DE X a wa) (hb : DE X b wb) : DE X (.Compare a [.Is] [b] pos) (d2 rdIsNx wa wb) := de_cmp op_isN opd_isNx ha hb (nomark _)
theorem dt_isNx {b : Expr} {wb : WE} (ha : DE X a wa) (hb : DE X b wb) : DT X (.Compare a [.Is] [b] pos) (tT (d2 rdIsNx wa wb)) := dt_cmp op_isN opd_isNx ha hb (nomark _)
end
end DL
namespace DL
open PySem L2 PySem.Spec PyProof.Rows
section
variable {X : Cx} {a e : Expr} {wa : WE} {pos : Pos} {es : List Expr} {xs : List Str}
theorem paired_refs : ∀ l : List Addr, Paired ClsV (l.map V.ref) (l.map Value.ref)
  | [] => .nil
  | C :: r => .cons (.own C) (paired_refs r)
/-- names of own classes, as arguments -/
structure DCls (X : Cx) (es : List Expr) (xs : List Str) : Prop where
  ex : ∀ Cs : List Addr, xs.map X.mg = Cs.map (fun C => some (.ref C)) → PA X es (fun σ H Q => Q (Cs.map V.ref) H)
theorem dcls_nil : DCls X [] [] := ⟨fun Cs h => by
  cases Cs with
  | nil => exact pa_nil
  | cons _ _ => cases h⟩
theorem dcls_cons {x : Str} {p : Pos} (hg : Gl X x) (t : DCls X es xs) (hd : (x == ("__debug__" : Str)) = false := by decide) (hs : starEach (.Name x p :: es) X.env = (false, eval (.Name x p) X.env) :: starEach es X.env := by rfl) : DCls X (.Name x p :: es) (x :: xs) := ⟨fun Cs h => by
  cases Cs with
  | nil => cases h
  | cons C Cs =>
    obtain ⟨h1, h2⟩ := List.cons.inj h
    exact pa_cons (pe_glob hg h1 (show RelV (.ref C) (.ref C) from rfl) hd) (t.ex Cs h2) hs⟩
theorem de_isxs {fs : List (Str × Bool)} {p p2 : Pos} {x1} (F : IsxsT X.K X.mg xs fs) (hg : Gl X "isinstance") (hm : X.mg "isinstance" = none) (hc : DCls X es xs) (ha : DE X a wa) (hl : xs.length ≤ 50 := by decide)
    (he : starEach (a :: [.Tuple es x1 p2]) X.env = (false, eval a X.env) :: starEach [.Tuple es x1 p2] X.env := by rfl) (he2 : starEach (.Tuple es x1 p2 :: []) X.env = (false, eval (.Tuple es x1 p2) X.env) :: starEach [] X.env := by rfl) (hpl : (backTo pos (starEach [.Tuple es x1 p2] X.env)).any (·.1) = false := by rfl) :
    DE X (.Call (.Name "isinstance" p) [a, .Tuple es x1 p2] [] pos) (dIsx fs wa) := by
  obtain ⟨Cs, hC, hF⟩ := F.ex
  obtain ⟨ta, pa, qa⟩ := ha.ex
  have px : PE X (.Tuple es x1 p2) _ := pe_tup (hc.ex Cs hC)
  have lC : (Cs.map V.ref).length ≤ sizeLine := by
    have := congrArg List.length hC
    rw [List.length_map, List.length_map] at this
    rw [List.length_map, ← this, sizeLine_eq]
    omega
  refine ⟨_, pe_callB call_isxT hg hm (show bootBuiltins "isinstance" = some (.builtin "isinstance") by rfl) (pa_cons pa (pa_cons px pa_nil he2) he) (he := he) (hpl := hpl), fun b A own H σ s Ks Q R h k => ?_⟩
  show ta σ H fun v H1 => (Cs.map V.ref).length ≤ sizeLine ∧ ∀ p, H1 p = none → rIsxT X.K [v, .ref p] (upd H1 p (.tup (Cs.map V.ref))) Q
  refine qa _ _ _ _ _ _ _ _ R h fun A1 o1 H1 v1 s1 x1 R1 U1 E1 h1 => ⟨lC, fun p hp => ?_⟩
  obtain ⟨j, cc, es, r, rfl, g, hcr, h1⟩ := h1
  obtain ⟨R2, U2⟩ := R1.new (o := .tup (Cs.map V.ref)) hp
  obtain ⟨q, C, rfl, hcn, hq⟩ := exc_at R2 (E1.up U2) g
  obtain ⟨hD, hk⟩ := hF _ hcr C hcn
  refine ⟨q, C, p, Cs.map V.ref, Cs.map .ref, r, rfl, hq, upd_same, hD, ?_, hk, k _ _ _ _ _ (.da (.bool r)) R2 (U1.trans U2) (.bl r) h1⟩
  exact paired_refs Cs
end
/-! ### defs that raise -/
section
variable {P : Program} {w : World} {K : PySem.W.Frag} {mg : Str → Option Value} {base : Heap}
theorem fn_dataX {x qual : Str} {st : Stmt} {f : Addr} {fd : FuncData} {N ps : List Str} {k : Nat} {sp : SpX} (F : Fun K x qual st f fd) (Sc : FnScope N ps (defScope st)) (v : WSx)
    (hb : ∀ (cdv : Value) (A : Around) (outer : List Env) (s : Shared) (H : Hp) (E : XK), RoomG k (A.deeper (PyProof.Rows.envOfC qual (defScope st) s.heap.objs.size f cdv)) → Takes (cxOf (L2.CX P w) P w K mg base N qual (defScope st) f cdv A outer s H E) (fun cls d _ H => E cls d H) →
      DSsx (cxOf (L2.CX P w) P w K mg base N qual (defScope st) f cdv A outer s H E) (fun cls d _ H => E cls d H) (defBody st) v)
    (hsp : ∀ xs ms Ks Kx, sp xs ms Ks Kx → xs.length = ps.length → v ⟨xs ++ nos (N.length - ps.length), ms, ms.length⟩ (endT Ks) (fun s c => Kx s.ms c)) : FnOkG P w K mg base (L2.CX P w) (k + 1) f fd ps (spOfX K ps.length sp) := by
  obtain ⟨oc, od, kV, doc, pm, an, cdv, ct, osl, rfl, lk, hcd⟩ := F.ex
  refine fn_byG lk hcd Sc (fun vs H Q E h => ?_) fun A outer s H vs Q E hr hg h => ?_
  · obtain ⟨_, _, _, _, _, _, hn, _⟩ := h
    exact hn
  · obtain ⟨Av, own, xs, ms, Ks, Kx, hn, he, ho, hs, k1, k2⟩ := h
    obtain ⟨t, pt, qt⟩ := (hb cdv A outer s H E ⟨hr, hg⟩ (takes_of rfl rfl rfl rfl)).ex
    have hxl : xs.length = ps.length := he.len.symm.trans hn
    have hN : ps.length ≤ N.length := by
      have := congrArg List.length Sc.pre
      rw [List.length_take] at this
      omega
    refine ⟨t, pt, ?_⟩
    have R : Rel K ⟨H, own, Av⟩ Av own H (L2.start N vs) ⟨xs ++ nos (N.length - ps.length), ms, ms.length⟩ := by
      refine ⟨ho, ?_, fun i => ?_, fun a h => h, fun a o n h => h, fun k a h => .inl ⟨k, h⟩, ?_, ?_, fun a h => .inl h, ho.al⟩
      · show (vs.map some ++ List.replicate (N.length - vs.length) none).length = _
        simp [nos_length, hn, hxl]
      · show gt (xs ++ nos (N.length - ps.length)) i = .no ∨ ∃ v, (vs.map some ++ List.replicate (N.length - vs.length) none)[i]? = some (some v) ∧ _
        rw [hn]
        exact start_at N he _ i
      · show own.take ms.length = own
        rw [← ho.ol]; exact List.take_length
      · show ms.length ≤ own.length
        rw [ho.ol]; exact Nat.le_refl _
    have fin : ∀ (A' : Addr → Prop) (own' : List (List Addr)) (H' : Hp) (σ' : L2.St) (s' : S) (v : V) (x : En), Rel K ⟨H, own, Av⟩ A' own' H' σ' s' → ER K A' own' H' v x → Ks s'.ms x → Q v H' := by
      intro A' own' H' σ' s' v x R' ex hx
      have np : own.length = s'.np := R'.np
      have hpre : own'.take own.length = own := by rw [np]; exact R'.pre
      exact k1 A' own' H' v s'.ms x R'.toOwn hpre R'.ge R'.lim (fun a o n h => R'.fr a o n h) R'.fo ex hx
    refine qt _ _ _ _ _ _ (endT Ks) _ _ R (hsp xs ms Ks Kx hs hxl) ⟨fun A' own' H' σ' s' R' _ h => fin A' own' H' σ' s' .non (.da .none) R' .non h, fun A' own' H' σ' s' v x R' _ ex h => fin A' own' H' σ' s' v x R' ex (onE_inv h).2, fun _ _ _ _ _ _ _ h => h.elim, fun _ _ _ _ _ _ _ h => h.elim⟩ fun A' own' H' σ' s' c C R' _ hc hk => ?_
    have np : own.length = s'.np := R'.np
    have hpre : own'.take own.length = own := by rw [np]; exact R'.pre
    exact k2 A' own' H' s'.ms c C R'.toOwn hpre R'.ge R'.lim (fun a o n h => R'.fr a o n h) R'.fo hc hk
theorem ok_dataX {x : Str} {st : Stmt} {N ps : List Str} {k n n0 : Nat} {sp : SpX} (hF : ∃ f fd, At K mg x st ps f fd) (Sc : FnScope N ps (defScope st)) (v : WSx)
    (hb : ∀ (f : Addr) (cdv : Value) (A : Around) (outer : List Env) (s : Shared) (H : Hp) (E : XK), RoomG k (A.deeper (PyProof.Rows.envOfC x (defScope st) s.heap.objs.size f cdv)) → Takes (cxOf (L2.CX P w) P w K mg base N x (defScope st) f cdv A outer s H E) (fun cls d _ H => E cls d H) →
      DSsx (cxOf (L2.CX P w) P w K mg base N x (defScope st) f cdv A outer s H E) (fun cls d _ H => E cls d H) (defBody st) v)
    (hsp : ∀ xs ms Ks Kx, sp xs ms Ks Kx → xs.length = n → v (st0 xs n0 ms ms.length) (endT Ks) (fun s c => Kx s.ms c)) (hn : ps.length = n := by rfl) (hn0 : N.length - ps.length = n0 := by rfl) : OkX P w K mg base (k + 1) x st ps n sp := by
  obtain ⟨f, fd, a⟩ := hF
  subst hn
  subst hn0
  exact ⟨f, fd, a, fn_dataX a.F Sc v (hb f) hsp⟩
theorem ok_dataMX {c m q : Str} {st : Stmt} {N ps : List Str} {k n n0 : Nat} {sp : SpX} (hF : ∃ C f fd, AtM K c m q st ps C f fd) (Sc : FnScope N ps (defScope st)) (v : WSx)
    (hb : ∀ (f : Addr) (cdv : Value) (A : Around) (outer : List Env) (s : Shared) (H : Hp) (E : XK), RoomG k (A.deeper (PyProof.Rows.envOfC q (defScope st) s.heap.objs.size f cdv)) → Takes (cxOf (L2.CX P w) P w K mg base N q (defScope st) f cdv A outer s H E) (fun cls d _ H => E cls d H) →
      DSsx (cxOf (L2.CX P w) P w K mg base N q (defScope st) f cdv A outer s H E) (fun cls d _ H => E cls d H) (defBody st) v)
    (hsp : ∀ xs ms Ks Kx, sp xs ms Ks Kx → xs.length = n → v (st0 xs n0 ms ms.length) (endT Ks) (fun s c => Kx s.ms c)) (hn : ps.length = n := by rfl) (hn0 : N.length - ps.length = n0 := by rfl) : OkMX P w K mg base (k + 1) c m q st ps n sp := by
  obtain ⟨C, f, fd, a⟩ := hF
  subst hn
  subst hn0
  exact ⟨C, f, fd, a, fn_dataX a.F Sc v (hb f) hsp⟩
end
end DL
namespace DL
open PySem L2 PySem.Spec PyProof.Rows
section
variable {X : Cx} {o e a b : Expr} {wo we wa wb : WE} {pos : Pos}
/-- text.split(sep) -/
def fSplit : S → Str → D → (S → En → Prop) → Prop := fun s a c Ks => match c with
  | .str b => (b.length == 0) = false ∧ a.length + 2 ≤ sizeLine ∧ Ks s (.da (.list ((Txt.split a b).map .str)))
  | _ => False
def dTx2 (f : S → Str → D → (S → En → Prop) → Prop) (wo we : WE) : WE := fun s Ks => wo s fun s1 x => daI x fun d => match d with
  | .str a => we s1 fun s2 y => daI y fun c => f s2 a c Ks
  | _ => False
theorem rpl_txts {K : PySem.W.Frag} {A : Addr → Prop} {H : Hp} : ∀ ys : List Str, RpL K A H (ys.map V.str) (ys.map PyData.str)
  | [] => .nil
  | y :: ys => .cons (.str y) (rpl_txts ys)
theorem de_split {apos pos : Pos} (ho : DE X o wo) (he : DE X e we) (hs : starEach [e] X.env = [(false, eval e X.env)] := by rfl) (hbase : attributeBase o "split" X.env (eval o X.env) = eval o X.env := by rfl) (hline : (apos.endLine == pos.line) = true := by rfl) :
    DE X (.Call (.Attribute o "split" apos) [e] [] pos) (dTx2 fSplit wo we) := by
  obtain ⟨to, po, qo⟩ := ho.ex
  obtain ⟨te, pe, qe⟩ := he.ex
  refine ⟨_, pe_m1 PySem.F.slot_str_split PySem.F.type_str_split mt_split po pe hs hbase hline, fun b A own H σ s Ks Q R h k => ?_⟩
  refine qo _ _ _ _ _ _ _ _ R h fun A1 o1 H1 v1 s1 x1 R1 U1 E1 h1 => ?_
  obtain ⟨d, rfl, h2⟩ := daI_inv h1
  clear h1
  split at h2
  · rename_i a
    cases (show Rp X.K A1 H1 v1 (.str a) from E1)
    refine ⟨⟨a, rfl⟩, ?_⟩
    refine qe _ _ _ _ _ _ _ _ R1 h2 fun A2 o2 H2 v2 s2 x2 R2 U2 E2 h3 => ?_
    obtain ⟨c, rfl, h4⟩ := daI_inv h3
    clear h3
    unfold fSplit at h4
    split at h4
    · rename_i b
      cases (show Rp X.K A2 H2 v2 (.str b) from E2)
      exact ⟨a, b, rfl, rfl, h4.1, h4.2.1, fun p hp => new_lst R2 (k.up (U1.trans U2)) (rpl_txts _) hp h4.2.2⟩
    · exact h4.elim
  · exact h2.elim
/-- text.index(sign) where it is found -/
def fIndex : S → Str → D → (S → En → Prop) → Prop := fun s a c Ks => match c with
  | .str b => ∃ i rest, Builtin.Str.occurrences a b 0 a.length 1 = i :: rest ∧ Ks s (.da (.int (i : Nat)))
  | _ => False
theorem de_sindex {apos pos : Pos} (ho : DE X o wo) (he : DE X e we) (hs : starEach [e] X.env = [(false, eval e X.env)] := by rfl) (hbase : attributeBase o "index" X.env (eval o X.env) = eval o X.env := by rfl) (hline : (apos.endLine == pos.line) = true := by rfl) :
    DE X (.Call (.Attribute o "index" apos) [e] [] pos) (dTx2 fIndex wo we) := by
  obtain ⟨to, po, qo⟩ := ho.ex
  obtain ⟨te, pe, qe⟩ := he.ex
  refine ⟨_, pe_m1 PySem.F.slot_str_index PySem.F.type_str_index mt_sindex po pe hs hbase hline, fun b A own H σ s Ks Q R h k => ?_⟩
  refine qo _ _ _ _ _ _ _ _ R h fun A1 o1 H1 v1 s1 x1 R1 U1 E1 h1 => ?_
  obtain ⟨d, rfl, h2⟩ := daI_inv h1
  clear h1
  split at h2
  · rename_i a
    cases (show Rp X.K A1 H1 v1 (.str a) from E1)
    refine ⟨⟨a, rfl⟩, ?_⟩
    refine qe _ _ _ _ _ _ _ _ R1 h2 fun A2 o2 H2 v2 s2 x2 R2 U2 E2 h3 => ?_
    obtain ⟨c, rfl, h4⟩ := daI_inv h3
    clear h3
    unfold fIndex at h4
    split at h4
    · rename_i b
      cases (show Rp X.K A2 H2 v2 (.str b) from E2)
      obtain ⟨i, rest, h5, h6⟩ := h4
      exact ⟨a, b, i, rest, rfl, rfl, h5, k.da R2 (U1.trans U2) (.int _) h6⟩
    · exact h4.elim
  · exact h2.elim
end
/-! ### text[::-1] -/
def revS (z : Str) : Str := ⟨((Builtin.Str.strSliceIndices none none (-1) z.length).filterMap (z.cps[·]?)).toArray⟩
theorem revS_len (z : Str) : (revS z).length ≤ z.length := by
  show (((Builtin.Str.strSliceIndices none none (-1) z.length).filterMap (z.cps[·]?)).toArray).size ≤ z.length
  rw [List.size_toArray]
  refine Nat.le_trans (List.length_filterMap_le _ _) ?_
  show (sliceRange (if (-1 : Int) > 0 then 0 else (z.length : Int) - 1) (if (-1 : Int) > 0 then (z.length : Int) else -1) (-1)).length ≤ _
  rw [if_neg (by decide), if_neg (by decide), PySem.W.krv_sliceRange, List.length_map, List.length_range]
  exact Nat.le_refl _
def tRevT (te : TE) : TE := fun σ H Q => te σ H fun x H1 => ∃ z, x = .str z ∧ z.length ≤ sizeLine ∧ Q (.str (revS z)) H1
section
variable {X : Cx}
theorem pe_revT {e : Expr} {te : TE} {k : Nat} {p1 p2 p3 pos : Pos} (he : PE X e te) : PE X (.Subscript e (.Slice none none (some (.UnaryOp .USub (.Constant (.int 1) k p1) p2)) p3) pos) (tRevT te) := by
  refine ⟨fun pins s σ H Q I h => ?_⟩
  refine Subscript_ (thn (he.run pins s σ H _ I h) fun v s1 ⟨x, H1, I1, r1, q1⟩ => ?_)
  obtain ⟨z, ex, hz, q⟩ := q1
  subst ex
  obtain ⟨t, rfl⟩ := r1
  have hst : PO X (some (.UnaryOp .USub (.Constant (.int 1) k p1) p2)) (tPart (tUn (rU fun i => .int (-i)) (tC (.int 1)))) := po_some (pe_un un_neg pe_int)
  refine wpAny_Slice (thn (po_none.run pins s1 σ H1 (fun o H2 => o = none ∧ H2 = H1) I1 ⟨rfl, rfl⟩) fun vl s2 ⟨l, H2, I2, pl, el, e2⟩ => ?_)
  subst el e2
  refine thn (po_none.run pins s2 σ H2 (fun o H3 => o = none ∧ H3 = H2) I2 ⟨rfl, rfl⟩) fun vu s3 ⟨u, H3, I3, pu, eu, e3⟩ => ?_
  subst eu e3
  refine thn (hst.run pins s3 σ H3 (fun o H4 => o = some (-1) ∧ H4 = H3) I3 ⟨1, rfl, -1, rfl, rfl, rfl⟩) fun vs s4 ⟨o, H4, I4, ps, eo, e4⟩ => ?_
  subst eo e4
  have I5 : Inv X pins σ H4 { s4 with heap := s4.heap.push { cls := .type "slice", data := .fields #[vl, vu, vs] } } := I4.kept (t' := s4.toks) fun b ob q => Heap.get?_push_of_some _ q
  obtain ⟨l', rfl, hl1⟩ := IsPart.raw pl
  obtain ⟨u', rfl, hu1⟩ := IsPart.raw pu
  obtain ⟨w', rfl, hw1⟩ := IsPart.raw ps
  cases l' with
  | some x => cases hl1
  | none =>
  cases u' with
  | some x => cases hu1
  | none =>
  cases w' with
  | none => cases hw1
  | some y =>
  obtain ⟨y1, y2⟩ := y
  cases hw1
  show wpAny (model X.prog X.w) X.A (subscriptTail e (.Slice none none (some (.UnaryOp .USub (.Constant (.int 1) k p1) p2)) p3) (.str z t) (.ref s4.heap.objs.size)) (EP X pins σ Q) X.xe _
  refine tail_any (ops := [.str z t, .ref s4.heap.objs.size]) (typeIs_str _ _ _) F.slot_str_getitem.lookup ?_ (by with_unfolding_all rfl)
  refine wpAny_getItem_str_slice (l := none) (u := none) (st := some (-1, y2)) (by obtain ⟨os, h1, h2, h3⟩ := Heap.IsSliceOf.new s4.heap (partValue none) (partValue none) (partValue (some (-1, y2))); exact ⟨os, h1, h2, h3⟩) rfl ?_
  show Made.post (Made.str (revS z)) (EP X pins σ Q) _
  exact ⟨Nat.le_trans (revS_len z) hz, .str _, H4, I5.tok _, ⟨_, rfl⟩, q⟩
def dRevT (wa : WE) : WE := fun s Ks => wa s fun s1 x => daI x fun d => match d with
  | .str z => z.length ≤ sizeLine ∧ Ks s1 (.da (.str (revS z)))
  | _ => False
theorem de_revT {e : Expr} {we : WE} {k : Nat} {p1 p2 p3 pos : Pos} (he : DE X e we) : DE X (.Subscript e (.Slice none none (some (.UnaryOp .USub (.Constant (.int 1) k p1) p2)) p3) pos) (dRevT we) := by
  obtain ⟨te, pe, qe⟩ := he.ex
  refine ⟨_, pe_revT pe, fun b A own H σ s Ks Q R h k => ?_⟩
  show te σ H fun x H1 => ∃ z, x = .str z ∧ z.length ≤ sizeLine ∧ Q (.str (revS z)) H1
  refine qe _ _ _ _ _ _ _ _ R h fun A1 o1 H1 v1 s1 x1 R1 U1 E1 h1 => ?_
  obtain ⟨d, rfl, h2⟩ := daI_inv h1
  clear h1
  split at h2
  · rename_i z
    cases (show Rp X.K A1 H1 v1 (.str z) from E1)
    exact ⟨z, rfl, h2.1, k.da R1 U1 (.str _) h2.2⟩
  · exact h2.elim
end
theorem opd_notinS {K : PySem.W.Frag} : OpD K (fun x y H Q => ∃ i j, x = .str i ∧ y = .str j ∧ Q (.bl (!(!(Builtin.Str.occurrences j i 0 j.length 1).isEmpty))) H) (rdInS true) := by
  intro b A own H σ s vx vy x y Ks Q R ex ey h k
  unfold rdInS at h
  split at h
  · rename_i i j
    cases (show Rp K A H vx (.str i) from ex)
    cases (show Rp K A H vy (.str j) from ey)
    exact ⟨i, j, rfl, rfl, k.da R Up.refl (.bl _) h⟩
  · exact h.elim
section
variable {X : Cx} {a b : Expr} {wa wb : WE} {pos : Pos}
theorem de_notinS (ha : DE X a wa) (hb : DE X b wb) (hm : behindInMarks .NotIn b = false := by rfl) : DE X (.Compare a [.NotIn] [b] pos) (d2 (rdInS true) wa wb) := de_cmp op_notin_str opd_notinS ha hb hm
theorem dt_notinS (ha : DE X a wa) (hb : DE X b wb) (hm : behindInMarks .NotIn b = false := by rfl) : DT X (.Compare a [.NotIn] [b] pos) (tT (d2 (rdInS true) wa wb)) := dt_cmp op_notin_str opd_notinS ha hb hm
theorem dt_inS (ha : DE X a wa) (hb : DE X b wb) (hm : behindInMarks .In b = false := by rfl) : DT X (.Compare a [.In] [b] pos) (tT (d2 (rdInS false) wa wb)) := dt_cmp op_in_str opd_inS ha hb hm
end
end DL
set_option exponentiation.threshold 9000
namespace K03
open PySem L2 PySem.Spec PyProof.Rows DL
def topS (i : Nat) : Stmt := PySem.Challenge.pw_strengthbond_k03_measures_spoilt_anywher.main.body.getD i (.Pass ⟨0, 0, 0, 0⟩)
abbrev s_is_figures : Stmt := topS 12
abbrev s_read_number : Stmt := topS 13
abbrev s_read_bulk : Stmt := topS 14
abbrev s_read_measure : Stmt := topS 15
abbrev s_begin : Stmt := topS 17
abbrev s_take : Stmt := topS 18
abbrev s_same : Stmt := topS 19
abbrev s_written : Stmt := topS 20
abbrev s_parts : Stmt := topS 21
abbrev s_told : Stmt := topS 22
abbrev s_measure_of : Stmt := topS 23
abbrev s_bent : Stmt := topS 24
abbrev s_right : Stmt := topS 25
abbrev s_law : Stmt := topS 26
theorem sc_is_figures : FnScope ["text", "most", "sign"] ["text", "most"] (defScope s_is_figures) := ⟨rfl, rfl, rfl, by decide +kernel, rfl, by decide +kernel, by decide +kernel⟩
theorem sc_read_number : FnScope ["text", "most", "places", "ahead", "point", "behind"] ["text", "most", "places"] (defScope s_read_number) := ⟨rfl, rfl, rfl, by decide +kernel, rfl, by decide +kernel, by decide +kernel⟩
theorem sc_read_bulk : FnScope ["text", "found"] ["text"] (defScope s_read_bulk) := ⟨rfl, rfl, rfl, by decide +kernel, rfl, by decide +kernel, by decide +kernel⟩
theorem sc_read_measure : FnScope ["text", "ahead", "sign", "behind", "bulk", "strength"] ["text"] (defScope s_read_measure) := ⟨rfl, rfl, rfl, by decide +kernel, rfl, by decide +kernel, by decide +kernel⟩
theorem sc_begin : FnScope ["_law_script", "_law_cells"] ["_law_script"] (defScope s_begin) := ⟨rfl, rfl, rfl, by decide +kernel, rfl, by decide +kernel, by decide +kernel⟩
theorem sc_take : FnScope ["_law_state", "_law_many", "_law_turn", "_law_place", "_law_cell", "_law_digit", "_law_mixed"] ["_law_state", "_law_many"] (defScope s_take) := ⟨rfl, rfl, rfl, by decide +kernel, rfl, by decide +kernel, by decide +kernel⟩
theorem sc_same : FnScope ["_law_found", "_law_due", "_law_one", "_law_other"] ["_law_found", "_law_due"] (defScope s_same) := ⟨rfl, rfl, rfl, by decide +kernel, rfl, by decide +kernel, by decide +kernel⟩
theorem sc_written : FnScope ["_law_state", "_law_most", "_law_places", "_law_many", "_law_ahead", "_law_behind", "_law_number", "_law_k"] ["_law_state", "_law_most", "_law_places"] (defScope s_written) := ⟨rfl, rfl, rfl, by decide +kernel, rfl, by decide +kernel, by decide +kernel⟩
theorem sc_parts : FnScope ["_law_text", "_law_most", "_law_places", "_law_pieces", "_law_number", "_law_piece", "_law_sign", "_law_behind", "_law_turn"] ["_law_text", "_law_most", "_law_places"] (defScope s_parts) := ⟨rfl, rfl, rfl, by decide +kernel, rfl, by decide +kernel, by decide +kernel⟩
theorem sc_told : FnScope ["_law_which", "_law_text", "_law_caught", "_law_found", "error"] ["_law_which", "_law_text"] (defScope s_told) := ⟨rfl, rfl, rfl, by decide +kernel, rfl, by decide +kernel, by decide +kernel⟩
theorem sc_measure_of : FnScope ["_law_text", "_law_pieces", "_law_bulk", "_law_strength"] ["_law_text"] (defScope s_measure_of) := ⟨rfl, rfl, rfl, by decide +kernel, rfl, by decide +kernel, by decide +kernel⟩
theorem sc_bent : FnScope ["_law_state", "_law_text", "_law_every", "_law_signs", "_law_pick", "_law_at", "_law_sign"] ["_law_state", "_law_text"] (defScope s_bent) := ⟨rfl, rfl, rfl, by decide +kernel, rfl, by decide +kernel, by decide +kernel⟩
theorem sc_right : FnScope ["_law_text", "_law_bulk", "_law_measure", "_law_due", "_law_turn"] ["_law_text"] (defScope s_right) := ⟨rfl, rfl, rfl, by decide +kernel, rfl, by decide +kernel, by decide +kernel⟩
theorem sc_law : FnScope ["_law_script", "_law_state", "_law_turn", "_law_good", "_law_text", "_law_again", "_law_bent_here", "_law_more", "_law_odd", "_law_one"] ["_law_script"] (defScope s_law) := ⟨rfl, rfl, rfl, by decide +kernel, rfl, by decide +kernel, by decide +kernel⟩
/-- what the top has written -/
structure Tx (K : PySem.W.Frag) (mg : Str → Option Value) : Prop where
  d_is_figures : ∃ f fd, At K mg "is_figures" s_is_figures ["text", "most"] f fd
  d_read_number : ∃ f fd, At K mg "read_number" s_read_number ["text", "most", "places"] f fd
  d_read_bulk : ∃ f fd, At K mg "read_bulk" s_read_bulk ["text"] f fd
  d_read_measure : ∃ f fd, At K mg "read_measure" s_read_measure ["text"] f fd
  d_begin : ∃ f fd, At K mg "_law_begin" s_begin ["_law_script"] f fd
  d_take : ∃ f fd, At K mg "_law_take" s_take ["_law_state", "_law_many"] f fd
  d_same : ∃ f fd, At K mg "_law_same" s_same ["_law_found", "_law_due"] f fd
  d_written : ∃ f fd, At K mg "_law_written" s_written ["_law_state", "_law_most", "_law_places"] f fd
  d_parts : ∃ f fd, At K mg "_law_parts" s_parts ["_law_text", "_law_most", "_law_places"] f fd
  d_told : ∃ f fd, At K mg "_law_told" s_told ["_law_which", "_law_text"] f fd
  d_measure_of : ∃ f fd, At K mg "_law_measure_of" s_measure_of ["_law_text"] f fd
  d_bent : ∃ f fd, At K mg "_law_bent" s_bent ["_law_state", "_law_text"] f fd
  d_right : ∃ f fd, At K mg "_law_right" s_right ["_law_text"] f fd
  b_ValueError : mg "ValueError" = none
  b_all : mg "all" = none
  b_bool : mg "bool" = none
  b_divmod : mg "divmod" = none
  b_int : mg "int" = none
  b_isinstance : mg "isinstance" = none
  b_len : mg "len" = none
  b_list : mg "list" = none
  b_range : mg "range" = none
  b_str : mg "str" = none
  b_tuple : mg "tuple" = none
  b_zip : mg "zip" = none
  x_BadText : ExcA K mg "BadText"
  m_BondError : ExmT K mg "BondError" ["BadText"]
  i_ValueError : IsxT K mg "ValueError" [("BadText", true)]
  i_Twice_NoPage_NoDeed_NoCask_Unfit_BadRow : IsxsT K mg ["Twice", "NoPage", "NoDeed", "NoCask", "Unfit", "BadRow"] [("BadText", false)]
  i_BadText : IsxT K mg "BadText" [("BadText", true)]
  c_FIGURES : ∃ t, mg "FIGURES" = some (.str "0123456789" t)
  c_FULL : ∃ t, mg "FULL" = some (.int 10000 t)
def Low (over under n d : Int) : Prop := 0 < d ∧ n * under = over * d ∧ Int.gcd n d = 1
theorem low_unique {n d n' d' : Int} (h : 0 < d) (h' : 0 < d') (g : Int.gcd n d = 1) (g' : Int.gcd n' d' = 1) (e : n * d' = n' * d) : n = n' ∧ d = d' := by
  have e2 : n.natAbs * d'.natAbs = n'.natAbs * d.natAbs := by rw [← Int.natAbs_mul, ← Int.natAbs_mul, e]
  have c1 : Nat.Coprime d.natAbs n.natAbs := Nat.coprime_comm.mp g
  have c2 : Nat.Coprime d'.natAbs n'.natAbs := Nat.coprime_comm.mp g'
  have h1 : d.natAbs ∣ d'.natAbs := c1.dvd_of_dvd_mul_left (e2 ▸ Nat.dvd_mul_left _ _)
  have h2 : d'.natAbs ∣ d.natAbs := c2.dvd_of_dvd_mul_left (e2 ▸ Nat.dvd_mul_left _ _)
  have h3 := Nat.dvd_antisymm h1 h2
  have h4 : d = d' := by omega
  subst h4
  exact ⟨Int.eq_of_mul_eq_mul_right (by omega) e, rfl⟩
theorem low_same {o u b n d n' d' : Int} (hb : b ≠ 0) (hu : u ≠ 0) (h : Low (o * b) (u * b) n d) (h' : Low o u n' d') : n = n' ∧ d = d' := by
  obtain ⟨p, e, g⟩ := h
  obtain ⟨p', e', g'⟩ := h'
  refine low_unique p p' g g' ?_
  have e1 : n * u = o * d := Int.eq_of_mul_eq_mul_right hb (by rw [Int.mul_assoc, e, Int.mul_assoc, Int.mul_assoc, Int.mul_comm b d])
  refine Int.eq_of_mul_eq_mul_right hu ?_
  calc n * d' * u = n * u * d' := by rw [Int.mul_assoc, Int.mul_comm d' u, ← Int.mul_assoc]
    _ = o * d * d' := by rw [e1]
    _ = o * d' * d := by rw [Int.mul_assoc, Int.mul_comm d d', ← Int.mul_assoc]
    _ = n' * u * d := by rw [e']
    _ = n' * d * u := by rw [Int.mul_assoc, Int.mul_comm u d, ← Int.mul_assoc]
theorem low_cancel {o u b n d : Int} (hb : b ≠ 0) (h : Low (o * b) (u * b) n d) : Low o u n d := by
  obtain ⟨p, e, g⟩ := h
  exact ⟨p, Int.eq_of_mul_eq_mul_right hb (by rw [Int.mul_assoc, e, Int.mul_assoc, Int.mul_assoc, Int.mul_comm b d]), g⟩
theorem div_le {o : Int} {G : Nat} (g : 0 < G) (h : (G : Int) ∣ o) : (o / (G : Int)).natAbs ≤ o.natAbs := by
  obtain ⟨o', rfl⟩ := h
  rw [Int.mul_ediv_cancel_left _ (by omega), Int.natAbs_mul]
  exact Nat.le_mul_of_pos_left _ (by omega)
theorem low_mk {o u over under : Int} (hu : 0 < u) (h : o * under = over * u) : Low over under (o / (Int.gcd o u : Int)) (u / (Int.gcd o u : Int)) := by
  have g0 : 0 < Int.gcd o u := Int.gcd_pos_of_ne_zero_right _ (by omega)
  obtain ⟨o', ho⟩ : (Int.gcd o u : Int) ∣ o := Int.gcd_dvd_left ..
  obtain ⟨u', hu'⟩ : (Int.gcd o u : Int) ∣ u := Int.gcd_dvd_right ..
  have gg : Int.gcd o u = Int.gcd o u * Int.gcd o' u' := by
    have := Int.gcd_mul_left (Int.gcd o u : Int) o' u'
    rw [← ho, ← hu'] at this
    simpa using this
  generalize hG : Int.gcd o u = G at *
  have g1 : Int.gcd o' u' = 1 := by
    have : G * 1 = G * Int.gcd o' u' := by omega
    exact (Nat.eq_of_mul_eq_mul_left g0 this).symm
  have eo : o / (G : Int) = o' := by rw [ho, Int.mul_ediv_cancel_left _ (by omega)]
  have eu : u / (G : Int) = u' := by rw [hu', Int.mul_ediv_cancel_left _ (by omega)]
  rw [eo, eu]
  refine ⟨?_, ?_, g1⟩
  · rw [hu'] at hu
    exact Int.lt_of_mul_lt_mul_left (a := (G : Int)) (by rw [Int.mul_zero]; exact hu) (by omega)
  · have : (G : Int) * (o' * under) = G * (over * u') := by
      rw [← Int.mul_assoc, ← ho, h]
      conv => lhs; rw [hu']
      rw [← Int.mul_assoc, Int.mul_comm over, Int.mul_assoc]
    exact Int.eq_of_mul_eq_mul_left (by omega) this
def prF (f : Int × Int) : D := .tuple [.int f.1, .int f.2]
structure FOk (f : Int × Int) : Prop where
  p : 0 < f.2
  a : f.1.natAbs < 2 ^ 200
  b : f.2.natAbs < 2 ^ 200
theorem shF (n d : Int) : SeqAt.shaped (.tuple [.int n, .int d]) = true := shaped_of (bo := false) rfl (by simp [PyData.depth, PyData.depthAll])
theorem eqF (n d : Int) : PyData.eqv (.tuple [.int n, .int d]) (.tuple [.int n, .int d]) = true := SeqAt.eqv_refl _ (okS_lay (bo := false) rfl)
theorem low0 {u n d : Int} (hu : u ≠ 0) (h : Low 0 u n d) : n = 0 ∧ d = 1 := by
  obtain ⟨p, e, g⟩ := h
  rw [Int.zero_mul] at e
  have hn : n = 0 := by
    rcases Int.mul_eq_zero.mp e with e | e
    · exact e
    · exact (hu e).elim
  subst hn
  rw [Int.gcd_zero_left] at g
  exact ⟨rfl, by omega⟩
theorem big {x : Int} {k : Nat} (h : x.natAbs < 2 ^ k) (hk : k ≤ 1000) : x.natAbs < 2 ^ 1000 := Nat.lt_of_lt_of_le h (Nat.pow_le_pow_right (by decide) hk)
/-! ### texts as rows of signs -/
open SX in
abbrev tS (l : List Nat) : D := .str (S l)
def isDg (c : Nat) : Bool := decide (48 ≤ c) && decide (c ≤ 57)
def fig (l : List Nat) (most : Nat) : Bool := decide (1 ≤ l.length) && (decide (l.length ≤ most) && l.all isDg)
theorem figures_eq : Str.ofString "0123456789" = SX.S [48, 49, 50, 51, 52, 53, 54, 55, 56, 57] := by decide +kernel
theorem in_figures (c : Nat) : (!(Builtin.Str.occurrences (Str.ofString "0123456789") (SX.S [c]) 0 (Str.ofString "0123456789").length 1).isEmpty) = isDg c := by
  rw [figures_eq, SX.in_one]
  unfold isDg
  rw [Bool.eq_iff_iff, decide_eq_true_iff, Bool.and_eq_true, decide_eq_true_iff, decide_eq_true_iff]
  constructor
  · intro h
    simp only [List.mem_cons, List.not_mem_nil, or_false] at h
    omega
  · intro ⟨h1, h2⟩
    simp only [List.mem_cons, List.not_mem_nil, or_false]
    omega
theorem sgs_S (l : List Nat) : sgs (SX.S l) = l.map fun c => .str (SX.S [c]) := rfl
/-- what stands ahead of the point, the point, what stands behind -/
def parP (c : Nat) (a : List Nat) : List Nat × List Nat × List Nat := match TL.par [c] [] a with
  | some (p, q) => (p, [c], q)
  | none => (a, [], [])
theorem part_S (c : Nat) (a : List Nat) : Txt.partition (SX.S a) (SX.S [c]) = (SX.S (parP c a).1, SX.S (parP c a).2.1, SX.S (parP c a).2.2) := by
  unfold parP
  cases h : TL.par [c] [] a with
  | none => exact SX.partition_none (by simp) h
  | some z =>
    obtain ⟨p, q⟩ := z
    exact SX.partition_some (by simp) h
theorem parP_app {c : Nat} {p q : List Nat} (h : c ∉ p) : parP c (p ++ c :: q) = (p, [c], q) := by
  unfold parP
  rw [show p ++ c :: q = p ++ ([c] ++ q) from rfl, SX.par_head (sep := []) q h]
theorem parP_none {c : Nat} {a : List Nat} (h : c ∉ a) : parP c a = (a, [], []) := by
  unfold parP
  rw [SX.par_head_none h]
theorem parP_cases (c : Nat) (a : List Nat) : (∃ p q, a = p ++ c :: q ∧ c ∉ p ∧ parP c a = (p, [c], q)) ∨ (c ∉ a ∧ parP c a = (a, [], [])) := by
  by_cases h : c ∈ a
  · obtain ⟨p, q, e, hp⟩ := List.eq_append_cons_of_mem h
    exact .inl ⟨p, q, e, hp, by rw [e]; exact parP_app hp⟩
  · exact .inr ⟨h, parP_none h⟩
theorem parP_len (c : Nat) (a : List Nat) : (parP c a).1.length ≤ a.length ∧ (parP c a).2.2.length ≤ a.length := by
  rcases parP_cases c a with ⟨p, q, e, _, h⟩ | ⟨_, h⟩
  · rw [h, e, List.length_append, List.length_cons]
    exact ⟨Nat.le_add_right _ _, by show q.length ≤ _; omega⟩
  · rw [h]; exact ⟨Nat.le_refl _, Nat.zero_le _⟩
def numV (l : List Nat) : Nat := NumText.digitsVal l
/-- the number that a text writes, in its smallest parts -/
def readNp (p m q : List Nat) (most places : Nat) : Option Int :=
  if fig p most = true ∧ ¬ (p.head? = some 48 ∧ p ≠ [48]) then
    (if m = [] then some (numV (p ++ List.replicate places 48) : Nat)
    else if fig q places = true then some (numV (p ++ q ++ List.replicate (places - q.length) 48) : Nat) else none)
  else none
def readN (a : List Nat) (most places : Nat) : Option Int := readNp (parP 46 a).1 (parP 46 a).2.1 (parP 46 a).2.2 most places
theorem mapG {α β : Type} {f : α → β} {l : List α} {k : Nat} {d : β} (h : (l.map f)[k]? = some d) : ∃ x, l[k]? = some x ∧ d = f x := by
  rw [List.getElem?_map, Option.map_eq_some_iff] at h
  obtain ⟨x, h1, h2⟩ := h
  exact ⟨x, h1, h2.symm⟩
def oI : Option Int → D
  | none => .none
  | some i => .int i
theorem fig_dg {l : List Nat} {m : Nat} (h : fig l m = true) : l ≠ [] ∧ l.length ≤ m ∧ NumText.AllDigits l := by
  unfold fig at h
  rw [Bool.and_eq_true, Bool.and_eq_true, decide_eq_true_iff, decide_eq_true_iff, List.all_eq_true] at h
  refine ⟨fun z => by subst z; exact absurd h.1 (by decide), h.2.1, fun c hc => ?_⟩
  have := h.2.2 c hc
  unfold isDg at this
  rwa [Bool.and_eq_true, decide_eq_true_iff, decide_eq_true_iff] at this
theorem all_rep (n : Nat) : NumText.AllDigits (List.replicate n 48) := fun c hc => by rw [List.eq_of_mem_replicate hc]; decide
theorem AllDg.app {a b : List Nat} (h : NumText.AllDigits a) (g : NumText.AllDigits b) : NumText.AllDigits (a ++ b) := fun c hc => (List.mem_append.mp hc).elim (h c) (g c)
theorem int_of {l : List Nat} (h : NumText.AllDigits l) (h1 : l ≠ []) (h2 : l.length ≤ 640) : PySem.intText? (SX.S l) = some ((numV l : Nat) : Int) := PySem.intText_digits (x := SX.S l) h h1 (by rw [SX.S_len]; omega)
/-! noughts at the end, noughts ahead -/
def strip0 (l : List Nat) : List Nat := (l.reverse.dropWhile fun c => c == 48).reverse
theorem rstrip_S (l : List Nat) : Txt.rstripChars (SX.S l) (SX.S [48]) = SX.S (strip0 l) := by
  have hg : (SX.S [48]).cps.contains = fun c => c == 48 := by
    funext c
    show (#[48] : Array Nat).contains c = _
    rw [Bool.eq_iff_iff]
    simp
  have e2 := List.takeWhile_append_dropWhile (p := fun c : Nat => c == 48) (l := l.reverse)
  generalize ht : l.reverse.takeWhile (fun c : Nat => c == 48) = t at e2
  have hl : l = strip0 l ++ t.reverse := by
    have := congrArg List.reverse e2
    rw [List.reverse_append, List.reverse_reverse] at this
    exact this.symm
  have hlen : l.length = (strip0 l).length + t.length := by
    have := congrArg List.length hl
    rwa [List.length_append, List.length_reverse] at this
  have hh : stripHi (SX.S [48]).cps.contains true (SX.S l) 0 = l.length - t.length := by
    unfold stripHi
    rw [if_pos rfl, hg, SX.S_len]
    show l.length - ((l.drop 0).reverse.takeWhile _).length = _
    rw [List.drop_zero, ht]
  have h0 : stripLo (SX.S [48]).cps.contains false (SX.S l) = 0 := rfl
  unfold Txt.rstripChars Txt.stripBy stripSame stripped
  rw [h0, hh, SX.S_len]
  split
  · rename_i h
    rw [Bool.and_eq_true, beq_iff_eq, beq_iff_eq] at h
    have : t = [] := List.length_eq_zero_iff.mp (by omega)
    rw [this, List.reverse_nil, List.append_nil] at hl
    rw [← hl]
  · refine TL.ext_tl ?_
    show ((SX.S l).cps.extract 0 (l.length - t.length)).toList = strip0 l
    rw [Array.toList_extract, List.extract_eq_take_drop]
    show ((l.drop 0).take (l.length - t.length - 0)) = strip0 l
    rw [List.drop_zero, Nat.sub_zero, show l.length - t.length = (strip0 l).length by omega]
    rw [hl]
    have : (strip0 (strip0 l ++ t.reverse)) = strip0 l := by rw [← hl]
    rw [this]
    exact List.take_left
theorem zfill_S {l : List Nat} (h : NumText.AllDigits l) (k : Nat) : Txt.zfill (SX.S l) (k : Int) = SX.S (List.replicate (k - l.length) 48 ++ l) := by
  unfold Txt.zfill
  rw [SX.S_len]
  split
  · rename_i q
    rw [show k - l.length = 0 by omega]
    rfl
  · rename_i q
    rw [Int.toNat_natCast]
    have e : Builtin.Str.padded (SX.S l) (k - l.length) 0 48 = SX.S (List.replicate (k - l.length) 48 ++ l) := by
      refine TL.ext_tl ?_
      show (Array.replicate (k - l.length) 48 ++ l.toArray ++ Array.replicate 0 48).toList = _
      simp
    unfold zfilled
    cases l with
    | nil => exact e
    | cons c r =>
      have hc := h.head
      have e0 : (SX.S (c :: r)).cps[0]? = some c := rfl
      rw [e0]
      split
      · rename_i q; cases q; omega
      · rename_i q; cases q; omega
      · exact e
theorem slice_toN {a : List Nat} {k : Nat} (h0 : 0 < k) (h1 : k ≤ a.length) : Txt.slice (SX.S a) none (some (-(k : Int))) = SX.S (a.take (a.length - k)) := by
  have hl : ((SX.S a).length : Int) = (a.length : Int) := by rw [SX.S_len]
  have e := beq_iff_eq.mp (PyProof.Rows.slice_closes_to_neg (x := SX.S a) (j := -(k : Int)) (k := (a.length : Int) - k) (by omega) (by omega) (by omega))
  refine e.trans (TL.ext_tl ?_)
  show (a.drop (0 : Int).toNat).take ((a.length : Int) - k - 0).toNat = a.take (a.length - k)
  rw [show (0 : Int).toNat = 0 from rfl, List.drop_zero, show ((a.length : Int) - k - 0).toNat = a.length - k by omega]
theorem slice_fromN {a : List Nat} {k : Nat} (h0 : 0 < k) (h1 : k ≤ a.length) : Txt.slice (SX.S a) (some (-(k : Int))) none = SX.S (a.drop (a.length - k)) := by
  have hl : ((SX.S a).length : Int) = (a.length : Int) := by rw [SX.S_len]
  have e := beq_iff_eq.mp (PyProof.Rows.slice_closes_from_neg (x := SX.S a) (i := -(k : Int)) (a := (a.length : Int) - k) (b := (a.length : Int)) (by omega) (by omega) (by omega) (by omega))
  refine e.trans (TL.ext_tl ?_)
  show (a.drop ((a.length : Int) - k).toNat).take ((a.length : Int) - ((a.length : Int) - k)).toNat = a.drop (a.length - k)
  rw [show ((a.length : Int) - k).toNat = a.length - k by omega]
  exact List.take_of_length_le (by rw [List.length_drop] <;> omega)
/-! a number's figures, at least so many -/
def padL (n k : Nat) : List Nat := List.replicate (k - (TL.numL n).length) 48 ++ TL.numL n
theorem padL_dg (n k : Nat) : NumText.AllDigits (padL n k) := AllDg.app (all_rep _) (TL.numL_digits n)
theorem padL_len (n k : Nat) : k ≤ (padL n k).length ∧ (padL n k).length ≤ k + (TL.numL n).length := by
  unfold padL
  rw [List.length_append, List.length_replicate]
  omega
/-- the text of a number of smallest parts -/
def shwN (n places : Nat) : List Nat :=
  let a := padL n (places + 1)
  let b := strip0 (a.drop (a.length - places))
  a.take (a.length - places) ++ (if b = [] then [] else 46 :: b)
theorem log_lt {n : Nat} (h : n < 10 ^ 100) : ((n : Int)).natAbs.log2 < 1920 := by
  rw [Int.natAbs_natCast]
  rcases Nat.eq_zero_or_pos n with z | z
  · rw [z]; decide
  · exact (Nat.log2_lt (by omega)).mpr (Nat.lt_of_lt_of_le h (by decide))
theorem padOk {k : Int} (h0 : 0 ≤ k) (h1 : k ≤ 1000) : PySem.PadOk k = true := by
  unfold PySem.PadOk fitsSsize Builtin.Str.tooLong
  have a1 : decide (k < -(2 ^ 63)) = false := decide_eq_false (by omega)
  have a2 : decide (k ≥ 2 ^ 63) = false := decide_eq_false (by omega)
  have a3 : decide (k.toNat > sizeLine) = false := decide_eq_false (by rw [sizeLine_eq]; omega)
  rw [a1, a2, a3]
  rfl
theorem strip0_zero (r : List Nat) : strip0 (r ++ [48]) = strip0 r := by
  unfold strip0
  rw [List.reverse_append]
  rfl
theorem strip0_fix {r : List Nat} {c : Nat} (h : c ≠ 48) : strip0 (r ++ [c]) = r ++ [c] := by
  unfold strip0
  rw [List.reverse_append, show [c].reverse ++ r.reverse = c :: r.reverse from rfl, List.dropWhile_cons, if_neg (by simpa using h)]
  rw [List.reverse_cons, List.reverse_reverse]
theorem at_last (r : List Nat) (c : Nat) : L2.atI (r ++ [c]) (-1 : Int) = some c := by
  unfold L2.atI L2.ixN
  rw [if_neg (by decide), if_pos (by rw [List.length_append]; show -((r.length + 1 : Nat) : Int) ≤ -1; omega)]
  show (r ++ [c])[(((r ++ [c]).length : Nat) : Int) + -1 |>.toNat]? = some c
  rw [show ((((r ++ [c]).length : Nat) : Int) + -1).toNat = r.length by rw [List.length_append]; show (((r.length + 1 : Nat) : Int) + -1).toNat = _; omega]
  exact List.getElem?_concat_length ..
/-! what is shown is read again -/
theorem all48 : ∀ {l : List Nat}, (∀ c ∈ l, c = 48) → l = List.replicate l.length 48
  | [], _ => rfl
  | c :: r, h => by
    rw [List.length_cons, List.replicate_succ, ← all48 (fun x hx => h x (List.mem_cons_of_mem _ hx)), h c List.mem_cons_self]
theorem strip0_app (l : List Nat) : l = strip0 l ++ List.replicate (l.length - (strip0 l).length) 48 := by
  have e2 := List.takeWhile_append_dropWhile (p := fun c : Nat => c == 48) (l := l.reverse)
  have ht : ∀ c ∈ l.reverse.takeWhile (fun c : Nat => c == 48), c = 48 := fun c hc => by
    have := List.all_takeWhile (p := fun c : Nat => c == 48) (l := l.reverse)
    rw [List.all_eq_true] at this
    exact eq_of_beq (this c hc)
  generalize l.reverse.takeWhile (fun c : Nat => c == 48) = t at e2 ht
  have hl : l = strip0 l ++ t.reverse := by
    have := congrArg List.reverse e2
    rw [List.reverse_append, List.reverse_reverse] at this
    exact this.symm
  have hlen : l.length = (strip0 l).length + t.length := by
    have := congrArg List.length hl
    rwa [List.length_append, List.length_reverse] at this
  have h3 := all48 (l := t.reverse) fun c hc => ht c (List.mem_reverse.mp hc)
  rw [List.length_reverse] at h3
  rw [show l.length - (strip0 l).length = t.length by omega, ← h3]
  exact hl
theorem numV_zeros (l : List Nat) : ∀ k, numV (List.replicate k 48 ++ l) = numV l
  | 0 => rfl
  | k + 1 => by
    rw [List.replicate_succ, List.cons_append]
    have := numV_zeros l k
    unfold numV NumText.digitsVal at this ⊢
    rw [List.foldl_cons]
    exact this
theorem numL_head : ∀ (n : Nat), 0 < n → (TL.numL n).head? ≠ some 48 := fun n => by
  induction n using Nat.strongRecOn with
  | _ n ih =>
    intro h
    by_cases h10 : n < 10
    · rw [TL.numL_lt h10]
      intro z
      have : 48 + n = 48 := Option.some.inj z
      omega
    · rw [TL.numL_step (by omega)]
      have := ih (n / 10) (by omega) (by omega)
      have hne := TL.numL_ne (n / 10)
      cases q : TL.numL (n / 10) with
      | nil => exact absurd q hne
      | cons c r => rw [q] at this; exact this
theorem fig_of {l : List Nat} {m : Nat} (h1 : l ≠ []) (h2 : l.length ≤ m) (h3 : NumText.AllDigits l) : fig l m = true := by
  unfold fig
  rw [Bool.and_eq_true, Bool.and_eq_true, decide_eq_true_iff, decide_eq_true_iff, List.all_eq_true]
  refine ⟨List.length_pos_iff.mpr h1, h2, fun c hc => ?_⟩
  have := h3 c hc
  unfold isDg
  rw [Bool.and_eq_true, decide_eq_true_iff, decide_eq_true_iff]
  exact this
theorem no_point {l : List Nat} (h : NumText.AllDigits l) : 46 ∉ l := fun z => by have := h 46 z; omega
/-- figures, maybe a point and figures behind it -/
def ptL (A B : List Nat) : List Nat := A ++ (if B = [] then [] else 46 :: B)
theorem readN_pt {A B : List Nat} {most places : Nat} (h1 : A ≠ []) (h2 : A.length ≤ most) (h3 : NumText.AllDigits A) (h4 : ¬ (A.head? = some 48 ∧ A ≠ [48])) (h5 : NumText.AllDigits B) (h6 : B.length ≤ places) :
    readN (ptL A B) most places = some ((numV (A ++ B ++ List.replicate (places - B.length) 48) : Nat) : Int) := by
  unfold readN ptL
  have fA := fig_of h1 h2 h3
  by_cases z : B = []
  · subst z
    rw [if_pos rfl, List.append_nil, parP_none (no_point h3)]
    unfold readNp
    rw [if_pos ⟨fA, h4⟩, if_pos rfl]
    rfl
  · rw [if_neg z, parP_app (no_point h3)]
    unfold readNp
    rw [if_pos ⟨fA, h4⟩, if_neg (by simp), if_pos (fig_of z h6 h5)]
theorem shwN_pt (n places : Nat) : shwN n places = ptL ((padL n (places + 1)).take ((padL n (places + 1)).length - places)) (strip0 ((padL n (places + 1)).drop ((padL n (places + 1)).length - places))) := rfl
theorem readN_shw {n most places : Nat} (hm : 1 ≤ most) (hp : 1 ≤ places) (h : n < 10 ^ (most + places)) : readN (shwN n places) most places = some (n : Int) := by
  rw [shwN_pt]
  have dg := padL_dg n (places + 1)
  obtain ⟨l1, _⟩ := padL_len n (places + 1)
  have nl := TL.numL_len (k := most + places) (by omega) h
  have l2 : (padL n (places + 1)).length ≤ most + places := by
    unfold padL
    rw [List.length_append, List.length_replicate]
    omega
  have hd : (padL n (places + 1)).length = places + 1 ∨ (padL n (places + 1)).head? ≠ some 48 := by
    by_cases c : (TL.numL n).length ≤ places + 1
    · left
      unfold padL
      rw [List.length_append, List.length_replicate]
      omega
    · right
      have : padL n (places + 1) = TL.numL n := by
        unfold padL
        rw [show places + 1 - (TL.numL n).length = 0 by omega]
        rfl
      rw [this]
      refine numL_head n ?_
      rcases Nat.eq_zero_or_pos n with z | z
      · rw [z, TL.numL_lt (by decide)] at c
        exact absurd (show 1 ≤ places + 1 by omega) c
      · exact z
  have val : numV (padL n (places + 1)) = n := by
    unfold padL
    rw [numV_zeros]
    exact TL.numL_val n
  generalize padL n (places + 1) = a at *
  have tl := List.take_append_drop (a.length - places) a
  have lt : (a.take (a.length - places)).length = a.length - places := by rw [List.length_take]; omega
  have ld : (a.drop (a.length - places)).length = places := by rw [List.length_drop]; omega
  have hs := strip0_app (a.drop (a.length - places))
  rw [ld] at hs
  have dT : NumText.AllDigits (a.take (a.length - places)) := fun c hc => dg c (List.mem_of_mem_take hc)
  have dD : NumText.AllDigits (a.drop (a.length - places)) := fun c hc => dg c (List.mem_of_mem_drop hc)
  have hh : (a.take (a.length - places)).head? = a.head? := by
    cases a with
    | nil => exact absurd l1 (by simp)
    | cons c r =>
      rw [show (c :: r).length - places = (r.length - places) + 1 by rw [List.length_cons] at l1 ⊢; omega, List.take_succ_cons]
      rfl
  rw [← tl] at val
  generalize a.take (a.length - places) = T at *
  generalize a.drop (a.length - places) = Dd at *
  have lb : (strip0 Dd).length ≤ places := by
    have := congrArg List.length hs
    rw [List.length_append] at this
    omega
  rw [readN_pt (most := most) (places := places) (fun z => by rw [z] at lt; exact absurd lt (by show ¬ 0 = _; omega)) (by omega) dT (fun z => ?_) (fun c hc => dD c (by rw [hs]; exact List.mem_append_left _ hc)) lb]
  · rw [List.append_assoc, ← hs, val]
  · rcases hd with q | q
    · have : T.length = 1 := by omega
      match T, this, z with
      | [c], _, z =>
        have := Option.some.inj z.1
        exact z.2 (by rw [this])
    · exact q (hh ▸ z.1)
theorem join_nil : ∀ ys : List (List Nat), TL.joinL [] ys = ys.flatten
  | [] => rfl
  | [y] => by simp [TL.joinL]
  | y :: z :: r => by
    have := join_nil (z :: r)
    show y ++ ([] ++ TL.joinL [] (z :: r)) = _
    rw [this]
    simp
theorem dig_S {d : Int} (h0 : 0 ≤ d) (h1 : d < 10) : Str.ofString (toString d) = SX.S [48 + d.toNat] := by
  have e : d = ((d.toNat : Nat) : Int) := by omega
  rw [e, SX.num_S, TL.numL_lt (by omega), Int.toNat_natCast]
theorem dig_log {d : Int} (h0 : 0 ≤ d) (h1 : d < 10) : d.natAbs.log2 < 1920 := by
  have e : d = ((d.toNat : Nat) : Int) := by omega
  rw [e]
  exact log_lt (Nat.lt_of_lt_of_le (show d.toNat < 10 by omega) (by decide))
def digS (ds : List Nat) : List Str := ds.map fun d => SX.S [48 + d]
theorem join_dig (ds : List Nat) : Txt.join (Str.ofString "") (digS ds) = SX.S (ds.map (48 + ·)) := by
  have e : digS ds = (ds.map fun d => [48 + d]).map SX.S := by unfold digS; rw [List.map_map]; rfl
  rw [show Str.ofString "" = SX.S [] by decide, e, SX.join_S, join_nil]
  congr 1
  induction ds with
  | nil => rfl
  | cons d r ih => rw [List.map_cons, List.flatten_cons, ih (by unfold digS; rw [List.map_map]; rfl)]; rfl
theorem dig_all {ds : List Nat} (h : ∀ d ∈ ds, d < 10) : NumText.AllDigits (ds.map (48 + ·)) := fun c hc => by
  obtain ⟨d, hd, rfl⟩ := List.mem_map.mp hc
  have := h d hd
  omega
theorem digS_sum (ds : List Nat) : ((digS ds).map (·.length)).sum = ds.length := by
  unfold digS
  rw [List.map_map]
  induction ds with
  | nil => rfl
  | cons d r ih => rw [List.map_cons, List.sum_cons, ih]; show 1 + _ = _; rw [List.length_cons]; omega
theorem dig_snoc (ds : List Nat) (d : Nat) : ((digS ds).map PyData.str) ++ [.str (SX.S [48 + d])] = (digS (ds ++ [d])).map PyData.str := by
  unfold digS
  rw [List.map_append, List.map_append]
  rfl
theorem numV_lt : ∀ {l : List Nat}, NumText.AllDigits l → numV l < 10 ^ l.length := by
  have key : ∀ (l : List Nat) (a : Nat), NumText.AllDigits l → l.foldl (fun acc c => acc * 10 + (c - 48)) a < (a + 1) * 10 ^ l.length := fun l => by
    induction l with
    | nil => intro a _; show a < (a + 1) * 1; omega
    | cons c r ih =>
      intro a h
      rw [List.foldl_cons, List.length_cons, Nat.pow_succ]
      have hc := h.head
      have := ih (a * 10 + (c - 48)) h.tail
      refine Nat.lt_of_lt_of_le this ?_
      have h2 := Nat.mul_le_mul_right (10 ^ r.length) (show a * 10 + (c - 48) + 1 ≤ (a + 1) * 10 by omega)
      have h3 : (a + 1) * 10 * 10 ^ r.length = (a + 1) * (10 ^ r.length * 10) := by rw [Nat.mul_assoc, Nat.mul_comm 10]
      omega
  intro l h
  have := key l 0 h
  unfold numV NumText.digitsVal
  omega
theorem okS_tx {bo : Bool} {l : List Nat} (h : ∀ c ∈ l, c < 128) : okS bo (tS l) = true := by
  show PyData.canLay0 (.str (SX.S l)) = true
  simpa [PyData.canLay0] using strOk_iff.mpr (show TxOk (SX.S l) from fun c hc => Nat.lt_trans (h c hc) (by decide))
theorem shwN_ok {n places : Nat} (h : n < 10 ^ 100) : (∀ c ∈ shwN n places, c < 128) ∧ (shwN n places).length ≤ 2 * places + 300 := by
  rw [shwN_pt]
  have dg := padL_dg n (places + 1)
  obtain ⟨_, l2⟩ := padL_len n (places + 1)
  have nl := TL.numL_len (k := 100) (by decide) h
  have hs := strip0_app ((padL n (places + 1)).drop ((padL n (places + 1)).length - places))
  have h1 := congrArg List.length hs
  rw [List.length_append, List.length_drop] at h1
  constructor
  · intro c hc
    unfold ptL at hc
    have d1 : ∀ c ∈ padL n (places + 1), c < 128 := fun c hc => by have := dg c hc; omega
    rcases List.mem_append.mp hc with hc | hc
    · exact d1 c (List.mem_of_mem_take hc)
    · split at hc
      · cases hc
      · rcases List.mem_cons.mp hc with rfl | hc
        · decide
        · refine d1 c (List.mem_of_mem_drop (i := (padL n (places + 1)).length - places) ?_)
          rw [hs]
          exact List.mem_append_left _ hc
  · unfold ptL
    rw [List.length_append, List.length_take]
    split
    · show _ + 0 ≤ _; omega
    · rw [List.length_cons]; omega
theorem okS_two {bo : Bool} {d : D} (h : okS bo d = true) : okS bo (.list [d, d]) = true := by
  have e : okSs bo [d, d] = true := by rw [okSs, okSs, h]; rfl
  rw [okS, e]
  exact decide_eq_true (show 2 ≤ sizeLine by decide)
/-! measures as texts -/
def shwM (n q : Nat) : List Nat := shwN n 3 ++ (64 :: (shwN (q / max n 1) 2 ++ (if q % max n 1 = 0 then [] else [43])))
theorem pt_free {A B : List Nat} {c : Nat} (hA : NumText.AllDigits A) (hB : NumText.AllDigits B) (h : c ≠ 46) (h2 : c < 48 ∨ 57 < c) : c ∉ ptL A B := fun z => by
  unfold ptL at z
  rcases List.mem_append.mp z with z | z
  · have := hA c z; omega
  · split at z
    · cases z
    · rcases List.mem_cons.mp z with w | w
      · exact h w
      · have := hB c w; omega
theorem shwN_dg (n places : Nat) : ∃ A B, shwN n places = ptL A B ∧ NumText.AllDigits A ∧ NumText.AllDigits B := by
  have dg := padL_dg n (places + 1)
  have hs := strip0_app ((padL n (places + 1)).drop ((padL n (places + 1)).length - places))
  refine ⟨_, _, shwN_pt n places, fun c hc => dg c (List.mem_of_mem_take hc), fun c hc => dg c (List.mem_of_mem_drop (i := (padL n (places + 1)).length - places) ?_)⟩
  rw [hs]
  exact List.mem_append_left _ hc
theorem shwN_free {n places c : Nat} (h : c ≠ 46) (h2 : c < 48 ∨ 57 < c) : c ∉ shwN n places := by
  obtain ⟨A, B, e, hA, hB⟩ := shwN_dg n places
  rw [e]
  exact pt_free hA hB h h2
theorem ptL_ok {A B : List Nat} (hA : NumText.AllDigits A) (hB : NumText.AllDigits B) : (∀ c ∈ ptL A B, c < 128) ∧ (ptL A B).length ≤ A.length + B.length + 1 := by
  constructor
  · intro c hc
    unfold ptL at hc
    rcases List.mem_append.mp hc with z | z
    · have := hA c z; omega
    · split at z
      · cases z
      · rcases List.mem_cons.mp z with rfl | w
        · decide
        · have := hB c w; omega
  · unfold ptL
    rw [List.length_append]
    split
    · show _ + 0 ≤ _; omega
    · rw [List.length_cons]; omega
theorem read_some {l : List Nat} {most places : Nat} {v : Int} (h : readN l most places = some v) : 0 ≤ v := by
  unfold readN readNp at h
  split at h
  · split at h
    · cases h; omega
    · split at h
      · cases h; omega
      · cases h
  · cases h
--%%cut
/-! ### a text in pieces -/
theorem spl_one {c : Nat} {a : List Nat} (h : c ∉ a) : TL.spl [c] 0 [] a = [a] := by
  have := SX.spl_join (c := c) (sep := []) (parts := [a]) (by simp) (fun p hp => by cases List.mem_singleton.mp hp; exact h)
  exact this
theorem spl_two {c : Nat} {p q : List Nat} (h : c ∉ p) : TL.spl [c] 0 [] (p ++ c :: q) = p :: TL.spl [c] 0 [] q := by
  have := SX.spl_free (sep := [c]) (p := p) q (by simp) (SX.free_head h)
  exact this
theorem spl_cases (c : Nat) (a : List Nat) : (c ∉ a ∧ TL.spl [c] 0 [] a = [a]) ∨ (∃ p q, a = p ++ c :: q ∧ c ∉ p ∧ c ∉ q ∧ TL.spl [c] 0 [] a = [p, q]) ∨ (∃ p q, a = p ++ c :: q ∧ c ∉ p ∧ c ∈ q ∧ 3 ≤ (TL.spl [c] 0 [] a).length ∧ (TL.spl [c] 0 [] a).length ≤ a.length + 1) := by
  have len : ∀ (n : Nat) (a : List Nat), a.length = n → (TL.spl [c] 0 [] a).length ≤ a.length + 1 ∧ 1 ≤ (TL.spl [c] 0 [] a).length := by
    intro n
    induction n using Nat.strongRecOn with
    | _ n ih =>
      intro a ha
      rcases parP_cases c a with ⟨p, q, e, h, _⟩ | ⟨h, _⟩
      · have hq := ih q.length (by rw [← ha, e, List.length_append, List.length_cons]; omega) q rfl
        rw [e, spl_two h, List.length_cons, List.length_append, List.length_cons]
        omega
      · rw [spl_one h]
        exact ⟨by simp, by simp⟩
  rcases parP_cases c a with ⟨p, q, e, h, _⟩ | ⟨h, _⟩
  · by_cases hq : c ∈ q
    · refine .inr (.inr ⟨p, q, e, h, hq, ?_, (len _ a rfl).1⟩)
      rw [e, spl_two h]
      rcases parP_cases c q with ⟨p2, q2, e2, h2, _⟩ | ⟨h2, _⟩
      · rw [e2, spl_two h2, List.length_cons, List.length_cons]
        have := (len _ q2 rfl).2
        omega
      · exact absurd hq h2
    · exact .inr (.inl ⟨p, q, e, h, hq, by rw [e, spl_two h, spl_one hq]⟩)
  · exact .inl ⟨h, spl_one h⟩
theorem split_one (c : Nat) (a : List Nat) (hc : c < 256) : Txt.split (SX.S a) (SX.S [c]) = (TL.spl [c] 0 [] a).map SX.S := SX.split_S (by simp) (by simpa using hc)
/-- no figures where a sign is none -/
theorem fig_no {c : Nat} {l : List Nat} {m : Nat} (h : c ∈ l) (hc : c < 48 ∨ 57 < c) : fig l m = false := by
  cases q : fig l m with
  | false => rfl
  | true =>
    have := (fig_dg q).2.2 c h
    omega
theorem readN_dots {p q : List Nat} {most places : Nat} (h : 46 ∉ p) (hq : 46 ∈ q) : readN (p ++ 46 :: q) most places = none := by
  unfold readN readNp
  rw [parP_app h]
  dsimp only
  rw [if_neg (show ¬ ([46] = []) by simp), fig_no hq (.inl (by decide)), if_neg Bool.false_ne_true]
  split <;> rfl
theorem readN_bad {c : Nat} {a : List Nat} {most places : Nat} (h : c ∈ a) (hc : c ≠ 46) (hd : c < 48 ∨ 57 < c) : readN a most places = none := by
  unfold readN readNp
  rcases parP_cases 46 a with ⟨p, q, e, hp, e2⟩ | ⟨hn, e2⟩
  · rw [e2]
    dsimp only
    rw [e] at h
    rcases List.mem_append.mp h with h | h
    · rw [fig_no h hd, if_neg (fun z => Bool.false_ne_true z.1)]
    · rcases List.mem_cons.mp h with h | h
      · exact absurd h hc
      · rw [if_neg (show ¬ ([46] = []) by simp), fig_no h hd, if_neg Bool.false_ne_true]
        split <;> rfl
  · rw [e2]
    dsimp only
    rw [fig_no h hd, if_neg (fun z => Bool.false_ne_true z.1)]
/-- the measure that a text writes -/
def readM (a : List Nat) : Option (Int × Int) := match parP 64 a with
  | (p, m, q) => if m = [] then none else match readN p 9 3, readN q 3 2 with
    | some b, some s => if s > 10000 then none else some (b, b * s)
    | _, _ => none
def oM : Option (Int × Int) → D
  | none => .none
  | some z => .tuple [.int z.1, .int z.2]
def bad (d : D) : D := match d with | .none => .str "BadText" | d => d
def toldD (which : Int) (l : List Nat) : D := if which = 0 then bad (oI (readN l 9 3)) else bad (oM (readM l))
theorem readN_lt {a : List Nat} {most places : Nat} {n : Int} (h : readN a most places = some n) : n < 10 ^ (most + places) := by
  have fin : ∀ l : List Nat, NumText.AllDigits l → l.length ≤ most + places → ((numV l : Nat) : Int) < 10 ^ (most + places) := fun l hl hle => by
    have h1 := Nat.lt_of_lt_of_le (numV_lt hl) (Nat.pow_le_pow_right (by decide) hle)
    have h2 : ((numV l : Nat) : Int) < ((10 ^ (most + places) : Nat) : Int) := Int.ofNat_lt.mpr h1
    simpa using h2
  unfold readN readNp at h
  generalize (parP 46 a).1 = p at *
  generalize (parP 46 a).2.1 = m at *
  generalize (parP 46 a).2.2 = q at *
  split at h
  · rename_i hp
    obtain ⟨_, p1, pd⟩ := fig_dg hp.1
    split at h
    · cases h
      exact fin _ (AllDg.app pd (all_rep _)) (by rw [List.length_append, List.length_replicate]; omega)
    · split at h
      · rename_i hq
        obtain ⟨_, q1, qd⟩ := fig_dg hq
        cases h
        exact fin _ (AllDg.app (AllDg.app pd qd) (all_rep _)) (by rw [List.length_append, List.length_append, List.length_replicate]; omega)
      · cases h
  · cases h
theorem seqU {a u : WS} {s : S} {D : Dn} (h : ∀ v, v = u → sSeq a v s D) : sSeq a u s D := h u rfl
theorem wsU {v : WS} {s : S} {D : Dn} (h : ∀ E, E = D → v s E) : v s D := h D rfl
theorem numV_snoc (l : List Nat) (c : Nat) : numV (l ++ [c]) = 10 * numV l + (c - 48) := by
  show (l ++ [c]).foldl (fun acc c => acc * 10 + (c - 48)) 0 = _
  rw [List.foldl_append]
  show numV l * 10 + (c - 48) = _
  omega
theorem occ_fig {c : Nat} (h : isDg c = true) : ∃ rest, Builtin.Str.occurrences (Str.ofString "0123456789") (SX.S [c]) 0 (Str.ofString "0123456789").length 1 = (c - 48) :: rest := by
  unfold isDg at h
  rw [Bool.and_eq_true, decide_eq_true_iff, decide_eq_true_iff] at h
  have : c = 48 ∨ c = 49 ∨ c = 50 ∨ c = 51 ∨ c = 52 ∨ c = 53 ∨ c = 54 ∨ c = 55 ∨ c = 56 ∨ c = 57 := by omega
  rcases this with rfl | rfl | rfl | rfl | rfl | rfl | rfl | rfl | rfl | rfl <;> exact ⟨[], by decide +kernel⟩
theorem isDg_of {c : Nat} : isDg c = true ↔ 48 ≤ c ∧ c ≤ 57 := by
  unfold isDg
  rw [Bool.and_eq_true, decide_eq_true_iff, decide_eq_true_iff]
theorem fig_iff {l : List Nat} {m : Nat} : fig l m = true ↔ 1 ≤ l.length ∧ l.length ≤ m ∧ ∀ c ∈ l, isDg c = true := by
  unfold fig
  rw [Bool.and_eq_true, Bool.and_eq_true, decide_eq_true_iff, decide_eq_true_iff, List.all_eq_true]
/-- the pieces of a text that has at most one point, and what they write -/
structure Pcs (l : List Nat) (P : List (List Nat)) (p : List Nat) (qs : List (List Nat)) : Prop where
  sp : TL.spl [46] 0 [] l = P
  eq : P = p :: qs
  le : qs.length ≤ 1
  mem : ∀ x ∈ P, ∀ c ∈ x, c ∈ l ∧ c ≠ 46
  ln : ∀ x ∈ P, x.length ≤ l.length
  val : ∀ most places, readN l most places = if fig p most = true ∧ ¬ (p.head? = some 48 ∧ p ≠ [48]) ∧ (∀ q ∈ qs, fig q places = true) then some ((numV (P.flatten ++ List.replicate (places - qs.flatten.length) 48) : Nat) : Int) else none
theorem pcs_of {l : List Nat} (h : (TL.spl [46] 0 [] l).length ≤ 2) : ∃ P p qs, Pcs l P p qs := by
  rcases spl_cases 46 l with ⟨h1, h2⟩ | ⟨p, q, e, hp, hq, h2⟩ | ⟨p, q, e, hp, hq, h2, _⟩
  · refine ⟨_, l, [], ⟨h2, rfl, by decide, fun x hx c hc => ?_, fun x hx => ?_, fun most places => ?_⟩⟩
    · cases List.mem_singleton.mp hx
      exact ⟨hc, fun z => h1 (z ▸ hc)⟩
    · cases List.mem_singleton.mp hx
      exact Nat.le_refl _
    · unfold readN readNp
      rw [parP_none h1]
      dsimp only
      by_cases c : fig l most = true ∧ ¬ (l.head? = some 48 ∧ l ≠ [48])
      · have d : fig l most = true ∧ ¬ (l.head? = some 48 ∧ l ≠ [48]) ∧ ∀ q ∈ ([] : List (List Nat)), fig q places = true := ⟨c.1, c.2, fun q hq => nomatch hq⟩
        rw [if_pos c, if_pos d]
        simp
      · rw [if_neg c, if_neg fun z => c ⟨z.1, z.2.1⟩]
  · refine ⟨_, p, [q], ⟨h2, rfl, Nat.le_refl 1, fun x hx c hc => ?_, fun x hx => ?_, fun most places => ?_⟩⟩
    · rw [e]
      rcases List.mem_cons.mp hx with rfl | hx
      · exact ⟨List.mem_append_left _ hc, fun z => hp (z ▸ hc)⟩
      · cases List.mem_singleton.mp hx
        exact ⟨List.mem_append_right _ (List.mem_cons_of_mem _ hc), fun z => hq (z ▸ hc)⟩
    · rw [e, List.length_append, List.length_cons]
      rcases List.mem_cons.mp hx with rfl | hx
      · omega
      · cases List.mem_singleton.mp hx
        omega
    · unfold readN readNp
      rw [e, parP_app hp]
      dsimp only
      by_cases c : fig p most = true ∧ ¬ (p.head? = some 48 ∧ p ≠ [48])
      · rw [if_pos c, if_neg (show ¬ ([46] = []) by simp)]
        by_cases c2 : fig q places = true
        · rw [if_pos c2, if_pos ⟨c.1, c.2, fun q' hq' => by cases List.mem_singleton.mp hq'; exact c2⟩]
          simp
        · rw [if_neg c2, if_neg fun z => c2 (z.2.2 q (List.mem_singleton.mpr rfl))]
      · rw [if_neg c, if_neg fun z => c ⟨z.1, z.2.1⟩]
  · omega
theorem pcs_many {l : List Nat} {most places : Nat} (h : 2 < (TL.spl [46] 0 [] l).length) : readN l most places = none := by
  rcases spl_cases 46 l with ⟨h1, h2⟩ | ⟨p, q, e, hp, hq, h2⟩ | ⟨p, q, e, hp, hq, h2, _⟩
  · rw [h2] at h; exact absurd h (by simp)
  · rw [h2] at h; exact absurd h (by simp)
  · rw [e]; exact readN_dots hp hq
theorem spl_le (c : Nat) (l : List Nat) : (TL.spl [c] 0 [] l).length ≤ l.length + 2 := by
  rcases spl_cases c l with ⟨_, h⟩ | ⟨p, q, e, _, _, h⟩ | ⟨p, q, _, _, _, _, h⟩
  · rw [h]; simp
  · rw [h]; simp
  · omega
theorem dig1 {acc : List Nat} {c : Nat} (h : NumText.AllDigits acc) (hc : isDg c = true) : NumText.AllDigits (acc ++ [c]) := AllDg.app h fun x hx => by
  cases List.mem_singleton.mp hx
  exact isDg_of.mp hc
theorem numV_small {acc : List Nat} (h : NumText.AllDigits acc) (hl : acc.length ≤ 300) : ((numV acc : Nat) : Int).natAbs < 2 ^ 1000 := by
  have h1 := Nat.lt_of_lt_of_le (numV_lt h) (Nat.pow_le_pow_right (by decide) hl)
  have h2 : (10 : Nat) ^ 300 ≤ 2 ^ 1000 := by decide +kernel
  rw [Int.natAbs_natCast]
  exact Nat.lt_of_lt_of_le h1 h2
theorem flat_len {P : List (List Nat)} {p : List Nat} {qs : List (List Nat)} {m k : Nat} (e : P = p :: qs) (h1 : qs.length ≤ 1) (h2 : p.length ≤ m) (h3 : ∀ q ∈ qs, q.length ≤ k) : P.flatten.length ≤ m + k ∧ qs.flatten.length ≤ k := by
  match qs, h1, h3 with
  | [], _, _ => rw [e]; simp; omega
  | [q], _, h3 =>
    have := h3 q (by simp)
    rw [e]
    simp
    omega
theorem cat_len (x y : Str) : (x ++ y).length = x.length + y.length := by
  rw [← SX.S_tl x, ← SX.S_tl y, SX.S_cat, SX.S_len, SX.S_len, SX.S_len, List.length_append]
theorem cut_to (z : Str) (a : Nat) : (L2.cutS z none (some (a : Int))).length ≤ min a z.length := by
  show (((z.cps.toList.drop (HT.sIx z.length 0 none)).take (HT.sIx z.length z.length (some (a : Int)) - HT.sIx z.length 0 none)).toArray).size ≤ _
  rw [List.size_toArray, List.length_take, HT.sIx_nat, HT.sIx_none]
  omega
theorem cut_from (z : Str) (a : Nat) : (L2.cutS z (some (a : Int)) none).length ≤ z.length - min a z.length := by
  show (((z.cps.toList.drop (HT.sIx z.length 0 (some (a : Int)))).take (HT.sIx z.length z.length none - HT.sIx z.length 0 (some (a : Int)))).toArray).size ≤ _
  rw [List.size_toArray, List.length_take, HT.sIx_nat, HT.sIx_none]
  omega
theorem cut_mid (z : Str) (a b : Nat) : (L2.cutS z (some (a : Int)) (some (b : Int))).length ≤ min b z.length - min a z.length := by
  show (((z.cps.toList.drop (HT.sIx z.length 0 (some (a : Int)))).take (HT.sIx z.length z.length (some (b : Int)) - HT.sIx z.length 0 (some (a : Int)))).toArray).size ≤ _
  rw [List.size_toArray, List.length_take, HT.sIx_nat, HT.sIx_nat]
  omega
theorem at_get {α : Type} {l : List α} {f : α → D} {t : Int} (h0 : 0 ≤ t) (h1 : t < l.length) : ∃ r ∈ l, L2.atI (l.map f) t = some (f r) := by
  obtain ⟨j, rfl⟩ : ∃ j : Nat, t = (j : Int) := ⟨t.toNat, by omega⟩
  have hj : j < l.length := by omega
  refine ⟨l[j], List.getElem_mem hj, ?_⟩
  unfold L2.atI L2.ixN
  rw [if_pos h0, if_pos (by rw [List.length_map]; exact h1)]
  show (l.map f)[((j : Nat) : Int).toNat]? = _
  rw [Int.toNat_natCast, List.getElem?_map, List.getElem?_eq_getElem hj]
  rfl
theorem at_sign {z : Str} {t : Int} (h0 : 0 ≤ t) (h1 : t < z.length) : ∃ c, L2.atI z.cps.toList t = some c := by
  obtain ⟨j, rfl⟩ : ∃ j : Nat, t = (j : Int) := ⟨t.toNat, by omega⟩
  have hj : j < z.cps.toList.length := by rw [Array.length_toList]; exact Int.ofNat_lt.mp h1
  exact ⟨z.cps.toList[j], L2.atI_nat (List.getElem?_eq_getElem hj)⟩
theorem okS_2 {bo : Bool} {d e : D} (h : okS bo d = true) (g : okS bo e = true) : okS bo (.list [d, e]) = true := by
  have q : okSs bo [d, e] = true := by rw [okSs, okSs, h, g]; rfl
  rw [okS, q]
  exact decide_eq_true (show 2 ≤ sizeLine by decide)
theorem okS_bad1 (o : Option Int) : okS true (bad (oI o)) = true := by
  cases o with
  | none => exact (by decide +kernel : okS true (.str (Str.ofString "BadText")) = true)
  | some v => rfl
theorem okS_bad2 (o : Option (Int × Int)) : okS true (bad (oM o)) = true := by
  cases o with
  | none => exact (by decide +kernel : okS true (.str (Str.ofString "BadText")) = true)
  | some v => rfl
theorem dep_bad (o : Option Int) (q : Option (Int × Int)) : (PyData.list [bad (oI o), bad (oM q)]).depth ≤ 3 := by
  cases o <;> cases q <;> simp [bad, oI, oM, PyData.depth, PyData.depthAll]
theorem tS_of (z : Str) : PyData.str z = tS z.cps.toList := congrArg PyData.str (SX.S_tl z).symm
theorem tS_len (z : Str) : z.cps.toList.length = z.length := Array.length_toList
theorem atH {α : Type} (c : α) (r : List α) : L2.atI (c :: r) (0 : Int) = some c := by
  unfold L2.atI L2.ixN
  rw [if_pos (by omega), if_pos (by rw [List.length_cons]; omega)]
  rfl
section
variable {P : Program} {w : World} {K : PySem.W.Frag} {mg : Str → Option Value} {base : Heap}
theorem hu64R {k : Nat} {A : Around} (hr : Room k A) : A.units + 64 < cLine := by have := hr.un; omega
theorem ok_begin {f : Addr} {fd : FuncData} {k : Nat} (F : Fun K "_law_begin" "_law_begin" s_begin f fd) (ml : mg "list" = none) : FnOk P w K mg base CX0 (k + 1) f fd ["_law_script"] (spBeginH K) := by
  refine F.ok sc_begin (fun vs H Q E h => ?_) (fun cdv A outer s H vs Q E hr h => ?_)
  · obtain ⟨a, ns, rfl, _⟩ := h
    rfl
  · obtain ⟨a, ns, rfl, hS, q⟩ := h
    refine ⟨_, pss_cons (ps_set (i := 1) sc_begin.nd rfl (.inl rfl) (pe_callTy call_list_of (by rfl) ml (by decide +kernel) (pa_cons (pe_slice sl_list (pv 0) po_none (po_some pe_int)) pa_nil)))
      (pss_cons (ps_if (pt_cmpR (op_eqD (hu64R hr)) (pv 1) (pe_lst pa_nil) (nomark _)) (pss_one (ps_set (i := 1) sc_begin.nd rfl (.inl rfl) (pe_lst (pa_cons pe_int pa_nil)))) pss_nil)
      (pss_one (ps_ret (pe_disp (pps_cons pe_str (pv 1) (pps_cons pe_str pe_int pps_nil)) rfl rfl (fun z => by cases z) (Nat.le_of_ble_eq_true rfl))))), ?_⟩
    have cut : cutV (ns.map V.int) none (some 63) = (ns.take 63).map V.int := by
      unfold cutV
      rw [HT.sIx_none]
      rw [show HT.sIx (ns.map V.int).length (ns.map V.int).length (some 63) = min 63 (ns.map V.int).length from HT.sIx_nat _ _ 63]
      simp [List.map_take, List.take_eq_take_iff]
    refine ⟨.ref a, rfl, 63, rfl, a, _, rfl, hS, fun c nc => ⟨c, _, rfl, .inl (.inl (.inl upd_same)), fun l nl => ?_⟩⟩
    rw [cut]
    have ncl : c ≠ l := fun z => by rw [z, upd_same] at nl; cases nl
    have nl0 : H l = none := by rw [← nl, upd_ne ncl.symm]
    refine ⟨_, rfl, Nat.zero_le _, fun e ne => ?_⟩
    have nel : e ≠ l := fun z => by rw [z, upd_same] at ne; cases ne
    have nec : e ≠ c := fun z => by rw [z, upd_ne ncl, upd_same] at ne; cases ne
    have fin : ∀ (H2 : Hp) (x : Addr) (cs : List Int), (∀ b o, H b = some o → H2 b = some o) → H x = none → H2 x = some (.lst (cs.map V.int)) → 1 ≤ cs.length → cs.length ≤ 63 → ∀ p, H2 p = none → Q (.ref p) (upd (upd H2 p (.dK [])) p (.dK [(.inr "cells", .ref x), (.inr "turn", .int 0)])) := fun H2 x cs hx nx hx2 l1 l2 p np => by
      have npx : x ≠ p := ne_of_none hx2 np
      refine q _ p x cs (fun b o h => ?_) upd_same ?_ ?_ nx npx.symm l1 l2
      · have nb : b ≠ p := ne_of_none (hx b o h) np
        rw [upd_ne nb, upd_ne nb]; exact hx b o h
      · rw [upd_ne npx, upd_ne npx]; exact hx2
      · cases z : H p with
        | none => rfl
        | some o => rw [hx p o z] at np; cases np
    have h1 : ∀ b o, H b = some o → (upd (upd (upd H c (.lst ((ns.take 63).map V.int))) l (.lst ((ns.take 63).map V.int))) e (.lst [])) b = some o := fun b o h => by
      rw [upd_ne (fun z => by rw [z] at h; rw [upd_ne nel, upd_ne nec] at ne; rw [h] at ne; cases ne), upd_ne (ne_of_none h nl0), upd_ne (ne_of_none h nc)]; exact h
    refine ⟨.list ((ns.take 63).map PyData.int), .list [], .lst (.inl (.inl ?_)) ((RpL.ints (A := fun _ => False)).dp (lay_ints _)), .lst (.inl (.inl upd_same)) .nil, PySem.W.shaped_ints _, by decide, ?_⟩
    · rw [upd_ne nel.symm, upd_same]
    · cases ns with
      | nil =>
        refine ⟨_, rfl, ite2 (fun _ => ?_) (fun z => (z rfl).elim)⟩
        refine ⟨by decide, fun x nx => ?_⟩
        have nx0 : H x = none := by
          cases z : H x with
          | none => rfl
          | some o => rw [h1 _ _ z] at nx; cases nx
        refine fun p np => ⟨.ref x, rfl, upd_same, [(.inr "cells", .ref x), (.inr "turn", .int 0)], rfl, Nat.le_of_ble_eq_true rfl, ?_⟩
        exact fin _ x [11] (fun b o h => by rw [upd_ne (ne_of_none (h1 _ _ h) nx)]; exact h1 _ _ h) nx0 upd_same (by decide) (by decide) p np
      | cons x r =>
        refine ⟨_, rfl, ite2 (fun z => by cases z) (fun z => ?_)⟩
        refine fun p np => ⟨.ref l, rfl, ?_, [(.inr "cells", .ref l), (.inr "turn", .int 0)], rfl, Nat.le_of_ble_eq_true rfl, ?_⟩
        · exact upd_same
        · exact fin _ l _ h1 nl0 (by rw [upd_ne nel.symm, upd_same]) (by simp) (by simp; omega) p np
theorem ok_take {f : Addr} {fd : FuncData} {k : Nat} (F : Fun K "_law_take" "_law_take" s_take f fd) (ml : mg "len" = none) (md : mg "divmod" = none) : FnOk P w K mg base CX0 (k + 1) f fd ["_law_state", "_law_many"] spTakeH := by
  refine F.ok sc_take (fun vs H Q E h => ?_) (fun cdv A outer s H vs Q E hr h => ?_)
  · obtain ⟨a, c, cs, t, many, rfl, _⟩ := h
    rfl
  · obtain ⟨a, c, cs, t, many, rfl, ha, hc, l1, l2, t0, t1, hm, q⟩ := h
    refine ⟨_, pss_cons (ps_set (i := 2) sc_take.nd rfl (.inl rfl) (pe_op op_add (pe_dget (hu1R hr) (pv 0) pe_str (fun _ _ => rfl)) pe_int))
      (pss_cons (ps_dput (hu1R hr) (pv 0) pe_str (pv 2) rfl)
      (pss_cons (ps_set (i := 3) sc_take.nd rfl (.inl rfl) (pe_op op_mod (pv 2) (pe_callB call_len_seq (by rfl) ml PySem.boot_len (pa_cons (pe_dget (hu1R hr) (pv 0) pe_str (fun _ _ => rfl)) pa_nil))))
      (pss_cons (ps_set (i := 4) sc_take.nd rfl (.inl rfl) (pe_ix ix_list (pe_dget (hu1R hr) (pv 0) pe_str (fun _ _ => rfl)) (pv 3) (fun _ _ => rfl)))
      (pss_cons (ps_if (pt_cmpR op_ge (pv 4) (pe_op op_pow pe_int pe_int) (nomark _))
        (pss_cons (ps_asg (pe_callB call_divmodW (by rfl) md (by decide +kernel) (pa_cons (pv 4) (pa_cons (pv 1) pa_nil))) (pg_tup rfl (pgs_cons (pg_sub (pe_dget (hu1R hr) (pv 0) pe_str (fun _ _ => rfl)) (pv 3) set_list) (pgs_cons (pg_name (i := 5) sc_take.nd rfl (.inl rfl)) pgs_nil))))
        (pss_one (ps_ret (pv 5)))) pss_nil)
      (pss_cons (ps_set (i := 6) sc_take.nd rfl (.inl rfl) (pe_op op_mod (pe_op op_mulX (pe_op op_add (pe_op op_add (pe_op op_mod (pv 4) pe_int) (pe_op op_mulX (pe_op op_mulX (pv 2) (pv 2)) pe_int)) pe_int) pe_int) pe_int))
      (pss_cons (ps_set (i := 6) sc_take.nd rfl (.inl rfl) (pe_op op_mod (pe_op op_mulX (pv 6) (pv 6)) pe_int))
      (pss_one (ps_ret (pe_op op_mod (pe_op op_fdivW (pe_op op_mod (pe_op op_mulX (pe_op op_add (pv 6) (pe_op op_mulX (pv 2) pe_int)) pe_int) pe_int) pe_int) (pv 1)))))))))), ?_⟩
    have e1 : valV ([(.inr "cells", .ref c), (.inr "turn", .int t)] : List (Key × V)) (.inr "turn") = some (.int t) := rfl
    have hac : a ≠ c := ne_of ha hc (by intro z; cases z)
    have hp : putK ([(.inr "cells", .ref c), (.inr "turn", .int t)] : List (Key × V)) (.inr "turn") (.int (t + 1)) = [(.inr "cells", .ref c), (.inr "turn", .int (t + 1))] := rfl
    have ha1 : (upd H a (.dK [(.inr "cells", .ref c), (.inr "turn", .int (t + 1))])) a = some (.dK [(.inr "cells", .ref c), (.inr "turn", .int (t + 1))]) := upd_same
    have hc1 : (upd H a (.dK [(.inr "cells", .ref c), (.inr "turn", .int (t + 1))])) c = some (.lst (cs.map V.int)) := by rw [upd_ne hac.symm]; exact hc
    have ec : valV ([(.inr "cells", .ref c), (.inr "turn", .int (t + 1))] : List (Key × V)) (.inr "cells") = some (.ref c) := rfl
    obtain ⟨m, hm1, hm2⟩ : ∃ m : Nat, (t + 1) % (cs.length : Int) = m ∧ m < cs.length := ⟨((t + 1) % (cs.length : Int)).toNat, (Int.toNat_of_nonneg (Int.emod_nonneg _ (by omega))).symm, by have h1 := Int.emod_nonneg (t + 1) (show (cs.length : Int) ≠ 0 by omega); have h2 := Int.emod_lt_of_pos (t + 1) (show (0 : Int) < cs.length by omega); omega⟩
    have gm : (cs.map V.int)[m]? = some (.int cs[m]) := by rw [List.getElem?_map, List.getElem?_eq_getElem hm2]; rfl
    refine ⟨.ref a, rfl, a, _, rfl, DGet.k (k := .inr "turn") ha, _, _, rfl, rfl, ?_⟩
    refine ⟨_, rfl, .ref a, rfl, a, _, rfl, DPut.k (k := .inr "turn") ha (by show 2 < sizeLine; decide), ?_⟩
    refine ⟨_, rfl, .ref a, rfl, a, _, rfl, DGet.k (k := .inr "cells") ha1, ?_⟩
    refine ⟨c, cs.map V.int, rfl, .inl (.inl (.inl hc1)), ?_⟩
    have el : ((cs.map V.int).length : Int) = cs.length := by rw [List.length_map]
    refine ⟨t + 1, ((cs.map V.int).length : Int), rfl, rfl, by omega, ?_⟩
    have hm3 : (t + 1) % ((cs.map V.int).length : Int) = (m : Int) := by rw [el]; exact hm1
    refine ⟨.ref a, rfl, a, _, rfl, DGet.k (k := .inr "cells") ha1, _, rfl, c, cs.map V.int, _, .int cs[m], rfl, rfl, .inl (.inl hc1), at_of (j := m) hm3 gm, ?_⟩
    refine ⟨.int cs[m], rfl, 10, 18, rfl, rfl, ⟨by decide, by decide⟩, ?_⟩
    refine ⟨cs[m], _, rfl, rfl, _, rfl, ite2 (fun _ => ?_) (fun _ => ?_)⟩
    · refine ⟨.int cs[m], rfl, .int many, rfl, cs[m], many, rfl, ⟨hm.1, PyProof.noPylong_of_log2 hm.2⟩, fun p np => ?_⟩
      have npa : a ≠ p := ne_of_none ha1 np
      have npc : c ≠ p := ne_of_none hc1 np
      have ha2 : ∀ o, (upd (upd H a (.dK [(.inr "cells", .ref c), (.inr "turn", .int (t + 1))])) p o) a = some (.dK [(.inr "cells", .ref c), (.inr "turn", .int (t + 1))]) := fun o => by rw [upd_ne npa]; exact ha1
      have hc2 : ∀ o, (upd (upd H a (.dK [(.inr "cells", .ref c), (.inr "turn", .int (t + 1))])) p o) c = some (.lst (cs.map V.int)) := fun o => by rw [upd_ne npc]; exact hc1
      refine ⟨p, [.int (cs[m] / many), .int (cs[m] % many)], rfl, .inl (.inl upd_same), rfl, .int (cs[m] / many), [.int (cs[m] % many)], rfl, ?_⟩
      refine ⟨.ref a, rfl, a, _, rfl, DGet.k (k := .inr "cells") (ha2 _), _, rfl, ?_⟩
      refine ⟨c, cs.map V.int, _, m, rfl, rfl, hc2 _, ?_, .int (cs[m] % many), [], rfl, rfl, .int (cs[m] % many), rfl, ?_⟩
      · rw [hm3, List.length_map]
        unfold ixN
        rw [if_pos (by omega), if_pos (by omega)]
        rfl
      · have l0 : 0 ≤ cs[m] % many := Int.emod_nonneg _ (by have := hm.1; omega)
        have l1 : cs[m] % many < many := Int.emod_lt_of_pos _ hm.1
        refine q _ (cs.set m (cs[m] / many)) _ (fun b o hb hb2 h => ?_) ?_ ?_ (by simp) l0 l1
        · have nb : b ≠ p := ne_of_none (by rw [upd_ne hb]; exact h) np
          rw [upd_ne hb2, upd_ne nb, upd_ne hb]; exact h
        · rw [upd_ne hac]; exact ha2 _
        · rw [upd_same, List.map_set]
    · have hx0 : 0 ≤ cs[m] % 2147483629 := Int.emod_nonneg _ (by decide)
      have hx1 : cs[m] % 2147483629 < 2147483629 := Int.emod_lt_of_pos _ (by decide)
      have ht0 : 0 ≤ t + 1 := by omega
      have ht1 : t + 1 < 2 ^ 61 := by unfold turnMax at t1; omega
      have m1 : CMulX (t + 1) (t + 1) := mulx_ok (a := 61) (b := 61) (by omega) (by omega) (by decide)
      have hs0 : 0 ≤ (t + 1) * (t + 1) := Int.mul_nonneg ht0 ht0
      have hs1 : (t + 1) * (t + 1) < 2 ^ 123 := Int.lt_of_le_of_lt (Int.mul_le_mul (Int.le_of_lt ht1) (Int.le_of_lt ht1) ht0 (by decide)) (by decide)
      have m2 : CMulX ((t + 1) * (t + 1)) 7919 := mulx_ok (a := 123) (b := 13) (by omega) (by decide) (by decide)
      have m3 : CMulX (cs[m] % 2147483629 + (t + 1) * (t + 1) * 7919 + 11) 48271 := mulx_ok (a := 140) (b := 16) (by omega) (by decide) (by decide)
      have hy0 := Int.emod_nonneg ((cs[m] % 2147483629 + (t + 1) * (t + 1) * 7919 + 11) * 48271) (show (2147483647 : Int) ≠ 0 by decide)
      have hy1 := Int.emod_lt_of_pos ((cs[m] % 2147483629 + (t + 1) * (t + 1) * 7919 + 11) * 48271) (show (0 : Int) < 2147483647 by decide)
      have m4 : CMulX ((cs[m] % 2147483629 + (t + 1) * (t + 1) * 7919 + 11) * 48271 % 2147483647) ((cs[m] % 2147483629 + (t + 1) * (t + 1) * 7919 + 11) * 48271 % 2147483647) := mulx_ok (a := 31) (b := 31) (by omega) (by omega) (by decide)
      refine ⟨_, rfl, _, _, rfl, rfl, (by omega : (0 : Int) < _), _, rfl, _, rfl, _, _, rfl, rfl, m1, _, _, rfl, rfl, m2, _, _, rfl, rfl, _, _, rfl, rfl, _, _, rfl, rfl, m3, _, _, rfl, rfl, (by omega : (0 : Int) < _), ?_⟩
      refine ⟨_, rfl, _, rfl, _, _, rfl, rfl, m4, _, _, rfl, rfl, (by omega : (0 : Int) < _), ?_⟩
      generalize ((cs[m] % 2147483629 + (t + 1) * (t + 1) * 7919 + 11) * 48271 % 2147483647) * ((cs[m] % 2147483629 + (t + 1) * (t + 1) * 7919 + 11) * 48271 % 2147483647) = y at *
      have hz0 := Int.emod_nonneg y (show (2147483587 : Int) ≠ 0 by decide)
      have hz1 := Int.emod_lt_of_pos y (show (0 : Int) < 2147483587 by decide)
      refine ⟨_, rfl, _, rfl, _, _, rfl, rfl, mulx_ok (a := 61) (b := 17) (by omega) (by decide) (by decide), _, _, rfl, rfl, _, _, rfl, rfl, mulx_ok (a := 90) (b := 17) (by omega) (by decide) (by decide), _, _, rfl, rfl, (by omega : (0 : Int) < _), _, _, rfl, rfl, ⟨by decide, by decide⟩, _, rfl, _, _, rfl, rfl, hm.1, ?_⟩
      refine q _ cs _ (fun b o hb hb2 h => ?_) ha1 hc1 rfl (Int.emod_nonneg _ (by have := hm.1; omega)) (Int.emod_lt_of_pos _ hm.1)
      show (upd H a _) b = _
      rw [upd_ne hb]; exact h
theorem o_take' (T : Tx K mg) : Ok P w K mg base 1 "_law_take" s_take ["_law_state", "_law_many"] 2 spTake := by
  obtain ⟨f, fd, a⟩ := T.d_take
  exact ⟨f, fd, a, DL.FnOk.toG ((ok_take (k := 0) a.F T.b_len T.b_divmod).imp fun _ _ _ _ q => spTake_imp q)⟩
def sp_is_figures : SpD := fun xs ms Ks => match xs, ms with
  | [.da x, .da y], [] => ∃ (l : List Nat) (most : Nat), x = tS l ∧ y = .int (most : Int) ∧ l.length ≤ 100000 ∧ Ks [] (.da (.bool (fig l most)))
  | _, _ => False
theorem ok_is_figures (T : Tx K mg)  : Ok P w K mg base 1 "is_figures" s_is_figures ["text", "most"] 2 sp_is_figures := by
  refine ok_data (n0 := 1) T.d_is_figures sc_is_figures _ (fun f cdv A outer s H E hr =>
  (dss_one (ds_ret (de_and (de_chain op_le op_le opd_intB opd_intB de_int (de_len (x := "") (by rfl) (T.b_len) (dv 0)) (dv 1)) (de_one (de_all rfl (by rfl) (T.b_all) (de_lc [("sign", 2)] rfl sc_is_figures.nd (di_str (dv 0)) (BlkOk.mk (N := ["text", "most", "sign"]) (sc := defScope s_is_figures) rfl (by decide +kernel) (by decide +kernel) (by decide +kernel) (by decide +kernel)) (by decide) (fun _ _ _ _ _ => (dg_name (i := 2) sc_is_figures.nd rfl (by first | exact .inl rfl | exact .inr rfl))) (fun _ _ _ _ _ => dts_nil) (fun _ _ _ _ _ => (de_inS (dv 2) (de_gstr (by rfl) T.c_FIGURES)))))))))) (fun xs ms Ks h hl => ?_)
  unfold sp_is_figures at h
  split at h
  · rename_i x y
    obtain ⟨l, most, rfl, rfl, hl, hk⟩ := h
    try dsimp only [DL.S.sE, DL.S.sM, DL.S.aM, DL.S.cM, DL.st, DL.gt, DL.sm, DL.gm, DL.putM, DL.pick, DL.muks, DL.nthN, DL.bkE, DL.st0, DL.nos, List.cons_append, List.nil_append, List.append_nil, List.drop_succ_cons, List.drop_nil, List.drop_zero, List.drop, DL.a1, DL.a2, DL.a3, DL.cMin3, DL.aNil, DL.aCons, DL.dVar, DL.dC, DL.iI, DL.i1, DL.isB, DL.daI, DL.onE, DL.gN, List.length_cons, List.length_nil, Nat.reduceAdd, Nat.zero_add]
    have el : ((SX.S l).length : Int) = (l.length : Int) := by rw [SX.S_len]
    refine ⟨by rw [SX.S_len, sizeLine_eq]; omega, ?_⟩
    refine bS (p := (1 : Int) ≤ ((SX.S l).length : Int)) (fun c1 => ?_) fun c1 => ?_
    · refine bS (p := ((SX.S l).length : Int) ≤ (most : Int)) (fun c2 => ?_) fun c2 => ?_
      · refine ⟨fun (i : Nat) (mo : List MO) (acc : List D) => mo = [] ∧ acc = ((l.take i).map isDg).map .bool, ⟨rfl, rfl⟩, ?_, ?_⟩
        · rintro i d mo acc hi ⟨rfl, rfl⟩ _
          rw [sgs_S] at hi
          obtain ⟨c, hc, rfl⟩ := mapG (f := fun c => PyData.str (SX.S [c])) hi
          have hi2 := (List.getElem?_eq_some_iff.mp hc).1
          refine tt ?_
          refine ⟨by rw [List.length_map, List.length_map, List.length_take, sizeLine_eq]; omega, rfl, rfl, ?_⟩
          rw [List.take_add_one, hc, List.map_append, List.map_append]
          congr 1
          show [PyData.bool (!(Builtin.Str.occurrences (Str.ofString "0123456789") (SX.S [c]) 0 (Str.ofString "0123456789").length 1).isEmpty)] = [PyData.bool (isDg c)]
          rw [in_figures]
        · rintro mo acc ⟨rfl, rfl⟩ _
          rw [sgs_S, List.length_map, List.take_length]
          refine ⟨_, rfl, ?_⟩
          have e : fig l most = (l.map isDg).all id := by
            unfold fig
            rw [decide_eq_true (show 1 ≤ l.length by omega), decide_eq_true (show l.length ≤ most by omega), Bool.true_and, Bool.true_and, List.all_map]
            rfl
          rw [e] at hk
          exact hk
      · have e : fig l most = false := by
          unfold fig
          rw [decide_eq_false (show ¬ l.length ≤ most by omega), Bool.false_and, Bool.and_false]
        rw [e] at hk
        exact hk
    · have e : fig l most = false := by
        unfold fig
        rw [decide_eq_false (show ¬ 1 ≤ l.length by omega), Bool.false_and]
      rw [e] at hk
      exact ff hk
  · exact h.elim
def sp_parts : SpD := fun xs ms Ks => ∃ (l : List Nat) (most places : Nat), xs = [.da (tS l), .da (.int most), .da (.int places)] ∧ ms = [] ∧ l.length ≤ 1000 ∧ most ≤ 100 ∧ places ≤ 100 ∧ Ks [] (.da (oI (readN l most places)))
theorem ok_parts (T : Tx K mg)  : Ok P w K mg base 1 "_law_parts" s_parts ["_law_text", "_law_most", "_law_places"] 3 sp_parts := by
  refine ok_data (n0 := 6) T.d_parts sc_parts _ (fun f cdv A outer s H E hr =>
  (dss_cons (ds_set (i := 3) sc_parts.nd rfl (by first | exact .inl rfl | exact .inr rfl) (de_split (dv 0) de_str))
  (dss_cons (ds_if (dt_bool (dw_or (dt_gt (de_len (x := "") (by rfl) (T.b_len) (dv 3)) de_int) (dw_or (dt_not (dt_chain op_le op_le opd_intB opd_intB de_int (de_len (x := "") (by rfl) (T.b_len) (de_ix (dv 3) de_int)) (dv 1))) (dw_or1 (dt_bool (dw_and (dt_eqS (de_len (x := "") (by rfl) (T.b_len) (dv 3)) de_int) (dw_and1 (dt_not (dt_chain op_le op_le opd_intB opd_intB de_int (de_len (x := "") (by rfl) (T.b_len) (de_ix (dv 3) de_int)) (dv 2))))))))))
    (dss_one (ds_ret de_non))
    dss_nil)
  (dss_cons (ds_set (i := 4) sc_parts.nd rfl (by first | exact .inl rfl | exact .inr rfl) de_int)
  (dss_cons (ds_for [0, 1, 5, 6, 7, 8] 0 PassesOwn.never rfl (di_seq (dv 3)) (dg_name (i := 5) sc_parts.nd rfl (by first | exact .inl rfl | exact .inr rfl))
    (dss_one (ds_for [0, 1, 5, 6, 7, 8] 0 PassesOwn.never rfl (di_str (dv 5)) (dg_name (i := 6) sc_parts.nd rfl (by first | exact .inl rfl | exact .inr rfl))
      (dss_cons (ds_if (dt_notinS (dv 6) de_str)
        (dss_one (ds_ret de_non))
        dss_nil)
      (dss_one (ds_set (i := 4) sc_parts.nd rfl (by first | exact .inl rfl | exact .inr rfl) (de_add (de_mul de_int (dv 4)) (de_sindex de_str (dv 6)))))))))
  (dss_cons (ds_if (dt_bool (dw_and (dt_gt (de_len (x := "") (by rfl) (T.b_len) (de_ix (dv 3) de_int)) de_int) (dw_and1 (dt_eqS (de_ix (de_ix (dv 3) de_int) de_int) de_str))))
    (dss_one (ds_ret de_non))
    dss_nil)
  (dss_cons (ds_set (i := 7) sc_parts.nd rfl (by first | exact .inl rfl | exact .inr rfl) (de_if (dt_eqS (de_len (x := "") (by rfl) (T.b_len) (dv 3)) de_int) (de_len (x := "") (by rfl) (T.b_len) (de_ix (dv 3) de_int)) de_int))
  (dss_cons (ds_for [0, 1, 2, 3, 5, 6, 7, 8] 0 PassesOwn.never rfl (di_range1 (by rfl) (T.b_range) (da_cons (de_sub (dv 2) (dv 7)) da_nil)) (dg_name (i := 8) sc_parts.nd rfl (by first | exact .inl rfl | exact .inr rfl))
    (dss_one (ds_set (i := 4) sc_parts.nd rfl (by first | exact .inl rfl | exact .inr rfl) (de_mul de_int (dv 4)))))
  (dss_one (ds_ret (dv 4))))))))))) (fun xs ms Ks h hl => ?_)
  unfold sp_parts at h
  obtain ⟨l, most, places, rfl, rfl, hl, hm, hp, hk⟩ := h
  refine seqU fun u hu => ?_
  refine ⟨rfl, by rw [SX.S_len, sizeLine_eq]; omega, ?_⟩
  rw [show Txt.split (SX.S l) (Str.ofString ".") = _ from split_one 46 l (by decide)]
  have sl := spl_le 46 l
  dsimp only [st0]
  try dsimp only [DL.S.sE, DL.S.sM, DL.S.aM, DL.S.cM, DL.st, DL.gt, DL.sm, DL.gm, DL.putM, DL.pick, DL.muks, DL.nthN, DL.bkE, DL.st0, DL.nos, List.cons_append, List.nil_append, List.append_nil, List.drop_succ_cons, List.drop_nil, List.drop_zero, List.drop, DL.a1, DL.a2, DL.a3, DL.cMin3, DL.aNil, DL.aCons, DL.dVar, DL.dC, DL.iI, DL.i1, DL.isB, DL.daI, DL.onE, DL.gN, List.length_cons, List.length_nil, Nat.reduceAdd, Nat.zero_add]
  rw [hu]; clear hu u
  refine seqU fun u hu => ?_
  have lenD : ∀ P : List (List Nat), ((((P.map SX.S).map PyData.str).length : Nat) : Int) = P.length := fun P => by rw [List.length_map, List.length_map]
  refine bS (p := ((((TL.spl [46] 0 [] l).map SX.S).map PyData.str).length : Int) > 2) (fun c1 => ?_) fun c1 => ?_
  · rw [lenD] at c1
    rw [pcs_many (by omega)] at hk
    exact tt hk
  rw [lenD] at c1
  obtain ⟨P, p, qs, PC⟩ := pcs_of (l := l) (by omega)
  rw [PC.sp]
  clear c1 sl
  have lnP := PC.ln
  have hval := PC.val most places
  have lp : p.length ≤ 1000 := Nat.le_trans (lnP p (by rw [PC.eq]; exact List.mem_cons_self)) hl
  have a0 : L2.atI ((P.map SX.S).map PyData.str) 0 = some (.str (SX.S p)) := by
    rw [PC.eq]
    exact atH _ _
  have elp : ((SX.S p).length : Int) = (p.length : Int) := by rw [SX.S_len]
  have no1 : ¬ fig p most = true → Ks [] (.da .none) := fun q => by
    rw [hval, if_neg fun z => q z.1] at hk
    exact hk
  have no2 : ∀ q ∈ qs, ¬ fig q places = true → Ks [] (.da .none) := fun q hq c => by
    rw [hval, if_neg fun z => c (z.2.2 q hq)] at hk
    exact hk
  -- the lengths
  have next : 1 ≤ p.length ∧ p.length ≤ most ∧ (∀ q ∈ qs, 1 ≤ q.length ∧ q.length ≤ places) → u ⟨[.da (tS l), .da (.int (most : Int)), .da (.int (places : Int)), .da (.list ((P.map SX.S).map .str)), .no, .no, .no, .no, .no], [], 0⟩ (endD Ks) := ?_
  · refine ⟨_, a0, by rw [SX.S_len, sizeLine_eq]; omega, ?_⟩
    refine bS (p := (1 : Int) ≤ ((SX.S p).length : Int)) (fun d1 => ?_) fun d1 => ?_
    · try dsimp only [DL.S.sE, DL.S.sM, DL.S.aM, DL.S.cM, DL.st, DL.gt, DL.sm, DL.gm, DL.putM, DL.pick, DL.muks, DL.nthN, DL.bkE, DL.st0, DL.nos, List.cons_append, List.nil_append, List.append_nil, List.drop_succ_cons, List.drop_nil, List.drop_zero, List.drop, DL.a1, DL.a2, DL.a3, DL.cMin3, DL.aNil, DL.aCons, DL.dVar, DL.dC, DL.iI, DL.i1, DL.isB, DL.daI, DL.onE, DL.gN, List.length_cons, List.length_nil, Nat.reduceAdd, Nat.zero_add]
      refine nS (p := ((SX.S p).length : Int) ≤ (most : Int)) (fun d2 => ?_) fun d2 => ?_
      · rw [elp] at d2
        exact tt (no1 fun z => d2 (by have := (fig_iff.mp z).2.1; omega))
      · rw [elp] at d1 d2
        have el : ((((P.map SX.S).map PyData.str).length : Nat) : Int) = 1 + (qs.length : Int) := by rw [lenD, PC.eq, List.length_cons]; omega
        cases hq : qs with
        | nil =>
          rw [hq] at el
          refine DL.bF (p := ((((P.map SX.S).map PyData.str).length : Nat) : Int) = 2) (by rw [el]; decide) ?_
          refine ff ?_
          exact next ⟨by omega, by omega, fun q hq' => by rw [hq] at hq'; cases hq'⟩
        | cons q r =>
          obtain rfl : r = [] := by
            have := PC.le
            rw [hq, List.length_cons] at this
            exact List.length_eq_zero_iff.mp (by omega)
          rw [hq] at el
          refine DL.bT (p := ((((P.map SX.S).map PyData.str).length : Nat) : Int) = 2) (by rw [el]; rfl) ?_
          have a1 : L2.atI ((P.map SX.S).map PyData.str) 1 = some (.str (SX.S q)) := by
            rw [PC.eq, hq]
            exact L2.atI_nat (j := 1) rfl
          have lq : q.length ≤ 1000 := Nat.le_trans (lnP q (by rw [PC.eq, hq]; simp)) hl
          have elq : ((SX.S q).length : Int) = (q.length : Int) := by rw [SX.S_len]
          refine ⟨_, a1, by rw [SX.S_len, sizeLine_eq]; omega, ?_⟩
          refine bS (p := (1 : Int) ≤ ((SX.S q).length : Int)) (fun d3 => ?_) fun d3 => ?_
          · try dsimp only [DL.S.sE, DL.S.sM, DL.S.aM, DL.S.cM, DL.st, DL.gt, DL.sm, DL.gm, DL.putM, DL.pick, DL.muks, DL.nthN, DL.bkE, DL.st0, DL.nos, List.cons_append, List.nil_append, List.append_nil, List.drop_succ_cons, List.drop_nil, List.drop_zero, List.drop, DL.a1, DL.a2, DL.a3, DL.cMin3, DL.aNil, DL.aCons, DL.dVar, DL.dC, DL.iI, DL.i1, DL.isB, DL.daI, DL.onE, DL.gN, List.length_cons, List.length_nil, Nat.reduceAdd, Nat.zero_add]
            refine nS (p := ((SX.S q).length : Int) ≤ (places : Int)) (fun d4 => ?_) fun d4 => ?_
            · rw [elq] at d4
              exact no2 q (by rw [hq]; simp) fun z => d4 (by have := (fig_iff.mp z).2.1; omega)
            · rw [elq] at d3 d4
              exact next ⟨by omega, by omega, fun q' hq' => by rw [hq] at hq'; cases List.mem_singleton.mp hq'; exact ⟨by omega, by omega⟩⟩
          · rw [elq] at d3
            exact tt (no2 q (by rw [hq]; simp) fun z => d3 (by have := (fig_iff.mp z).1; omega))
    · rw [elp] at d1
      exact tt (tt (no1 fun z => d1 (by have := (fig_iff.mp z).1; omega)))
  rintro ⟨p1, p2, q12⟩
  rw [hu]; clear hu u
  obtain ⟨fl1, fl2⟩ := flat_len PC.eq PC.le p2 fun q hq => (q12 q hq).2
  refine seqU fun u hu => ?_
  show u ⟨[.da (tS l), .da (.int (most : Int)), .da (.int (places : Int)), .da (.list ((P.map SX.S).map .str)), .da (.int ((numV [] : Nat) : Int)), .no, .no, .no, .no], [], 0⟩ (endD Ks)
  rw [hu]; clear hu u
  have hbad : ∀ x ∈ P, ∀ c ∈ x, isDg c = false → Ks [] (.da .none) := fun x hx c hc hd => by
    have := PC.mem x hx c hc
    rw [readN_bad this.1 this.2 (by
      have : ¬ isDg c = true := by rw [hd]; decide
      rw [isDg_of] at this
      omega)] at hk
    exact hk
  refine seqU fun u hu => ?_
  refine onO_mk rfl ?_
  obtain ⟨F, hF⟩ : ∃ F : Nat → List Nat, F = fun i => (P.take i).flatten := ⟨_, rfl⟩
  have F0 : F 0 = [] := by rw [hF]; rfl
  have FL : F P.length = P.flatten := by rw [hF]; dsimp only; rw [List.take_length]
  have F1 : ∀ i x, P[i]? = some x → F (i + 1) = F i ++ x ∧ (F i).length + x.length ≤ 200 := fun i x hx => by
    have e : F (i + 1) = F i ++ x := by
      rw [hF]
      dsimp only
      rw [List.take_add_one, hx, List.flatten_append]
      simp
    refine ⟨e, ?_⟩
    have h1 := congrArg List.flatten (List.take_append_drop (i + 1) P)
    rw [List.flatten_append] at h1
    have h2 := congrArg List.length h1
    rw [List.length_append] at h2
    have h3 := congrArg List.length e
    rw [List.length_append, hF] at h3
    dsimp only at h3
    rw [hF]
    dsimp only
    omega
  clear hF
  refine ⟨fun (i : Nat) (s : S) => NumText.AllDigits (F i) ∧ s = ⟨[.no, .no, .da (.int (places : Int)), .da (.list ((P.map SX.S).map .str)), .da (.int ((numV (F i) : Nat) : Int)), .no, .no, .no, .no], [], 0⟩, ⟨Nat.le_refl 0, by show NumText.AllDigits (F 0) ∧ clS _ _ _ = S.mk [_, _, _, _, .da (.int ((numV (F 0) : Nat) : Int)), _, _, _, _] _ _; rw [F0]; exact ⟨fun c hc => (by cases hc), rfl⟩⟩, ?_, ?_⟩
  · rintro i d s hi ⟨ad, rfl⟩
    rw [List.map_map] at hi
    obtain ⟨x, hx, rfl⟩ := mapG hi
    have hxm : x ∈ P := List.mem_of_getElem? hx
    obtain ⟨tk, tl⟩ := F1 i x hx
    show sFor _ _ _ _ _ ⟨[.no, .no, .da (.int (places : Int)), .da (.list ((P.map SX.S).map .str)), .da (.int ((numV (F i) : Nat) : Int)), .da (.str (SX.S x)), .no, .no, .no], [], 0⟩ _
    refine wsU fun E hE => ?_
    have hE1 : ∀ s4, E.nx s4 = (s4.np ≤ 0 ∧ NumText.AllDigits (F (i + 1)) ∧ clS [0, 1, 5, 6, 7, 8] 0 s4 = ⟨[.no, .no, .da (.int (places : Int)), .da (.list ((P.map SX.S).map .str)), .da (.int ((numV (F (i + 1)) : Nat) : Int)), .no, .no, .no, .no], [], 0⟩) := fun s4 => by rw [hE]
    have hE2' : E.rt = (endD Ks).rt := by rw [hE]
    clear hE
    rw [tk] at hE1
    obtain ⟨acc, hacc⟩ : ∃ a, a = F i := ⟨_, rfl⟩
    rw [← hacc] at ad tl hE1 ⊢
    clear hacc tk F0 FL F1
    dsimp only [sFor, iSgs]
    try dsimp only [DL.S.sE, DL.S.sM, DL.S.aM, DL.S.cM, DL.st, DL.gt, DL.sm, DL.gm, DL.putM, DL.pick, DL.muks, DL.nthN, DL.bkE, DL.st0, DL.nos, List.cons_append, List.nil_append, List.append_nil, List.drop_succ_cons, List.drop_nil, List.drop_zero, List.drop, DL.a1, DL.a2, DL.a3, DL.cMin3, DL.aNil, DL.aCons, DL.dVar, DL.dC, DL.iI, DL.i1, DL.isB, DL.daI, DL.onE, DL.gN, List.length_cons, List.length_nil, Nat.reduceAdd, Nat.zero_add]
    rw [sgs_S]
    refine ⟨fun (j : Nat) (s : S) => NumText.AllDigits (acc ++ x.take j) ∧ s = ⟨[.no, .no, .da (.int (places : Int)), .da (.list ((P.map SX.S).map .str)), .da (.int ((numV (acc ++ x.take j) : Nat) : Int)), .no, .no, .no, .no], [], 0⟩, ⟨Nat.le_refl 0, ?_⟩, ?_, ?_⟩
    · show NumText.AllDigits (acc ++ x.take 0) ∧ clS _ _ _ = S.mk [_, _, _, _, .da (.int ((numV (acc ++ x.take 0) : Nat) : Int)), _, _, _, _] _ _
      rw [List.take_zero, List.append_nil]
      exact ⟨ad, rfl⟩
    · rintro j d s hj ⟨ad2, rfl⟩
      obtain ⟨c, hc, rfl⟩ := mapG (f := fun c => PyData.str (SX.S [c])) hj
      have hcm : c ∈ x := List.mem_of_getElem? hc
      have tk2 : acc ++ x.take (j + 1) = (acc ++ x.take j) ++ [c] := by
        rw [List.take_add_one, hc, List.append_assoc]
        rfl
      have lj : (acc ++ x.take j).length ≤ 300 := by
        rw [List.length_append]
        have := List.length_take_le' j x
        omega
      show sSeq _ _ ⟨[.no, .no, .da (.int (places : Int)), .da (.list ((P.map SX.S).map .str)), .da (.int ((numV (acc ++ x.take j) : Nat) : Int)), .no, .da (.str (SX.S [c])), .no, .no], [], 0⟩ _
      refine wsU fun E2 hE2 => ?_
      have hE3 : ∀ s4, E2.nx s4 = (s4.np ≤ 0 ∧ NumText.AllDigits (acc ++ x.take (j + 1)) ∧ clS [0, 1, 5, 6, 7, 8] 0 s4 = ⟨[.no, .no, .da (.int (places : Int)), .da (.list ((P.map SX.S).map .str)), .da (.int ((numV (acc ++ x.take (j + 1)) : Nat) : Int)), .no, .no, .no, .no], [], 0⟩) := fun s4 => by rw [hE2]
      have hE4 : E2.rt = (endD Ks).rt := by rw [hE2]; exact hE2'
      clear hE2
      rw [tk2] at hE3
      obtain ⟨a2, ha2⟩ : ∃ a, a = acc ++ x.take j := ⟨_, rfl⟩
      rw [← ha2] at ad2 lj hE3 ⊢
      have fg := in_figures c
      refine ⟨fun q => ?_, fun q => ?_⟩
      · replace q : (!(!(Builtin.Str.occurrences (Str.ofString "0123456789") (SX.S [c]) 0 (Str.ofString "0123456789").length 1).isEmpty)) = true := q
        rw [fg] at q
        show E2.rt _ _
        rw [hE4]
        exact hbad x hxm c hcm (by simpa using q)
      · replace q : (!(!(Builtin.Str.occurrences (Str.ofString "0123456789") (SX.S [c]) 0 (Str.ofString "0123456789").length 1).isEmpty)) = false := q
        rw [fg] at q
        have hd : isDg c = true := by simpa using q
        obtain ⟨rest, hocc⟩ := occ_fig hd
        dsimp only [sNil]
        refine ⟨mulA 4 1000 (by decide) (numV_small ad2 lj), ?_⟩
        refine ⟨_, rest, hocc, ?_⟩
        show E2.nx _
        rw [hE3]
        refine ⟨Nat.le_refl 0, dig1 ad2 hd, ?_⟩
        have e : ((numV (a2 ++ [c]) : Nat) : Int) = 10 * ((numV a2 : Nat) : Int) + ((c - 48 : Nat) : Int) := by rw [numV_snoc]; omega
        rw [e]
        rfl
    · rintro s ⟨ad2, rfl⟩
      rw [List.length_map, List.take_length] at ad2 ⊢
      show E.nx _
      rw [hE1]
      exact ⟨Nat.le_refl 0, ad2, rfl⟩
  · rintro s ⟨ad, rfl⟩
    rw [List.length_map, List.length_map] at *
    rw [FL] at *
    dsimp only
    rw [hu]; clear hu u hbad F0 FL F1 F
    obtain ⟨pq, hpq⟩ : ∃ v, v = P.flatten := ⟨_, rfl⟩
    rw [← hpq] at ad fl1 hval ⊢
    have epq : pq = p ++ qs.flatten := by rw [hpq, PC.eq]; rfl
    have figp : fig p most = true := fig_iff.mpr ⟨p1, p2, fun c hc => isDg_of.mpr (ad c (by rw [epq]; exact List.mem_append_left _ hc))⟩
    have figq : ∀ q ∈ qs, fig q places = true := fun q hq => fig_iff.mpr ⟨(q12 q hq).1, (q12 q hq).2, fun c hc => isDg_of.mpr (ad c (by rw [epq]; exact List.mem_append_right _ (List.mem_flatten.mpr ⟨q, hq, hc⟩)))⟩
    have a0 : L2.atI ((P.map SX.S).map PyData.str) 0 = some (.str (SX.S p)) := by
      rw [PC.eq]
      exact atH _ _
    have elp : ((SX.S p).length : Int) = (p.length : Int) := by rw [SX.S_len]
    refine seqU fun u hu => ?_
    obtain ⟨c, r, hcr⟩ : ∃ c r, p = c :: r := by cases p with | nil => exact absurd p1 (by decide) | cons c r => exact ⟨c, r, rfl⟩
    have e48 : SX.S [c] = Str.ofString "0" ↔ c = 48 := by
      rw [show Str.ofString "0" = SX.S [48] from by decide]
      exact ⟨fun z => by simpa using SX.S_inj z, fun z => by rw [z]⟩
    have next : ¬ (p.head? = some 48 ∧ p ≠ [48]) → u ⟨[.no, .no, .da (.int (places : Int)), .da (.list ((P.map SX.S).map .str)), .da (.int ((numV pq : Nat) : Int)), .no, .no, .no, .no], [], 0⟩ (endD Ks) := ?_
    · refine ⟨_, a0, by rw [SX.S_len, sizeLine_eq]; omega, ?_⟩
      refine bS (p := ((SX.S p).length : Int) > 1) (fun d1 => ?_) fun d1 => ?_
      · rw [elp] at d1
        refine ⟨_, a0, c, by rw [hcr]; exact atH c r, by rw [SX.S_len, sizeLine_eq]; omega, ?_⟩
        refine bS (p := SX.S [c] = Str.ofString "0") (fun d2 => ?_) fun d2 => ?_
        · have hb : p.head? = some 48 ∧ p ≠ [48] := ⟨by rw [hcr, e48.mp d2]; rfl, fun z => by rw [z] at d1; exact absurd d1 (by decide)⟩
          rw [hval, if_neg fun z => z.2.1 hb] at hk
          exact hk
        · exact next fun z => d2 (e48.mpr (by rw [hcr] at z; exact Option.some.inj z.1))
      · rw [elp] at d1
        refine ff ?_
        refine next fun z => ?_
        obtain rfl : r = [] := by
          rw [hcr, List.length_cons] at d1
          exact List.length_eq_zero_iff.mp (by omega)
        rw [hcr] at z
        exact z.2 (by rw [Option.some.inj z.1])
    intro lead
    rw [hval, if_pos ⟨figp, lead, figq⟩] at hk
    rw [hu]; clear hu u hval
    obtain ⟨k, hk0⟩ : ∃ k, k = qs.flatten.length := ⟨_, rfl⟩
    rw [← hk0] at hk fl2
    refine seqU fun u hu => ?_
    have next : u ⟨[.no, .no, .da (.int (places : Int)), .da (.list ((P.map SX.S).map .str)), .da (.int ((numV pq : Nat) : Int)), .no, .no, .da (.int (k : Int)), .no], [], 0⟩ (endD Ks) := ?_
    · have el : ((((P.map SX.S).map PyData.str).length : Nat) : Int) = 1 + (qs.length : Int) := by rw [lenD, PC.eq, List.length_cons]; omega
      cases hq : qs with
      | nil =>
        rw [hq] at el hk0
        refine DL.bF (p := ((((P.map SX.S).map PyData.str).length : Nat) : Int) = 2) (by rw [el]; decide) ?_
        rw [hk0] at next
        exact next
      | cons q r' =>
        obtain rfl : r' = [] := by
          have := PC.le
          rw [hq, List.length_cons] at this
          exact List.length_eq_zero_iff.mp (by omega)
        rw [hq] at el hk0
        refine DL.bT (p := ((((P.map SX.S).map PyData.str).length : Nat) : Int) = 2) (by rw [el]; rfl) ?_
        have a1 : L2.atI ((P.map SX.S).map PyData.str) 1 = some (.str (SX.S q)) := by
          rw [PC.eq, hq]
          exact L2.atI_nat (j := 1) rfl
        have lq : q.length ≤ 1000 := Nat.le_trans (lnP q (by rw [PC.eq, hq]; simp)) hl
        refine ⟨_, a1, by rw [SX.S_len, sizeLine_eq]; omega, ?_⟩
        have elq : ((SX.S q).length : Int) = (k : Int) := by rw [SX.S_len, hk0]; simp
        show u ⟨[.no, .no, .da (.int (places : Int)), .da (.list ((P.map SX.S).map .str)), .da (.int ((numV pq : Nat) : Int)), .no, .no, .da (.int ((SX.S q).length : Int)), .no], [], 0⟩ (endD Ks)
        rw [elq]
        exact next
    rw [hu]; clear hu u
    refine ⟨by omega, by omega, fun (i : Nat) (s : S) => s = ⟨[.no, .no, .no, .no, .da (.int ((numV (pq ++ List.replicate i 48) : Nat) : Int)), .no, .no, .no, .no], [], 0⟩, ⟨Nat.le_refl 0, ?_⟩, ?_, ?_⟩
    · show clS _ _ _ = S.mk [_, _, _, _, .da (.int ((numV (pq ++ List.replicate 0 48) : Nat) : Int)), _, _, _, _] _ _
      rw [List.replicate_zero, List.append_nil]
      rfl
    · rintro i d s hi rfl
      have hi2 := (List.getElem?_eq_some_iff.mp hi).1
      rw [rng_length] at hi2
      refine ⟨mulA 4 1000 (by decide) (numV_small (AllDg.app ad (all_rep _)) (by rw [List.length_append, List.length_replicate]; omega)), Nat.le_refl 0, ?_⟩
      show _ = S.mk [_, _, _, _, .da (.int ((numV (pq ++ List.replicate (i + 1) 48) : Nat) : Int)), _, _, _, _] _ _
      have e : ((numV (pq ++ List.replicate (i + 1) 48) : Nat) : Int) = 10 * ((numV (pq ++ List.replicate i 48) : Nat) : Int) := by
        rw [List.replicate_succ', ← List.append_assoc, numV_snoc]
        omega
      rw [e]
      rfl
    · rintro s rfl
      rw [rng_length, show ((places : Int) - (k : Int)).toNat = places - k from by omega]
      exact hk
theorem byRest {R G : Prop} (f : R → G) (r : R) : G := f r
theorem at0 {α : Type} (c : α) (r : List α) : L2.atI (c :: r) (0 : Int) = some c := by
  unfold L2.atI L2.ixN
  rw [if_pos (by omega), if_pos (by rw [List.length_cons]; omega)]
  rfl
def sp_read_number : SpD := fun xs ms Ks => match xs, ms with
  | [.da x, .da y, .da z], [] => ∃ (l : List Nat) (most places : Nat), x = tS l ∧ y = .int (most : Int) ∧ z = .int (places : Int) ∧ l.length ≤ 100000 ∧ most ≤ 100 ∧ places ≤ 100 ∧ Ks [] (.da (oI (readN l most places)))
  | _, _ => False
theorem ok_read_number (T : Tx K mg) (o_is_figures : Ok P w K mg base 1 "is_figures" s_is_figures ["text", "most"] 2 sp_is_figures) : Ok P w K mg base 2 "read_number" s_read_number ["text", "most", "places"] 3 sp_read_number := by
  refine ok_data (n0 := 3) T.d_read_number sc_read_number _ (fun f cdv A outer s H E hr =>
  (dss_cons (ds_asg (de_partition (dv 0) de_str) (dg_tup (n := 3) rfl (dgs_cons (dg_name (i := 3) sc_read_number.nd rfl (by first | exact .inl rfl | exact .inr rfl)) (dgs_cons (dg_name (i := 4) sc_read_number.nd rfl (by first | exact .inl rfl | exact .inr rfl)) (dgs_cons (dg_name (i := 5) sc_read_number.nd rfl (by first | exact .inl rfl | exact .inr rfl)) dgs_nil)))))
  (dss_cons (ds_if (dt_bool (dw_or (dt_not (dt_val (de_callV o_is_figures (hr.mono (by omega)) (by rfl) (dan_cons (dv 3) (dan_cons (dv 1) dan_nil))))) (dw_or1 (dt_bool (dw_and (dt_eqS (de_ix (dv 3) de_int) de_str) (dw_and1 (dt_neS (dv 3) de_str)))))))
    (dss_one (ds_ret de_non))
    dss_nil)
  (dss_cons (ds_if (dt_eqS (dv 4) de_str)
    (dss_one (ds_ret (de_int1 (by rfl) (T.b_int) (de_addS (dv 3) (de_repstr de_str (dv 2))))))
    dss_nil)
  (dss_cons (ds_if (dt_not (dt_val (de_callV o_is_figures (hr.mono (by omega)) (by rfl) (dan_cons (dv 5) (dan_cons (dv 2) dan_nil)))))
    (dss_one (ds_ret de_non))
    dss_nil)
  (dss_one (ds_ret (de_int1 (by rfl) (T.b_int) (de_addS (de_addS (dv 3) (dv 5)) (de_repstr de_str (de_sub (dv 2) (de_len (x := "") (by rfl) (T.b_len) (dv 5))))))))))))) (fun xs ms Ks h hl => ?_)
  unfold sp_read_number at h
  split at h
  · rename_i x y z
    obtain ⟨l, most, places, rfl, rfl, rfl, hl, hm, hp, hk⟩ := h
    refine ⟨rfl, by rw [SX.S_len, sizeLine_eq]; omega, ?_⟩
    rw [show Txt.partition (SX.S l) (Str.ofString ".") = _ from part_S 46 l]
    obtain ⟨l1, l2⟩ := parP_len 46 l
    unfold readN at hk
    generalize (parP 46 l).1 = p at *
    generalize (parP 46 l).2.1 = m at *
    generalize (parP 46 l).2.2 = q at *
    refine ⟨rfl, ?_⟩
    unfold readNp at hk
    try dsimp only [DL.S.sE, DL.S.sM, DL.S.aM, DL.S.cM, DL.st, DL.gt, DL.sm, DL.gm, DL.putM, DL.pick, DL.muks, DL.nthN, DL.bkE, DL.st0, DL.nos, List.cons_append, List.nil_append, List.append_nil, List.drop_succ_cons, List.drop_nil, List.drop_zero, List.drop, DL.a1, DL.a2, DL.a3, DL.cMin3, DL.aNil, DL.aCons, DL.dVar, DL.dC, DL.iI, DL.i1, DL.isB, DL.daI, DL.onE, DL.gN, List.length_cons, List.length_nil, Nat.reduceAdd, Nat.zero_add]
    refine ⟨List.nodup_nil, rfl, p, most, rfl, rfl, by omega, rfl, ?_⟩
    cases f1 : fig p most with
    | false =>
      rw [f1, if_neg (fun z => Bool.noConfusion z.1)] at hk
      refine tt (tt ?_)
      exact hk
    | true =>
    obtain ⟨p0, p1, pd⟩ := fig_dg f1
    refine ff ?_
    obtain ⟨c, r, rfl⟩ : ∃ c r, p = c :: r := by cases p with | nil => exact absurd rfl p0 | cons c r => exact ⟨c, r, rfl⟩
    refine ⟨c, at0 c r, by rw [SX.S_len, sizeLine_eq]; omega, ?_⟩
    have e0 : Str.ofString "0" = SX.S [48] := by decide
    have e1 : Str.ofString "" = SX.S [] := by decide
    have e48 : SX.S [c] = Str.ofString "0" ↔ c = 48 := by
      rw [e0]
      exact ⟨fun z => by simpa using SX.S_inj z, fun z => by rw [z]⟩
    have e49 : SX.S (c :: r) = Str.ofString "0" ↔ c :: r = [48] := by
      rw [e0]
      exact ⟨fun z => SX.S_inj z, fun z => by rw [z]⟩
    by_cases cc : c = 48 ∧ c :: r ≠ [48]
    · rw [if_neg (fun z => z.2 ⟨by rw [cc.1]; rfl, cc.2⟩)] at hk
      refine bT (p := SX.S [c] = Str.ofString "0") (e48.mpr cc.1) ?_
      refine nT (p := SX.S (c :: r) = Str.ofString "0") (fun z => cc.2 (e49.mp z)) ?_
      exact hk
    have pc : fig (c :: r) most = true ∧ ¬ ((c :: r).head? = some 48 ∧ c :: r ≠ [48]) := ⟨f1, fun z => cc ⟨Option.some.inj z.1, z.2⟩⟩
    rw [if_pos pc] at hk
    refine byRest (R := ?RR) (fun rest => ?wa) ?wb
    case wa =>
      refine bS (p := SX.S [c] = Str.ofString "0") (fun q1 => ?_) fun q1 => ?_
      · refine nF (p := SX.S (c :: r) = Str.ofString "0") (Classical.byContradiction fun z => cc ⟨e48.mp q1, fun y => z (e49.mpr y)⟩) ?_
        dsimp only [sNil]
        try dsimp only [DL.S.sE, DL.S.sM, DL.S.aM, DL.S.cM, DL.st, DL.gt, DL.sm, DL.gm, DL.putM, DL.pick, DL.muks, DL.nthN, DL.bkE, DL.st0, DL.nos, List.cons_append, List.nil_append, List.append_nil, List.drop_succ_cons, List.drop_nil, List.drop_zero, List.drop, DL.a1, DL.a2, DL.a3, DL.cMin3, DL.aNil, DL.aCons, DL.dVar, DL.dC, DL.iI, DL.i1, DL.isB, DL.daI, DL.onE, DL.gN, List.length_cons, List.length_nil, Nat.reduceAdd, Nat.zero_add]
        exact rest
      · refine ff ?_
        dsimp only [sNil]
        try dsimp only [DL.S.sE, DL.S.sM, DL.S.aM, DL.S.cM, DL.st, DL.gt, DL.sm, DL.gm, DL.putM, DL.pick, DL.muks, DL.nthN, DL.bkE, DL.st0, DL.nos, List.cons_append, List.nil_append, List.append_nil, List.drop_succ_cons, List.drop_nil, List.drop_zero, List.drop, DL.a1, DL.a2, DL.a3, DL.cMin3, DL.aNil, DL.aCons, DL.dVar, DL.dC, DL.iI, DL.i1, DL.isB, DL.daI, DL.onE, DL.gN, List.length_cons, List.length_nil, Nat.reduceAdd, Nat.zero_add]
        exact rest
    case wb =>
      try dsimp only [DL.S.sE, DL.S.sM, DL.S.aM, DL.S.cM, DL.st, DL.gt, DL.sm, DL.gm, DL.putM, DL.pick, DL.muks, DL.nthN, DL.bkE, DL.st0, DL.nos, List.cons_append, List.nil_append, List.append_nil, List.drop_succ_cons, List.drop_nil, List.drop_zero, List.drop, DL.a1, DL.a2, DL.a3, DL.cMin3, DL.aNil, DL.aCons, DL.dVar, DL.dC, DL.iI, DL.i1, DL.isB, DL.daI, DL.onE, DL.gN, List.length_cons, List.length_nil, Nat.reduceAdd, Nat.zero_add]
      have lp : (SX.S (c :: r)).length = r.length + 1 := by rw [SX.S_len]; rfl
      refine bS (p := SX.S m = Str.ofString "") (fun q1 => ?_) fun q1 => ?_
      · rw [e1] at q1
        rw [if_pos (SX.S_inj q1)] at hk
        refine ⟨48, e0, by omega, by omega, ?_⟩
        refine ⟨by rw [SX.S_len, SX.S_len, List.length_replicate, sizeLine_eq]; omega, ?_⟩
        rw [SX.S_cat, Int.toNat_natCast]
        refine ⟨_, int_of (AllDg.app pd (all_rep _)) (by simp) (by rw [List.length_append, List.length_replicate]; omega), by rw [SX.S_len, List.length_append, List.length_replicate]; omega, ?_⟩
        exact hk
      · rw [e1] at q1
        rw [if_neg (fun e => q1 (by rw [e]))] at hk
        refine ⟨List.nodup_nil, rfl, q, places, rfl, rfl, by omega, rfl, ?_⟩
        cases f2 : fig q places with
        | false =>
          rw [f2, if_neg Bool.noConfusion] at hk
          exact tt hk
        | true =>
          obtain ⟨w0, w1, wd⟩ := fig_dg f2
          rw [f2, if_pos rfl] at hk
          refine ff ?_
          refine ⟨by rw [SX.S_len, SX.S_len, sizeLine_eq]; omega, ?_⟩
          refine ⟨by rw [SX.S_len, sizeLine_eq]; omega, ?_⟩
          refine ⟨48, e0, by rw [SX.S_len]; omega, by rw [SX.S_len]; omega, ?_⟩
          have el : (((places : Nat) : Int) - ((SX.S q).length : Int)).toNat = places - q.length := by rw [SX.S_len]; omega
          rw [SX.S_cat, el]
          refine ⟨by rw [SX.S_len, SX.S_len, List.length_append, List.length_replicate, sizeLine_eq]; omega, ?_⟩
          rw [SX.S_cat]
          refine ⟨_, int_of (AllDg.app (AllDg.app pd wd) (all_rep _)) (by simp) (by rw [List.length_append, List.length_append, List.length_replicate]; omega), by rw [SX.S_len, List.length_append, List.length_append, List.length_replicate]; omega, ?_⟩
          exact hk
  · exact h.elim
def sp_written : SpD := fun xs ms Ks => match xs, ms with
  | [.mu 0, .da x, .da y], [.rnd n] => ∃ most places : Nat, x = .int (most : Int) ∧ y = .int (places : Int) ∧ 1 ≤ most ∧ most ≤ 20 ∧ places ≤ 20 ∧ 100 ≤ n ∧
      ∀ (m : Nat) (A B : List Nat), n ≤ m + 100 → A ≠ [] → A.length ≤ most → NumText.AllDigits A → ¬ (A.head? = some 48 ∧ A ≠ [48]) → NumText.AllDigits B → B.length ≤ places → Ks [.rnd m] (.da (.tuple [tS (ptL A B), .int ((numV (A ++ B ++ List.replicate (places - B.length) 48) : Nat) : Int)]))
  | _, _ => False
theorem ok_written (T : Tx K mg) (o_take : Ok P w K mg base 1 "_law_take" s_take ["_law_state", "_law_many"] 2 spTake) : Ok P w K mg base 2 "_law_written" s_written ["_law_state", "_law_most", "_law_places"] 3 sp_written := by
  refine ok_data (n0 := 5) T.d_written sc_written _ (fun f cdv A outer s H E hr =>
  (dss_cons (ds_set (i := 3) sc_written.nd rfl (by first | exact .inl rfl | exact .inr rfl) (de_ix (de_lst (dan_cons de_int (dan_cons (dv 1) (dan_cons (de_add de_int (de_callV o_take (hr.mono (by omega)) (by rfl) (dan_cons (dv 0) (dan_cons (dv 1) dan_nil)))) dan_nil)))) (de_callV o_take (hr.mono (by omega)) (by rfl) (dan_cons (dv 0) (dan_cons de_int dan_nil)))))
  (dss_cons (ds_set (i := 4) sc_written.nd rfl (by first | exact .inl rfl | exact .inr rfl) (de_strI (by rfl) (T.b_str) (de_callV o_take (hr.mono (by omega)) (by rfl) (dan_cons (dv 0) (dan_cons de_int dan_nil)))))
  (dss_cut [1, 3, 5, 6, 7] 1 (ds_if (dt_gt (dv 3) de_int)
    (dss_one (ds_set (i := 4) sc_written.nd rfl (by first | exact .inl rfl | exact .inr rfl) (de_addS (de_strI (by rfl) (T.b_str) (de_add de_int (de_callV o_take (hr.mono (by omega)) (by rfl) (dan_cons (dv 0) (dan_cons de_int dan_nil))))) (de_join de_str (de_lc [("_law_k", 7)] rfl sc_written.nd (di_range1 (by rfl) (T.b_range) (da_cons (de_sub (dv 3) de_int) da_nil)) (BlkOk.mk (N := ["_law_state", "_law_most", "_law_places", "_law_many", "_law_ahead", "_law_behind", "_law_number", "_law_k"]) (sc := defScope s_written) rfl (by decide +kernel) (by decide +kernel) (by decide +kernel) (by decide +kernel)) (by decide) (fun _ _ _ _ _ => (dg_name (i := 7) sc_written.nd rfl (by first | exact .inl rfl | exact .inr rfl))) (fun _ _ _ _ _ => dts_nil) (fun _ _ _ _ _ => (de_strI (by rfl) (T.b_str) (de_callV o_take (hr.mono (by omega)) (by rfl) (dan_cons (dv 0) (dan_cons de_int dan_nil))))))))))
    dss_nil)
  (dss_cons (ds_set (i := 5) sc_written.nd rfl (by first | exact .inl rfl | exact .inr rfl) (de_join de_str (de_lc [("_law_k", 7)] rfl sc_written.nd (di_range1 (by rfl) (T.b_range) (da_cons (de_callV o_take (hr.mono (by omega)) (by rfl) (dan_cons (dv 0) (dan_cons (de_add (dv 2) de_int) dan_nil))) da_nil)) (BlkOk.mk (N := ["_law_state", "_law_most", "_law_places", "_law_many", "_law_ahead", "_law_behind", "_law_number", "_law_k"]) (sc := defScope s_written) rfl (by decide +kernel) (by decide +kernel) (by decide +kernel) (by decide +kernel)) (by decide) (fun _ _ _ _ _ => (dg_name (i := 7) sc_written.nd rfl (by first | exact .inl rfl | exact .inr rfl))) (fun _ _ _ _ _ => dts_nil) (fun _ _ _ _ _ => (de_strI (by rfl) (T.b_str) (de_ix (de_lst (dan_cons de_int (dan_cons (de_callV o_take (hr.mono (by omega)) (by rfl) (dan_cons (dv 0) (dan_cons de_int dan_nil))) dan_nil))) (de_callV o_take (hr.mono (by omega)) (by rfl) (dan_cons (dv 0) (dan_cons de_int dan_nil)))))))))
  (dss_cons (ds_set (i := 6) sc_written.nd rfl (by first | exact .inl rfl | exact .inr rfl) (de_int1 (by rfl) (T.b_int) (de_addS (de_addS (dv 4) (dv 5)) (de_repstr de_str (de_sub (dv 2) (de_len (x := "") (by rfl) (T.b_len) (dv 5)))))))
  (dss_one (ds_ret (de_tup (dan_cons (de_addS (de_addS (dv 4) (de_repstr de_str (de_int1 (by rfl) (T.b_int) (de_neS (dv 5) de_str)))) (dv 5)) (dan_cons (dv 6) dan_nil))))))))))) (fun xs ms Ks h hl => ?_)
  unfold sp_written at h
  split at h
  · rename_i x y n
    obtain ⟨most, places, rfl, rfl, m1, m2, p1, hn, hk⟩ := h
    have e0 : Str.ofString "0" = SX.S [48] := by decide
    have e1 : Str.ofString "" = SX.S [] := by decide
    have e2 : Str.ofString "." = SX.S [46] := by decide
    refine ⟨nd1, rfl, by omega, divA 30 (by omega) (by omega), fun u u0 u1 => ⟨rfl, ?_⟩⟩
    refine ⟨nd1, rfl, by omega, divA 3 (by decide) (by decide), fun k k0 k1 => ⟨rfl, ?_⟩⟩
    obtain ⟨many, hm, b0, b1⟩ : ∃ b : Int, L2.atI [PyData.int 1, .int (most : Int), .int (1 + u)] k = some (.int b) ∧ 1 ≤ b ∧ b ≤ most := by
      obtain rfl | rfl | rfl : k = 0 ∨ k = 1 ∨ k = 2 := by omega
      · exact ⟨_, rfl, by decide, by omega⟩
      · exact ⟨_, rfl, by omega, by omega⟩
      · exact ⟨_, rfl, by omega, by omega⟩
    refine ⟨_, hm, ?_⟩
    try dsimp only [DL.S.sE, DL.S.sM, DL.S.aM, DL.S.cM, DL.st, DL.gt, DL.sm, DL.gm, DL.putM, DL.pick, DL.muks, DL.nthN, DL.bkE, DL.st0, DL.nos, List.cons_append, List.nil_append, List.append_nil, List.drop_succ_cons, List.drop_nil, List.drop_zero, List.drop, DL.a1, DL.a2, DL.a3, DL.cMin3, DL.aNil, DL.aCons, DL.dVar, DL.dC, DL.iI, DL.i1, DL.isB, DL.daI, DL.onE, DL.gN, List.length_cons, List.length_nil, Nat.reduceAdd, Nat.zero_add]
    refine ⟨nd1, rfl, by omega, divA 10 (by decide) (by decide), fun d d0 d1 => ⟨rfl, ?_⟩⟩
    refine ⟨dig_log d0 d1, ?_⟩
    rw [dig_S d0 d1]
    try dsimp only [DL.S.sE, DL.S.sM, DL.S.aM, DL.S.cM, DL.st, DL.gt, DL.sm, DL.gm, DL.putM, DL.pick, DL.muks, DL.nthN, DL.bkE, DL.st0, DL.nos, List.cons_append, List.nil_append, List.append_nil, List.drop_succ_cons, List.drop_nil, List.drop_zero, List.drop, DL.a1, DL.a2, DL.a3, DL.cMin3, DL.aNil, DL.aCons, DL.dVar, DL.dC, DL.iI, DL.i1, DL.isB, DL.daI, DL.onE, DL.gN, List.length_cons, List.length_nil, Nat.reduceAdd, Nat.zero_add]
    refine ⟨fun s => ∃ (m : Nat) (A : List Nat), s = ⟨[.mu 0, .no, .da (.int (places : Int)), .no, .da (tS A), .no, .no, .no], [.rnd m], 1⟩ ∧ n ≤ m + 30 ∧ A ≠ [] ∧ A.length ≤ most ∧ NumText.AllDigits A ∧ ¬ (A.head? = some 48 ∧ A ≠ [48]), ?_, ?_⟩
    · refine bS (p := many > 1) (fun c => ?_) fun c => ?_
      · refine ⟨nd1, rfl, by omega, divA 9 (by decide) (by decide), fun f f0 f1 => ⟨rfl, ?_⟩⟩
        refine ⟨dig_log (show 0 ≤ 1 + f by omega) (by omega), ?_⟩
        rw [dig_S (show 0 ≤ 1 + f by omega) (by omega)]
        refine ⟨by omega, by omega, fun (i : Nat) (mo : List MO) (acc : List D) => ∃ (m : Nat) (ds : List Nat), mo = [.rnd m] ∧ acc = (digS ds).map .str ∧ n ≤ m + 4 + i ∧ ds.length = i ∧ ∀ d ∈ ds, d < 10, ⟨n - 1 - 1 - 1 - 1, [], rfl, rfl, by omega, rfl, fun _ h => nomatch h⟩, ?_, ?_⟩
        · rintro i e mo acc hi ⟨m, ds, rfl, rfl, hm, hl, hd⟩ _
          have hi2 := (List.getElem?_eq_some_iff.mp hi).1
          rw [rng_length] at hi2
          refine tt ⟨nd1, rfl, by omega, divA 10 (by decide) (by decide), fun v v0 v1 => ⟨rfl, ?_⟩⟩
          refine ⟨dig_log v0 v1, ?_⟩
          rw [dig_S v0 v1]
          refine ⟨by rw [List.length_map]; unfold digS; rw [List.length_map, sizeLine_eq]; omega, rfl, m - 1, ds ++ [v.toNat], rfl, dig_snoc _ _, by omega, by rw [List.length_append, hl]; rfl, fun z hz => ?_⟩
          rcases List.mem_append.mp hz with w | w
          · exact hd z w
          · rw [List.mem_singleton.mp w]; omega
        · rintro mo acc ⟨m, ds, rfl, rfl, hm, hl, hd⟩ _
          rw [rng_length] at hm hl
          refine ⟨digS ds, rfl, by rw [digS_sum, e1, SX.S_len]; show _ + _ * 0 ≤ _; omega, ?_⟩
          rw [join_dig]
          refine ⟨by rw [SX.S_len, SX.S_len, List.length_map, sizeLine_eq]; show 1 + _ ≤ _; omega, ?_⟩
          rw [SX.S_cat]
          refine ⟨Nat.le_refl 1, m, _, rfl, by omega, by simp, by rw [List.length_append, List.length_map]; show 1 + _ ≤ _; omega, AllDg.app (fun c hc => by rw [List.mem_singleton.mp hc]; omega) (dig_all hd), fun z => ?_⟩
          have : 48 + (1 + f).toNat = 48 := Option.some.inj z.1
          omega
      · exact ⟨Nat.le_refl 1, n - 1 - 1 - 1, [48 + d.toNat], rfl, by omega, by simp, m1, fun c hc => by rw [List.mem_singleton.mp hc]; omega, fun z => z.2 (by have : 48 + d.toNat = 48 := Option.some.inj z.1; rw [this])⟩
    rintro s ⟨m3, A, rfl, hm3, A0, Al, Ad, Ah⟩
    refine ⟨nd1, rfl, by omega, divA 30 (by omega) (by omega), fun g g0 g1 => ⟨rfl, ?_⟩⟩
    refine ⟨by omega, by omega, fun (i : Nat) (mo : List MO) (acc : List D) => ∃ (m : Nat) (ds : List Nat), mo = [.rnd m] ∧ acc = (digS ds).map .str ∧ m3 ≤ m + 1 + 2 * i ∧ ds.length = i ∧ ∀ d ∈ ds, d < 10, ⟨m3 - 1, [], rfl, rfl, by omega, rfl, fun _ h => nomatch h⟩, ?_, ?_⟩
    · rintro i e mo acc hi ⟨m, ds, rfl, rfl, hm, hl, hd⟩ _
      have hi2 := (List.getElem?_eq_some_iff.mp hi).1
      rw [rng_length] at hi2
      refine tt ⟨nd1, rfl, by omega, divA 10 (by decide) (by decide), fun v v0 v1 => ⟨rfl, ?_⟩⟩
      refine ⟨nd1, rfl, by omega, divA 2 (by decide) (by decide), fun w w0 w1 => ⟨rfl, ?_⟩⟩
      obtain ⟨t, ht, t0, t1⟩ : ∃ b : Int, L2.atI [PyData.int 0, .int v] w = some (.int b) ∧ 0 ≤ b ∧ b < 10 := by
        obtain rfl | rfl : w = 0 ∨ w = 1 := by omega
        · exact ⟨_, rfl, by decide, by decide⟩
        · exact ⟨_, rfl, v0, v1⟩
      refine ⟨_, ht, ?_⟩
      refine ⟨dig_log t0 t1, ?_⟩
      rw [dig_S t0 t1]
      refine ⟨by rw [List.length_map]; unfold digS; rw [List.length_map, sizeLine_eq]; omega, rfl, m - 1 - 1, ds ++ [t.toNat], rfl, dig_snoc _ _, by omega, by rw [List.length_append, hl]; rfl, fun z hz => ?_⟩
      rcases List.mem_append.mp hz with w | w
      · exact hd z w
      · rw [List.mem_singleton.mp w]; omega
    rintro mo acc ⟨m, ds, rfl, rfl, hm, hl, hd⟩ _
    rw [rng_length] at hm hl
    refine ⟨digS ds, rfl, by rw [digS_sum, e1, SX.S_len]; show _ + _ * 0 ≤ _; omega, ?_⟩
    rw [join_dig]
    have Bl : (ds.map (48 + ·)).length ≤ places := by rw [List.length_map]; omega
    have Bd := dig_all hd
    have hk := hk m A (ds.map (48 + ·)) (by omega) A0 Al Ad Ah Bd Bl
    generalize ds.map (48 + ·) = B at *
    clear hl hd hm
    try dsimp only [DL.S.sE, DL.S.sM, DL.S.aM, DL.S.cM, DL.st, DL.gt, DL.sm, DL.gm, DL.putM, DL.pick, DL.muks, DL.nthN, DL.bkE, DL.st0, DL.nos, List.cons_append, List.nil_append, List.append_nil, List.drop_succ_cons, List.drop_nil, List.drop_zero, List.drop, DL.a1, DL.a2, DL.a3, DL.cMin3, DL.aNil, DL.aCons, DL.dVar, DL.dC, DL.iI, DL.i1, DL.isB, DL.daI, DL.onE, DL.gN, List.length_cons, List.length_nil, Nat.reduceAdd, Nat.zero_add]
    have sA : (SX.S A).length ≤ 20 := by rw [SX.S_len]; omega
    have sB : (SX.S B).length ≤ 20 := by rw [SX.S_len]; omega
    refine ⟨by rw [sizeLine_eq]; omega, by rw [sizeLine_eq]; omega, 48, e0, by omega, by omega, ?_⟩
    have el : ((places : Int) - ((SX.S B).length : Int)).toNat = places - B.length := by rw [SX.S_len]; omega
    rw [SX.S_cat, el]
    refine ⟨by rw [SX.S_len, SX.S_len, List.length_append, List.length_replicate, sizeLine_eq]; omega, ?_⟩
    rw [SX.S_cat]
    refine ⟨_, int_of (AllDg.app (AllDg.app Ad Bd) (all_rep _)) (by simp [A0]) (by rw [List.length_append, List.length_append, List.length_replicate]; omega), by rw [SX.S_len, List.length_append, List.length_append, List.length_replicate]; omega, ?_⟩
    try dsimp only [DL.S.sE, DL.S.sM, DL.S.aM, DL.S.cM, DL.st, DL.gt, DL.sm, DL.gm, DL.putM, DL.pick, DL.muks, DL.nthN, DL.bkE, DL.st0, DL.nos, List.cons_append, List.nil_append, List.append_nil, List.drop_succ_cons, List.drop_nil, List.drop_zero, List.drop, DL.a1, DL.a2, DL.a3, DL.cMin3, DL.aNil, DL.aCons, DL.dVar, DL.dC, DL.iI, DL.i1, DL.isB, DL.daI, DL.onE, DL.gN, List.length_cons, List.length_nil, Nat.reduceAdd, Nat.zero_add]
    generalize numV (A ++ B ++ List.replicate (places - B.length) 48) = N at *
    unfold ptL at hk
    by_cases z : B = []
    · subst z
      rw [if_pos rfl, List.append_nil] at hk
      refine ⟨46, e2, by decide, by decide, ?_⟩
      refine ⟨by rw [SX.S_len, SX.S_len, List.length_replicate, sizeLine_eq]; show _ + (if xr true (decide (SX.S [] = Str.ofString "")) = true then (1 : Int) else 0).toNat ≤ _; rw [show xr true (decide (SX.S [] = Str.ofString "")) = false by decide]; show _ + 0 ≤ _; omega, ?_⟩
      rw [SX.S_cat]
      have e46 : List.replicate (if xr true (decide (SX.S [] = Str.ofString "")) = true then (1 : Int) else 0).toNat 46 = ([] : List Nat) := by
        rw [show xr true (decide (SX.S [] = Str.ofString "")) = false by decide]; rfl
      rw [e46, List.append_nil]
      refine ⟨by rw [SX.S_len, SX.S_len, sizeLine_eq]; show _ + 0 ≤ _; omega, ?_⟩
      rw [SX.S_cat, List.append_nil]
      exact hk
    · rw [if_neg z] at hk
      have ez : xr true (decide (SX.S B = Str.ofString "")) = true := by
        rw [decide_eq_false (fun q => z (SX.S_inj (q.trans e1)))]; rfl
      refine ⟨46, e2, ?_⟩
      show -(2 ^ 63) ≤ (if xr true (decide (SX.S B = Str.ofString "")) = true then (1 : Int) else 0) ∧ _
      rw [if_pos ez]
      refine ⟨by decide, by decide, ?_⟩
      show (SX.S A).length + (SX.S [46]).length ≤ sizeLine ∧ _
      refine ⟨by rw [SX.S_len, SX.S_len, sizeLine_eq]; show _ + 1 ≤ _; omega, ?_⟩
      rw [SX.S_cat]
      refine ⟨by rw [SX.S_len, SX.S_len, List.length_append, sizeLine_eq]; show _ + 1 + _ ≤ _; omega, ?_⟩
      rw [SX.S_cat, List.append_assoc]
      exact hk
  · exact h.elim
def sp_measure_of : SpD := fun xs ms Ks => ∃ l : List Nat, xs = [.da (tS l)] ∧ ms = [] ∧ l.length ≤ 1000 ∧ Ks [] (.da (oM (readM l)))
theorem ok_measure_of (T : Tx K mg) (o_parts : Ok P w K mg base 1 "_law_parts" s_parts ["_law_text", "_law_most", "_law_places"] 3 sp_parts) : Ok P w K mg base 2 "_law_measure_of" s_measure_of ["_law_text"] 1 sp_measure_of := by
  refine ok_data (n0 := 3) T.d_measure_of sc_measure_of _ (fun f cdv A outer s H E hr =>
  (dss_cons (ds_set (i := 1) sc_measure_of.nd rfl (by first | exact .inl rfl | exact .inr rfl) (de_split (dv 0) de_str))
  (dss_cons (ds_if (dt_neS (de_len (x := "") (by rfl) (T.b_len) (dv 1)) de_int)
    (dss_one (ds_ret de_non))
    dss_nil)
  (dss_cons (ds_par (i := 2) (j := 3) rfl sc_measure_of.nd rfl rfl (by decide) rfl rfl (da_cons (de_callV o_parts (hr.mono (by omega)) (by rfl) (dan_cons (de_ix (dv 1) de_int) (dan_cons de_int (dan_cons de_int dan_nil)))) (da_cons (de_callV o_parts (hr.mono (by omega)) (by rfl) (dan_cons (de_ix (dv 1) de_int) (dan_cons de_int (dan_cons de_int dan_nil)))) da_nil)) rfl)
  (dss_one (ds_ret (de_if (dt_bool (dw_or (dt_isN (dv 2) de_non) (dw_or (dt_isN (dv 3) de_non) (dw_or1 (dt_gt (dv 3) de_int))))) de_non (de_tup (dan_cons (dv 2) (dan_cons (de_mul (dv 2) (dv 3)) dan_nil)))))))))) (fun xs ms Ks h hl => ?_)
  unfold sp_measure_of at h
  obtain ⟨l, rfl, rfl, hl, hk⟩ := h
  refine seqU fun u hu => ?_
  refine ⟨rfl, by rw [SX.S_len, sizeLine_eq]; omega, ?_⟩
  rw [show Txt.split (SX.S l) (Str.ofString "@") = _ from split_one 64 l (by decide)]
  dsimp only [st0]
  try dsimp only [DL.S.sE, DL.S.sM, DL.S.aM, DL.S.cM, DL.st, DL.gt, DL.sm, DL.gm, DL.putM, DL.pick, DL.muks, DL.nthN, DL.bkE, DL.st0, DL.nos, List.cons_append, List.nil_append, List.append_nil, List.drop_succ_cons, List.drop_nil, List.drop_zero, List.drop, DL.a1, DL.a2, DL.a3, DL.cMin3, DL.aNil, DL.aCons, DL.dVar, DL.dC, DL.iI, DL.i1, DL.isB, DL.daI, DL.onE, DL.gN, List.length_cons, List.length_nil, Nat.reduceAdd, Nat.zero_add]
  rw [hu]; clear hu u
  refine seqU fun u hu => ?_
  have lenD : ∀ P : List (List Nat), ((((P.map SX.S).map PyData.str).length : Nat) : Int) = P.length := fun P => by rw [List.length_map, List.length_map]
  rcases spl_cases 64 l with ⟨h1, h2⟩ | ⟨p, q, e, hp, hq, h2⟩ | ⟨p, q, e, hp, hq, h2, _⟩
  · rw [h2]
    refine nT (p := (((([l] : List (List Nat)).map SX.S).map PyData.str).length : Int) = 2) (by rw [lenD]; exact fun z => absurd z (by simp)) ?_
    have e0 : readM l = none := by
      unfold readM
      rw [parP_none h1]
      rfl
    rw [e0] at hk
    exact hk
  · rw [h2]
    refine nF (p := (((([p, q] : List (List Nat)).map SX.S).map PyData.str).length : Int) = 2) (by rw [lenD]; rfl) ?_
    dsimp only [sNil]
    rw [hu]; clear hu u
    have lp : p.length ≤ 1000 ∧ q.length ≤ 1000 := by
      rw [e, List.length_append, List.length_cons] at hl
      omega
    have e0 : readM l = match readN p 9 3, readN q 3 2 with
        | some b, some s => if s > 10000 then none else some (b, b * s)
        | _, _ => none := by
      unfold readM
      rw [e, parP_app hp]
      rfl
    rw [e0] at hk
    refine seqU fun u hu => ?_
    refine ⟨_, atH _ _, List.nodup_nil, rfl, p, 9, 3, rfl, rfl, lp.1, by decide, by decide, rfl, ?_⟩
    refine ⟨_, L2.atI_nat (j := 1) rfl, List.nodup_nil, rfl, q, 3, 2, rfl, rfl, lp.2, by decide, by decide, rfl, ?_⟩
    try dsimp only [DL.S.sE, DL.S.sM, DL.S.aM, DL.S.cM, DL.st, DL.gt, DL.sm, DL.gm, DL.putM, DL.pick, DL.muks, DL.nthN, DL.bkE, DL.st0, DL.nos, List.cons_append, List.nil_append, List.append_nil, List.drop_succ_cons, List.drop_nil, List.drop_zero, List.drop, DL.a1, DL.a2, DL.a3, DL.cMin3, DL.aNil, DL.aCons, DL.dVar, DL.dC, DL.iI, DL.i1, DL.isB, DL.daI, DL.onE, DL.gN, List.length_cons, List.length_nil, Nat.reduceAdd, Nat.zero_add]
    rw [hu]; clear hu u
    cases hb : readN p 9 3 with
    | none =>
      rw [hb] at hk
      exact tt (tt hk)
    | some b =>
      cases hs : readN q 3 2 with
      | none =>
        rw [hb, hs] at hk
        exact ff (tt (tt hk))
      | some w =>
        rw [hb, hs] at hk
        dsimp only at hk
        refine ff (ff ?_)
        refine bS (p := w > 10000) (fun q2 => ?_) fun q2 => ?_
        · rw [if_pos q2] at hk
          exact hk
        · rw [if_neg q2] at hk
          have hb0 : 0 ≤ b ∧ b < 10 ^ 13 := ⟨read_some hb, Int.lt_trans (readN_lt hb) (by decide)⟩
          have hw0 := read_some hs
          refine ⟨mulA 60 20 (by omega) (by omega), ?_⟩
          exact onO_mk rfl hk
  · have e0 : readM l = none := by
      unfold readM
      rw [e, parP_app hp]
      dsimp only
      rw [readN_bad hq (by decide) (.inr (by decide)), if_neg (by simp)]
      cases readN p 9 3 <;> rfl
    rw [e0] at hk
    refine nT (p := ((((TL.spl [64] 0 [] l).map SX.S).map PyData.str).length : Int) = 2) (by rw [lenD]; omega) ?_
    exact hk
def sp_bent : SpD := fun xs ms Ks => ∃ (n : Nat) (l : List Nat), xs = [.mu 0, .da (tS l)] ∧ ms = [.rnd n] ∧ l.length ≤ 1000 ∧ 100 ≤ n ∧ ∀ (m : Nat) (z : Str), n ≤ m + 10 → z.length ≤ l.length + 1 → Ks [.rnd m] (.da (.str z))
theorem ok_bent (T : Tx K mg) (o_take : Ok P w K mg base 1 "_law_take" s_take ["_law_state", "_law_many"] 2 spTake) : Ok P w K mg base 2 "_law_bent" s_bent ["_law_state", "_law_text"] 2 sp_bent := by
  refine ok_data (n0 := 5) T.d_bent sc_bent _ (fun f cdv A outer s H E hr =>
  (dss_cons (ds_set (i := 2) sc_bent.nd rfl (by first | exact .inl rfl | exact .inr rfl) de_str)
  (dss_cons (ds_set (i := 3) sc_bent.nd rfl (by first | exact .inl rfl | exact .inr rfl) (de_ix (de_lst (dan_cons de_str (dan_cons (dv 2) dan_nil))) (de_callV o_take (hr.mono (by omega)) (by rfl) (dan_cons (dv 0) (dan_cons de_int dan_nil)))))
  (dss_cons (ds_par3 (i := 4) (j := 5) (l := 6) rfl sc_bent.nd rfl rfl rfl (by decide) (by decide) (by decide) rfl rfl rfl (da_cons (de_callV o_take (hr.mono (by omega)) (by rfl) (dan_cons (dv 0) (dan_cons de_int dan_nil))) (da_cons (de_callV o_take (hr.mono (by omega)) (by rfl) (dan_cons (dv 0) (dan_cons (de_add (de_len (x := "") (by rfl) (T.b_len) (dv 1)) de_int) dan_nil))) (da_cons (de_ix (dv 3) (de_callV o_take (hr.mono (by omega)) (by rfl) (dan_cons (dv 0) (dan_cons (de_len (x := "") (by rfl) (T.b_len) (dv 3)) dan_nil)))) da_nil))) rfl)
  (dss_cons (ds_if (dt_eqS (dv 4) de_int)
    (dss_one (ds_ret (de_addS (de_addS (de_slS (dv 1) do_none (do_some (dv 5))) (dv 6)) (de_slS (dv 1) (do_some (dv 5)) do_none))))
    dss_nil)
  (dss_cons (ds_if (dt_eqS (dv 4) de_int)
    (dss_one (ds_ret (de_addS (de_slS (dv 1) do_none (do_some (dv 5))) (de_slS (dv 1) (do_some (de_add (dv 5) de_int)) do_none))))
    dss_nil)
  (dss_cons (ds_if (dt_eqS (dv 4) de_int)
    (dss_one (ds_ret (de_addS (de_addS (de_slS (dv 1) do_none (do_some (dv 5))) (dv 6)) (de_slS (dv 1) (do_some (de_add (dv 5) de_int)) do_none))))
    dss_nil)
  (dss_cons (ds_if (dt_eqS (dv 4) de_int)
    (dss_one (ds_ret (de_addS (de_addS (de_slS (dv 1) do_none (do_some (dv 5))) (de_slS (dv 1) (do_some (dv 5)) (do_some (de_add (dv 5) de_int)))) (de_slS (dv 1) (do_some (dv 5)) do_none))))
    dss_nil)
  (dss_one (ds_ret (de_addS (de_addS (de_slS (dv 1) do_none (do_some (dv 5))) (de_revT (de_slS (dv 1) (do_some (dv 5)) (do_some (de_add (dv 5) de_int))))) (de_slS (dv 1) (do_some (de_add (dv 5) de_int)) do_none)))))))))))) (fun xs ms Ks h hl => ?_)
  unfold sp_bent at h
  obtain ⟨n, l, rfl, rfl, hl, hn, hk⟩ := h
  refine seqU fun u hu => ?_
  obtain ⟨ev, hev⟩ : ∃ z, z = Str.ofString " !\"#$&'()*+,-./0123456789:;<=>?@ABCXYZ[]^_abcxyz{|}~\n" := ⟨_, rfl⟩
  have ev1 : 1 ≤ ev.length ∧ ev.length ≤ 1000 := by rw [hev]; decide +kernel
  show u ⟨[.mu 0, .da (tS l), .da (.str (Str.ofString " !\"#$&'()*+,-./0123456789:;<=>?@ABCXYZ[]^_abcxyz{|}~\n")), .no, .no, .no, .no], [.rnd n], 1⟩ (endD Ks)
  rw [← hev]
  clear hev
  rw [hu]; clear hu u
  refine seqU fun u hu => ?_
  refine onO_mk rfl ⟨nd1, rfl, by omega, divA 10 (by decide) (by decide), fun t t0 t1 => ⟨rfl, ?_⟩⟩
  try dsimp only [DL.S.sE, DL.S.sM, DL.S.aM, DL.S.cM, DL.st, DL.gt, DL.sm, DL.gm, DL.putM, DL.pick, DL.muks, DL.nthN, DL.bkE, DL.st0, DL.nos, List.cons_append, List.nil_append, List.append_nil, List.drop_succ_cons, List.drop_nil, List.drop_zero, List.drop, DL.a1, DL.a2, DL.a3, DL.cMin3, DL.aNil, DL.aCons, DL.dVar, DL.dC, DL.iI, DL.i1, DL.isB, DL.daI, DL.onE, DL.gN, List.length_cons, List.length_nil, Nat.reduceAdd, Nat.zero_add]
  obtain ⟨sg, hsg, eg⟩ := at_get (l := [Str.ofString "0123456789.@", ev]) (f := PyData.str) t0 t1
  have sg1 : 1 ≤ sg.length ∧ sg.length ≤ 1000 := by
    simp only [List.mem_cons, List.not_mem_nil, or_false] at hsg
    rcases hsg with rfl | rfl
    · decide +kernel
    · exact ev1
  refine ⟨_, eg, ?_⟩
  try dsimp only [DL.S.sE, DL.S.sM, DL.S.aM, DL.S.cM, DL.st, DL.gt, DL.sm, DL.gm, DL.putM, DL.pick, DL.muks, DL.nthN, DL.bkE, DL.st0, DL.nos, List.cons_append, List.nil_append, List.append_nil, List.drop_succ_cons, List.drop_nil, List.drop_zero, List.drop, DL.a1, DL.a2, DL.a3, DL.cMin3, DL.aNil, DL.aCons, DL.dVar, DL.dC, DL.iI, DL.i1, DL.isB, DL.daI, DL.onE, DL.gN, List.length_cons, List.length_nil, Nat.reduceAdd, Nat.zero_add]
  rw [hu]; clear hu u
  refine seqU fun u hu => ?_
  obtain ⟨z, hz⟩ : ∃ z, z = SX.S l := ⟨_, rfl⟩
  have lz : z.length = l.length := by rw [hz, SX.S_len]
  show sPar3 4 5 6 _ ⟨[.mu 0, .da (.str (SX.S l)), .da (.str ev), .da (.str sg), .no, .no, .no], [.rnd (n - 1)], 1⟩ _
  rw [← hz]
  rw [← lz] at hl hk
  clear hz lz
  refine ⟨nd1, rfl, by omega, divA 10 (by decide) (by decide), fun pk pk0 pk1 => ⟨rfl, ?_⟩⟩
  try dsimp only [DL.S.sE, DL.S.sM, DL.S.aM, DL.S.cM, DL.st, DL.gt, DL.sm, DL.gm, DL.putM, DL.pick, DL.muks, DL.nthN, DL.bkE, DL.st0, DL.nos, List.cons_append, List.nil_append, List.append_nil, List.drop_succ_cons, List.drop_nil, List.drop_zero, List.drop, DL.a1, DL.a2, DL.a3, DL.cMin3, DL.aNil, DL.aCons, DL.dVar, DL.dC, DL.iI, DL.i1, DL.isB, DL.daI, DL.onE, DL.gN, List.length_cons, List.length_nil, Nat.reduceAdd, Nat.zero_add]
  refine ⟨by rw [sizeLine_eq]; omega, ?_⟩
  refine ⟨nd1, rfl, by omega, divA 20 (by omega) (by omega), fun a a0 a1 => ⟨rfl, ?_⟩⟩
  try dsimp only [DL.S.sE, DL.S.sM, DL.S.aM, DL.S.cM, DL.st, DL.gt, DL.sm, DL.gm, DL.putM, DL.pick, DL.muks, DL.nthN, DL.bkE, DL.st0, DL.nos, List.cons_append, List.nil_append, List.append_nil, List.drop_succ_cons, List.drop_nil, List.drop_zero, List.drop, DL.a1, DL.a2, DL.a3, DL.cMin3, DL.aNil, DL.aCons, DL.dVar, DL.dC, DL.iI, DL.i1, DL.isB, DL.daI, DL.onE, DL.gN, List.length_cons, List.length_nil, Nat.reduceAdd, Nat.zero_add]
  refine ⟨by rw [sizeLine_eq]; omega, ?_⟩
  refine ⟨nd1, rfl, by omega, divA 20 (by omega) (by omega), fun w w0 w1 => ⟨rfl, ?_⟩⟩
  try dsimp only [DL.S.sE, DL.S.sM, DL.S.aM, DL.S.cM, DL.st, DL.gt, DL.sm, DL.gm, DL.putM, DL.pick, DL.muks, DL.nthN, DL.bkE, DL.st0, DL.nos, List.cons_append, List.nil_append, List.append_nil, List.drop_succ_cons, List.drop_nil, List.drop_zero, List.drop, DL.a1, DL.a2, DL.a3, DL.cMin3, DL.aNil, DL.aCons, DL.dVar, DL.dC, DL.iI, DL.i1, DL.isB, DL.daI, DL.onE, DL.gN, List.length_cons, List.length_nil, Nat.reduceAdd, Nat.zero_add]
  obtain ⟨c, hc⟩ := at_sign w0 w1
  refine ⟨c, hc, by rw [sizeLine_eq]; omega, ?_⟩
  obtain ⟨a, rfl⟩ : ∃ j : Nat, a = (j : Int) := ⟨a.toNat, by omega⟩
  obtain ⟨sn, hsn⟩ : ∃ x : Str, x = ⟨#[c]⟩ := ⟨_, rfl⟩
  have lsn : sn.length = 1 := by rw [hsn]; rfl
  have ha : a ≤ z.length := by omega
  show u ⟨[.mu 0, .da (.str z), .da (.str ev), .da (.str sg), .da (.int pk), .da (.int (a : Int)), .da (.str ⟨#[c]⟩)], [.rnd (n - 1 - 1 - 1 - 1)], 1⟩ (endD Ks)
  rw [← hsn]
  obtain ⟨m, hm⟩ : ∃ m, m = n - 1 - 1 - 1 - 1 := ⟨_, rfl⟩
  rw [← hm]
  have hk' : ∀ y : Str, y.length ≤ z.length + 1 → Ks [.rnd m] (.da (.str y)) := fun y hy => hk m y (by omega) hy
  have c1 := cut_to z a
  have c2 := cut_from z a
  have k1 : ((a : Int) + 1) = ((a + 1 : Nat) : Int) := by omega
  have k2 : ((a : Int) + 2) = ((a + 2 : Nat) : Int) := by omega
  have c3 : (L2.cutS z (some ((a : Int) + 1)) none).length ≤ z.length - min (a + 1) z.length := by rw [k1]; exact cut_from z (a + 1)
  have c4 : (L2.cutS z (some (a : Int)) (some ((a : Int) + 1))).length ≤ min (a + 1) z.length - min a z.length := by rw [k1]; exact cut_mid z a (a + 1)
  have c5 : (L2.cutS z (some (a : Int)) (some ((a : Int) + 2))).length ≤ min (a + 2) z.length - min a z.length := by rw [k2]; exact cut_mid z a (a + 2)
  have c6 : (L2.cutS z (some ((a : Int) + 2)) none).length ≤ z.length - min (a + 2) z.length := by rw [k2]; exact cut_from z (a + 2)
  have szl : z.length ≤ sizeLine := by rw [sizeLine_eq]; omega
  have mn1 : min a z.length = a := Nat.min_eq_left ha
  rw [mn1] at c1 c2 c4 c5
  clear hk hsn hm hc w1 hn k1 k2 mn1
  have sz : sizeLine = 134217728 ∨ 10000 ≤ sizeLine := .inr (by rw [sizeLine_eq]; omega)
  have big : 10000 ≤ sizeLine := by rw [sizeLine_eq]; omega
  rw [hu]; clear hu u
  refine DL.bS (p := pk = 0) (fun _ => ?_) fun _ => ?_
  · refine ⟨szl, Nat.le_trans ?_ big, szl, Nat.le_trans ?_ big, hk' _ ?_⟩
    · show (L2.cutS z none (some (a : Int))).length + sn.length ≤ _
      omega
    · show (L2.cutS z none (some (a : Int)) ++ sn).length + (L2.cutS z (some (a : Int)) none).length ≤ _
      rw [cat_len]
      omega
    · rw [cat_len, cat_len]
      omega
  dsimp only [sNil]
  refine DL.bS (p := pk = 1) (fun _ => ?_) fun _ => ?_
  · refine ⟨szl, szl, Nat.le_trans ?_ big, hk' _ ?_⟩
    · show (L2.cutS z none (some (a : Int))).length + (L2.cutS z (some ((a : Int) + 1)) none).length ≤ _
      omega
    · rw [cat_len]
      omega
  dsimp only [sNil]
  refine DL.bS (p := pk = 2) (fun _ => ?_) fun _ => ?_
  · refine ⟨szl, Nat.le_trans ?_ big, szl, Nat.le_trans ?_ big, hk' _ ?_⟩
    · show (L2.cutS z none (some (a : Int))).length + sn.length ≤ _
      omega
    · show (L2.cutS z none (some (a : Int)) ++ sn).length + (L2.cutS z (some ((a : Int) + 1)) none).length ≤ _
      rw [cat_len]
      omega
    · rw [cat_len, cat_len]
      omega
  dsimp only [sNil]
  refine DL.bS (p := pk = 3) (fun _ => ?_) fun _ => ?_
  · refine ⟨szl, szl, Nat.le_trans ?_ big, szl, Nat.le_trans ?_ big, hk' _ ?_⟩
    · show (L2.cutS z none (some (a : Int))).length + (L2.cutS z (some (a : Int)) (some ((a : Int) + 1))).length ≤ _
      omega
    · show (L2.cutS z none (some (a : Int)) ++ L2.cutS z (some (a : Int)) (some ((a : Int) + 1))).length + (L2.cutS z (some (a : Int)) none).length ≤ _
      rw [cat_len]
      omega
    · rw [cat_len, cat_len]
      omega
  dsimp only [sNil]
  have c7 := revS_len (L2.cutS z (some (a : Int)) (some ((a : Int) + 2)))
  refine ⟨szl, szl, Nat.le_trans (show (L2.cutS z (some (a : Int)) (some ((a : Int) + 2))).length ≤ 10000 by omega) big, Nat.le_trans ?_ big, szl, Nat.le_trans ?_ big, hk' _ ?_⟩
  · show (L2.cutS z none (some (a : Int))).length + (revS (L2.cutS z (some (a : Int)) (some ((a : Int) + 2)))).length ≤ _
    omega
  · show (L2.cutS z none (some (a : Int)) ++ revS (L2.cutS z (some (a : Int)) (some ((a : Int) + 2)))).length + (L2.cutS z (some ((a : Int) + 2)) none).length ≤ _
    rw [cat_len]
    omega
  · rw [cat_len, cat_len]
    omega
def sp_read_bulk : SpX := fun xs ms Ks Kx => ∃ l : List Nat, xs = [.da (tS l)] ∧ l.length ≤ 100000 ∧ (readN l 9 3 = none → Kx ms "BadText") ∧ ∀ n, readN l 9 3 = some n → Ks ms (.da (.int n))
theorem ok_read_bulk (T : Tx K mg) (o_read_number : Ok P w K mg base 2 "read_number" s_read_number ["text", "most", "places"] 3 sp_read_number) : OkX P w K mg base 3 "read_bulk" s_read_bulk ["text"] 1 sp_read_bulk := by
  refine ok_dataX (n0 := 1) T.d_read_bulk sc_read_bulk _ (fun f cdv A outer s H E hr tk =>
  (dsx_cons (DS.x (ds_set (i := 1) sc_read_bulk.nd rfl (by first | exact .inl rfl | exact .inr rfl) (de_callV o_read_number (hr.mono (by omega)) (by rfl) (dan_cons (dv 0) (dan_cons de_int (dan_cons de_int dan_nil))))))
  (dsx_cons (dsx_if (dt_isN (dv 1) de_non)
    (dsx_one (dsx_raise rfl tk T.x_BadText rfl))
    (DSs.x dss_nil))
  (dsx_one (DS.x (ds_ret (dv 1))))))) (fun xs ms Ks Kx h hl => ?_)
  unfold sp_read_bulk at h
  obtain ⟨l, rfl, hl, h1, h2⟩ := h
  refine ⟨List.nodup_nil, rfl, l, 9, 3, rfl, rfl, rfl, hl, by decide, by decide, rfl, ?_⟩
  try dsimp only [DL.S.sE, DL.S.sM, DL.S.aM, DL.S.cM, DL.st, DL.gt, DL.sm, DL.gm, DL.putM, DL.pick, DL.muks, DL.nthN, DL.bkE, DL.st0, DL.nos, List.cons_append, List.nil_append, List.append_nil, List.drop_succ_cons, List.drop_nil, List.drop_zero, List.drop, DL.a1, DL.a2, DL.a3, DL.cMin3, DL.aNil, DL.aCons, DL.dVar, DL.dC, DL.iI, DL.i1, DL.isB, DL.daI, DL.onE, DL.gN, List.length_cons, List.length_nil, Nat.reduceAdd, Nat.zero_add]
  simp only [List.append_nil]
  cases e : readN l 9 3 with
  | none => exact tt (h1 e)
  | some n => exact ff (h2 n e)
def sp_read_measure : SpX := fun xs ms Ks Kx => ∃ l : List Nat, xs = [.da (tS l)] ∧ l.length ≤ 100000 ∧ (readM l = none → Kx ms "BadText") ∧ ∀ z, readM l = some z → Ks ms (.da (oM (some z)))
theorem ok_read_measure (T : Tx K mg) (o_read_number : Ok P w K mg base 2 "read_number" s_read_number ["text", "most", "places"] 3 sp_read_number) : OkX P w K mg base 3 "read_measure" s_read_measure ["text"] 1 sp_read_measure := by
  refine ok_dataX (n0 := 5) T.d_read_measure sc_read_measure _ (fun f cdv A outer s H E hr tk =>
  (dsx_cons (DS.x (ds_asg (de_partition (dv 0) de_str) (dg_tup (n := 3) rfl (dgs_cons (dg_name (i := 1) sc_read_measure.nd rfl (by first | exact .inl rfl | exact .inr rfl)) (dgs_cons (dg_name (i := 2) sc_read_measure.nd rfl (by first | exact .inl rfl | exact .inr rfl)) (dgs_cons (dg_name (i := 3) sc_read_measure.nd rfl (by first | exact .inl rfl | exact .inr rfl)) dgs_nil))))))
  (dsx_cons (DS.x (ds_par (i := 4) (j := 5) rfl sc_read_measure.nd rfl rfl (by decide) rfl rfl (da_cons (de_callV o_read_number (hr.mono (by omega)) (by rfl) (dan_cons (dv 1) (dan_cons de_int (dan_cons de_int dan_nil)))) (da_cons (de_callV o_read_number (hr.mono (by omega)) (by rfl) (dan_cons (dv 3) (dan_cons de_int (dan_cons de_int dan_nil)))) da_nil)) rfl))
  (dsx_cons (dsx_if (dt_bool (dw_or (dt_eqS (dv 2) de_str) (dw_or (dt_isN (dv 4) de_non) (dw_or (dt_isN (dv 5) de_non) (dw_or1 (dt_gt (dv 5) (de_gint (by rfl) T.c_FULL)))))))
    (dsx_one (dsx_raise rfl tk T.x_BadText rfl))
    (DSs.x dss_nil))
  (dsx_one (DS.x (ds_ret (de_tup (dan_cons (dv 4) (dan_cons (de_mul (dv 4) (dv 5)) dan_nil)))))))))) (fun xs ms Ks Kx h hl => ?_)
  unfold sp_read_measure at h
  obtain ⟨l, rfl, hl, h1, h2⟩ := h
  refine ⟨rfl, by rw [SX.S_len, sizeLine_eq]; omega, ?_⟩
  rw [show Txt.partition (SX.S l) (Str.ofString "@") = _ from part_S 64 l]
  obtain ⟨l1, l2⟩ := parP_len 64 l
  unfold readM at h1 h2
  generalize parP 64 l = z at *
  obtain ⟨p, m, q⟩ := z
  refine ⟨rfl, ?_⟩
  try dsimp only [DL.S.sE, DL.S.sM, DL.S.aM, DL.S.cM, DL.st, DL.gt, DL.sm, DL.gm, DL.putM, DL.pick, DL.muks, DL.nthN, DL.bkE, DL.st0, DL.nos, List.cons_append, List.nil_append, List.append_nil, List.drop_succ_cons, List.drop_nil, List.drop_zero, List.drop, DL.a1, DL.a2, DL.a3, DL.cMin3, DL.aNil, DL.aCons, DL.dVar, DL.dC, DL.iI, DL.i1, DL.isB, DL.daI, DL.onE, DL.gN, List.length_cons, List.length_nil, Nat.reduceAdd, Nat.zero_add]
  dsimp only at l1 l2 h1 h2 ⊢
  refine ⟨List.nodup_nil, rfl, p, 9, 3, rfl, rfl, rfl, by omega, by decide, by decide, rfl, ?_⟩
  refine ⟨List.nodup_nil, rfl, q, 3, 2, rfl, rfl, rfl, by omega, by decide, by decide, rfl, ?_⟩
  try dsimp only [DL.S.sE, DL.S.sM, DL.S.aM, DL.S.cM, DL.st, DL.gt, DL.sm, DL.gm, DL.putM, DL.pick, DL.muks, DL.nthN, DL.bkE, DL.st0, DL.nos, List.cons_append, List.nil_append, List.append_nil, List.drop_succ_cons, List.drop_nil, List.drop_zero, List.drop, DL.a1, DL.a2, DL.a3, DL.cMin3, DL.aNil, DL.aCons, DL.dVar, DL.dC, DL.iI, DL.i1, DL.isB, DL.daI, DL.onE, DL.gN, List.length_cons, List.length_nil, Nat.reduceAdd, Nat.zero_add]
  simp only [List.append_nil]
  have e1 : Str.ofString "" = SX.S [] := by decide
  refine bS (p := SX.S m = Str.ofString "") (fun q1 => ?_) fun q1 => ?_
  · rw [e1] at q1
    rw [if_pos (SX.S_inj q1)] at h1
    exact tt (h1 rfl)
  · rw [e1] at q1
    rw [if_neg (fun e => q1 (by rw [e]))] at h1 h2
    cases hb : readN p 9 3 with
    | none =>
      rw [hb] at h1
      exact tt (tt (h1 rfl))
    | some b =>
      cases hs : readN q 3 2 with
      | none =>
        rw [hb, hs] at h1
        exact ff (tt (tt (h1 rfl)))
      | some w =>
        rw [hb, hs] at h1 h2
        dsimp only at h1 h2
        refine ff (ff ?_)
        refine bS (p := w > 10000) (fun q2 => ?_) fun q2 => ?_
        · rw [if_pos q2] at h1
          exact h1 rfl
        · rw [if_neg q2] at h2
          have hb0 : 0 ≤ b ∧ b < 10 ^ 13 := ⟨read_some hb, Int.lt_trans (readN_lt hb) (by decide)⟩
          have hw0 := read_some hs
          refine ⟨mulA 60 20 (by omega) (by omega), ?_⟩
          exact onO_mk rfl (h2 _ rfl)
def sp_told : SpD := fun xs ms Ks => ∃ (w : Int) (l : List Nat), xs = [.da (.int w), .da (tS l)] ∧ ms = [] ∧ l.length ≤ 100000 ∧ Ks [] (.da (toldD w l))
theorem ok_told (T : Tx K mg) (o_read_bulk : OkX P w K mg base 3 "read_bulk" s_read_bulk ["text"] 1 sp_read_bulk) (o_read_measure : OkX P w K mg base 3 "read_measure" s_read_measure ["text"] 1 sp_read_measure) : Ok P w K mg base 4 "_law_told" s_told ["_law_which", "_law_text"] 2 sp_told := by
  refine ok_dataT (n0 := 3) T.d_told sc_told _ (fun f cdv A outer s H E hr =>
  (dss_clo (dss_rta (dss_cons (ds_asg (de_tup (dan_cons de_non (dan_cons de_non dan_nil))) (dg_tup (n := 2) rfl (dgs_cons (dg_name (i := 2) sc_told.nd rfl (by first | exact .inl rfl | exact .inr rfl)) (dgs_cons (dg_name (i := 3) sc_told.nd rfl (by first | exact .inl rfl | exact .inr rfl)) dgs_nil))))
  (dss_cons (ds_try (i := 4) (j := 2) (cs := ["BadText"]) rfl rfl rfl sc_told.nd rfl rfl (by decide) rfl (by first | exact .inl rfl | exact .inr rfl) (by first | exact .inl rfl | exact .inr (.inl rfl) | exact .inr (.inr rfl)) T.m_BondError rfl (fun W pq xe tk po =>
    (dsx_one (dsx_set (i := 3) sc_told.nd rfl (by first | exact .inl rfl | exact .inr rfl) (dex_if (dt_eqS (dv 0) de_int) (dex_call tk o_read_bulk (hr.mono (by omega)) (by rfl) (dan_cons (dv 1) dan_nil)) (dex_call tk o_read_measure (hr.mono (by omega)) (by rfl) (dan_cons (dv 1) dan_nil)))))))
  (dss_cons (ds_if (dt_isNx (dv 2) de_non)
    (dss_one (ds_ret (dv 3)))
    dss_nil)
  (dss_cons (ds_if (dt_bool (dw_or (dt_val (de_isxs T.i_Twice_NoPage_NoDeed_NoCask_Unfit_BadRow (by rfl) (T.b_isinstance) (dcls_cons (by rfl) (dcls_cons (by rfl) (dcls_cons (by rfl) (dcls_cons (by rfl) (dcls_cons (by rfl) (dcls_cons (by rfl) dcls_nil)))))) (dv 2))) (dw_or1 (dt_not (dt_val (de_isx T.i_ValueError (by rfl) (T.b_isinstance) (by rfl) (dv 2)))))))
    (dss_one (ds_ret de_str))
    dss_nil)
  (dss_one (ds_ret (de_if (dt_val (de_isx T.i_BadText (by rfl) (T.b_isinstance) (by rfl) (dv 2))) de_str de_str)))))))))) (fun xs ms Ks h hl => ?_)
  unfold sp_told at h
  obtain ⟨w, l, rfl, rfl, hl, hk⟩ := h
  intro cl
  refine seqU fun u hu => ?_
  refine onO_mk rfl ?_
  refine ⟨rfl, ?_⟩
  dsimp only [gsCons, gsNil, gN, st0]
  try dsimp only [DL.S.sE, DL.S.sM, DL.S.aM, DL.S.cM, DL.st, DL.gt, DL.sm, DL.gm, DL.putM, DL.pick, DL.muks, DL.nthN, DL.bkE, DL.st0, DL.nos, List.cons_append, List.nil_append, List.append_nil, List.drop_succ_cons, List.drop_nil, List.drop_zero, List.drop, DL.a1, DL.a2, DL.a3, DL.cMin3, DL.aNil, DL.aCons, DL.dVar, DL.dC, DL.iI, DL.i1, DL.isB, DL.daI, DL.onE, DL.gN, List.length_cons, List.length_nil, Nat.reduceAdd, Nat.zero_add]
  rw [hu]; clear hu u
  refine seqU fun u hu => ?_
  have g1 : ∀ d, d = toldD w l → u ⟨[.da (.int w), .da (tS l), .da .none, .da d, .no], [], 0⟩ (rtD (endT Ks)) := fun d e => by
    rw [hu]
    refine tt ?_
    refine ⟨_, _, AdjE.refl, ?_⟩
    rw [e]
    exact hk
  have g2 : toldD w l = .str "BadText" → u ⟨[.da (.int w), .da (tS l), .mu 0, .da .none, .no], [.ins (.exc "BadText") []], 0⟩ (rtD (endT Ks)) := fun e => by
    rw [hu]
    refine ⟨⟨_, _, rfl⟩, ?_⟩
    refine ff ?_
    dsimp only [sNil]
    refine seqU fun u2 hu2 => ?_
    refine ⟨0, _, _, _, rfl, rfl, List.mem_singleton.mpr rfl, ?_⟩
    refine ff ?_
    refine ⟨0, _, _, _, rfl, rfl, List.mem_singleton.mpr rfl, ?_⟩
    refine ff ?_
    dsimp only [sNil]
    rw [hu2]; clear hu2 u2
    refine ⟨0, _, _, _, rfl, rfl, List.mem_singleton.mpr rfl, ?_⟩
    refine tt ?_
    refine ⟨_, _, AdjE.da (Adj.cut 0 (Nat.le_refl 0)), ?_⟩
    show Ks [] _
    rw [← e]
    exact hk
  refine bS (p := w = 0) (fun c => ?_) fun c => ?_
  · refine ⟨l, rfl, hl, fun e => ?_, fun n e => ?_⟩
    · refine ⟨List.mem_singleton.mpr rfl, rfl, ?_⟩
      refine g2 ?_
      unfold toldD
      rw [if_pos c, e]
      rfl
    · refine g1 (.int n) ?_
      unfold toldD
      rw [if_pos c, e]
      rfl
  · refine ⟨l, rfl, hl, fun e => ?_, fun z e => ?_⟩
    · refine ⟨List.mem_singleton.mpr rfl, rfl, ?_⟩
      refine g2 ?_
      unfold toldD
      rw [if_neg c, e]
      rfl
    · refine g1 (oM (some z)) ?_
      unfold toldD
      rw [if_neg c, e]
      rfl
abbrev sp_same : SpD := spSame true 8
theorem ok_same_step {n : Nat} (T : Tx K mg) (o_same : Ok P w K mg base n "_law_same" s_same ["_law_found", "_law_due"] 2 (spSame true n)) : Ok P w K mg base (n + 1) "_law_same" s_same ["_law_found", "_law_due"] 2 (spSame true (n + 1)) := by
  refine ok_data (n0 := 2) T.d_same sc_same _ (fun f cdv A outer s H E hr =>
  (dss_cons (ds_if (dt_val (de_isi2 .list .tuple (by rfl) (T.b_isinstance) (by rfl) (T.b_list) (by decide +kernel) (by rfl) (T.b_tuple) (by decide +kernel) (dv 1)))
    (dss_cons (ds_if (dt_bool (dw_or (dt_neS (de_isi .list (by rfl) (T.b_isinstance) (by rfl) (T.b_list) (by decide +kernel) (dv 0)) (de_isi .list (by rfl) (T.b_isinstance) (by rfl) (T.b_list) (by decide +kernel) (dv 1))) (dw_or1 (dt_neS (de_isi .tuple (by rfl) (T.b_isinstance) (by rfl) (T.b_tuple) (by decide +kernel) (dv 0)) (de_isi .tuple (by rfl) (T.b_isinstance) (by rfl) (T.b_tuple) (by decide +kernel) (dv 1))))))
      (dss_one (ds_ret de_bl))
      dss_nil)
    (dss_one (ds_ret (de_and (de_eqS (de_len (x := "") (by rfl) (T.b_len) (dv 0)) (de_len (x := "") (by rfl) (T.b_len) (dv 1))) (de_one (de_all rfl (by rfl) (T.b_all) (de_lc [("_law_one", 2), ("_law_other", 3)] rfl sc_same.nd (di_zip (by rfl) (T.b_zip) (da_cons (dv 0) (da_cons (dv 1) da_nil))) (BlkOk.mk (N := ["_law_found", "_law_due", "_law_one", "_law_other"]) (sc := defScope s_same) rfl (by decide +kernel) (by decide +kernel) (by decide +kernel) (by decide +kernel)) (by decide) (fun _ _ _ _ _ => (dg_tup (n := 2) rfl (dgs_cons (dg_name (i := 2) sc_same.nd rfl (by first | exact .inl rfl | exact .inr rfl)) (dgs_cons (dg_name (i := 3) sc_same.nd rfl (by first | exact .inl rfl | exact .inr rfl)) dgs_nil)))) (fun _ _ _ _ _ => dts_nil) (fun _ _ _ _ _ => (de_callV o_same (hr.mono (by omega)) (by rfl) (dan_cons (dv 2) (dan_cons (dv 3) dan_nil)))))))))))
    dss_nil)
  (dss_cons (ds_if (dt_isN (dv 1) de_non)
    (dss_one (ds_ret (de_isN (dv 0) de_non)))
    dss_nil)
  (dss_cons (ds_if (dt_val (de_isi .bool (by rfl) (T.b_isinstance) (by rfl) (T.b_bool) (by decide +kernel) (dv 1)))
    (dss_one (ds_ret (de_and (de_isi .bool (by rfl) (T.b_isinstance) (by rfl) (T.b_bool) (by decide +kernel) (dv 0)) (de_one (de_eqD (hu64 hr) (dv 0) (dv 1))))))
    dss_nil)
  (dss_cons (ds_if (dt_val (de_isi .str (by rfl) (T.b_isinstance) (by rfl) (T.b_str) (by decide +kernel) (dv 1)))
    (dss_one (ds_ret (de_and (de_isi .str (by rfl) (T.b_isinstance) (by rfl) (T.b_str) (by decide +kernel) (dv 0)) (de_one (de_eqD (hu64 hr) (dv 0) (dv 1))))))
    dss_nil)
  (dss_one (ds_ret (de_and (de_isi .int (by rfl) (T.b_isinstance) (by rfl) (T.b_int) (by decide +kernel) (dv 0)) (de_and (de_not (de_isi .bool (by rfl) (T.b_isinstance) (by rfl) (T.b_bool) (by decide +kernel) (dv 0))) (de_one (de_eqD (hu64 hr) (dv 0) (dv 1)))))))))))) (fun xs ms Ks h hl => ?_)
  unfold spSame at h
  split at h
  · rename_i d e
    obtain ⟨rfl, hs, hd, hn, hk⟩ := h
    cases d with
    | none => exact ff (tt hk)
    | dict kvs => cases hs
    | bool b =>
      refine ff (ff (tt (tt ?_)))
      refine ⟨rfl, rfl, ?_⟩
      show Ks [] (.da (.bool (PyData.eqv (.bool b) (.bool b))))
      rw [SeqAt.eqv_refl _ (okS_lay hs)]
      exact hk
    | int i =>
      refine ff (ff (ff (ff (tt (tt ?_)))))
      refine ⟨rfl, rfl, ?_⟩
      show Ks [] (.da (.bool (PyData.eqv (.int i) (.int i))))
      rw [SeqAt.eqv_refl _ (okS_lay hs)]
      exact hk
    | str x =>
      have hsh := shaped_of hs (by simp [PyData.depth])
      refine ff (ff (ff (tt (tt ?_))))
      refine ⟨hsh, hsh, ?_⟩
      show Ks [] (.da (.bool (PyData.eqv (.str x) (.str x))))
      rw [SeqAt.eqv_refl _ (okS_lay hs)]
      exact hk
    | list ds =>
      have hs' := hs
      simp only [okS, Bool.and_eq_true, decide_eq_true_eq] at hs
      refine tt ?_
      refine ff ?_
      refine ff ?_
      refine bT (p := ((ds.length : Int) = (ds.length : Int))) rfl ?_
      refine ⟨fun (i : Nat) (ms : List MO) (acc : List D) => ms = [] ∧ acc = (List.replicate i true).map .bool, ⟨rfl, rfl⟩, ?_, ?_⟩
      · rintro i z ms acc hz ⟨rfl, rfl⟩ _
        obtain ⟨x, y, hx, hy, rfl⟩ := zipD_get hz
        have e := Option.some.inj (hx.symm.trans hy)
        subst e
        have hlt : i < ds.length := (List.getElem?_eq_some_iff.mp hx).1
        have hdx := depth_get hx
        simp only [PyData.depth] at hd
        refine ⟨rfl, ?_⟩
        refine tt ?_
        refine ⟨List.nodup_nil, rfl, rfl, okSs_get hs.1 hx, by omega, by omega, rfl, ?_⟩
        refine ⟨by rw [List.length_map, List.length_replicate]; omega, rfl, rfl, ?_⟩
        rw [List.replicate_succ', List.map_append]
        rfl
      · rintro ms acc ⟨rfl, rfl⟩ _
        refine ⟨_, rfl, ?_⟩
        rw [all_true]
        exact hk
    | tuple ds =>
      have hs' := hs
      simp only [okS, Bool.and_eq_true, decide_eq_true_eq] at hs
      refine tt ?_
      refine ff ?_
      refine ff ?_
      refine bT (p := ((ds.length : Int) = (ds.length : Int))) rfl ?_
      refine ⟨fun (i : Nat) (ms : List MO) (acc : List D) => ms = [] ∧ acc = (List.replicate i true).map .bool, ⟨rfl, rfl⟩, ?_, ?_⟩
      · rintro i z ms acc hz ⟨rfl, rfl⟩ _
        obtain ⟨x, y, hx, hy, rfl⟩ := zipD_get hz
        have e := Option.some.inj (hx.symm.trans hy)
        subst e
        have hlt : i < ds.length := (List.getElem?_eq_some_iff.mp hx).1
        have hdx := depth_get hx
        simp only [PyData.depth] at hd
        refine ⟨rfl, ?_⟩
        refine tt ?_
        refine ⟨List.nodup_nil, rfl, rfl, okSs_get hs.1 hx, by omega, by omega, rfl, ?_⟩
        refine ⟨by rw [List.length_map, List.length_replicate]; omega, rfl, rfl, ?_⟩
        rw [List.replicate_succ', List.map_append]
        rfl
      · rintro ms acc ⟨rfl, rfl⟩ _
        refine ⟨_, rfl, ?_⟩
        rw [all_true]
        exact hk
  · exact h.elim
theorem ok_same (T : Tx K mg) : Ok P w K mg base 8 "_law_same" s_same ["_law_found", "_law_due"] 2 sp_same := by
  have all : ∀ n : Nat, Ok P w K mg base n "_law_same" s_same ["_law_found", "_law_due"] 2 (spSame true n) := fun n => by
    induction n with
    | zero =>
      refine Ok.none T.d_same fun xs ms Ks h => ?_
      unfold spSame at h
      split at h
      · exact absurd h.2.2.1 (Nat.not_lt_zero _)
      · exact h
    | succ n ih => exact ok_same_step T ih
  exact all 8
def sp_right : SpD := fun xs ms Ks => ∃ l : List Nat, xs = [.da (tS l)] ∧ ms = [] ∧ l.length ≤ 1000 ∧ Ks [] (.da (.bool true))
theorem ok_right (T : Tx K mg) (o_measure_of : Ok P w K mg base 2 "_law_measure_of" s_measure_of ["_law_text"] 1 sp_measure_of) (o_parts : Ok P w K mg base 1 "_law_parts" s_parts ["_law_text", "_law_most", "_law_places"] 3 sp_parts) (o_same : Ok P w K mg base 8 "_law_same" s_same ["_law_found", "_law_due"] 2 sp_same) (o_told : Ok P w K mg base 4 "_law_told" s_told ["_law_which", "_law_text"] 2 sp_told) : Ok P w K mg base 9 "_law_right" s_right ["_law_text"] 1 sp_right := by
  refine ok_data (n0 := 4) T.d_right sc_right _ (fun f cdv A outer s H E hr =>
  (dss_cons (ds_par (i := 1) (j := 2) rfl sc_right.nd rfl rfl (by decide) rfl rfl (da_cons (de_callV o_parts (hr.mono (by omega)) (by rfl) (dan_cons (dv 0) (dan_cons de_int (dan_cons de_int dan_nil)))) (da_cons (de_callV o_measure_of (hr.mono (by omega)) (by rfl) (dan_cons (dv 0) dan_nil)) da_nil)) rfl)
  (dss_cons (ds_set (i := 3) sc_right.nd rfl (by first | exact .inl rfl | exact .inr rfl) (de_lst (dan_cons (de_if (dt_isN (dv 1) de_non) de_str (dv 1)) (dan_cons (de_if (dt_isN (dv 2) de_non) de_str (dv 2)) dan_nil))))
  (dss_cons (ds_for [1, 2, 4] 0 PassesOwn.never rfl (di_range1 (by rfl) (T.b_range) (da_cons de_int da_nil)) (dg_name (i := 4) sc_right.nd rfl (by first | exact .inl rfl | exact .inr rfl))
    (dss_one (ds_if (dt_not (dt_val (de_callV o_same (hr.mono (by omega)) (by rfl) (dan_cons (de_lst (dan_cons (de_callT o_told (hr.mono (by omega)) (by rfl) (dan_cons de_int (dan_cons (dv 0) dan_nil))) (dan_cons (de_callT o_told (hr.mono (by omega)) (by rfl) (dan_cons de_int (dan_cons (dv 0) dan_nil))) dan_nil))) (dan_cons (dv 3) dan_nil)))))
      (dss_one (ds_ret de_bl))
      dss_nil)))
  (dss_one (ds_ret de_bl)))))) (fun xs ms Ks h hl => ?_)
  unfold sp_right at h
  obtain ⟨l, rfl, rfl, hl, hk⟩ := h
  refine seqU fun u hu => ?_
  refine ⟨List.nodup_nil, rfl, l, 9, 3, rfl, rfl, hl, by decide, by decide, rfl, ?_⟩
  refine ⟨List.nodup_nil, rfl, l, rfl, rfl, hl, rfl, ?_⟩
  dsimp only [st0]
  try dsimp only [DL.S.sE, DL.S.sM, DL.S.aM, DL.S.cM, DL.st, DL.gt, DL.sm, DL.gm, DL.putM, DL.pick, DL.muks, DL.nthN, DL.bkE, DL.st0, DL.nos, List.cons_append, List.nil_append, List.append_nil, List.drop_succ_cons, List.drop_nil, List.drop_zero, List.drop, DL.a1, DL.a2, DL.a3, DL.cMin3, DL.aNil, DL.aCons, DL.dVar, DL.dC, DL.iI, DL.i1, DL.isB, DL.daI, DL.onE, DL.gN, List.length_cons, List.length_nil, Nat.reduceAdd, Nat.zero_add]
  rw [hu]; clear hu u
  obtain ⟨D1, hD1⟩ : ∃ d, d = bad (oI (readN l 9 3)) := ⟨_, rfl⟩
  obtain ⟨D2, hD2⟩ : ∃ d, d = bad (oM (readM l)) := ⟨_, rfl⟩
  have t0 : toldD 0 l = D1 := by unfold toldD; rw [if_pos rfl, hD1]
  have t1 : toldD 1 l = D2 := by unfold toldD; rw [if_neg (by decide), hD2]
  have ok : okS true (.list [D1, D2]) = true ∧ (PyData.list [D1, D2]).depth ≤ 3 := by
    rw [hD1, hD2]
    exact ⟨okS_2 (okS_bad1 _) (okS_bad2 _), dep_bad _ _⟩
  refine seqU fun u hu => ?_
  have step : u ⟨[.da (tS l), .da (oI (readN l 9 3)), .da (oM (readM l)), .da (.list [D1, D2]), .no], [], 0⟩ (endD Ks) := ?_
  · rw [hD1, hD2] at step
    cases e1 : readN l 9 3 with
    | none =>
      rw [e1] at step
      cases e2 : readM l with
      | none => rw [e2] at step; exact tt (tt (onO_mk rfl step))
      | some z => rw [e2] at step; exact tt (ff (onO_mk rfl step))
    | some v =>
      rw [e1] at step
      cases e2 : readM l with
      | none => rw [e2] at step; exact ff (tt (onO_mk rfl step))
      | some z => rw [e2] at step; exact ff (ff (onO_mk rfl step))
  rw [hu]; clear hu u hD1 hD2
  refine ⟨by decide, by decide, fun (i : Nat) (s : S) => s = ⟨[.da (tS l), .no, .no, .da (.list [D1, D2]), .no], [], 0⟩, ⟨Nat.le_refl 0, rfl⟩, ?_, ?_⟩
  · rintro i d s hi rfl
    refine ⟨0, l, rfl, rfl, by omega, ?_⟩
    rw [t0]
    refine ⟨1, l, rfl, rfl, by omega, ?_⟩
    rw [t1]
    refine onO_mk rfl ?_
    refine ⟨List.nodup_nil, rfl, rfl, ok.1, Nat.lt_of_le_of_lt ok.2 (by decide), by decide, rfl, ?_⟩
    refine ff ?_
    exact ⟨Nat.le_refl 0, rfl⟩
  · rintro s rfl
    exact hk
theorem ok_law' {f : Addr} {fd : FuncData} (F : Fun K "law" "law" s_law f fd) (T : Tx K mg) (o_bent : Ok P w K mg base 2 "_law_bent" s_bent ["_law_state", "_law_text"] 2 sp_bent) (o_right : Ok P w K mg base 9 "_law_right" s_right ["_law_text"] 1 sp_right) (o_take : Ok P w K mg base 1 "_law_take" s_take ["_law_state", "_law_many"] 2 spTake) (o_written : Ok P w K mg base 2 "_law_written" s_written ["_law_state", "_law_most", "_law_places"] 3 sp_written) : FnOkG P w K mg base CX0 10 f fd ["_law_script"] (spLawH K) := by
  obtain ⟨fB, fdB, aB⟩ := T.d_begin
  have GB : FnOk P w K mg base CX0 9 fB fdB ["_law_script"] (spBeginH K) := ok_begin aB.F T.b_list
  refine ok_law (n := 8) F sc_law rfl rfl rfl (by first | exact .inl rfl | exact .inr rfl) (by first | exact .inl rfl | exact .inr (.inl rfl)) rfl GB aB.kp aB.b aB.g (fun cdv A outer s H E hr =>
  (dss_cons (ds_for [0, 2, 3, 4, 5, 6, 7, 8, 9] 1 PassesOwn.never rfl (di_range1 (by rfl) (T.b_range) (da_cons de_int da_nil)) (dg_name (i := 2) sc_law.nd rfl (by first | exact .inl rfl | exact .inr rfl))
    (dss_cons (ds_set (i := 3) sc_law.nd rfl (by first | exact .inl rfl | exact .inr rfl) (de_lst (dan_cons (de_ix (de_callV o_written (hr.mono (by omega)) (by rfl) (dan_cons (dv 1) (dan_cons de_int (dan_cons de_int dan_nil)))) de_int) (dan_cons (de_addS (de_addS (de_ix (de_callV o_written (hr.mono (by omega)) (by rfl) (dan_cons (dv 1) (dan_cons de_int (dan_cons de_int dan_nil)))) de_int) de_str) (de_ix (de_callV o_written (hr.mono (by omega)) (by rfl) (dan_cons (dv 1) (dan_cons de_int (dan_cons de_int dan_nil)))) de_int)) dan_nil))))
    (dss_one (ds_for [0, 2, 3, 4, 5, 6, 7, 8, 9] 1 PassesOwn.never rfl (di_list (dv 3)) (dg_name (i := 4) sc_law.nd rfl (by first | exact .inl rfl | exact .inr rfl))
      (dss_cons (ds_if (dt_not (dt_val (de_all rfl (by rfl) (T.b_all) (de_lc [("_law_one", 9)] rfl sc_law.nd (di_tup (de_tup (dan_cons (dv 4) (dan_cons (de_addS (dv 4) de_str) (dan_cons (de_addS de_str (dv 4)) (dan_cons (de_addS (dv 4) de_str) (dan_cons (de_addS de_str (dv 4)) dan_nil))))))) (BlkOk.mk (N := ["_law_script", "_law_state", "_law_turn", "_law_good", "_law_text", "_law_again", "_law_bent_here", "_law_more", "_law_odd", "_law_one"]) (sc := defScope s_law) rfl (by decide +kernel) (by decide +kernel) (by decide +kernel) (by decide +kernel)) (by decide) (fun _ _ _ _ _ => (dg_name (i := 9) sc_law.nd rfl (by first | exact .inl rfl | exact .inr rfl))) (fun _ _ _ _ _ => dts_nil) (fun _ _ _ _ _ => (de_callV o_right (hr.mono (by omega)) (by rfl) (dan_cons (dv 9) dan_nil)))))))
        (dss_one (ds_ret de_bl))
        dss_nil)
      (dss_one (ds_for [0, 2, 3, 5, 6, 7, 8, 9] 1 PassesOwn.never rfl (di_range1 (by rfl) (T.b_range) (da_cons de_int da_nil)) (dg_name (i := 5) sc_law.nd rfl (by first | exact .inl rfl | exact .inr rfl))
        (dss_cons (ds_set (i := 6) sc_law.nd rfl (by first | exact .inl rfl | exact .inr rfl) (de_callV o_bent (hr.mono (by omega)) (by rfl) (dan_cons (dv 1) (dan_cons (dv 4) dan_nil))))
        (dss_cons (ds_for [0, 2, 3, 5, 7, 8, 9] 1 PassesOwn.never rfl (di_range1 (by rfl) (T.b_range) (da_cons (de_callV o_take (hr.mono (by omega)) (by rfl) (dan_cons (dv 1) (dan_cons de_int dan_nil))) da_nil)) (dg_name (i := 7) sc_law.nd rfl (by first | exact .inl rfl | exact .inr rfl))
          (dss_one (ds_set (i := 6) sc_law.nd rfl (by first | exact .inl rfl | exact .inr rfl) (de_callV o_bent (hr.mono (by omega)) (by rfl) (dan_cons (dv 1) (dan_cons (dv 6) dan_nil))))))
        (dss_one (ds_if (dt_not (dt_val (de_callV o_right (hr.mono (by omega)) (by rfl) (dan_cons (dv 6) dan_nil))))
          (dss_one (ds_ret de_bl))
          dss_nil)))))))))))
  (dss_cons (ds_set (i := 8) sc_law.nd rfl (by first | exact .inl rfl | exact .inr rfl) (de_lstM (dan_cons de_str (dan_cons de_str (dan_cons de_str (dan_cons de_str (dan_cons de_str (dan_cons de_str (dan_cons de_str (dan_cons de_str (dan_cons de_str (dan_cons de_str (dan_cons de_str (dan_cons de_str (dan_cons de_str (dan_cons de_str (dan_cons de_str dan_nil)))))))))))))))))
  (dss_cons (ds_set (i := 8) sc_law.nd rfl (by first | exact .inl rfl | exact .inr rfl) (de_catM (dv 8) (de_lst (dan_cons de_str (dan_cons de_str (dan_cons de_str (dan_cons de_str (dan_cons de_str (dan_cons de_str (dan_cons de_str (dan_cons de_str (dan_cons de_str (dan_cons de_str dan_nil)))))))))))))
  (dss_cons (ds_exp (de_append (dv 8) de_str))
  (dss_frzV 8 (dss_one (ds_ret (de_all rfl (by rfl) (T.b_all) (de_lc [("_law_text", 4)] rfl sc_law.nd (di_list (dv 8)) (BlkOk.mk (N := ["_law_script", "_law_state", "_law_turn", "_law_good", "_law_text", "_law_again", "_law_bent_here", "_law_more", "_law_odd", "_law_one"]) (sc := defScope s_law) rfl (by decide +kernel) (by decide +kernel) (by decide +kernel) (by decide +kernel)) (by decide) (fun _ _ _ _ _ => (dg_name (i := 4) sc_law.nd rfl (by first | exact .inl rfl | exact .inr rfl))) (fun _ _ _ _ _ => dts_nil) (fun _ _ _ _ _ => (de_callV o_right (hr.mono (by omega)) (by rfl) (dan_cons (dv 4) dan_nil))))))))))))) ?_
  have hf : fuel0 ≥ 100000 := by unfold fuel0; decide
  refine seqU fun u hu => ?_
  refine ⟨by decide, by decide, fun (i : Nat) (s : S) => ∃ m, s = ⟨[.no, .mu 0, .no, .no, .no, .no, .no, .no, .no, .no], [.rnd m], 0⟩ ∧ fuel0 ≤ m + 20000 * i, ⟨Nat.zero_le 1, fuel0, rfl, by omega⟩, ?_, ?_⟩
  · rintro i d s hi ⟨m0, rfl, hm0⟩
    have hi3 : i < 3 := by
      have := (List.getElem?_eq_some_iff.mp hi).1
      rw [rng_length] at this
      omega
    obtain ⟨_, rfl⟩ := rng_get hi
    show sSeq _ _ ⟨[.no, .mu 0, .da (.int (0 + (i : Int))), .no, .no, .no, .no, .no, .no, .no], [.rnd m0], 0⟩ _
    refine wsU fun E hE => ?_
    refine seqU fun u2 hu2 => ?_
    refine ⟨nd1, rfl, 9, 3, rfl, rfl, by decide, by decide, by decide, by omega, fun m1 A B hm1 A0 Al Ad Ah Bd Bl => ⟨rfl, ?_⟩⟩
    refine ⟨_, rfl, ?_⟩
    try dsimp only [DL.S.sE, DL.S.sM, DL.S.aM, DL.S.cM, DL.st, DL.gt, DL.sm, DL.gm, DL.putM, DL.pick, DL.muks, DL.nthN, DL.bkE, DL.st0, DL.nos, List.cons_append, List.nil_append, List.append_nil, List.drop_succ_cons, List.drop_nil, List.drop_zero, List.drop, DL.a1, DL.a2, DL.a3, DL.cMin3, DL.aNil, DL.aCons, DL.dVar, DL.dC, DL.iI, DL.i1, DL.isB, DL.daI, DL.onE, DL.gN, List.length_cons, List.length_nil, Nat.reduceAdd, Nat.zero_add]
    refine ⟨nd1, rfl, 9, 3, rfl, rfl, by decide, by decide, by decide, by omega, fun m2 A2 B2 hm2 A20 A2l A2d A2h B2d B2l => ⟨rfl, ?_⟩⟩
    refine ⟨_, rfl, ?_⟩
    try dsimp only [DL.S.sE, DL.S.sM, DL.S.aM, DL.S.cM, DL.st, DL.gt, DL.sm, DL.gm, DL.putM, DL.pick, DL.muks, DL.nthN, DL.bkE, DL.st0, DL.nos, List.cons_append, List.nil_append, List.append_nil, List.drop_succ_cons, List.drop_nil, List.drop_zero, List.drop, DL.a1, DL.a2, DL.a3, DL.cMin3, DL.aNil, DL.aCons, DL.dVar, DL.dC, DL.iI, DL.i1, DL.isB, DL.daI, DL.onE, DL.gN, List.length_cons, List.length_nil, Nat.reduceAdd, Nat.zero_add]
    obtain ⟨_, pl1⟩ := ptL_ok Ad Bd
    obtain ⟨_, pl2⟩ := ptL_ok A2d B2d
    refine ⟨by rw [SX.S_len, sizeLine_eq]; show _ + 1 ≤ _; omega, ?_⟩
    refine ⟨nd1, rfl, 2, 2, rfl, rfl, by decide, by decide, by decide, by omega, fun m3 A3 B3 hm3 A30 A3l A3d A3h B3d B3l => ⟨rfl, ?_⟩⟩
    refine ⟨_, rfl, ?_⟩
    try dsimp only [DL.S.sE, DL.S.sM, DL.S.aM, DL.S.cM, DL.st, DL.gt, DL.sm, DL.gm, DL.putM, DL.pick, DL.muks, DL.nthN, DL.bkE, DL.st0, DL.nos, List.cons_append, List.nil_append, List.append_nil, List.drop_succ_cons, List.drop_nil, List.drop_zero, List.drop, DL.a1, DL.a2, DL.a3, DL.cMin3, DL.aNil, DL.aCons, DL.dVar, DL.dC, DL.iI, DL.i1, DL.isB, DL.daI, DL.onE, DL.gN, List.length_cons, List.length_nil, Nat.reduceAdd, Nat.zero_add]
    obtain ⟨_, pl3⟩ := ptL_ok A3d B3d
    refine ⟨by rw [cat_len, sizeLine_eq]; simp only [SX.S_len]; show _ + 1 + _ ≤ _; omega, ?_⟩
    refine onO_mk rfl ?_
    obtain ⟨g, hg, hgl⟩ : ∃ g : List Str, [PyData.str (SX.S (ptL A B)), PyData.str (SX.S (ptL A2 B2) ++ Str.ofString "@" ++ SX.S (ptL A3 B3))] = g.map .str ∧ g.length = 2 ∧ ∀ z ∈ g, z.length ≤ 60 := ⟨[_, _], rfl, rfl, fun z hz => by
      simp only [List.mem_cons, List.not_mem_nil, or_false] at hz
      rcases hz with rfl | rfl
      · rw [SX.S_len]; omega
      · rw [cat_len, cat_len]
        simp only [SX.S_len]
        show _ + 1 + _ ≤ _
        omega⟩
    rw [hg]
    rw [hu2]; clear hu2 u2 hg pl1 pl2 pl3
    refine ⟨fun (j : Nat) (s : S) => ∃ m, s = ⟨[.no, .mu 0, .no, .no, .no, .no, .no, .no, .no, .no], [.rnd m], 0⟩ ∧ m3 ≤ m + 6000 * j, ⟨Nat.zero_le 1, m3, rfl, by omega⟩, ?_, ?_⟩
    · rintro j d s hj ⟨m, rfl, hm⟩
      obtain ⟨z, hz, rfl⟩ := mapG hj
      have zl := hgl.2 z (List.mem_of_getElem? hz)
      have j2 : j < 2 := by have := (List.getElem?_eq_some_iff.mp hz).1; omega
      show sSeq _ _ ⟨[.no, .mu 0, .no, .no, .da (.str z), .no, .no, .no, .no, .no], [.rnd m], 0⟩ _
      refine wsU fun E2 hE2 => ?_
      refine seqU fun u2 hu2 => ?_
      have l1 : ∀ x y : Str, x.length ≤ 100 → y.length ≤ 100 → x.length + y.length ≤ sizeLine := fun x y h1 h2 => by rw [sizeLine_eq]; omega
      have ln : (Str.ofString "\n").length = 1 := rfl
      have lb : (Str.ofString " ").length = 1 := rfl
      refine ⟨l1 _ _ (by omega) (by omega), l1 _ _ (by omega) (by omega), l1 _ _ (by omega) (by omega), l1 _ _ (by omega) (by omega), ?_⟩
      obtain ⟨zs, hzs, zsl⟩ : ∃ zs : List Str, [PyData.str z, PyData.str (z ++ Str.ofString "\n"), PyData.str (Str.ofString "\n" ++ z), PyData.str (z ++ Str.ofString " "), PyData.str (Str.ofString " " ++ z)] = zs.map .str ∧ zs.length = 5 ∧ ∀ x ∈ zs, x.length ≤ 100 := ⟨[_, _, _, _, _], rfl, rfl, fun x hx => by
        simp only [List.mem_cons, List.not_mem_nil, or_false] at hx
        rcases hx with rfl | rfl | rfl | rfl | rfl <;> (try rw [cat_len]) <;> omega⟩
      try dsimp only [DL.S.sE, DL.S.sM, DL.S.aM, DL.S.cM, DL.st, DL.gt, DL.sm, DL.gm, DL.putM, DL.pick, DL.muks, DL.nthN, DL.bkE, DL.st0, DL.nos, List.cons_append, List.nil_append, List.append_nil, List.drop_succ_cons, List.drop_nil, List.drop_zero, List.drop, DL.a1, DL.a2, DL.a3, DL.cMin3, DL.aNil, DL.aCons, DL.dVar, DL.dC, DL.iI, DL.i1, DL.isB, DL.daI, DL.onE, DL.gN, List.length_cons, List.length_nil, Nat.reduceAdd, Nat.zero_add]
      refine onO_mk (show allD [En.da (PyData.str z), .da (PyData.str (z ++ Str.ofString "\n")), .da (PyData.str (Str.ofString "\n" ++ z)), .da (PyData.str (z ++ Str.ofString " ")), .da (PyData.str (Str.ofString " " ++ z))] = some (zs.map .str) by rw [← hzs]; rfl) ?_
      refine ⟨fun (i : Nat) (mo : List MO) (acc : List D) => mo = [.rnd m] ∧ acc = (List.replicate i true).map .bool, ⟨rfl, rfl⟩, ?_, ?_⟩
      · rintro i d mo acc hi ⟨rfl, rfl⟩ _
        obtain ⟨x, hx, rfl⟩ := mapG hi
        have xl := zsl.2 x (List.mem_of_getElem? hx)
        have i5 := (List.getElem?_eq_some_iff.mp hx).1
        refine tt ?_
        refine ⟨List.nodup_nil, rfl, x.cps.toList, by rw [← tS_of], rfl, by rw [tS_len]; omega, rfl, ?_⟩
        refine ⟨by rw [List.length_map, List.length_replicate, sizeLine_eq]; omega, rfl, rfl, ?_⟩
        rw [List.replicate_succ', List.map_append]
        rfl
      · rintro mo acc ⟨rfl, rfl⟩ _
        refine ⟨_, rfl, ?_⟩
        rw [List.length_map, zsl.1]
        refine ff ?_
        dsimp only [sNil]
        rw [hu2]; clear hu2 u2
        refine ⟨by decide, by decide, fun (k : Nat) (s : S) => ∃ m', s = ⟨[.no, .mu 0, .no, .no, .da (.str z), .no, .no, .no, .no, .no], [.rnd m'], 0⟩ ∧ m ≤ m' + 600 * k, ⟨Nat.zero_le 1, m, rfl, by omega⟩, ?_, ?_⟩
        · rintro k d s hk ⟨m', rfl, hm'⟩
          have k8 : k < 8 := by
            have := (List.getElem?_eq_some_iff.mp hk).1
            rw [rng_length] at this
            omega
          obtain ⟨_, rfl⟩ := rng_get hk
          show sSeq _ _ ⟨[.no, .mu 0, .no, .no, .da (.str z), .da (.int (0 + (k : Int))), .no, .no, .no, .no], [.rnd m'], 0⟩ _
          refine wsU fun E3 hE3 => ?_
          refine seqU fun u2 hu2 => ?_
          refine ⟨nd1, rfl, m', z.cps.toList, by rw [← tS_of], rfl, by rw [tS_len]; omega, by omega, fun m4 y hm4 yl => ⟨rfl, ?_⟩⟩
          rw [tS_len] at yl
          try dsimp only [DL.S.sE, DL.S.sM, DL.S.aM, DL.S.cM, DL.st, DL.gt, DL.sm, DL.gm, DL.putM, DL.pick, DL.muks, DL.nthN, DL.bkE, DL.st0, DL.nos, List.cons_append, List.nil_append, List.append_nil, List.drop_succ_cons, List.drop_nil, List.drop_zero, List.drop, DL.a1, DL.a2, DL.a3, DL.cMin3, DL.aNil, DL.aCons, DL.dVar, DL.dC, DL.iI, DL.i1, DL.isB, DL.daI, DL.onE, DL.gN, List.length_cons, List.length_nil, Nat.reduceAdd, Nat.zero_add]
          rw [hu2]; clear hu2 u2
          refine seqU fun u2 hu2 => ?_
          refine ⟨nd1, rfl, by omega, divA 10 (by decide) (by decide), fun t t0 t1 => ⟨rfl, ?_⟩⟩
          try dsimp only [DL.S.sE, DL.S.sM, DL.S.aM, DL.S.cM, DL.st, DL.gt, DL.sm, DL.gm, DL.putM, DL.pick, DL.muks, DL.nthN, DL.bkE, DL.st0, DL.nos, List.cons_append, List.nil_append, List.append_nil, List.drop_succ_cons, List.drop_nil, List.drop_zero, List.drop, DL.a1, DL.a2, DL.a3, DL.cMin3, DL.aNil, DL.aCons, DL.dVar, DL.dC, DL.iI, DL.i1, DL.isB, DL.daI, DL.onE, DL.gN, List.length_cons, List.length_nil, Nat.reduceAdd, Nat.zero_add]
          refine ⟨by omega, by omega, fun (q : Nat) (s : S) => ∃ (m5 : Nat) (y : Str), s = ⟨[.no, .mu 0, .no, .no, .da (.str z), .no, .da (.str y), .no, .no, .no], [.rnd m5], 0⟩ ∧ m4 ≤ m5 + 1 + 20 * q ∧ y.length ≤ z.length + 1 + q, ⟨Nat.zero_le 1, m4 - 1, y, rfl, by omega, by omega⟩, ?_, ?_⟩
          · rintro q d s hq ⟨m5, y, rfl, hm5, yl⟩
            have q3 : q < 3 := by
              have := (List.getElem?_eq_some_iff.mp hq).1
              rw [rng_length] at this
              omega
            refine ⟨nd1, rfl, m5, y.cps.toList, by rw [← tS_of], rfl, by rw [tS_len]; omega, by omega, fun m6 y6 hm6 yl6 => ⟨rfl, ?_⟩⟩
            rw [tS_len] at yl6
            exact ⟨Nat.zero_le 1, m6, y6, rfl, by omega, by omega⟩
          · rintro s ⟨m5, y, rfl, hm5, yl⟩
            rw [rng_length] at hm5 yl
            rw [hu2]; clear hu2 u2
            refine ⟨List.nodup_nil, rfl, y.cps.toList, by rw [← tS_of], rfl, by rw [tS_len]; omega, rfl, ?_⟩
            refine ff ?_
            dsimp only [sNil]
            rw [hE3]
            exact ⟨Nat.zero_le 1, m5, rfl, by omega⟩
        · rintro s ⟨m', rfl, hm'⟩
          rw [rng_length] at hm'
          rw [hE2]
          exact ⟨Nat.zero_le 1, m', rfl, by omega⟩
    · rintro s ⟨m, rfl, hm⟩
      rw [List.length_map, hgl.1] at hm
      rw [hE]
      exact ⟨Nat.zero_le 1, m, rfl, by omega⟩
  · rintro s ⟨m, rfl, _⟩
    rw [hu]; clear hu u
    dsimp only
    obtain ⟨L1, hL1, l1⟩ : ∃ L : List Str, [PyData.str (Str.ofString ""), PyData.str (Str.ofString "@"), PyData.str (Str.ofString "."), PyData.str (Str.ofString "1."), PyData.str (Str.ofString ".5"), PyData.str (Str.ofString "1.5."), PyData.str (Str.ofString "00"), PyData.str (Str.ofString "01"), PyData.str (Str.ofString "0.0000"), PyData.str (Str.ofString "1234567890"), PyData.str (Str.ofString "1.0000"), PyData.str (Str.ofString "-1"), PyData.str (Str.ofString "+1"), PyData.str (Str.ofString "1@"), PyData.str (Str.ofString "@1")] = L.map .str ∧ L.length = 15 ∧ ∀ x ∈ L, x.length ≤ 50 := ⟨[Str.ofString "", Str.ofString "@", Str.ofString ".", Str.ofString "1.", Str.ofString ".5", Str.ofString "1.5.", Str.ofString "00", Str.ofString "01", Str.ofString "0.0000", Str.ofString "1234567890", Str.ofString "1.0000", Str.ofString "-1", Str.ofString "+1", Str.ofString "1@", Str.ofString "@1"], rfl, rfl, by decide +kernel⟩
    obtain ⟨L2, hL2, l2⟩ : ∃ L : List Str, [PyData.str (Str.ofString "1@100.01"), PyData.str (Str.ofString "1@101"), PyData.str (Str.ofString "1@100.1"), PyData.str (Str.ofString "1@0100"), PyData.str (Str.ofString "1@1.000"), PyData.str (Str.ofString "1@1+"), PyData.str (Str.ofString "1@2@3"), PyData.str (Str.ofString "1 @2"), PyData.str (Str.ofString "1@ 2"), PyData.str (Str.ofString "1@999")] = L.map .str ∧ L.length = 10 ∧ ∀ x ∈ L, x.length ≤ 50 := ⟨[Str.ofString "1@100.01", Str.ofString "1@101", Str.ofString "1@100.1", Str.ofString "1@0100", Str.ofString "1@1.000", Str.ofString "1@1+", Str.ofString "1@2@3", Str.ofString "1 @2", Str.ofString "1@ 2", Str.ofString "1@999"], rfl, rfl, by decide +kernel⟩
    refine seqU fun u hu => ?_
    refine onO_mk rfl ?_
    show u ⟨[.no, .mu 0, .no, .no, .no, .no, .no, .no, .mu 1, .no], [.rnd m, .lst [PyData.str (Str.ofString ""), PyData.str (Str.ofString "@"), PyData.str (Str.ofString "."), PyData.str (Str.ofString "1."), PyData.str (Str.ofString ".5"), PyData.str (Str.ofString "1.5."), PyData.str (Str.ofString "00"), PyData.str (Str.ofString "01"), PyData.str (Str.ofString "0.0000"), PyData.str (Str.ofString "1234567890"), PyData.str (Str.ofString "1.0000"), PyData.str (Str.ofString "-1"), PyData.str (Str.ofString "+1"), PyData.str (Str.ofString "1@"), PyData.str (Str.ofString "@1")]], 0⟩ endLaw
    rw [hL1, hu]; clear hu u hL1
    refine seqU fun u hu => ?_
    dsimp only [sSeq, sAsg, dCatM, d2, dLst, aCons, aNil, dC]
    try dsimp only [DL.S.sE, DL.S.sM, DL.S.aM, DL.S.cM, DL.st, DL.gt, DL.sm, DL.gm, DL.putM, DL.pick, DL.muks, DL.nthN, DL.bkE, DL.st0, DL.nos, List.cons_append, List.nil_append, List.append_nil, List.drop_succ_cons, List.drop_nil, List.drop_zero, List.drop, DL.a1, DL.a2, DL.a3, DL.cMin3, DL.aNil, DL.aCons, DL.dVar, DL.dC, DL.iI, DL.i1, DL.isB, DL.daI, DL.onE, DL.gN, List.length_cons, List.length_nil, Nat.reduceAdd, Nat.zero_add]
    refine onO_mk (o := allD [En.da (PyData.str (Str.ofString "1@100.01")), En.da (PyData.str (Str.ofString "1@101")), En.da (PyData.str (Str.ofString "1@100.1")), En.da (PyData.str (Str.ofString "1@0100")), En.da (PyData.str (Str.ofString "1@1.000")), En.da (PyData.str (Str.ofString "1@1+")), En.da (PyData.str (Str.ofString "1@2@3")), En.da (PyData.str (Str.ofString "1 @2")), En.da (PyData.str (Str.ofString "1@ 2")), En.da (PyData.str (Str.ofString "1@999"))]) (x := L2.map .str) (by rw [← hL2]; rfl) ?_
    refine ⟨by rw [List.length_map, List.length_map, l1.1, l2.1, sizeLine_eq]; decide, ?_⟩
    show u ⟨[.no, .mu 0, .no, .no, .no, .no, .no, .no, .mu 2, .no], [.rnd m, .lst (L1.map .str), .lst (L1.map .str ++ L2.map .str)], 0⟩ endLaw
    rw [hu]; clear hu u hL2
    refine seqU fun u hu => ?_
    refine ⟨by rw [List.length_append, List.length_map, List.length_map, l1.1, l2.1, sizeLine_eq]; decide, ?_⟩
    obtain ⟨L3, hL3, l3⟩ : ∃ L : List Str, L1.map PyData.str ++ L2.map .str ++ [.str (Str.ofString "0@100.00")] = L.map .str ∧ L.length = 26 ∧ ∀ x ∈ L, x.length ≤ 50 := ⟨L1 ++ L2 ++ [Str.ofString "0@100.00"], by rw [List.map_append, List.map_append]; rfl, by rw [List.length_append, List.length_append, l1.1, l2.1]; rfl, fun x hx => by
      rcases List.mem_append.mp hx with hx | hx
      · rcases List.mem_append.mp hx with hx | hx
        · exact l1.2 x hx
        · exact l2.2 x hx
      · cases List.mem_singleton.mp hx
        exact (by decide : (Str.ofString "0@100.00").length ≤ 50)⟩
    show u ⟨[.no, .mu 0, .no, .no, .no, .no, .no, .no, .mu 2, .no], [.rnd m, .lst (L1.map .str), .lst (L1.map .str ++ L2.map .str ++ [.str (Str.ofString "0@100.00")])], 0⟩ endLaw
    rw [hL3, hu]; clear hu u hL3
    refine ⟨Nat.zero_le 2, ?_⟩
    show sRet _ ⟨[.no, .mu 0, .no, .no, .no, .no, .no, .no, .da (.list (L3.map .str)), .no], [.rnd m, .lst (L1.map .str), .gone], 0⟩ endLaw
    refine ⟨fun (i : Nat) (mo : List MO) (acc : List D) => mo = [.rnd m, .lst (L1.map .str), .gone] ∧ acc = (List.replicate i true).map .bool, ⟨rfl, rfl⟩, ?_, ?_⟩
    · rintro i d mo acc hi ⟨rfl, rfl⟩ _
      obtain ⟨x, hx, rfl⟩ := mapG hi
      have xl := l3.2 x (List.mem_of_getElem? hx)
      have i5 := (List.getElem?_eq_some_iff.mp hx).1
      refine tt ?_
      refine ⟨List.nodup_nil, rfl, x.cps.toList, by rw [← tS_of], rfl, by rw [tS_len]; omega, rfl, ?_⟩
      refine ⟨by rw [List.length_map, List.length_replicate, sizeLine_eq]; omega, rfl, rfl, ?_⟩
      rw [List.replicate_succ', List.map_append]
      rfl
    · rintro mo acc ⟨rfl, rfl⟩ _
      refine ⟨_, rfl, ?_⟩
      rw [List.length_map, l3.1]
      rfl
end
theorem law_all {f : Addr} {fd : FuncData} {P : Program} {w : World} {K : PySem.W.Frag} {mg : Str → Option Value} {base : Heap} (F : Fun K "law" "law" s_law f fd) (T : Tx K mg) : FnOkG P w K mg base CX0 10 f fd ["_law_script"] (spLawH K) := by
  have h_take : Ok P w K mg base 1 "_law_take" s_take ["_law_state", "_law_many"] 2 spTake := o_take' T
  have h_is_figures := ok_is_figures (P := P) (w := w) (base := base) T 
  have h_parts := ok_parts (P := P) (w := w) (base := base) T 
  have h_read_number := ok_read_number (P := P) (w := w) (base := base) T h_is_figures
  have h_written := ok_written (P := P) (w := w) (base := base) T h_take
  have h_measure_of := ok_measure_of (P := P) (w := w) (base := base) T h_parts
  have h_bent := ok_bent (P := P) (w := w) (base := base) T h_take
  have h_read_bulk := ok_read_bulk (P := P) (w := w) (base := base) T h_read_number
  have h_read_measure := ok_read_measure (P := P) (w := w) (base := base) T h_read_number
  have h_told := ok_told (P := P) (w := w) (base := base) T h_read_bulk h_read_measure
  have h_same := ok_same (P := P) (w := w) (base := base) T 
  have h_right := ok_right (P := P) (w := w) (base := base) T h_measure_of h_parts h_same h_told
  exact ok_law' F T h_bent h_right h_take h_written
theorem all_mk {l : PySem.W.OpenLaw} {w : World} {K : PySem.W.Frag} {h : Heap} {mg : Str → Option Value} {fa : Addr} (X : K.In h) (G : h.Ns mainGlobals mg) (hfa : mg "law" = some (.ref fa))
    {f0 : Addr} {od0 an0 : Option Addr} {sl0 : Array (Option Value)} {oc0 kV0 dc0 pm0 cd0 ct0 : Value}
    {f1 : Addr} {od1 an1 : Option Addr} {sl1 : Array (Option Value)} {oc1 kV1 dc1 pm1 cd1 ct1 : Value}
    {f2 : Addr} {od2 an2 : Option Addr} {sl2 : Array (Option Value)} {oc2 kV2 dc2 pm2 cd2 ct2 : Value}
    {f3 : Addr} {od3 an3 : Option Addr} {sl3 : Array (Option Value)} {oc3 kV3 dc3 pm3 cd3 ct3 : Value}
    {f4 : Addr} {od4 an4 : Option Addr} {sl4 : Array (Option Value)} {oc4 kV4 dc4 pm4 cd4 ct4 : Value}
    {f5 : Addr} {od5 an5 : Option Addr} {sl5 : Array (Option Value)} {oc5 kV5 dc5 pm5 cd5 ct5 : Value}
    {f6 : Addr} {od6 an6 : Option Addr} {sl6 : Array (Option Value)} {oc6 kV6 dc6 pm6 cd6 ct6 : Value}
    {f7 : Addr} {od7 an7 : Option Addr} {sl7 : Array (Option Value)} {oc7 kV7 dc7 pm7 cd7 ct7 : Value}
    {f8 : Addr} {od8 an8 : Option Addr} {sl8 : Array (Option Value)} {oc8 kV8 dc8 pm8 cd8 ct8 : Value}
    {f9 : Addr} {od9 an9 : Option Addr} {sl9 : Array (Option Value)} {oc9 kV9 dc9 pm9 cd9 ct9 : Value}
    {f10 : Addr} {od10 an10 : Option Addr} {sl10 : Array (Option Value)} {oc10 kV10 dc10 pm10 cd10 ct10 : Value}
    {f11 : Addr} {od11 an11 : Option Addr} {sl11 : Array (Option Value)} {oc11 kV11 dc11 pm11 cd11 ct11 : Value}
    {f12 : Addr} {od12 an12 : Option Addr} {sl12 : Array (Option Value)} {oc12 kV12 dc12 pm12 cd12 ct12 : Value}
    {f13 : Addr} {od13 an13 : Option Addr} {sl13 : Array (Option Value)} {oc13 kV13 dc13 pm13 cd13 ct13 : Value}
    {E_BadRow : Addr}
    {E_BadText : Addr}
    {E_BondError : Addr}
    {E_NoCask : Addr}
    {E_NoDeed : Addr}
    {E_NoPage : Addr}
    {E_Twice : Addr}
    {E_Unfit : Addr}
    {t_FIGURES : Nat}
    {t_FULL : Nat}
    (aX_BadRow : PySem.W.nsIn K mainGlobals "BadRow" = some (some (.ref E_BadRow)))
    (aX_BadText : PySem.W.nsIn K mainGlobals "BadText" = some (some (.ref E_BadText)))
    (aX_BondError : PySem.W.nsIn K mainGlobals "BondError" = some (some (.ref E_BondError)))
    (aX_NoCask : PySem.W.nsIn K mainGlobals "NoCask" = some (some (.ref E_NoCask)))
    (aX_NoDeed : PySem.W.nsIn K mainGlobals "NoDeed" = some (some (.ref E_NoDeed)))
    (aX_NoPage : PySem.W.nsIn K mainGlobals "NoPage" = some (some (.ref E_NoPage)))
    (aX_Twice : PySem.W.nsIn K mainGlobals "Twice" = some (some (.ref E_Twice)))
    (aX_Unfit : PySem.W.nsIn K mainGlobals "Unfit" = some (some (.ref E_Unfit)))
    (x1_BadText : PySem.W.excIn K E_BadText [.type "ValueError", .type "Exception", .type "BaseException", .type "object"] "ValueError.__new__" = true) (x2_BadText : PySem.W.keepIn K (.ref E_BadText) = true) (x3_BadText : PySem.W.subIn K (.ref E_BadText) (.type "BaseException") = some true) (x4_BadText : PySem.W.typeIn K (.ref E_BadText) = some (.type "type"))
    (xm_BadText_BondError : PySem.W.exmOne K (.ref E_BadText) (.ref E_BondError) = some true)
    (y1_BadText : PySem.W.findIn K (.ref E_BadText) "__getattribute__" = some (some (.builtin "BaseException.__getattribute__"))) (y2_BadText : PySem.W.findIn K (.ref E_BadText) "__getattr__" = some none) (y4_BadText : PySem.W.hasDictIn K E_BadText = true) (y5_BadText : PySem.W.findIn K (.ref E_BadText) "__class__" = some (some (.builtin "object.__class__"))) (y8_BadText : PySem.W.mroIn K E_BadText (.type "object") = some true)
    (xi_BadText_ValueError : PySem.W.kitOne K (.ref E_BadText) (.type "ValueError") = some true)
    (xi_BadText_Twice_NoPage_NoDeed_NoCask_Unfit_BadRow : PySem.W.kitAny K (.ref E_BadText) [.ref E_Twice, .ref E_NoPage, .ref E_NoDeed, .ref E_NoCask, .ref E_Unfit, .ref E_BadRow] = some false)
    (xi_BadText_BadText : PySem.W.kitOne K (.ref E_BadText) (.ref E_BadText) = some true)
    (y6 : PySem.W.specialIn K (.builtin "object.__class__") "__get__" = some (some (.builtin "getset_descriptor.__get__"))) (y7 : PySem.W.takesIn K (.builtin "object.__class__") = some true)
    (a0 : PySem.W.nsIn K mainGlobals "is_figures" = some (some (.ref f0))) (l0 : K.lookup f0 = some ⟨oc0, od0, .func (PySem.W.fnOf "is_figures" "is_figures" (defArgs s_is_figures) (defBody s_is_figures) (defScope s_is_figures) .none kV0 dc0 pm0 an0 cd0 ct0), sl0⟩) (c0 : PySem.W.codeIn K cd0 "is_figures" = true) (k0 : PySem.W.keepIn K (.ref f0) = true)
    (a1 : PySem.W.nsIn K mainGlobals "read_number" = some (some (.ref f1))) (l1 : K.lookup f1 = some ⟨oc1, od1, .func (PySem.W.fnOf "read_number" "read_number" (defArgs s_read_number) (defBody s_read_number) (defScope s_read_number) .none kV1 dc1 pm1 an1 cd1 ct1), sl1⟩) (c1 : PySem.W.codeIn K cd1 "read_number" = true) (k1 : PySem.W.keepIn K (.ref f1) = true)
    (a2 : PySem.W.nsIn K mainGlobals "read_bulk" = some (some (.ref f2))) (l2 : K.lookup f2 = some ⟨oc2, od2, .func (PySem.W.fnOf "read_bulk" "read_bulk" (defArgs s_read_bulk) (defBody s_read_bulk) (defScope s_read_bulk) .none kV2 dc2 pm2 an2 cd2 ct2), sl2⟩) (c2 : PySem.W.codeIn K cd2 "read_bulk" = true) (k2 : PySem.W.keepIn K (.ref f2) = true)
    (a3 : PySem.W.nsIn K mainGlobals "read_measure" = some (some (.ref f3))) (l3 : K.lookup f3 = some ⟨oc3, od3, .func (PySem.W.fnOf "read_measure" "read_measure" (defArgs s_read_measure) (defBody s_read_measure) (defScope s_read_measure) .none kV3 dc3 pm3 an3 cd3 ct3), sl3⟩) (c3 : PySem.W.codeIn K cd3 "read_measure" = true) (k3 : PySem.W.keepIn K (.ref f3) = true)
    (a4 : PySem.W.nsIn K mainGlobals "_law_begin" = some (some (.ref f4))) (l4 : K.lookup f4 = some ⟨oc4, od4, .func (PySem.W.fnOf "_law_begin" "_law_begin" (defArgs s_begin) (defBody s_begin) (defScope s_begin) .none kV4 dc4 pm4 an4 cd4 ct4), sl4⟩) (c4 : PySem.W.codeIn K cd4 "_law_begin" = true) (k4 : PySem.W.keepIn K (.ref f4) = true)
    (a5 : PySem.W.nsIn K mainGlobals "_law_take" = some (some (.ref f5))) (l5 : K.lookup f5 = some ⟨oc5, od5, .func (PySem.W.fnOf "_law_take" "_law_take" (defArgs s_take) (defBody s_take) (defScope s_take) .none kV5 dc5 pm5 an5 cd5 ct5), sl5⟩) (c5 : PySem.W.codeIn K cd5 "_law_take" = true) (k5 : PySem.W.keepIn K (.ref f5) = true)
    (a6 : PySem.W.nsIn K mainGlobals "_law_same" = some (some (.ref f6))) (l6 : K.lookup f6 = some ⟨oc6, od6, .func (PySem.W.fnOf "_law_same" "_law_same" (defArgs s_same) (defBody s_same) (defScope s_same) .none kV6 dc6 pm6 an6 cd6 ct6), sl6⟩) (c6 : PySem.W.codeIn K cd6 "_law_same" = true) (k6 : PySem.W.keepIn K (.ref f6) = true)
    (a7 : PySem.W.nsIn K mainGlobals "_law_written" = some (some (.ref f7))) (l7 : K.lookup f7 = some ⟨oc7, od7, .func (PySem.W.fnOf "_law_written" "_law_written" (defArgs s_written) (defBody s_written) (defScope s_written) .none kV7 dc7 pm7 an7 cd7 ct7), sl7⟩) (c7 : PySem.W.codeIn K cd7 "_law_written" = true) (k7 : PySem.W.keepIn K (.ref f7) = true)
    (a8 : PySem.W.nsIn K mainGlobals "_law_parts" = some (some (.ref f8))) (l8 : K.lookup f8 = some ⟨oc8, od8, .func (PySem.W.fnOf "_law_parts" "_law_parts" (defArgs s_parts) (defBody s_parts) (defScope s_parts) .none kV8 dc8 pm8 an8 cd8 ct8), sl8⟩) (c8 : PySem.W.codeIn K cd8 "_law_parts" = true) (k8 : PySem.W.keepIn K (.ref f8) = true)
    (a9 : PySem.W.nsIn K mainGlobals "_law_told" = some (some (.ref f9))) (l9 : K.lookup f9 = some ⟨oc9, od9, .func (PySem.W.fnOf "_law_told" "_law_told" (defArgs s_told) (defBody s_told) (defScope s_told) .none kV9 dc9 pm9 an9 cd9 ct9), sl9⟩) (c9 : PySem.W.codeIn K cd9 "_law_told" = true) (k9 : PySem.W.keepIn K (.ref f9) = true)
    (a10 : PySem.W.nsIn K mainGlobals "_law_measure_of" = some (some (.ref f10))) (l10 : K.lookup f10 = some ⟨oc10, od10, .func (PySem.W.fnOf "_law_measure_of" "_law_measure_of" (defArgs s_measure_of) (defBody s_measure_of) (defScope s_measure_of) .none kV10 dc10 pm10 an10 cd10 ct10), sl10⟩) (c10 : PySem.W.codeIn K cd10 "_law_measure_of" = true) (k10 : PySem.W.keepIn K (.ref f10) = true)
    (a11 : PySem.W.nsIn K mainGlobals "_law_bent" = some (some (.ref f11))) (l11 : K.lookup f11 = some ⟨oc11, od11, .func (PySem.W.fnOf "_law_bent" "_law_bent" (defArgs s_bent) (defBody s_bent) (defScope s_bent) .none kV11 dc11 pm11 an11 cd11 ct11), sl11⟩) (c11 : PySem.W.codeIn K cd11 "_law_bent" = true) (k11 : PySem.W.keepIn K (.ref f11) = true)
    (a12 : PySem.W.nsIn K mainGlobals "_law_right" = some (some (.ref f12))) (l12 : K.lookup f12 = some ⟨oc12, od12, .func (PySem.W.fnOf "_law_right" "_law_right" (defArgs s_right) (defBody s_right) (defScope s_right) .none kV12 dc12 pm12 an12 cd12 ct12), sl12⟩) (c12 : PySem.W.codeIn K cd12 "_law_right" = true) (k12 : PySem.W.keepIn K (.ref f12) = true)
    (a13 : PySem.W.nsIn K mainGlobals "law" = some (some (.ref f13))) (l13 : K.lookup f13 = some ⟨oc13, od13, .func (PySem.W.fnOf "law" "law" (defArgs s_law) (defBody s_law) (defScope s_law) .none kV13 dc13 pm13 an13 cd13 ct13), sl13⟩) (c13 : PySem.W.codeIn K cd13 "law" = true) (k13 : PySem.W.keepIn K (.ref f13) = true)
    (z_ValueError : PySem.W.nsIn K mainGlobals "ValueError" = some none)
    (z_all : PySem.W.nsIn K mainGlobals "all" = some none)
    (z_bool : PySem.W.nsIn K mainGlobals "bool" = some none)
    (z_divmod : PySem.W.nsIn K mainGlobals "divmod" = some none)
    (z_int : PySem.W.nsIn K mainGlobals "int" = some none)
    (z_isinstance : PySem.W.nsIn K mainGlobals "isinstance" = some none)
    (z_len : PySem.W.nsIn K mainGlobals "len" = some none)
    (z_list : PySem.W.nsIn K mainGlobals "list" = some none)
    (z_range : PySem.W.nsIn K mainGlobals "range" = some none)
    (z_str : PySem.W.nsIn K mainGlobals "str" = some none)
    (z_tuple : PySem.W.nsIn K mainGlobals "tuple" = some none)
    (z_zip : PySem.W.nsIn K mainGlobals "zip" = some none)
    (q_FIGURES : PySem.W.nsIn K mainGlobals "FIGURES" = some (some (.str "0123456789" t_FIGURES)))
    (q_FULL : PySem.W.nsIn K mainGlobals "FULL" = some (some (.int 10000 t_FULL)))
    : ∃ fd : FuncData, (∀ (s : Shared) (v : Value), BindsTo s fd ⟨[v], []⟩ [("_law_script", v)]) ∧ ∀ base : Heap, K.In base → base.Ns mainGlobals mg → FnOkG l.prog w K mg base CX0 10 fa fd ["_law_script"] (spLawH K) := by
  have e := hfa.symm.trans (PySem.W.mg_of X G a13)
  cases e
  have FL := fun_mk (st := s_law) l13 c13 k13
  have F0 := fun_mk (st := s_is_figures) l0 c0 k0
  have b0 := F0.binds (ps := ["text", "most"]) fun _ _ _ _ _ _ us hl => match us, hl with | [_, _], _ => rfl
  have F1 := fun_mk (st := s_read_number) l1 c1 k1
  have b1 := F1.binds (ps := ["text", "most", "places"]) fun _ _ _ _ _ _ us hl => match us, hl with | [_, _, _], _ => rfl
  have F2 := fun_mk (st := s_read_bulk) l2 c2 k2
  have b2 := F2.binds (ps := ["text"]) fun _ _ _ _ _ _ us hl => match us, hl with | [_], _ => rfl
  have F3 := fun_mk (st := s_read_measure) l3 c3 k3
  have b3 := F3.binds (ps := ["text"]) fun _ _ _ _ _ _ us hl => match us, hl with | [_], _ => rfl
  have F4 := fun_mk (st := s_begin) l4 c4 k4
  have b4 := F4.binds (ps := ["_law_script"]) fun _ _ _ _ _ _ us hl => match us, hl with | [_], _ => rfl
  have F5 := fun_mk (st := s_take) l5 c5 k5
  have b5 := F5.binds (ps := ["_law_state", "_law_many"]) fun _ _ _ _ _ _ us hl => match us, hl with | [_, _], _ => rfl
  have F6 := fun_mk (st := s_same) l6 c6 k6
  have b6 := F6.binds (ps := ["_law_found", "_law_due"]) fun _ _ _ _ _ _ us hl => match us, hl with | [_, _], _ => rfl
  have F7 := fun_mk (st := s_written) l7 c7 k7
  have b7 := F7.binds (ps := ["_law_state", "_law_most", "_law_places"]) fun _ _ _ _ _ _ us hl => match us, hl with | [_, _, _], _ => rfl
  have F8 := fun_mk (st := s_parts) l8 c8 k8
  have b8 := F8.binds (ps := ["_law_text", "_law_most", "_law_places"]) fun _ _ _ _ _ _ us hl => match us, hl with | [_, _, _], _ => rfl
  have F9 := fun_mk (st := s_told) l9 c9 k9
  have b9 := F9.binds (ps := ["_law_which", "_law_text"]) fun _ _ _ _ _ _ us hl => match us, hl with | [_, _], _ => rfl
  have F10 := fun_mk (st := s_measure_of) l10 c10 k10
  have b10 := F10.binds (ps := ["_law_text"]) fun _ _ _ _ _ _ us hl => match us, hl with | [_], _ => rfl
  have F11 := fun_mk (st := s_bent) l11 c11 k11
  have b11 := F11.binds (ps := ["_law_state", "_law_text"]) fun _ _ _ _ _ _ us hl => match us, hl with | [_, _], _ => rfl
  have F12 := fun_mk (st := s_right) l12 c12 k12
  have b12 := F12.binds (ps := ["_law_text"]) fun _ _ _ _ _ _ us hl => match us, hl with | [_], _ => rfl
  have T : Tx K mg := ⟨⟨_, _, F0, PySem.W.mg_of X G a0, k0, b0⟩,
    ⟨_, _, F1, PySem.W.mg_of X G a1, k1, b1⟩,
    ⟨_, _, F2, PySem.W.mg_of X G a2, k2, b2⟩,
    ⟨_, _, F3, PySem.W.mg_of X G a3, k3, b3⟩,
    ⟨_, _, F4, PySem.W.mg_of X G a4, k4, b4⟩,
    ⟨_, _, F5, PySem.W.mg_of X G a5, k5, b5⟩,
    ⟨_, _, F6, PySem.W.mg_of X G a6, k6, b6⟩,
    ⟨_, _, F7, PySem.W.mg_of X G a7, k7, b7⟩,
    ⟨_, _, F8, PySem.W.mg_of X G a8, k8, b8⟩,
    ⟨_, _, F9, PySem.W.mg_of X G a9, k9, b9⟩,
    ⟨_, _, F10, PySem.W.mg_of X G a10, k10, b10⟩,
    ⟨_, _, F11, PySem.W.mg_of X G a11, k11, b11⟩,
    ⟨_, _, F12, PySem.W.mg_of X G a12, k12, b12⟩,
    PySem.W.mg_none_of X G z_ValueError,
    PySem.W.mg_none_of X G z_all,
    PySem.W.mg_none_of X G z_bool,
    PySem.W.mg_none_of X G z_divmod,
    PySem.W.mg_none_of X G z_int,
    PySem.W.mg_none_of X G z_isinstance,
    PySem.W.mg_none_of X G z_len,
    PySem.W.mg_none_of X G z_list,
    PySem.W.mg_none_of X G z_range,
    PySem.W.mg_none_of X G z_str,
    PySem.W.mg_none_of X G z_tuple,
    PySem.W.mg_none_of X G z_zip,
    ⟨_, PySem.W.mg_of X G aX_BadText, aX_BadText, x1_BadText, x2_BadText, x3_BadText, x4_BadText⟩,
    ⟨_, PySem.W.mg_of X G aX_BondError, fun p hp D hD => by
      rcases List.mem_cons.mp hp with rfl | hp
      · cases (show PySem.W.nsIn K mainGlobals (Str.ofString "BadText") = _ from hD).symm.trans aX_BadText; exact xm_BadText_BondError
      cases hp⟩,
    ⟨_, _, .inl ⟨rfl, rfl, rfl, PySem.W.mg_none_of X G z_ValueError⟩, fun p hp D hD => by
      rcases List.mem_cons.mp hp with rfl | hp
      · cases (show PySem.W.nsIn K mainGlobals (Str.ofString "BadText") = _ from hD).symm.trans aX_BadText; exact ⟨⟨y1_BadText, y2_BadText, x3_BadText, y4_BadText, y5_BadText, y6, y7, y8_BadText⟩, xi_BadText_ValueError⟩
      cases hp⟩,
    ⟨[E_Twice, E_NoPage, E_NoDeed, E_NoCask, E_Unfit, E_BadRow], by
      simp only [List.map_cons, List.map_nil]
      rw [show mg (Str.ofString "Twice") = _ from PySem.W.mg_of X G aX_Twice, show mg (Str.ofString "NoPage") = _ from PySem.W.mg_of X G aX_NoPage, show mg (Str.ofString "NoDeed") = _ from PySem.W.mg_of X G aX_NoDeed, show mg (Str.ofString "NoCask") = _ from PySem.W.mg_of X G aX_NoCask, show mg (Str.ofString "Unfit") = _ from PySem.W.mg_of X G aX_Unfit, show mg (Str.ofString "BadRow") = _ from PySem.W.mg_of X G aX_BadRow], fun p hp D hD => by
      rcases List.mem_cons.mp hp with rfl | hp
      · cases (show PySem.W.nsIn K mainGlobals (Str.ofString "BadText") = _ from hD).symm.trans aX_BadText; exact ⟨⟨y1_BadText, y2_BadText, x3_BadText, y4_BadText, y5_BadText, y6, y7, y8_BadText⟩, xi_BadText_Twice_NoPage_NoDeed_NoCask_Unfit_BadRow⟩
      cases hp⟩,
    ⟨_, _, .inr ⟨_, rfl, rfl, PySem.W.mg_of X G aX_BadText⟩, fun p hp D hD => by
      rcases List.mem_cons.mp hp with rfl | hp
      · cases (show PySem.W.nsIn K mainGlobals (Str.ofString "BadText") = _ from hD).symm.trans aX_BadText; exact ⟨⟨y1_BadText, y2_BadText, x3_BadText, y4_BadText, y5_BadText, y6, y7, y8_BadText⟩, xi_BadText_BadText⟩
      cases hp⟩,
    ⟨_, PySem.W.mg_of X G q_FIGURES⟩,
    ⟨_, PySem.W.mg_of X G q_FULL⟩⟩
  exact ⟨PySem.W.fnOf "law" "law" (defArgs s_law) (defBody s_law) (defScope s_law) .none kV13 dc13 pm13 an13 cd13 ct13, fun s v => .of_eq rfl, fun base _ _ => law_all FL T⟩
end K03
open PySem PySem.W PyProof.Rows
set_option maxHeartbeats 0 in
theorem PySem.Challenge.cw_strengthbond_k03_measures_spoilt_anywher_holds : PySem.Challenge.rw_strengthbond_k03_measures_spoilt_anywher.Holds := by
  w_on; o_law; k_head; (case hw => w_witness2)
  k_fill
  refine DL.walk_byG (l := PySem.Challenge.rw_strengthbond_k03_measures_spoilt_anywher) (n := 63) (k := 10) (x := "_law_script") (CX := fun _ => L2.CX0) (sp := fun w => DL.spLawH _) rfl (by decide) rfl ⟨rfl, by decide, by decide⟩ (fun w h Y => PySem.W.kIn_of Y) ?F (fun _ _ a ns hl _ hS => ⟨a, ns, rfl, hS, hl, fun _ => rfl⟩) (fun _ _ _ _ _ h => h)
  case F =>
    intro w mg fa h KX G hmg
    refine' K03.all_mk KX G hmg ?aX_BadRow ?aX_BadText ?aX_BondError ?aX_NoCask ?aX_NoDeed ?aX_NoPage ?aX_Twice ?aX_Unfit ?x1_BadText ?x2_BadText ?x3_BadText ?x4_BadText ?xm_BadText_BondError ?y1_BadText ?y2_BadText ?y4_BadText ?y5_BadText ?y8_BadText ?xi_BadText_ValueError ?xi_BadText_Twice_NoPage_NoDeed_NoCask_Unfit_BadRow ?xi_BadText_BadText ?y6 ?y7 ?a0 ?l0 ?c0 ?k0 ?a1 ?l1 ?c1 ?k1 ?a2 ?l2 ?c2 ?k2 ?a3 ?l3 ?c3 ?k3 ?a4 ?l4 ?c4 ?k4 ?a5 ?l5 ?c5 ?k5 ?a6 ?l6 ?c6 ?k6 ?a7 ?l7 ?c7 ?k7 ?a8 ?l8 ?c8 ?k8 ?a9 ?l9 ?c9 ?k9 ?a10 ?l10 ?c10 ?k10 ?a11 ?l11 ?c11 ?k11 ?a12 ?l12 ?c12 ?k12 ?a13 ?l13 ?c13 ?k13 ?z_ValueError ?z_all ?z_bool ?z_divmod ?z_int ?z_isinstance ?z_len ?z_list ?z_range ?z_str ?z_tuple ?z_zip ?q_FIGURES ?q_FULL
    (case aX_BadRow => k_is)
    (case aX_BadText => k_is)
    (case aX_BondError => k_is)
    (case aX_NoCask => k_is)
    (case aX_NoDeed => k_is)
    (case aX_NoPage => k_is)
    (case aX_Twice => k_is)
    (case aX_Unfit => k_is)
    (case x1_BadText => k_exc)
    (case x2_BadText => k_is)
    (case x3_BadText => k_is)
    (case x4_BadText => k_is)
    (case xm_BadText_BondError => kernel_rfl)
    (case y1_BadText => k_is)
    (case y2_BadText => k_is)
    (case y4_BadText => k_is)
    (case y5_BadText => k_is)
    (case y8_BadText => k_is)
    (case xi_BadText_ValueError => kernel_rfl)
    (case xi_BadText_Twice_NoPage_NoDeed_NoCask_Unfit_BadRow => kernel_rfl)
    (case xi_BadText_BadText => kernel_rfl)
    (case y6 => k_is)
    (case y7 => k_is)
    (case a0 => k_is)
    (case l0 => k_is)
    (case c0 => k_is)
    (case k0 => k_is)
    (case a1 => k_is)
    (case l1 => k_is)
    (case c1 => k_is)
    (case k1 => k_is)
    (case a2 => k_is)
    (case l2 => k_is)
    (case c2 => k_is)
    (case k2 => k_is)
    (case a3 => k_is)
    (case l3 => k_is)
    (case c3 => k_is)
    (case k3 => k_is)
    (case a4 => k_is)
    (case l4 => k_is)
    (case c4 => k_is)
    (case k4 => k_is)
    (case a5 => k_is)
    (case l5 => k_is)
    (case c5 => k_is)
    (case k5 => k_is)
    (case a6 => k_is)
    (case l6 => k_is)
    (case c6 => k_is)
    (case k6 => k_is)
    (case a7 => k_is)
    (case l7 => k_is)
    (case c7 => k_is)
    (case k7 => k_is)
    (case a8 => k_is)
    (case l8 => k_is)
    (case c8 => k_is)
    (case k8 => k_is)
    (case a9 => k_is)
    (case l9 => k_is)
    (case c9 => k_is)
    (case k9 => k_is)
    (case a10 => k_is)
    (case l10 => k_is)
    (case c10 => k_is)
    (case k10 => k_is)
    (case a11 => k_is)
    (case l11 => k_is)
    (case c11 => k_is)
    (case k11 => k_is)
    (case a12 => k_is)
    (case l12 => k_is)
    (case c12 => k_is)
    (case k12 => k_is)
    (case a13 => k_is)
    (case l13 => k_is)
    (case c13 => k_is)
    (case k13 => k_is)
    (case z_ValueError => k_is)
    (case z_all => k_is)
    (case z_bool => k_is)
    (case z_divmod => k_is)
    (case z_int => k_is)
    (case z_isinstance => k_is)
    (case z_len => k_is)
    (case z_list => k_is)
    (case z_range => k_is)
    (case z_str => k_is)
    (case z_tuple => k_is)
    (case z_zip => k_is)
    (case q_FIGURES => k_is)
    (case q_FULL => k_is)
