import PyProof.Rows.All
import Wide.All
import OpenK.AllK
import Wide.FinOn
import HandS.ForMost
import HandS.Lambda
import HandS.Wide
import HandS.WideBits
import HandS.IsInst
import HandS.Style
import HandS.NoneIn
import HandS.Zip
import HandS.Rev
import HandS.TupAny
import HandS.SortInts
import HandS.Small
import HandS.Ends
import HandS.Words
import HandS.Flt
import KE.DataMinMax
import KE.DataCmp
import KE.DataAny
import KE.SortKeyHeap
import HandS.Deep
import HandS.Steps
import HandS.DictTup
import HandS.ListItems
import HandS.More
import HandS.WordsDict
import KE.GoesEnum
import KE.GoesZip
import HandS.Text
import PyProof.IsRules
import HandS.SortKw
import HandS.Keys
import HandS.TupSets
import HandS.SetFor
import PyProof.ReprRoads
import PyProof.StrLawsRepr
import PyProof.FitsInt
import PyProof.CallStr
import HandS.RaiseMore
import PyProof.ReprText
import PyProof.Rows.ReprOcc
import PyProof.TwoTypes
import PyProof.TwoTypesSub
import PyProof.Rows.RuleB_bool
import PyProof.Walk
import PyProof.WalkLemmas
import PyProof.FactsAll.bool
import PyProof.FactsAll.int
import PyProof.FactsAll.subtypes_1
import HandS.Nested
import HandS.EndBits
import KE.DataFind
import HandS.Conv
import HandS.Walk
import HandS.SetTxt0
import KE.KTupSum
import HandS.TupMul
import HandS.Exc
import HandS.ExcOwn
import HandS.ExcIs
import HandS.WordsExc
import KE.KEqDict
import KE.KDictList
import HandS.ClsMeth
import PySem.Challenge.RW_strengthbond_k69_deeds_undone
set_option Elab.async false
set_option linter.all false
set_option maxRecDepth 100000
set_option maxHeartbeats 4000000
namespace DL
open PySem L2
abbrev D := PyData
def LsR (A : Addr → Prop) (H : Hp) (a : Addr) (xs : List V) : Prop := H a = some (.lst xs) ∧ ¬ A a
def TuR (K : PySem.W.Frag) (A : Addr → Prop) (H : Hp) (a : Addr) (xs : List V) : Prop := (H a = some (.tup xs) ∧ ¬ A a) ∨ ∀ H' : Hp, SqT K H' a xs
theorem LsR.sq {K : PySem.W.Frag} {A : Addr → Prop} {H : Hp} {a : Addr} {xs : List V} (h : LsR A H a xs) : SqL K H a xs := .inl (.inl h.1)
theorem TuR.sq {K : PySem.W.Frag} {A : Addr → Prop} {H : Hp} {a : Addr} {xs : List V} (h : TuR K A H a xs) : SqT K H a xs := h.elim (fun q => .inl (.inl q.1)) fun q => q H
def kD : Key → D
  | .inl i => .int i
  | .inr x => .str x
mutual
inductive Rp (K : PySem.W.Frag) (A : Addr → Prop) (H : Hp) : V → D → Prop
  | non : Rp K A H .non .none
  | bl (b : Bool) : Rp K A H (.bl b) (.bool b)
  | int (i : Int) : Rp K A H (.int i) (.int i)
  | str (x : Str) : Rp K A H (.str x) (.str x)
  | lst {a : Addr} {xs : List V} {ds : List D} : LsR A H a xs → RpL K A H xs ds → Rp K A H (.ref a) (.list ds)
  | tup {a : Addr} {xs : List V} {ds : List D} : TuR K A H a xs → RpL K A H xs ds → Rp K A H (.ref a) (.tuple ds)
  | dct {a : Addr} {o : Obj} {ws : List (Key × V)} {kvs : List (Key × D)} : H a = some (.frz o (.dK ws)) → ¬ A a → RpK K A H ws kvs → Rp K A H (.ref a) (.dict (kvs.map fun z => (kD z.1, z.2)))
inductive RpL (K : PySem.W.Frag) (A : Addr → Prop) (H : Hp) : List V → List D → Prop
  | nil : RpL K A H [] []
  | cons {v : V} {vs : List V} {d : D} {ds : List D} : Rp K A H v d → RpL K A H vs ds → RpL K A H (v :: vs) (d :: ds)
inductive RpK (K : PySem.W.Frag) (A : Addr → Prop) (H : Hp) : List (Key × V) → List (Key × D) → Prop
  | nil : RpK K A H [] []
  | cons {k : Key} {v : V} {vs : List (Key × V)} {d : D} {ds : List (Key × D)} : Rp K A H v d → RpK K A H vs ds → RpK K A H ((k, v) :: vs) ((k, d) :: ds)
end
section
variable {K : PySem.W.Frag} {A A' : Addr → Prop} {H H' : Hp}
def Kp (A : Addr → Prop) (H : Hp) (A' : Addr → Prop) (H' : Hp) : Prop := ∀ a u, ¬ A a → H a = some u → H' a = some u ∧ ¬ A' a
theorem Kp.refl : Kp A H A H := fun _ _ n r => ⟨r, n⟩
theorem Kp.trans {A'' : Addr → Prop} {H'' : Hp} (p : Kp A H A' H') (q : Kp A' H' A'' H'') : Kp A H A'' H'' := fun a u n r => q a u (p a u n r).2 (p a u n r).1
mutual
theorem Rp.mono (h : Kp A H A' H') : ∀ {v : V} {d : D}, Rp K A H v d → Rp K A' H' v d
  | _, _, .non => .non
  | _, _, .bl b => .bl b
  | _, _, .int i => .int i
  | _, _, .str x => .str x
  | _, _, .lst l r => .lst (h _ _ l.2 l.1) (RpL.mono h r)
  | _, _, .tup l r => .tup (l.elim (fun q => .inl (h _ _ q.2 q.1)) .inr) (RpL.mono h r)
  | _, _, .dct l n r => .dct (h _ _ n l).1 (h _ _ n l).2 (RpK.mono h r)
theorem RpL.mono (h : Kp A H A' H') : ∀ {v : List V} {d : List D}, RpL K A H v d → RpL K A' H' v d
  | _, _, .nil => .nil
  | _, _, .cons a b => .cons (Rp.mono h a) (RpL.mono h b)
theorem RpK.mono (h : Kp A H A' H') : ∀ {v : List (Key × V)} {d : List (Key × D)}, RpK K A H v d → RpK K A' H' v d
  | _, _, .nil => .nil
  | _, _, .cons a b => .cons (Rp.mono h a) (RpK.mono h b)
end
mutual
theorem Rp.dp : ∀ {v : V} {d : D}, Rp K A H v d → d.canLay0 = true → Dp K H v d
  | _, _, .non, _ => .non
  | _, _, .bl b, _ => .bl b
  | _, _, .int i, _ => .int i
  | _, _, .str x, _ => .str x
  | _, _, .lst l r, h => .lst l.sq (RpL.dp r (by simpa only [PyData.canLay0] using h))
  | _, _, .tup l r, h => .tup l.sq (RpL.dp r (by simpa only [PyData.canLay0] using h))
  | _, _, .dct _ _ _, h => by simp [PyData.canLay0] at h
theorem RpL.dp : ∀ {v : List V} {d : List D}, RpL K A H v d → PyData.canLayAll0 d = true → DpAll K H v d
  | _, _, .nil, _ => .nil
  | _, _, .cons a b, h => by
    rw [PyData.canLayAll0, Bool.and_eq_true] at h
    exact .cons (Rp.dp a h.1) (RpL.dp b h.2)
end
theorem lay_ints : ∀ ns : List Int, PyData.canLayAll0 (ns.map PyData.int) = true
  | [] => rfl
  | n :: ns => by rw [List.map_cons, PyData.canLayAll0, lay_ints ns]; rfl
theorem RpL.length : ∀ {v : List V} {d : List D}, RpL K A H v d → v.length = d.length
  | _, _, .nil => rfl
  | _, _, .cons _ b => congrArg (· + 1) (RpL.length b)
theorem RpL.get : ∀ {v : List V} {d : List D} {i : Nat} {x : D}, RpL K A H v d → d[i]? = some x → ∃ y, v[i]? = some y ∧ Rp K A H y x
  | _, _, _, _, .nil, e => by simp at e
  | _, _, 0, _, .cons a _, e => ⟨_, rfl, by simp at e; subst e; exact a⟩
  | _, _, i + 1, _, .cons _ b, e => by
    obtain ⟨y, h1, h2⟩ := RpL.get (i := i) b (by simpa using e)
    exact ⟨y, by simpa using h1, h2⟩
theorem RpL.append : ∀ {v w : List V} {d e : List D}, RpL K A H v d → RpL K A H w e → RpL K A H (v ++ w) (d ++ e)
  | _, _, _, _, .nil, r => r
  | _, _, _, _, .cons a b, r => .cons a (RpL.append b r)
theorem RpL.take : ∀ {v : List V} {d : List D} (n : Nat), RpL K A H v d → RpL K A H (v.take n) (d.take n)
  | _, _, 0, _ => .nil
  | _, _, _ + 1, .nil => .nil
  | _, _, n + 1, .cons a b => .cons a (RpL.take n b)
theorem RpL.drop : ∀ {v : List V} {d : List D} (n : Nat), RpL K A H v d → RpL K A H (v.drop n) (d.drop n)
  | _, _, 0, r => r
  | _, _, _ + 1, .nil => .nil
  | _, _, n + 1, .cons _ b => RpL.drop n b
theorem RpL.set {x : V} {u : D} (r : Rp K A H x u) : ∀ {v : List V} {d : List D} (i : Nat), RpL K A H v d → RpL K A H (v.set i x) (d.set i u)
  | _, _, _, .nil => .nil
  | _, _, 0, .cons _ b => .cons r b
  | _, _, i + 1, .cons a b => .cons a (RpL.set r i b)
theorem RpL.reverse : ∀ {v : List V} {d : List D}, RpL K A H v d → RpL K A H v.reverse d.reverse
  | _, _, .nil => .nil
  | _, _, .cons a b => by
    rw [List.reverse_cons, List.reverse_cons]
    exact (RpL.reverse b).append (.cons a .nil)
theorem RpL.ints : ∀ {ns : List Int}, RpL K A H (ns.map V.int) (ns.map PyData.int)
  | [] => .nil
  | n :: ns => .cons (.int n) RpL.ints
end
inductive En where
  | no
  | da (d : D)
  | mu (k : Nat)
inductive Sh where
  | obj (c : Str)
  | lst
  | tup
  | dct
  | fzd (o : Obj)
  | fzk (o : Obj) (vs : List (Key × V))
  | exc (c : Str)
inductive MO where
  | gone
  | lst (ds : List D)
  | dct (kvs : List (Key × D))
  | rnd (n : Nat)
  | box (n : Nat)
  | tab (q : Str)
  | ins (C : Sh) (fs : List (Str × En))
structure S where
  es : List En
  ms : List MO
  np : Nat
def gt : List En → Nat → En
  | [], _ => .no
  | x :: _, 0 => x
  | _ :: r, i + 1 => gt r i
def st : List En → Nat → En → List En
  | [], _, _ => []
  | _ :: r, 0, y => y :: r
  | x :: r, i + 1, y => x :: st r i y
def gm : List MO → Nat → MO
  | [], _ => .gone
  | x :: _, 0 => x
  | _ :: r, i + 1 => gm r i
def sm : List MO → Nat → MO → List MO
  | [], _, _ => []
  | _ :: r, 0, y => y :: r
  | x :: r, i + 1, y => x :: sm r i y
def go : List (List Addr) → Nat → List Addr
  | [], _ => []
  | x :: _, 0 => x
  | _ :: r, i + 1 => go r i
def S.sE (s : S) (i : Nat) (x : En) : S := ⟨st s.es i x, s.ms, s.np⟩
def S.sM (s : S) (j : Nat) (m : MO) : S := ⟨s.es, sm s.ms j m, s.np⟩
def S.aM (s : S) (m : MO) : S := ⟨s.es, s.ms ++ [m], s.np⟩
theorem st_length : ∀ (l : List En) (i : Nat) (y : En), (st l i y).length = l.length
  | [], _, _ => rfl
  | _ :: _, 0, _ => rfl
  | _ :: r, i + 1, y => congrArg (· + 1) (st_length r i y)
theorem gt_st : ∀ (l : List En) (i j : Nat) (y : En), gt (st l i y) j = if i = j ∧ i < l.length then y else gt l j
  | [], i, j, y => by simp [st, gt]
  | x :: r, 0, 0, y => by simp [st, gt]
  | x :: r, 0, j + 1, y => by simp [st, gt]
  | x :: r, i + 1, 0, y => by simp [st, gt]
  | x :: r, i + 1, j + 1, y => by
    show gt (st r i y) j = _
    rw [gt_st r i j y]
    simp [gt]
theorem gt_ge : ∀ (l : List En) (i : Nat), l.length ≤ i → gt l i = .no
  | [], _, _ => rfl
  | _ :: r, 0, h => by simp at h
  | _ :: r, i + 1, h => gt_ge r i (by simpa using h)
theorem sm_length : ∀ (l : List MO) (i : Nat) (y : MO), (sm l i y).length = l.length
  | [], _, _ => rfl
  | _ :: _, 0, _ => rfl
  | _ :: r, i + 1, y => congrArg (· + 1) (sm_length r i y)
theorem gm_sm : ∀ (l : List MO) (i j : Nat) (y : MO), gm (sm l i y) j = if i = j ∧ i < l.length then y else gm l j
  | [], i, j, y => by simp [sm, gm]
  | x :: r, 0, 0, y => by simp [sm, gm]
  | x :: r, 0, j + 1, y => by simp [sm, gm]
  | x :: r, i + 1, 0, y => by simp [sm, gm]
  | x :: r, i + 1, j + 1, y => by
    show gm (sm r i y) j = _
    rw [gm_sm r i j y]
    simp [gm]
theorem gm_ge : ∀ (l : List MO) (i : Nat), l.length ≤ i → gm l i = .gone
  | [], _, _ => rfl
  | _ :: r, 0, h => by simp at h
  | _ :: r, i + 1, h => gm_ge r i (by simpa using h)
theorem gm_app : ∀ (l r : List MO) (i : Nat), gm (l ++ r) i = if i < l.length then gm l i else gm r (i - l.length)
  | [], r, i => by simp
  | x :: l, r, 0 => by simp [gm]
  | x :: l, r, i + 1 => by
    show gm (l ++ r) i = _
    rw [gm_app l r i]
    simp [gm]
theorem go_app : ∀ (l r : List (List Addr)) (i : Nat), go (l ++ r) i = if i < l.length then go l i else go r (i - l.length)
  | [], r, i => by simp
  | x :: l, r, 0 => by simp [go]
  | x :: l, r, i + 1 => by
    show go (l ++ r) i = _
    rw [go_app l r i]
    simp [go]
theorem go_ge : ∀ (l : List (List Addr)) (i : Nat), l.length ≤ i → go l i = []
  | [], _, _ => rfl
  | _ :: r, 0, h => by simp at h
  | _ :: r, i + 1, h => go_ge r i (by simpa using h)
theorem go_take : ∀ (l : List (List Addr)) (n i : Nat), go (l.take n) i = if i < n then go l i else []
  | [], n, i => by simp [go]
  | x :: r, 0, i => by simp [go]
  | x :: r, n + 1, 0 => by simp [go]
  | x :: r, n + 1, i + 1 => by
    show go (r.take n) i = _
    rw [go_take r n i]
    simp [go]
theorem gm_take : ∀ (l : List MO) (n i : Nat), gm (l.take n) i = if i < n then gm l i else .gone
  | [], n, i => by simp [gm]
  | x :: r, 0, i => by simp [gm]
  | x :: r, n + 1, 0 => by simp [gm]
  | x :: r, n + 1, i + 1 => by
    show gm (r.take n) i = _
    rw [gm_take r n i]
    simp [gm]
section
variable (K : PySem.W.Frag) (A : Addr → Prop) (own : List (List Addr)) (H : Hp)
def ER (v : V) : En → Prop
  | .no => True
  | .da d => Rp K A H v d
  | .mu k => ∃ a r, go own k = a :: r ∧ v = .ref a
def ERL : List V → List En → Prop
  | [], [] => True
  | v :: vs, x :: xs => ER K A own H v x ∧ ERL vs xs
  | _, _ => False
def RKV : List (Key × V) → List (Key × D) → Prop
  | [], [] => True
  | p :: ws, q :: kvs => p.1 = q.1 ∧ Rp K A H p.2 q.2 ∧ RKV ws kvs
  | _, _ => False
def RKE : List (Str × V) → List (Str × En) → Prop
  | [], [] => True
  | p :: ws, q :: kvs => p.1 = q.1 ∧ ER K A own H p.2 q.2 ∧ RKE ws kvs
  | _, _ => False
def turnMax : Int := 2 ^ 60
def boxMax : Int := 2 ^ 48
def TabA (P : Addr) (q : Str) : Prop := ∃ ps : Array Value, H P = some (.tbl ps) ∧ PySem.TriplesOk ps.toList ∧ ∀ (pos : Pos) (cv : Value), PySem.codeAmong pos ps.toList = some cv → ∃ c, cv = .ref c ∧ H c = some (LamX.CodeO c q) ∧ ¬ A c
def fnAt (q : Str) : Option (Option Value) := if q = Str.ofString "Book.heap" then (match PySem.W.nsIn K mainGlobals "Book" with | some (some (.ref C)) => PySem.W.findIn K (.ref C) "heap" | _ => none) else PySem.W.nsIn K mainGlobals q
def ExV (cls : Value) (a : Addr) : HO := .ext fun h => ∃ (oe : Obj) (vs : Array Value), h.get? a = some oe ∧ oe.cls = cls ∧ oe.dict = none ∧ oe.data = .fields vs
def TabC (q : Str) (c P : Addr) : Prop := ∃ (f : Addr) (oc : Value) (od : Option Addr) (fd : FuncData) (osl : Array (Option Value)), fnAt K q = some (some (.ref f)) ∧ K.lookup f = some ⟨oc, od, .func fd, osl⟩ ∧ fd.code = .ref c ∧ PySem.W.codeHdIn K c P = true
def HOb (a : Addr) (r : List Addr) (ws : List (Str × V)) : Sh → Prop
  | .obj c => ∃ C dx, PySem.W.nsIn K mainGlobals c = some (some (.ref C)) ∧ r = [dx] ∧ H a = some (.ins C dx ws) ∧ H dx = some (.own a)
  | .lst => r = [] ∧ H a = some (.lst (ws.map (·.2)))
  | .tup => r = [] ∧ H a = some (.tup (ws.map (·.2)))
  | .dct => r = [] ∧ H a = some (.dK (ws.map fun p => (.inr p.1, p.2)))
  | .fzd o => r = [] ∧ H a = some (.frz o (.dK (ws.map fun p => (.inr p.1, p.2))))
  | .fzk o vs => r = [] ∧ vs.map (·.2) = ws.map (·.2) ∧ H a = some (.frz o (.dK vs))
  | .exc c => r = [] ∧ ∃ C, PySem.W.nsIn K mainGlobals c = some (some (.ref C)) ∧ H a = some (ExV (.ref C) a)
def MR : List Addr → MO → Prop
  | _, .gone => True
  | l, .lst ds => ∃ a vs, l = [a] ∧ H a = some (.lst vs) ∧ RpL K A H vs ds
  | l, .dct kvs => ∃ a ws, l = [a] ∧ H a = some (.dK ws) ∧ RKV K A H ws kvs
  | l, .rnd n => ∃ (a c : Addr) (cs : List Int) (t : Int), l = [a, c] ∧ H a = some (.dK [(.inr "cells", .ref c), (.inr "turn", .int t)]) ∧ H c = some (.lst (cs.map V.int)) ∧ 1 ≤ cs.length ∧ cs.length ≤ 63 ∧ 0 ≤ t ∧ t + (n : Int) ≤ turnMax
  | l, .box n => ∃ (a : Addr) (x y z : Int), l = [a] ∧ H a = some (.lst [.int x, .int y, .int z]) ∧ 0 ≤ x ∧ 0 ≤ y ∧ y < 2 ^ 62 ∧ 0 ≤ z ∧ z + (n : Int) ≤ boxMax
  | l, .tab q => ∃ P c, l = [P] ∧ TabC K q c P ∧ TabA A H P (q ++ ".<locals>." ++ "<lambda>")
  | l, .ins C fs => ∃ (a : Addr) (r : List Addr) (ws : List (Str × V)), l = a :: r ∧ HOb K H a r ws C ∧ RKE K A own H ws fs
end
section
variable {K : PySem.W.Frag} {A A' : Addr → Prop} {own own' : List (List Addr)} {H H' : Hp}
structure Up (A : Addr → Prop) (own : List (List Addr)) (H : Hp) (A' : Addr → Prop) (own' : List (List Addr)) (H' : Hp) : Prop where
  kp : Kp A H A' H'
  ow : ∀ k a r, go own k = a :: r → go own' k = a :: r
theorem Up.refl : Up A own H A own H := ⟨Kp.refl, fun _ _ _ h => h⟩
theorem Up.trans {A'' : Addr → Prop} {own'' : List (List Addr)} {H'' : Hp} (p : Up A own H A' own' H') (q : Up A' own' H' A'' own'' H'') : Up A own H A'' own'' H'' :=
  ⟨p.kp.trans q.kp, fun k a r h => q.ow k a r (p.ow k a r h)⟩
theorem ER.up (u : Up A own H A' own' H') {v : V} : ∀ {x : En}, ER K A own H v x → ER K A' own' H' v x
  | .no, _ => trivial
  | .da _, h => Rp.mono u.kp h
  | .mu k, ⟨a, r, e, h⟩ => ⟨a, r, u.ow k a r e, h⟩
theorem ERL.up (u : Up A own H A' own' H') : ∀ {vs : List V} {xs : List En}, ERL K A own H vs xs → ERL K A' own' H' vs xs
  | [], [], _ => trivial
  | _ :: _, _ :: _, ⟨h, t⟩ => ⟨h.up u, ERL.up u t⟩
theorem RKV.up (u : Kp A H A' H') : ∀ {ws : List (Key × V)} {kvs : List (Key × D)}, RKV K A H ws kvs → RKV K A' H' ws kvs
  | [], [], _ => trivial
  | _ :: _, _ :: _, ⟨e, h, t⟩ => ⟨e, Rp.mono u h, RKV.up u t⟩
theorem RKE.up (u : Up A own H A' own' H') : ∀ {ws : List (Str × V)} {kvs : List (Str × En)}, RKE K A own H ws kvs → RKE K A' own' H' ws kvs
  | [], [], _ => trivial
  | _ :: _, _ :: _, ⟨e, h, t⟩ => ⟨e, h.up u, RKE.up u t⟩
theorem HOb.up {a : Addr} {r : List Addr} {ws : List (Str × V)} {C : Sh} (h : HOb K H a r ws C) (hl : ∀ b o, b ∈ a :: r → H b = some o → H' b = some o) : HOb K H' a r ws C := by
  cases C with
  | obj C =>
    obtain ⟨C', dx, h0, rfl, h1, h2⟩ := h
    exact ⟨C', dx, h0, rfl, hl _ _ (by simp) h1, hl _ _ (by simp) h2⟩
  | dct => exact ⟨h.1, hl _ _ (by simp) h.2⟩
  | fzd o => exact ⟨h.1, hl _ _ (by simp) h.2⟩
  | fzk o ks => exact ⟨h.1, h.2.1, hl _ _ (by simp) h.2.2⟩
  | exc c =>
    obtain ⟨h0, C, h1, h2⟩ := h
    exact ⟨h0, C, h1, hl _ _ (by simp) h2⟩
  | lst => exact ⟨h.1, hl _ _ (by simp) h.2⟩
  | tup => exact ⟨h.1, hl _ _ (by simp) h.2⟩
theorem MR.up (u : Up A own H A' own' H') {l : List Addr} {m : MO} (h : MR K A own H l m) (hl : ∀ a o, a ∈ l → H a = some o → H' a = some o) : MR K A' own' H' l m := by
  cases m with
  | gone => trivial
  | lst ds =>
    obtain ⟨a, vs, rfl, h1, h2⟩ := h
    exact ⟨a, vs, rfl, hl _ _ (by simp) h1, RpL.mono u.kp h2⟩
  | dct kvs =>
    obtain ⟨a, ws, rfl, h1, h2⟩ := h
    exact ⟨a, ws, rfl, hl _ _ (by simp) h1, h2.up u.kp⟩
  | rnd n =>
    obtain ⟨a, c, cs, t, rfl, h1, h2, h3⟩ := h
    exact ⟨a, c, cs, t, rfl, hl _ _ (by simp) h1, hl _ _ (by simp) h2, h3⟩
  | box n =>
    obtain ⟨a, x, y, z, rfl, h1, h3⟩ := h
    exact ⟨a, x, y, z, rfl, hl _ _ (by simp) h1, h3⟩
  | tab q =>
    obtain ⟨P, c, rfl, hc, ps, h1, h2, h3⟩ := h
    refine ⟨P, c, rfl, hc, ps, hl _ _ (by simp) h1, h2, fun pos cv e => ?_⟩
    obtain ⟨c', e1, e2, e3⟩ := h3 pos cv e
    exact ⟨c', e1, u.kp _ _ e3 e2⟩
  | ins C fs =>
    obtain ⟨a, r, ws, rfl, h1, h3⟩ := h
    exact ⟨a, r, ws, rfl, h1.up hl, h3.up u⟩
structure Own (K : PySem.W.Frag) (A : Addr → Prop) (own : List (List Addr)) (H : Hp) (ms : List MO) : Prop where
  ol : own.length = ms.length
  mr : ∀ k, MR K A own H (go own k) (gm ms k)
  dj : ∀ k j a, a ∈ go own k → a ∈ go own j → k = j
  ld : ∀ k, (go own k).Nodup
  oa : ∀ k a, a ∈ go own k → A a
  al : ∀ a, A a → H a ≠ none
structure Bd where
  H0 : Hp
  own0 : List (List Addr)
  A0 : Addr → Prop
structure Rel (K : PySem.W.Frag) (b : Bd) (A : Addr → Prop) (own : List (List Addr)) (H : Hp) (σ : L2.St) (s : S) : Prop extends Own K A own H s.ms where
  len : σ.length = s.es.length
  sl : ∀ i, gt s.es i = .no ∨ ∃ v, σ[i]? = some (some v) ∧ ER K A own H v (gt s.es i)
  ge : ∀ a, b.A0 a → A a
  fr : ∀ a o, (∀ k, a ∉ go b.own0 k) → b.H0 a = some o → H a = some o
  fo : ∀ k a, a ∈ go own k → (∃ j, a ∈ go b.own0 j) ∨ b.H0 a = none
  pre : own.take s.np = b.own0
  npl : s.np ≤ own.length
  lim : ∀ a, A a → b.A0 a ∨ b.H0 a = none
  a0 : ∀ a, b.A0 a → b.H0 a ≠ none
variable {b : Bd} {σ : L2.St} {s : S}
theorem Rel.np (r : Rel K b A own H σ s) : b.own0.length = s.np := by
  rw [← r.pre, List.length_take]
  have := r.npl
  omega
theorem Rel.ext (r : Rel K b A own H σ s) (hx : ∀ a o, H a = some o → H' a = some o) : Rel K b A own H' σ s ∧ Up A own H A own H' := by
  have u : Up A own H A own H' := ⟨fun a o n h => ⟨hx _ _ h, n⟩, fun _ _ _ h => h⟩
  exact ⟨{ r with
    mr := fun k => (r.mr k).up u fun a o _ h => hx a o h
    al := fun a h z => by
      cases q : H a with
      | none => exact r.al a h q
      | some o => rw [hx a o q] at z; cases z
    sl := fun i => (r.sl i).imp id fun ⟨v, e, h⟩ => ⟨v, e, h.up u⟩
    fr := fun a o n h => hx _ _ (r.fr a o n h) }, u⟩
theorem Rel.new (r : Rel K b A own H σ s) {p : Addr} {o : HO} (hp : H p = none) : Rel K b A own (upd H p o) σ s ∧ Up A own H A own (upd H p o) :=
  r.ext fun a u h => by rw [upd_ne (ne_of_none h hp)]; exact h
theorem Rel.freshA (r : Rel K b A own H σ s) {p : Addr} (hp : H p = none) : ¬ A p := fun h => r.al p h hp
theorem Rel.own0A (r : Rel K b A own H σ s) {j : Nat} {a : Addr} (h : a ∈ go b.own0 j) : A a := by
  rw [← r.pre, go_take] at h
  split at h
  · exact r.oa _ _ h
  · cases h
theorem Rel.fresh0 (r : Rel K b A own H σ s) {p : Addr} (hp : H p = none) : b.H0 p = none := by
  cases q : b.H0 p with
  | none => rfl
  | some o =>
    refine absurd (r.fr p o (fun k hk => r.al p (r.own0A hk) hp) q) ?_
    rw [hp]; intro z; cases z
theorem Rel.newMu (r : Rel K b A own H σ s) {p : Addr} {o : HO} (hp : H p = none) (m : MO) (hm : ∀ (A' : Addr → Prop) (own' : List (List Addr)), Up A own H A' own' (upd H p o) → MR K A' own' (upd H p o) [p] m) :
    Rel K b (fun a => A a ∨ a = p) (own ++ [[p]]) (upd H p o) σ { s with ms := s.ms ++ [m] } ∧ Up A own H (fun a => A a ∨ a = p) (own ++ [[p]]) (upd H p o) ∧ go (own ++ [[p]]) s.ms.length = [p] := by
  have hx : ∀ a u, H a = some u → upd H p o a = some u := fun a u h => by rw [upd_ne (ne_of_none h hp)]; exact h
  have gl : ∀ k, go (own ++ [[p]]) k = if k < own.length then go own k else if k = own.length then [p] else [] := fun k => by
    rw [go_app]
    by_cases h : k < own.length
    · rw [if_pos h, if_pos h]
    · rw [if_neg h, if_neg h]
      by_cases h2 : k = own.length
      · subst h2; rw [Nat.sub_self, if_pos rfl]; rfl
      · rw [if_neg h2]; exact go_ge _ _ (by simp; omega)
  have gml : ∀ k, gm (s.ms ++ [m]) k = if k < own.length then gm s.ms k else if k = own.length then m else .gone := fun k => by
    rw [gm_app, ← r.ol]
    by_cases h : k < own.length
    · rw [if_pos h, if_pos h]
    · rw [if_neg h, if_neg h]
      by_cases h2 : k = own.length
      · subst h2; rw [Nat.sub_self, if_pos rfl]; rfl
      · rw [if_neg h2]; exact gm_ge _ _ (by simp; omega)
  have u : Up A own H (fun a => A a ∨ a = p) (own ++ [[p]]) (upd H p o) := ⟨fun a o n h => ⟨hx _ _ h, fun z => by
      rcases z with z | z
      · exact n z
      · subst z
        rw [hp] at h; cases h⟩, fun k a q h => by
      rw [gl]
      by_cases h1 : k < own.length
      · rw [if_pos h1]; exact h
      · rw [go_ge _ _ (by omega)] at h; cases h⟩
  have np : ∀ k, p ∉ go own k := fun k h => r.al p (r.oa k p h) hp
  refine ⟨⟨⟨by simp [r.ol], fun k => ?_, fun k j a h1 h2 => ?_, fun k => ?_, fun k a h => ?_, fun a h => ?_⟩, r.len, fun i => (r.sl i).imp id fun ⟨v, e, h⟩ => ⟨v, e, h.up u⟩, fun a h => .inl (r.ge a h), fun a o n h => hx _ _ (r.fr a o n h), fun k a h => ?_, ?_, ?_, fun a h => ?_, r.a0⟩, u, ?_⟩
  · rw [gl, gml]
    by_cases h1 : k < own.length
    · rw [if_pos h1, if_pos h1]; exact (r.mr k).up u fun a o _ h => hx a o h
    · rw [if_neg h1, if_neg h1]
      by_cases h2 : k = own.length
      · rw [if_pos h2, if_pos h2]; exact hm _ _ u
      · rw [if_neg h2, if_neg h2]; trivial
  · rw [gl] at h1 h2
    by_cases k1 : k < own.length
    · rw [if_pos k1] at h1
      by_cases j1 : j < own.length
      · rw [if_pos j1] at h2; exact r.dj k j a h1 h2
      · rw [if_neg j1] at h2
        by_cases j2 : j = own.length
        · rw [if_pos j2] at h2; cases List.mem_singleton.mp h2; exact (np _ h1).elim
        · rw [if_neg j2] at h2; cases h2
    · rw [if_neg k1] at h1
      by_cases k2 : k = own.length
      · rw [if_pos k2] at h1
        cases List.mem_singleton.mp h1
        by_cases j1 : j < own.length
        · rw [if_pos j1] at h2; exact (np _ h2).elim
        · rw [if_neg j1] at h2
          by_cases j2 : j = own.length
          · omega
          · rw [if_neg j2] at h2; cases h2
      · rw [if_neg k2] at h1; cases h1
  · rw [gl]
    split
    · exact r.ld k
    · split <;> simp
  · rw [gl] at h
    split at h
    · exact .inl (r.oa k a h)
    · split at h
      · exact .inr (List.mem_singleton.mp h)
      · cases h
  · rcases h with h | h
    · intro z
      cases q : H a with
      | none => exact r.al a h q
      | some o => rw [hx a o q] at z; cases z
    · subst h; rw [upd_same]; intro z; cases z
  · rw [gl] at h
    split at h
    · exact r.fo k a h
    · split at h
      · cases List.mem_singleton.mp h
        exact .inr (r.fresh0 hp)
      · cases h
  · rw [List.take_append_of_le_length r.npl]; exact r.pre
  · rw [List.length_append]; have := r.npl; show s.np ≤ _; omega
  · rcases h with h | h
    · exact r.lim a h
    · subst h; exact .inr (r.fresh0 hp)
  · rw [gl, ← r.ol, if_neg (Nat.lt_irrefl _), if_pos rfl]
theorem Rel.chg (r : Rel K b A own H σ s) (k : Nat) (m : MO) (hk : ∀ a o, a ∉ go own k → H a = some o → H' a = some o) (ha : ∀ a, a ∈ go own k → H' a ≠ none)
    (hm : Up A own H A own H' → MR K A own H' (go own k) m) (hl : k < s.ms.length) :
    Rel K b A own H' σ { s with ms := sm s.ms k m } ∧ Up A own H A own H' := by
  have u : Up A own H A own H' := ⟨fun a o n h => ⟨hk _ _ (fun z => n (r.oa k a z)) h, n⟩, fun _ _ _ h => h⟩
  refine ⟨⟨⟨by rw [sm_length]; exact r.ol, fun j => ?_, r.dj, r.ld, r.oa, fun a h => ?_⟩, r.len, fun i => (r.sl i).imp id fun ⟨v, e, h⟩ => ⟨v, e, h.up u⟩, r.ge, fun a o n h => ?_, r.fo, r.pre, r.npl, r.lim, r.a0⟩, u⟩
  · rw [gm_sm]
    by_cases h : k = j
    · subst h; rw [if_pos ⟨rfl, hl⟩]; exact hm u
    · rw [if_neg fun z => h z.1]
      exact (r.mr j).up u fun a o h1 h2 => hk a o (fun z => h (r.dj k j a z h1)) h2
  · by_cases q : a ∈ go own k
    · exact ha a q
    · intro z
      cases e : H a with
      | none => exact r.al a h e
      | some o => rw [hk a o q e] at z; cases z
  · by_cases q : a ∈ go own k
    · rcases r.fo k a q with ⟨j, z⟩ | z
      · exact (n j z).elim
      · rw [z] at h; cases h
    · exact hk a o q (r.fr a o n h)
theorem Rel.slot (r : Rel K b A own H σ s) {i : Nat} {v : V} {x : En} (h : ER K A own H v x) : Rel K b A own H (σ.set i (some v)) { s with es := st s.es i x } := by
  refine { r with len := by rw [List.length_set, st_length]; exact r.len, sl := fun j => ?_ }
  show gt (st s.es i x) j = .no ∨ _
  rw [gt_st]
  by_cases e : i = j ∧ i < s.es.length
  · obtain ⟨e1, e2⟩ := e
    subst e1
    refine .inr ⟨v, ?_, ?_⟩
    · rw [List.getElem?_set_self (by rw [r.len]; exact e2)]
    · rw [if_pos ⟨rfl, e2⟩]; exact h
  · rw [if_neg e]
    rcases r.sl j with q | ⟨v', e', q⟩
    · exact .inl q
    · by_cases hij : i = j
      · subst hij
        have : ¬ i < s.es.length := fun z => e ⟨rfl, z⟩
        rw [gt_ge _ _ (by omega)]
        exact .inl rfl
      · exact .inr ⟨v', by rw [List.getElem?_set_ne hij]; exact e', q⟩
end
end DL
namespace DL
open PySem L2
abbrev WE := S → (S → En → Prop) → Prop
abbrev WT := S → (S → Bool → Prop) → Prop
abbrev WA := S → (S → List En → Prop) → Prop
abbrev WG := En → S → (S → Prop) → Prop
structure Dn where
  nx : S → Prop
  rt : S → En → Prop
  bk : S → Prop
  ct : S → Prop
abbrev WS := S → Dn → Prop
section
variable (K : PySem.W.Frag) (b : Bd) (A : Addr → Prop) (own : List (List Addr)) (H : Hp) (σ : L2.St)
def PostE (Ks : S → En → Prop) (Q : VK) : Prop := ∀ (A' : Addr → Prop) (own' : List (List Addr)) (H' : Hp) (v : V) (s' : S) (x : En), Rel K b A' own' H' σ s' → Up A own H A' own' H' → ER K A' own' H' v x → Ks s' x → Q v H'
def PostT (Ks : S → Bool → Prop) (Q : Bool → Hp → Prop) : Prop := ∀ (A' : Addr → Prop) (own' : List (List Addr)) (H' : Hp) (s' : S) (c : Bool), Rel K b A' own' H' σ s' → Up A own H A' own' H' → Ks s' c → Q c H'
def PostA (Ks : S → List En → Prop) (Q : List V → Hp → Prop) : Prop := ∀ (A' : Addr → Prop) (own' : List (List Addr)) (H' : Hp) (vs : List V) (s' : S) (xs : List En), Rel K b A' own' H' σ s' → Up A own H A' own' H' → ERL K A' own' H' vs xs → Ks s' xs → Q vs H'
def Sto (js : List Nat) (σ σ' : L2.St) : Prop := σ'.length = σ.length ∧ ∀ i, i ∉ js → σ'[i]? = σ[i]?
def PostG (js : List Nat) (Ks : S → Prop) (Q : L2.St → Hp → Prop) : Prop := ∀ (A' : Addr → Prop) (own' : List (List Addr)) (H' : Hp) (σ' : L2.St) (s' : S), Rel K b A' own' H' σ' s' → Up A own H A' own' H' → Sto js σ σ' → Ks s' → Q σ' H'
structure Mt (D : Dn) (E : Ends) : Prop where
  nx : ∀ (A' : Addr → Prop) (own' : List (List Addr)) (H' : Hp) (σ' : L2.St) (s' : S), Rel K b A' own' H' σ' s' → Kp A H A' H' → D.nx s' → E.nx σ' H'
  rt : ∀ (A' : Addr → Prop) (own' : List (List Addr)) (H' : Hp) (σ' : L2.St) (s' : S) (v : V) (x : En), Rel K b A' own' H' σ' s' → Kp A H A' H' → ER K A' own' H' v x → D.rt s' x → E.rt v H'
  bk : ∀ (A' : Addr → Prop) (own' : List (List Addr)) (H' : Hp) (σ' : L2.St) (s' : S), Rel K b A' own' H' σ' s' → Kp A H A' H' → D.bk s' → E.bk σ' H'
  ct : ∀ (A' : Addr → Prop) (own' : List (List Addr)) (H' : Hp) (σ' : L2.St) (s' : S), Rel K b A' own' H' σ' s' → Kp A H A' H' → D.ct s' → E.ct σ' H'
end
structure DE (X : Cx) (e : Expr) (w : WE) : Prop where
  ex : ∃ te, PE X e te ∧ ∀ (b : Bd) (A : Addr → Prop) (own : List (List Addr)) (H : Hp) (σ : L2.St) (s : S) (Ks : S → En → Prop) (Q : VK), Rel X.K b A own H σ s → w s Ks → PostE X.K b A own H σ Ks Q → te σ H Q
structure DT (X : Cx) (e : Expr) (w : WT) : Prop where
  ex : ∃ tt, PT X e tt ∧ ∀ (b : Bd) (A : Addr → Prop) (own : List (List Addr)) (H : Hp) (σ : L2.St) (s : S) (Ks : S → Bool → Prop) (Q : Bool → Hp → Prop), Rel X.K b A own H σ s → w s Ks → PostT X.K b A own H σ Ks Q → tt σ H Q
structure DW (X : Cx) (e : Expr) (w : WT) : Prop where
  ex : ∃ tt, PW X e tt ∧ ∀ (b : Bd) (A : Addr → Prop) (own : List (List Addr)) (H : Hp) (σ : L2.St) (s : S) (Ks : S → Bool → Prop) (Q : Bool → Hp → Prop), Rel X.K b A own H σ s → w s Ks → PostT X.K b A own H σ Ks Q → tt σ H Q
structure DA (X : Cx) (es : List Expr) (w : WA) : Prop where
  ex : ∃ ta, PA X es ta ∧ ∀ (b : Bd) (A : Addr → Prop) (own : List (List Addr)) (H : Hp) (σ : L2.St) (s : S) (Ks : S → List En → Prop) (Q : List V → Hp → Prop), Rel X.K b A own H σ s → w s Ks → PostA X.K b A own H σ Ks Q → ta σ H Q
structure DG (X : Cx) (tg : Expr) (js : List Nat) (w : WG) : Prop where
  ex : ∃ g, PG X tg g ∧ ∀ (b : Bd) (A : Addr → Prop) (own : List (List Addr)) (H : Hp) (σ : L2.St) (s : S) (v : V) (x : En) (Ks : S → Prop) (Q : L2.St → Hp → Prop), Rel X.K b A own H σ s → ER X.K A own H v x → w x s Ks → PostG X.K b A own H σ js Ks Q → g v σ H Q
structure DS (X : Cx) (st : Stmt) (w : WS) : Prop where
  ex : ∃ t, PS X st t ∧ ∀ (b : Bd) (A : Addr → Prop) (own : List (List Addr)) (H : Hp) (σ : L2.St) (s : S) (D : Dn) (E : Ends), Rel X.K b A own H σ s → w s D → Mt X.K b A H D E → t E σ H
structure DSs (X : Cx) (st : List Stmt) (w : WS) : Prop where
  ex : ∃ t, PSs X st t ∧ ∀ (b : Bd) (A : Addr → Prop) (own : List (List Addr)) (H : Hp) (σ : L2.St) (s : S) (D : Dn) (E : Ends), Rel X.K b A own H σ s → w s D → Mt X.K b A H D E → t E σ H
section
variable {K : PySem.W.Frag} {b : Bd} {A A' : Addr → Prop} {own own' : List (List Addr)} {H H' : Hp} {σ : L2.St}
theorem PostE.up {Ks : S → En → Prop} {Q : VK} (p : PostE K b A own H σ Ks Q) (u : Up A own H A' own' H') : PostE K b A' own' H' σ Ks Q := fun _ _ _ _ _ _ r u' => p _ _ _ _ _ _ r (u.trans u')
theorem PostE.da {Ks : S → En → Prop} {Q : VK} {v : V} {d : D} {s' : S} (k : PostE K b A own H σ Ks Q) (r : Rel K b A' own' H' σ s') (u : Up A own H A' own' H') (h : Rp K A' H' v d) (q : Ks s' (.da d)) : Q v H' := k _ _ _ _ _ (.da d) r u h q
theorem PostT.up {Ks : S → Bool → Prop} {Q : Bool → Hp → Prop} (p : PostT K b A own H σ Ks Q) (u : Up A own H A' own' H') : PostT K b A' own' H' σ Ks Q := fun _ _ _ _ _ r u' => p _ _ _ _ _ r (u.trans u')
theorem PostA.up {Ks : S → List En → Prop} {Q : List V → Hp → Prop} (p : PostA K b A own H σ Ks Q) (u : Up A own H A' own' H') : PostA K b A' own' H' σ Ks Q := fun _ _ _ _ _ _ r u' => p _ _ _ _ _ _ r (u.trans u')
theorem Mt.up {D : Dn} {E : Ends} (p : Mt K b A H D E) (u : Kp A H A' H') : Mt K b A' H' D E :=
  ⟨fun _ _ _ _ _ r q => p.nx _ _ _ _ _ r (u.trans q), fun _ _ _ _ _ _ _ r q => p.rt _ _ _ _ _ _ _ r (u.trans q), fun _ _ _ _ _ r q => p.bk _ _ _ _ _ r (u.trans q), fun _ _ _ _ _ r q => p.ct _ _ _ _ _ r (u.trans q)⟩
end
section
variable {X : Cx} {a b c e : Expr} {wa wb wc we : WE} {pos : Pos}
def onE (x : En) (k : En → Prop) : Prop := match x with | .no => False | .da d => k (.da d) | .mu j => k (.mu j)
theorem onE_inv {x : En} {k : En → Prop} (h : onE x k) : x ≠ .no ∧ k x := by
  cases x with
  | no => exact h.elim
  | da d => exact ⟨fun z => (nomatch z), h⟩
  | mu j => exact ⟨fun z => (nomatch z), h⟩
def dVar (i : Nat) : WE := fun s Ks => onE (gt s.es i) (Ks s)
theorem dv (i : Nat) {x : Str} {pos : Pos} (hN : X.N[i]? = some x := by rfl) (hv : Vis X.env.scope x := by first | exact Or.inl rfl | exact Or.inr (Or.inl rfl) | exact Or.inr (Or.inr rfl)) (hd : (x == ("__debug__" : Str)) = false := by decide)
    (hcd : (x == ("__classdict__" : Str)) = false := by decide) : DE X (.Name x pos) (dVar i) := ⟨tVar i, pe_var hN hv hd hcd, fun b A own H σ s Ks Q r h k => by
  obtain ⟨n, h⟩ := onE_inv h
  rcases r.sl i with z | ⟨v, e, q⟩
  · exact (n z).elim
  · exact ⟨v, e, k _ _ _ _ _ _ r Up.refl q h⟩⟩
def dC (d : D) : WE := fun s Ks => Ks s (.da d)
theorem de_c {v : V} {d : D} (h : PE X e (tC v)) (hr : ∀ A H, Rp X.K A H v d) : DE X e (dC d) := ⟨_, h, fun b A own H σ s Ks Q r q k => k.da r Up.refl (hr _ _) q⟩
theorem de_int {i : Int} {j pos} : DE X (.Constant (.int i) j pos) (dC (.int i)) := de_c pe_int fun _ _ => .int i
theorem de_bl {c : Bool} {j pos} : DE X (.Constant (.bool c) j pos) (dC (.bool c)) := de_c pe_bl fun _ _ => .bl c
theorem de_non {j pos} : DE X (.Constant .none j pos) (dC .none) := de_c pe_non fun _ _ => .non
theorem de_str {x j pos} : DE X (.Constant (.str x) j pos) (dC (.str x)) := de_c pe_str fun _ _ => .str x
def OpD (K : PySem.W.Frag) (r : R2) (rd : S → En → En → (S → En → Prop) → Prop) : Prop := ∀ (b : Bd) (A : Addr → Prop) (own : List (List Addr)) (H : Hp) (σ : L2.St) (s : S) (vx vy : V) (x y : En) (Ks : S → En → Prop) (Q : VK),
  Rel K b A own H σ s → ER K A own H vx x → ER K A own H vy y → rd s x y Ks → PostE K b A own H σ Ks Q → r vx vy H Q
def d2 (rd : S → En → En → (S → En → Prop) → Prop) (wa wb : WE) : WE := fun s Ks => wa s fun s1 x => wb s1 fun s2 y => rd s2 x y Ks
theorem d2_run {r : R2} {rd : S → En → En → (S → En → Prop) → Prop} {ta tb : TE} (hd : OpD X.K r rd)
    (qa : ∀ (b : Bd) (A : Addr → Prop) (own : List (List Addr)) (H : Hp) (σ : L2.St) (s : S) (Ks : S → En → Prop) (Q : VK), Rel X.K b A own H σ s → wa s Ks → PostE X.K b A own H σ Ks Q → ta σ H Q)
    (qb : ∀ (b : Bd) (A : Addr → Prop) (own : List (List Addr)) (H : Hp) (σ : L2.St) (s : S) (Ks : S → En → Prop) (Q : VK), Rel X.K b A own H σ s → wb s Ks → PostE X.K b A own H σ Ks Q → tb σ H Q)
    (b : Bd) (A : Addr → Prop) (own : List (List Addr)) (H : Hp) (σ : L2.St) (s : S) (Ks : S → En → Prop) (Q : VK) (R : Rel X.K b A own H σ s) (h : d2 rd wa wb s Ks) (k : PostE X.K b A own H σ Ks Q) : tOp r ta tb σ H Q := by
  show ta σ H fun x H1 => tb σ H1 fun y H2 => r x y H2 Q
  refine qa _ _ _ _ _ _ _ _ R h fun A1 o1 H1 v1 s1 x1 R1 U1 E1 h1 => ?_
  refine qb _ _ _ _ _ _ _ _ R1 h1 fun A2 o2 H2 v2 s2 x2 R2 U2 E2 h2 => ?_
  exact hd _ _ _ _ _ _ _ _ _ _ _ _ R2 (E1.up U2) E2 h2 (k.up (U1.trans U2))
theorem de_op {op : Operator} {r : R2} {rd} (ho : OpR X (binaryOp op) r) (hd : OpD X.K r rd) (ha : DE X a wa) (hb : DE X b wb) : DE X (.BinOp a op b pos) (d2 rd wa wb) := by
  obtain ⟨ta, pa, qa⟩ := ha.ex
  obtain ⟨tb, pb, qb⟩ := hb.ex
  exact ⟨_, pe_op ho pa pb, d2_run hd qa qb⟩
theorem de_cmp {op : CmpOp} {r : R2} {rd} (ho : OpR X (compareOp op) r) (hd : OpD X.K r rd) (ha : DE X a wa) (hb : DE X b wb) (hm : behindInMarks op b = false) : DE X (.Compare a [op] [b] pos) (d2 rd wa wb) := by
  obtain ⟨ta, pa, qa⟩ := ha.ex
  obtain ⟨tb, pb, qb⟩ := hb.ex
  exact ⟨_, pe_cmpR ho pa pb hm, d2_run hd qa qb⟩
def isB (x : En) (k : Bool → Prop) : Prop := match x with | .da (.bool c) => k c | _ => False
theorem isB_inv {x : En} {k : Bool → Prop} (h : isB x k) : ∃ c, x = .da (.bool c) ∧ k c := by
  unfold isB at h
  split at h
  · exact ⟨_, rfl, h⟩
  · exact h.elim
def tT (w : WE) : WT := fun s Ks => w s fun s1 x => isB x (Ks s1)
theorem tT_run {te : TE} {w : WE} (qa : ∀ (b : Bd) (A : Addr → Prop) (own : List (List Addr)) (H : Hp) (σ : L2.St) (s : S) (Ks : S → En → Prop) (Q : VK), Rel X.K b A own H σ s → w s Ks → PostE X.K b A own H σ Ks Q → te σ H Q)
    (b : Bd) (A : Addr → Prop) (own : List (List Addr)) (H : Hp) (σ : L2.St) (s : S) (Ks : S → Bool → Prop) (Q : Bool → Hp → Prop) (R : Rel X.K b A own H σ s) (h : tT w s Ks) (k : PostT X.K b A own H σ Ks Q) : te σ H fun x H' => ∃ c, x = .bl c ∧ Q c H' := by
  refine qa _ _ _ _ _ _ _ _ R h fun A1 o1 H1 v1 s1 x1 R1 U1 E1 h1 => ?_
  obtain ⟨c, rfl, h2⟩ := isB_inv h1
  cases E1
  exact ⟨c, rfl, k _ _ _ _ _ R1 U1 h2⟩
theorem dt_cmp {op : CmpOp} {r : R2} {rd} (ho : OpR X (compareOp op) r) (hd : OpD X.K r rd) (ha : DE X a wa) (hb : DE X b wb) (hm : behindInMarks op b = false) : DT X (.Compare a [op] [b] pos) (tT (d2 rd wa wb)) := by
  obtain ⟨ta, pa, qa⟩ := ha.ex
  obtain ⟨tb, pb, qb⟩ := hb.ex
  exact ⟨_, pt_cmpR ho pa pb hm, tT_run (d2_run hd qa qb)⟩
theorem dt_val (h : DE X e we) (he : ∀ whole, isTrue e X.env whole = (do let v ← whole; standAt e.pos; holding [v] (truthy v)) := by intro _; rfl) : DT X e (tT we) := by
  obtain ⟨te, pe, qe⟩ := h.ex
  exact ⟨_, pt_val pe he, tT_run qe⟩
def tAnd (u w : WT) : WT := fun s Ks => u s fun s1 c => (c = true → w s1 Ks) ∧ (c = false → Ks s1 false)
def tOr (u w : WT) : WT := fun s Ks => u s fun s1 c => (c = true → Ks s1 true) ∧ (c = false → w s1 Ks)
def tNot (u : WT) : WT := fun s Ks => u s fun s1 c => Ks s1 (!c)
variable {wt wu : WT} {rest : List Expr}
theorem dw_and1 (h : DT X a wt) : DW X (.BoolOp .And [a] pos) wt := by
  obtain ⟨ta, pa, qa⟩ := h.ex
  exact ⟨_, pw_and1 pa, qa⟩
theorem dw_or1 (h : DT X a wt) : DW X (.BoolOp .Or [a] pos) wt := by
  obtain ⟨ta, pa, qa⟩ := h.ex
  exact ⟨_, pw_or1 pa, qa⟩
theorem dw_and (h : DT X a wt) (h2 : DW X (.BoolOp .And (b :: rest) pos) wu) : DW X (.BoolOp .And (a :: b :: rest) pos) (tAnd wt wu) := by
  obtain ⟨ta, pa, qa⟩ := h.ex
  obtain ⟨tb, pb, qb⟩ := h2.ex
  refine ⟨_, pw_and pa pb, fun b A own H σ s Ks Q R h k => ?_⟩
  show ta σ H fun c H1 => if c = true then tb σ H1 Q else Q false H1
  refine qa _ _ _ _ _ _ _ _ R h fun A1 o1 H1 s1 c R1 U1 h1 => ?_
  cases c with
  | true => rw [if_pos rfl]; exact qb _ _ _ _ _ _ _ _ R1 (h1.1 rfl) (k.up U1)
  | false => rw [if_neg (by decide)]; exact k _ _ _ _ _ R1 U1 (h1.2 rfl)
theorem dw_or (h : DT X a wt) (h2 : DW X (.BoolOp .Or (b :: rest) pos) wu) : DW X (.BoolOp .Or (a :: b :: rest) pos) (tOr wt wu) := by
  obtain ⟨ta, pa, qa⟩ := h.ex
  obtain ⟨tb, pb, qb⟩ := h2.ex
  refine ⟨_, pw_or pa pb, fun b A own H σ s Ks Q R h k => ?_⟩
  show ta σ H fun c H1 => if c = true then Q true H1 else tb σ H1 Q
  refine qa _ _ _ _ _ _ _ _ R h fun A1 o1 H1 s1 c R1 U1 h1 => ?_
  cases c with
  | true => rw [if_pos rfl]; exact k _ _ _ _ _ R1 U1 (h1.1 rfl)
  | false => rw [if_neg (by decide)]; exact qb _ _ _ _ _ _ _ _ R1 (h1.2 rfl) (k.up U1)
theorem dt_bool (h : DW X a wt) : DT X a wt := by
  obtain ⟨ta, pa, qa⟩ := h.ex
  exact ⟨_, pa.pt, qa⟩
theorem dt_not (h : DT X a wt) : DT X (.UnaryOp .Not a pos) (tNot wt) := by
  obtain ⟨ta, pa, qa⟩ := h.ex
  exact ⟨_, pt_not pa, fun b A own H σ s Ks Q R h k => qa _ _ _ _ _ _ _ _ R h fun A1 o1 H1 s1 c R1 U1 h1 => k _ _ _ _ _ R1 U1 h1⟩
def dAnd (wa wb : WE) : WE := fun s Ks => wa s fun s1 x => isB x fun c => (c = true → wb s1 Ks) ∧ (c = false → Ks s1 (.da (.bool false)))
theorem de_one {op} (h : DE X a wa) : DE X (.BoolOp op [a] pos) wa := by
  obtain ⟨ta, pa, qa⟩ := h.ex
  exact ⟨_, pe_one pa, qa⟩
theorem de_and (h : DE X a wa) (h2 : DE X (.BoolOp .And (b :: rest) pos) wb) : DE X (.BoolOp .And (a :: b :: rest) pos) (dAnd wa wb) := by
  obtain ⟨ta, pa, qa⟩ := h.ex
  obtain ⟨tb, pb, qb⟩ := h2.ex
  refine ⟨_, pe_and pa pb, fun b A own H σ s Ks Q R h k => ?_⟩
  show ta σ H fun x H1 => ∃ c, x = .bl c ∧ if c = true then tb σ H1 Q else Q (.bl false) H1
  refine qa _ _ _ _ _ _ _ _ R h fun A1 o1 H1 v1 s1 x1 R1 U1 E1 h1 => ?_
  obtain ⟨c, rfl, h2⟩ := isB_inv h1
  cases E1
  refine ⟨c, rfl, ?_⟩
  cases c with
  | true => rw [if_pos rfl]; exact qb _ _ _ _ _ _ _ _ R1 (h2.1 rfl) (k.up U1)
  | false => rw [if_neg (by decide)]; exact k.da R1 U1 (.bl _) (h2.2 rfl)
def dIf (wt : WT) (wa wb : WE) : WE := fun s Ks => wt s fun s1 c => (c = true → wa s1 Ks) ∧ (c = false → wb s1 Ks)
theorem de_if (hc : DT X c wt) (ha : DE X a wa) (hb : DE X b wb) : DE X (.IfExp c a b pos) (dIf wt wa wb) := by
  obtain ⟨tc, pc, qc⟩ := hc.ex
  obtain ⟨ta, pa, qa⟩ := ha.ex
  obtain ⟨tb, pb, qb⟩ := hb.ex
  refine ⟨_, pe_ifExp pc pa pb, fun b A own H σ s Ks Q R h k => ?_⟩
  show tc σ H fun c H1 => if c = true then ta σ H1 Q else tb σ H1 Q
  refine qc _ _ _ _ _ _ _ _ R h fun A1 o1 H1 s1 c R1 U1 h1 => ?_
  cases c with
  | true => rw [if_pos rfl]; exact qa _ _ _ _ _ _ _ _ R1 (h1.1 rfl) (k.up U1)
  | false => rw [if_neg (by decide)]; exact qb _ _ _ _ _ _ _ _ R1 (h1.2 rfl) (k.up U1)
def iI (x y : En) (k : Int → Int → Prop) : Prop := match x, y with | .da (.int i), .da (.int j) => k i j | _, _ => False
theorem iI_inv {x y : En} {k : Int → Int → Prop} (h : iI x y k) : ∃ i j, x = .da (.int i) ∧ y = .da (.int j) ∧ k i j := by
  unfold iI at h
  split at h
  · exact ⟨_, _, rfl, rfl, h⟩
  · exact h.elim
def i1 (x : En) (k : Int → Prop) : Prop := match x with | .da (.int i) => k i | _ => False
theorem i1_inv {x : En} {k : Int → Prop} (h : i1 x k) : ∃ i, x = .da (.int i) ∧ k i := by
  unfold i1 at h
  split at h
  · exact ⟨_, rfl, h⟩
  · exact h.elim
theorem opd_int {K : PySem.W.Frag} {C : Int → Int → Prop} {g : Int → Int → Int} : OpD K (rI C fun i j => .int (g i j)) (fun s x y Ks => iI x y fun i j => C i j ∧ Ks s (.da (.int (g i j)))) := by
  intro b A own H σ s vx vy x y Ks Q R ex ey h k
  obtain ⟨i, j, rfl, rfl, hc, h⟩ := iI_inv h
  cases ex
  cases ey
  exact ⟨i, j, rfl, rfl, hc, k.da R Up.refl (.int _) h⟩
theorem opd_int0 {K : PySem.W.Frag} {g : Int → Int → Int} : OpD K (rI0 fun i j => .int (g i j)) (fun s x y Ks => iI x y fun i j => Ks s (.da (.int (g i j)))) := by
  intro b A own H σ s vx vy x y Ks Q R ex ey h k
  obtain ⟨i, j, rfl, rfl, h⟩ := iI_inv h
  cases ex
  cases ey
  exact ⟨i, j, rfl, rfl, k.da R Up.refl (.int _) h⟩
theorem opd_intB {K : PySem.W.Frag} {g : Int → Int → Bool} : OpD K (rI0 fun i j => .bl (g i j)) (fun s x y Ks => iI x y fun i j => Ks s (.da (.bool (g i j)))) := by
  intro b A own H σ s vx vy x y Ks Q R ex ey h k
  obtain ⟨i, j, rfl, rfl, h⟩ := iI_inv h
  cases ex
  cases ey
  exact ⟨i, j, rfl, rfl, k.da R Up.refl (.bl _) h⟩
def dAdd : WE → WE → WE := d2 fun s x y Ks => iI x y fun i j => Ks s (.da (.int (i + j)))
def dSub : WE → WE → WE := d2 fun s x y Ks => iI x y fun i j => Ks s (.da (.int (i - j)))
def dMul : WE → WE → WE := d2 fun s x y Ks => iI x y fun i j => CMulX i j ∧ Ks s (.da (.int (i * j)))
def dDiv : WE → WE → WE := d2 fun s x y Ks => iI x y fun i j => CDivW i j ∧ Ks s (.da (.int (i / j)))
def dMod : WE → WE → WE := d2 fun s x y Ks => iI x y fun i j => 0 < j ∧ Ks s (.da (.int (i % j)))
def dPow : WE → WE → WE := d2 fun s x y Ks => iI x y fun i j => CPow i j ∧ Ks s (.da (.int (i ^ j.toNat)))
def dLt : WE → WE → WE := d2 fun s x y Ks => iI x y fun i j => Ks s (.da (.bool (decide (i < j))))
def dGt : WE → WE → WE := d2 fun s x y Ks => iI x y fun i j => Ks s (.da (.bool (decide (j < i))))
theorem de_add (ha : DE X a wa) (hb : DE X b wb) : DE X (.BinOp a .Add b pos) (dAdd wa wb) := de_op op_add opd_int0 ha hb
theorem de_sub (ha : DE X a wa) (hb : DE X b wb) : DE X (.BinOp a .Sub b pos) (dSub wa wb) := de_op op_sub opd_int0 ha hb
theorem de_mul (ha : DE X a wa) (hb : DE X b wb) : DE X (.BinOp a .Mult b pos) (dMul wa wb) := de_op op_mulX opd_int ha hb
theorem de_div (ha : DE X a wa) (hb : DE X b wb) : DE X (.BinOp a .FloorDiv b pos) (dDiv wa wb) := de_op op_fdivW opd_int ha hb
theorem de_mod (ha : DE X a wa) (hb : DE X b wb) : DE X (.BinOp a .Mod b pos) (dMod wa wb) := de_op op_mod opd_int ha hb
theorem de_pow (ha : DE X a wa) (hb : DE X b wb) : DE X (.BinOp a .Pow b pos) (dPow wa wb) := de_op op_pow opd_int ha hb
theorem de_gt (ha : DE X a wa) (hb : DE X b wb) : DE X (.Compare a [.Gt] [b] pos) (dGt wa wb) := de_cmp op_gt opd_intB ha hb (nomark _)
theorem dt_lt (ha : DE X a wa) (hb : DE X b wb) : DT X (.Compare a [.Lt] [b] pos) (tT (dLt wa wb)) := dt_cmp op_lt opd_intB ha hb (nomark _)
theorem dt_gt (ha : DE X a wa) (hb : DE X b wb) : DT X (.Compare a [.Gt] [b] pos) (tT (dGt wa wb)) := dt_cmp op_gt opd_intB ha hb (nomark _)
def dNeg (wa : WE) : WE := fun s Ks => wa s fun s1 x => i1 x fun i => Ks s1 (.da (.int (-i)))
theorem de_neg (ha : DE X a wa) : DE X (.UnaryOp .USub a pos) (dNeg wa) := by
  obtain ⟨ta, pa, qa⟩ := ha.ex
  refine ⟨_, pe_un un_neg pa, fun b A own H σ s Ks Q R h k => ?_⟩
  refine qa _ _ _ _ _ _ _ _ R h fun A1 o1 H1 v1 s1 x1 R1 U1 E1 h1 => ?_
  obtain ⟨i, rfl, h2⟩ := i1_inv h1
  cases E1
  exact ⟨i, rfl, k.da R1 U1 (.int _) h2⟩
def vw (s : S) : En → Option D
  | .da d => some d
  | .mu k => match gm s.ms k with | .lst ds => some (.list ds) | _ => none
  | .no => none
theorem vw_dp {K : PySem.W.Frag} {b : Bd} {A : Addr → Prop} {own : List (List Addr)} {H : Hp} {σ : L2.St} {s : S} (R : Rel K b A own H σ s) {v : V} {x : En} {d : D} (h : ER K A own H v x) (e : vw s x = some d) (hl : d.canLay0 = true) : Dp K H v d := by
  cases x with
  | no => cases e
  | da d' => cases e; exact Rp.dp h hl
  | mu k =>
    obtain ⟨a, r, g, rfl⟩ := h
    have m := R.mr k
    unfold vw at e
    simp only at e
    cases q : gm s.ms k with
    | lst ds =>
      rw [q] at e m
      cases e
      obtain ⟨a', vs, e1, e2, e3⟩ := m
      rw [e1] at g
      cases g
      exact .lst (.inl (.inl e2)) (RpL.dp e3 (by simpa only [PyData.canLay0] using hl))
    | _ => rw [q] at e; cases e
theorem vw_lst {K : PySem.W.Frag} {b : Bd} {A : Addr → Prop} {own : List (List Addr)} {H : Hp} {σ : L2.St} {s : S} (R : Rel K b A own H σ s) {v : V} {x : En} {ds : List D} (h : ER K A own H v x) (e : vw s x = some (.list ds)) :
    ∃ a vs, v = .ref a ∧ SqL K H a vs ∧ RpL K A H vs ds := by
  cases x with
  | no => cases e
  | da d' => cases e; cases h with | lst l r => exact ⟨_, _, rfl, l.sq, r⟩
  | mu k =>
    obtain ⟨a, r, g, rfl⟩ := h
    have m := R.mr k
    unfold vw at e
    simp only at e
    cases q : gm s.ms k with
    | lst ds =>
      rw [q] at e m
      cases e
      obtain ⟨a', vs, e1, e2, e3⟩ := m
      rw [e1] at g
      cases g
      exact ⟨_, _, rfl, .inl (.inl e2), e3⟩
    | _ => rw [q] at e; cases e
theorem vw_tup {K : PySem.W.Frag} {b : Bd} {A : Addr → Prop} {own : List (List Addr)} {H : Hp} {σ : L2.St} {s : S} (R : Rel K b A own H σ s) {v : V} {x : En} {ds : List D} (h : ER K A own H v x) (e : vw s x = some (.tuple ds)) :
    ∃ a vs, v = .ref a ∧ SqT K H a vs ∧ RpL K A H vs ds := by
  cases x with
  | no => cases e
  | da d' => cases e; cases h with | tup l r => exact ⟨_, _, rfl, l.sq, r⟩
  | mu k =>
    unfold vw at e
    simp only at e
    cases q : gm s.ms k with
    | _ => rw [q] at e; cases e
theorem vw_str {K : PySem.W.Frag} {b : Bd} {A : Addr → Prop} {own : List (List Addr)} {H : Hp} {σ : L2.St} {s : S} (R : Rel K b A own H σ s) {v : V} {x : En} {z : Str} (h : ER K A own H v x) (e : vw s x = some (.str z)) : v = .str z := by
  cases x with
  | no => cases e
  | da d' =>
    cases e
    cases (show Rp K A H v (.str z) from h)
    rfl
  | mu k =>
    unfold vw at e
    simp only at e
    cases q : gm s.ms k with
    | _ => rw [q] at e; cases e
def eqS : D → D → Option Bool
  | .int i, .int j => some (decide (i = j))
  | .str i, .str j => some (decide (i = j))
  | .bool i, .bool j => some (decide (i = j))
  | .none, .none => some true
  | .none, .int _ => some false
  | .none, .str _ => some false
  | .none, .bool _ => some false
  | .int _, .none => some false
  | .str _, .none => some false
  | .bool _, .none => some false
  | .int _, .str _ => some false
  | .str _, .int _ => some false
  | .bool _, .str _ => some false
  | .str _, .bool _ => some false
  | _, _ => none
def onO {α : Type} (o : Option α) (k : α → Prop) : Prop := match o with | some x => k x | none => False
theorem onO_inv {α : Type} {o : Option α} {k : α → Prop} (h : onO o k) : ∃ x, o = some x ∧ k x := by
  cases o with
  | none => exact h.elim
  | some x => exact ⟨x, rfl, h⟩
def da2 (x y : En) (k : D → D → Prop) : Prop := match x, y with | .da d, .da e => k d e | _, _ => False
theorem da2_inv {x y : En} {k : D → D → Prop} (h : da2 x y k) : ∃ d e, x = .da d ∧ y = .da e ∧ k d e := by
  unfold da2 at h
  split at h
  · exact ⟨_, _, rfl, rfl, h⟩
  · exact h.elim
def xr (neg c : Bool) : Bool := match neg with | true => !c | false => c
def rdEqS (neg : Bool) : S → En → En → (S → En → Prop) → Prop := fun s x y Ks => da2 x y fun d e => onO (eqS d e) fun c => Ks s (.da (.bool (xr neg c)))
theorem eqS_rel {K : PySem.W.Frag} {A : Addr → Prop} {H : Hp} {d e : D} {c : Bool} {v u : V} (hv : Rp K A H v d) (hu : Rp K A H u e) (h : eqS d e = some c) : scal v u = true ∧ decide (v = u) = c := by
  cases hv <;> cases hu <;> simp only [eqS, Option.some.injEq, reduceCtorEq] at h <;> subst h <;> refine ⟨rfl, ?_⟩ <;> simp
theorem opd_eqS {K : PySem.W.Frag} : OpD K rEq (rdEqS false) := by
  intro b A own H σ s vx vy x y Ks Q R ex ey h k
  obtain ⟨d, e, rfl, rfl, h⟩ := da2_inv h
  obtain ⟨c, hc, h⟩ := onO_inv h
  obtain ⟨h1, h2⟩ := eqS_rel ex ey hc
  refine ⟨h1, ?_⟩
  rw [h2]
  exact k.da R Up.refl (.bl _) h
theorem opd_neS {K : PySem.W.Frag} : OpD K rNe (rdEqS true) := by
  intro b A own H σ s vx vy x y Ks Q R ex ey h k
  obtain ⟨d, e, rfl, rfl, h⟩ := da2_inv h
  obtain ⟨c, hc, h⟩ := onO_inv h
  obtain ⟨h1, h2⟩ := eqS_rel ex ey hc
  refine ⟨h1, ?_⟩
  rw [h2]
  exact k.da R Up.refl (.bl _) h
def dEqS : WE → WE → WE := d2 (rdEqS false)
def dNeS : WE → WE → WE := d2 (rdEqS true)
theorem de_eqS (ha : DE X a wa) (hb : DE X b wb) : DE X (.Compare a [.Eq] [b] pos) (dEqS wa wb) := de_cmp op_eq opd_eqS ha hb (nomark _)
theorem dt_eqS (ha : DE X a wa) (hb : DE X b wb) : DT X (.Compare a [.Eq] [b] pos) (tT (dEqS wa wb)) := dt_cmp op_eq opd_eqS ha hb (nomark _)
theorem dt_neS (ha : DE X a wa) (hb : DE X b wb) : DT X (.Compare a [.NotEq] [b] pos) (tT (dNeS wa wb)) := dt_cmp op_ne opd_neS ha hb (nomark _)
def vw2 (s : S) (x y : En) (k : D → D → Prop) : Prop := onO (vw s x) fun d => onO (vw s y) fun e => k d e
def rdEqD (neg : Bool) : S → En → En → (S → En → Prop) → Prop := fun s x y Ks => vw2 s x y fun d e => SeqAt.shaped d = true ∧ SeqAt.shaped e = true ∧ Ks s (.da (.bool (xr neg (PyData.eqv d e))))
theorem opd_eqD {K : PySem.W.Frag} : OpD K (rEqD K) (rdEqD false) := by
  intro b A own H σ s vx vy x y Ks Q R ex ey h k
  obtain ⟨d, hd, h⟩ := onO_inv h
  obtain ⟨e, he, h1, h2, h⟩ := onO_inv h
  exact ⟨d, e, vw_dp R ex hd (SeqAt.canLay_of_shaped h1), vw_dp R ey he (SeqAt.canLay_of_shaped h2), h1, h2, k.da R Up.refl (.bl _) h⟩
theorem opd_neD {K : PySem.W.Frag} : OpD K (rNeD K) (rdEqD true) := by
  intro b A own H σ s vx vy x y Ks Q R ex ey h k
  obtain ⟨d, hd, h⟩ := onO_inv h
  obtain ⟨e, he, h1, h2, h⟩ := onO_inv h
  exact ⟨d, e, vw_dp R ex hd (SeqAt.canLay_of_shaped h1), vw_dp R ey he (SeqAt.canLay_of_shaped h2), h1, h2, k.da R Up.refl (.bl _) h⟩
def dEqD : WE → WE → WE := d2 (rdEqD false)
def dNeD : WE → WE → WE := d2 (rdEqD true)
theorem dt_eqD (hu : X.A.units + 64 < cLine) (ha : DE X a wa) (hb : DE X b wb) : DT X (.Compare a [.Eq] [b] pos) (tT (dEqD wa wb)) := dt_cmp (op_eqD hu) opd_eqD ha hb (nomark _)
theorem dt_neD (hu : X.A.units + 64 < cLine) (ha : DE X a wa) (hb : DE X b wb) : DT X (.Compare a [.NotEq] [b] pos) (tT (dNeD wa wb)) := dt_cmp (op_neD hu) opd_neD ha hb (nomark _)
def isNone : D → Bool | .none => true | _ => false
def rdIsN (neg : Bool) : S → En → En → (S → En → Prop) → Prop := fun s x y Ks => match x, y with | .da d, .da .none => Ks s (.da (.bool (xr neg (isNone d)))) | _, _ => False
theorem isN_rel {K : PySem.W.Frag} {A : Addr → Prop} {H : Hp} {d : D} {v : V} (hv : Rp K A H v d) : decide (v = .non) = isNone d := by
  cases hv <;> simp [isNone]
theorem opd_isN {K : PySem.W.Frag} : OpD K (fun x y H Q => y = .non ∧ Q (.bl (decide (x = .non))) H) (rdIsN false) := by
  intro b A own H σ s vx vy x y Ks Q R ex ey h k
  unfold rdIsN at h
  split at h
  · cases ey
    refine ⟨rfl, ?_⟩
    rw [isN_rel ex]
    exact k.da R Up.refl (.bl _) h
  · exact h.elim
def dIsN : WE → WE → WE := d2 (rdIsN false)
theorem dt_isN (ha : DE X a wa) (hb : DE X b wb) : DT X (.Compare a [.Is] [b] pos) (tT (dIsN wa wb)) := dt_cmp op_isN opd_isN ha hb (nomark _)
end
end DL
namespace DL
open PySem L2
section
variable {X : Cx} {a b c e : Expr} {wa wb wc we : WE} {pos : Pos}
theorem RpL.atI {K : PySem.W.Frag} {A : Addr → Prop} {H : Hp} {vs : List V} {ds : List D} {i : Int} {d : D} (r : RpL K A H vs ds) (h : L2.atI ds i = some d) : ∃ v, L2.atI vs i = some v ∧ Rp K A H v d := by
  unfold L2.atI at h ⊢
  rw [r.length]
  cases q : ixN ds.length i with
  | none => rw [q] at h; cases h
  | some j => rw [q] at h; exact r.get h
def ixD (d : D) (i : Int) (k : D → Prop) : Prop := match d with
  | .list ds => ∃ e, L2.atI ds i = some e ∧ k e
  | .tuple ds => ∃ e, L2.atI ds i = some e ∧ k e
  | .str z => ∃ c, L2.atI z.cps.toList i = some c ∧ z.length ≤ sizeLine ∧ k (.str ⟨#[c]⟩)
  | _ => False
def rdIx : S → En → En → (S → En → Prop) → Prop := fun s x y Ks => onO (vw s x) fun d => i1 y fun i => ixD d i fun e => Ks s (.da e)
theorem opd_ix {K : PySem.W.Frag} : OpD K (rIx K) rdIx := by
  intro b A own H σ s vx vy x y Ks Q R ex ey h k
  obtain ⟨d, hd, h⟩ := onO_inv h
  obtain ⟨i, rfl, h⟩ := i1_inv h
  cases ey
  unfold ixD at h
  split at h
  · obtain ⟨d', h1, h2⟩ := h
    obtain ⟨a, vs, rfl, q, r⟩ := vw_lst R ex hd
    obtain ⟨v, h3, h4⟩ := r.atI h1
    exact .inl ⟨a, vs, i, v, rfl, rfl, q, h3, k.da R Up.refl h4 h2⟩
  · obtain ⟨d', h1, h2⟩ := h
    obtain ⟨a, vs, rfl, q, r⟩ := vw_tup R ex hd
    obtain ⟨v, h3, h4⟩ := r.atI h1
    exact .inr (.inl ⟨a, vs, i, v, rfl, rfl, q, h3, k.da R Up.refl h4 h2⟩)
  · obtain ⟨c, h1, h0, h2⟩ := h
    cases vw_str R ex hd
    exact .inr (.inr ⟨_, i, c, rfl, rfl, h0, h1, k.da R Up.refl (.str _) h2⟩)
  · exact h.elim
def dIx : WE → WE → WE := d2 rdIx
theorem de_ix (ha : DE X a wa) (hb : DE X b wb) (hs : PlainIx b := by exact fun _ _ => rfl) : DE X (.Subscript a b pos) (dIx wa wb) := by
  obtain ⟨ta, pa, qa⟩ := ha.ex
  obtain ⟨tb, pb, qb⟩ := hb.ex
  exact ⟨_, pe_ix ix_seq pa pb hs, d2_run opd_ix qa qb⟩
abbrev WO := S → (S → Option Int → Prop) → Prop
def PostO (K : PySem.W.Frag) (b : Bd) (A : Addr → Prop) (own : List (List Addr)) (H : Hp) (σ : L2.St) (Ks : S → Option Int → Prop) (Q : Option Int → Hp → Prop) : Prop := ∀ (A' : Addr → Prop) (own' : List (List Addr)) (H' : Hp) (s' : S) (c : Option Int), Rel K b A' own' H' σ s' → Up A own H A' own' H' → Ks s' c → Q c H'
structure DO (X : Cx) (e : Option Expr) (w : WO) : Prop where
  ex : ∃ t, PO X e t ∧ ∀ (b : Bd) (A : Addr → Prop) (own : List (List Addr)) (H : Hp) (σ : L2.St) (s : S) (Ks : S → Option Int → Prop) (Q : Option Int → Hp → Prop), Rel X.K b A own H σ s → w s Ks → PostO X.K b A own H σ Ks Q → t σ H Q
def oNone : WO := fun s Ks => Ks s none
def oSome (w : WE) : WO := fun s Ks => w s fun s1 x => i1 x fun i => Ks s1 (some i)
theorem do_none : DO X none oNone := ⟨_, po_none, fun b A own H σ s Ks Q R h k => k _ _ _ _ _ R Up.refl h⟩
theorem do_some (h : DE X e we) : DO X (some e) (oSome we) := by
  obtain ⟨te, pe, qe⟩ := h.ex
  refine ⟨_, po_some pe, fun b A own H σ s Ks Q R h k => ?_⟩
  refine qe _ _ _ _ _ _ _ _ R h fun A1 o1 H1 v1 s1 x1 R1 U1 E1 h1 => ?_
  obtain ⟨i, rfl, h2⟩ := i1_inv h1
  cases E1
  exact ⟨i, rfl, k _ _ _ _ _ R1 U1 h2⟩
def cutD {α : Type} (xs : List α) (lo hi : Option Int) : List α := (xs.drop (HT.sIx xs.length 0 lo)).take (HT.sIx xs.length xs.length hi - HT.sIx xs.length 0 lo)
theorem RpL.cut {K : PySem.W.Frag} {A : Addr → Prop} {H : Hp} {vs : List V} {ds : List D} (r : RpL K A H vs ds) (lo hi : Option Int) : RpL K A H (cutV vs lo hi) (cutD ds lo hi) := by
  unfold cutV cutD
  rw [r.length]
  exact (r.drop _).take _
def dSl (rd : S → En → Option Int → Option Int → (S → En → Prop) → Prop) (we : WE) (wl wh : WO) : WE := fun s Ks => we s fun s1 x => wl s1 fun s2 l => wh s2 fun s3 u => rd s3 x l u Ks
theorem de_slice {r : V → Option Int → Option Int → Hp → VK → Prop} {rd} {lo hi : Option Expr} {wl wh : WO} {p2 : Pos} (hr : SlR X r)
    (hd : ∀ (b : Bd) (A : Addr → Prop) (own : List (List Addr)) (H : Hp) (σ : L2.St) (s : S) (v : V) (x : En) (l u : Option Int) (Ks : S → En → Prop) (Q : VK), Rel X.K b A own H σ s → ER X.K A own H v x → rd s x l u Ks → PostE X.K b A own H σ Ks Q → r v l u H Q)
    (he : DE X e we) (hl : DO X lo wl) (hh : DO X hi wh) : DE X (.Subscript e (.Slice lo hi none p2) pos) (dSl rd we wl wh) := by
  obtain ⟨te, pe, qe⟩ := he.ex
  obtain ⟨tl, pl, ql⟩ := hl.ex
  obtain ⟨th, ph, qh⟩ := hh.ex
  refine ⟨_, pe_slice hr pe pl ph, fun b A own H σ s Ks Q R h k => ?_⟩
  show te σ H fun x H1 => tl σ H1 fun l H2 => th σ H2 fun u H3 => r x l u H3 Q
  refine qe _ _ _ _ _ _ _ _ R h fun A1 o1 H1 v1 s1 x1 R1 U1 E1 h1 => ?_
  refine ql _ _ _ _ _ _ _ _ R1 h1 fun A2 o2 H2 s2 l R2 U2 h2 => ?_
  refine qh _ _ _ _ _ _ _ _ R2 h2 fun A3 o3 H3 s3 u R3 U3 h3 => ?_
  exact hd _ _ _ _ _ _ _ _ _ _ _ _ R3 (E1.up (U2.trans U3)) h3 (k.up ((U1.trans U2).trans U3))
theorem new_lst {K : PySem.W.Frag} {b : Bd} {A : Addr → Prop} {own : List (List Addr)} {H : Hp} {σ : L2.St} {s : S} {Ks : S → En → Prop} {Q : VK} {p : Addr} {vs : List V} {ds : List D} (R : Rel K b A own H σ s) (k : PostE K b A own H σ Ks Q) (r : RpL K A H vs ds) (hp : H p = none) (h : Ks s (.da (.list ds))) : Q (.ref p) (upd H p (.lst vs)) := by
  obtain ⟨R1, U1⟩ := R.new (o := .lst vs) hp
  exact k.da R1 U1 (.lst ⟨upd_same, R.freshA hp⟩ (RpL.mono U1.kp r)) h
theorem new_tup {K : PySem.W.Frag} {b : Bd} {A : Addr → Prop} {own : List (List Addr)} {H : Hp} {σ : L2.St} {s : S} {Ks : S → En → Prop} {Q : VK} {p : Addr} {vs : List V} {ds : List D} (R : Rel K b A own H σ s) (k : PostE K b A own H σ Ks Q) (r : RpL K A H vs ds) (hp : H p = none) (h : Ks s (.da (.tuple ds))) : Q (.ref p) (upd H p (.tup vs)) := by
  obtain ⟨R1, U1⟩ := R.new (o := .tup vs) hp
  exact k.da R1 U1 (.tup (.inl ⟨upd_same, R.freshA hp⟩) (RpL.mono U1.kp r)) h
theorem new_mu {K : PySem.W.Frag} {b : Bd} {A : Addr → Prop} {own : List (List Addr)} {H : Hp} {σ : L2.St} {s : S} {Ks : S → En → Prop} {Q : VK} {p : Addr} {vs : List V} {ds : List D} (R : Rel K b A own H σ s) (k : PostE K b A own H σ Ks Q) (r : RpL K A H vs ds) (hp : H p = none) (h : Ks (s.aM (.lst ds)) (.mu s.ms.length)) : Q (.ref p) (upd H p (.lst vs)) := by
  obtain ⟨R1, U1, g⟩ := R.newMu (o := .lst vs) hp (.lst ds) fun A' own' u => ⟨p, vs, rfl, upd_same, RpL.mono u.kp r⟩
  exact k _ _ _ _ _ (.mu s.ms.length) R1 U1 ⟨p, [], g, rfl⟩ h
def rdSlT : S → En → Option Int → Option Int → (S → En → Prop) → Prop := fun s x l u Ks => match x with | .da (.tuple ds) => Ks s (.da (.tuple (cutD ds l u))) | _ => False
theorem cutD_all {α : Type} (xs : List α) {lo hi : Option Int} (h1 : HT.sIx xs.length 0 lo = 0) (h2 : HT.sIx xs.length xs.length hi = xs.length) : cutD xs lo hi = xs := by
  unfold cutD
  rw [h1, h2, List.drop_zero, Nat.sub_zero, List.take_length]
theorem de_slT {lo hi : Option Expr} {wl wh : WO} {p2 : Pos} (he : DE X e we) (hl : DO X lo wl) (hh : DO X hi wh) : DE X (.Subscript e (.Slice lo hi none p2) pos) (dSl rdSlT we wl wh) :=
  de_slice sl_tupA (fun b A own H σ s v x l u Ks Q R E h k => by
    unfold rdSlT at h
    split at h
    · rename_i ds
      obtain ⟨a, vs, rfl, q, r⟩ := vw_tup R E rfl
      refine ⟨a, vs, rfl, q, fun z => ?_, fun _ p hp => new_tup R k (r.cut l u) hp h⟩
      rw [r.length] at z
      rw [cutD_all _ z.1 z.2] at h
      exact k.da R Up.refl E h
    · exact h.elim) he hl hh
def aNil : WA := fun s Ks => Ks s []
def aCons (we : WE) (wr : WA) : WA := fun s Ks => we s fun s1 x => wr s1 fun s2 xs => Ks s2 (x :: xs)
theorem da_nil : DA X [] aNil := ⟨_, pa_nil, fun b A own H σ s Ks Q R h k => k _ _ _ _ _ [] R Up.refl trivial h⟩
theorem da_cons {es : List Expr} {wr : WA} (h : DE X e we) (t : DA X es wr) (hs : starEach (e :: es) X.env = (false, eval e X.env) :: starEach es X.env := by rfl) : DA X (e :: es) (aCons we wr) := by
  obtain ⟨te, pe, qe⟩ := h.ex
  obtain ⟨tr, pr, qr⟩ := t.ex
  refine ⟨_, pa_cons pe pr hs, fun b A own H σ s Ks Q R h k => ?_⟩
  show te σ H fun x H1 => tr σ H1 fun xs H2 => Q (x :: xs) H2
  refine qe _ _ _ _ _ _ _ _ R h fun A1 o1 H1 v1 s1 x1 R1 U1 E1 h1 => ?_
  refine qr _ _ _ _ _ _ _ _ R1 h1 fun A2 o2 H2 vs s2 xs R2 U2 E2 h2 => ?_
  exact k _ _ _ _ _ (x1 :: xs) R2 (U1.trans U2) ⟨E1.up U2, E2⟩ h2
def allD : List En → Option (List D)
  | [] => some []
  | .da d :: xs => match allD xs with | some ds => some (d :: ds) | none => none
  | _ :: _ => none
theorem allD_rp {K : PySem.W.Frag} {A : Addr → Prop} {own : List (List Addr)} {H : Hp} : ∀ {vs : List V} {xs : List En} {ds : List D}, ERL K A own H vs xs → allD xs = some ds → RpL K A H vs ds
  | [], [], _, _, e => by cases e; exact .nil
  | v :: vs, .da d :: xs, ds, ⟨h, t⟩, e => by
    unfold allD at e
    cases q : allD xs with
    | none => rw [q] at e; cases e
    | some es => rw [q] at e; cases e; exact .cons h (allD_rp t q)
  | v :: vs, .no :: xs, ds, _, e => by cases e
  | v :: vs, .mu k :: xs, ds, _, e => by cases e
theorem ERL.len {K : PySem.W.Frag} {A : Addr → Prop} {own : List (List Addr)} {H : Hp} : ∀ {vs : List V} {xs : List En}, ERL K A own H vs xs → vs.length = xs.length
  | [], [], _ => rfl
  | _ :: _, _ :: _, ⟨_, t⟩ => congrArg (· + 1) (ERL.len t)
variable {es : List Expr} {wr : WA}
def dTup (wr : WA) : WE := fun s Ks => wr s fun s1 xs => onO (allD xs) fun ds => Ks s1 (.da (.tuple ds))
def dLst (wr : WA) : WE := fun s Ks => wr s fun s1 xs => onO (allD xs) fun ds => Ks s1 (.da (.list ds))
def dLstM (wr : WA) : WE := fun s Ks => wr s fun s1 xs => onO (allD xs) fun ds => Ks (s1.aM (.lst ds)) (.mu s1.ms.length)
structure DAn (X : Cx) (es : List Expr) (n : Nat) (w : WA) : Prop where
  ex : ∃ ta, PA X es ta ∧ ∀ (b : Bd) (A : Addr → Prop) (own : List (List Addr)) (H : Hp) (σ : L2.St) (s : S) (Ks : S → List En → Prop) (Q : List V → Hp → Prop), Rel X.K b A own H σ s → w s Ks → PostA X.K b A own H σ (fun s xs => xs.length = n ∧ Ks s xs) Q → ta σ H Q
theorem dan_nil : DAn X [] 0 aNil := ⟨_, pa_nil, fun b A own H σ s Ks Q R h k => k _ _ _ _ _ [] R Up.refl trivial ⟨rfl, h⟩⟩
theorem dan_cons {n : Nat} (h : DE X e we) (t : DAn X es n wr) (hs : starEach (e :: es) X.env = (false, eval e X.env) :: starEach es X.env := by rfl) : DAn X (e :: es) (n + 1) (aCons we wr) := by
  obtain ⟨te, pe, qe⟩ := h.ex
  obtain ⟨tr, pr, qr⟩ := t.ex
  refine ⟨_, pa_cons pe pr hs, fun b A own H σ s Ks Q R h k => ?_⟩
  show te σ H fun x H1 => tr σ H1 fun xs H2 => Q (x :: xs) H2
  refine qe _ _ _ _ _ _ _ _ R h fun A1 o1 H1 v1 s1 x1 R1 U1 E1 h1 => ?_
  refine qr _ _ _ _ _ _ _ _ R1 h1 fun A2 o2 H2 vs s2 xs R2 U2 E2 h2 => ?_
  exact k _ _ _ _ _ (x1 :: xs) R2 (U1.trans U2) ⟨E1.up U2, E2⟩ ⟨congrArg (· + 1) h2.1, h2.2⟩
theorem de_tup {n : Nat} {x1} (h : DAn X es n wr) (hn : n ≤ 1000 := by decide) : DE X (.Tuple es x1 pos) (dTup wr) := by
  obtain ⟨ta, pa, qa⟩ := h.ex
  refine ⟨_, pe_tup pa, fun b A own H σ s Ks Q R h k => ?_⟩
  refine qa _ _ _ _ _ _ _ _ R h fun A1 o1 H1 vs s1 xs R1 U1 E1 h1 => ?_
  obtain ⟨hl, h1⟩ := h1
  obtain ⟨ds, hd, h2⟩ := onO_inv h1
  refine ⟨?_, fun p hp => new_tup R1 (k.up U1) (allD_rp E1 hd) hp h2⟩
  rw [E1.len, hl]
  exact Nat.le_trans hn (by decide)
theorem de_lst {n : Nat} (h : DAn X es n wr) (hn : n ≤ 1000 := by decide) : DE X (.List es pos) (dLst wr) := by
  obtain ⟨ta, pa, qa⟩ := h.ex
  refine ⟨_, pe_lst pa, fun b A own H σ s Ks Q R h k => ?_⟩
  refine qa _ _ _ _ _ _ _ _ R h fun A1 o1 H1 vs s1 xs R1 U1 E1 h1 => ?_
  obtain ⟨hl, h1⟩ := h1
  obtain ⟨ds, hd, h2⟩ := onO_inv h1
  refine ⟨?_, fun p hp => new_lst R1 (k.up U1) (allD_rp E1 hd) hp h2⟩
  rw [E1.len, hl]
  exact Nat.le_trans hn (by decide)
theorem de_lstM {n : Nat} (h : DAn X es n wr) (hn : n ≤ 1000 := by decide) : DE X (.List es pos) (dLstM wr) := by
  obtain ⟨ta, pa, qa⟩ := h.ex
  refine ⟨_, pe_lst pa, fun b A own H σ s Ks Q R h k => ?_⟩
  refine qa _ _ _ _ _ _ _ _ R h fun A1 o1 H1 vs s1 xs R1 U1 E1 h1 => ?_
  obtain ⟨hl, h1⟩ := h1
  obtain ⟨ds, hd, h2⟩ := onO_inv h1
  refine ⟨?_, fun p hp => new_mu R1 (k.up U1) (allD_rp E1 hd) hp h2⟩
  rw [E1.len, hl]
  exact Nat.le_trans hn (by decide)
def CallD (K : PySem.W.Frag) (r : List V → Hp → VK → Prop) (rd : S → List En → (S → En → Prop) → Prop) : Prop := ∀ (b : Bd) (A : Addr → Prop) (own : List (List Addr)) (H : Hp) (σ : L2.St) (s : S) (vs : List V) (xs : List En) (Ks : S → En → Prop) (Q : VK),
  Rel K b A own H σ s → ERL K A own H vs xs → rd s xs Ks → PostE K b A own H σ Ks Q → r vs H Q
def dCall (rd : S → List En → (S → En → Prop) → Prop) (wr : WA) : WE := fun s Ks => wr s fun s1 xs => rd s1 xs Ks
theorem dCall_run {r : List V → Hp → VK → Prop} {rd} {ta : TA} (hd : CallD X.K r rd)
    (qa : ∀ (b : Bd) (A : Addr → Prop) (own : List (List Addr)) (H : Hp) (σ : L2.St) (s : S) (Ks : S → List En → Prop) (Q : List V → Hp → Prop), Rel X.K b A own H σ s → wr s Ks → PostA X.K b A own H σ Ks Q → ta σ H Q)
    (b : Bd) (A : Addr → Prop) (own : List (List Addr)) (H : Hp) (σ : L2.St) (s : S) (Ks : S → En → Prop) (Q : VK) (R : Rel X.K b A own H σ s) (h : dCall rd wr s Ks) (k : PostE X.K b A own H σ Ks Q) : ta σ H fun vs H1 => r vs H1 Q :=
  qa _ _ _ _ _ _ _ _ R h fun A1 o1 H1 vs s1 xs R1 U1 E1 h1 => hd _ _ _ _ _ _ _ _ _ _ R1 E1 h1 (k.up U1)
theorem de_callB {x : Str} {id : String} {p : Pos} {r : List V → Hp → VK → Prop} {rd} (hc : CallR X (.builtin id) r) (hd : CallD X.K r rd) (hg : Gl X x) (hm : X.mg x = none) (hv : bootBuiltins x = some (.builtin id)) (ha : DA X (e :: es) wr) (hn : x ≠ "__name__" := by decide) (hdb : (x == ("__debug__" : Str)) = false := by decide)
    (he : starEach (e :: es) X.env = (false, eval e X.env) :: starEach es X.env := by rfl) (hpl : (backTo pos (starEach es X.env)).any (·.1) = false := by rfl) : DE X (.Call (.Name x p) (e :: es) [] pos) (dCall rd wr) := by
  obtain ⟨ta, pa, qa⟩ := ha.ex
  exact ⟨_, pe_callB hc hg hm hv pa hn hdb he hpl, dCall_run hd qa⟩
theorem de_callTy {x : Str} {T : String} {p : Pos} {r : List V → Hp → VK → Prop} {rd} (hc : CallR X (.type T) r) (hd : CallD X.K r rd) (hg : Gl X x) (hm : X.mg x = none) (hv : bootBuiltins x = some (.type T)) (ha : DA X (e :: es) wr) (hn : x ≠ "__name__" := by decide) (hdb : (x == ("__debug__" : Str)) = false := by decide)
    (he : starEach (e :: es) X.env = (false, eval e X.env) :: starEach es X.env := by rfl) (hpl : (backTo pos (starEach es X.env)).any (·.1) = false := by rfl) : DE X (.Call (.Name x p) (e :: es) [] pos) (dCall rd wr) := by
  obtain ⟨ta, pa, qa⟩ := ha.ex
  exact ⟨_, pe_callTy hc hg hm hv pa hn hdb he hpl, dCall_run hd qa⟩
def a1 (xs : List En) (k : En → Prop) : Prop := match xs with | [x] => k x | _ => False
def a2 (xs : List En) (k : En → En → Prop) : Prop := match xs with | [x, y] => k x y | _ => False
theorem a1_inv {K : PySem.W.Frag} {A : Addr → Prop} {own : List (List Addr)} {H : Hp} {vs : List V} {xs : List En} {k : En → Prop} (e : ERL K A own H vs xs) (h : a1 xs k) : ∃ v x, vs = [v] ∧ ER K A own H v x ∧ k x := by
  unfold a1 at h
  split at h
  · match vs, e with
    | [v], ⟨e1, _⟩ => exact ⟨v, _, rfl, e1, h⟩
  · exact h.elim
theorem a2_inv {K : PySem.W.Frag} {A : Addr → Prop} {own : List (List Addr)} {H : Hp} {vs : List V} {xs : List En} {k : En → En → Prop} (e : ERL K A own H vs xs) (h : a2 xs k) : ∃ v u x y, vs = [v, u] ∧ ER K A own H v x ∧ ER K A own H u y ∧ k x y := by
  unfold a2 at h
  split at h
  · match vs, e with
    | [v, u], ⟨e1, e2, _⟩ => exact ⟨v, u, _, _, rfl, e1, e2, h⟩
  · exact h.elim
def lenD : D → (Nat → Prop) → Prop
  | .list ds, k => k ds.length
  | .tuple ds, k => k ds.length
  | .str z, k => z.length ≤ sizeLine ∧ k z.length
  | _, _ => False
def cLen : S → List En → (S → En → Prop) → Prop := fun s xs Ks => a1 xs fun x => onO (vw s x) fun d => lenD d fun n => Ks s (.da (.int (n : Int)))
theorem cd_len {K : PySem.W.Frag} : CallD K (fun xs H Q => ∃ x n, xs = [x] ∧ LenV K x H n ∧ Q (.int n) H) cLen := by
  intro b A own H σ s vs xs Ks Q R E h k
  obtain ⟨v, x, rfl, E, h⟩ := a1_inv E h
  obtain ⟨d, hd, h⟩ := onO_inv h
  unfold lenD at h
  split at h
  · obtain ⟨a, vs, rfl, q, r⟩ := vw_lst R E hd
    exact ⟨_, _, rfl, .inl ⟨vs, q, r.length.symm⟩, k.da R Up.refl (.int _) h⟩
  · obtain ⟨a, vs, rfl, q, r⟩ := vw_tup R E hd
    exact ⟨_, _, rfl, .inr ⟨vs, q, r.length.symm⟩, k.da R Up.refl (.int _) h⟩
  · cases vw_str R E hd
    exact ⟨_, _, rfl, ⟨h.1, rfl⟩, k.da R Up.refl (.int _) h.2⟩
  · exact h.elim
theorem de_len {x : Str} {p : Pos} (hg : Gl X "len") (hm : X.mg "len" = none) (ha : DE X a wa)
    (he : starEach (a :: []) X.env = (false, eval a X.env) :: starEach [] X.env := by rfl) : DE X (.Call (.Name "len" p) [a] [] pos) (dCall cLen (aCons wa aNil)) := de_callB call_len cd_len hg hm PySem.boot_len (da_cons ha da_nil he) (he := he)
def cMin : S → List En → (S → En → Prop) → Prop := fun s xs Ks => a2 xs fun x y => iI x y fun i j => Ks s (.da (.int (min i j)))
def cMax : S → List En → (S → En → Prop) → Prop := fun s xs Ks => a2 xs fun x y => iI x y fun i j => Ks s (.da (.int (max i j)))
theorem cd_min {K : PySem.W.Frag} : CallD K (fun xs H Q => ∃ i j, xs = [.int i, .int j] ∧ Q (.int (if j < i then j else i)) H) cMin := by
  intro b A own H σ s vs xs Ks Q R E h k
  obtain ⟨v, u, x, y, rfl, E1, E2, h⟩ := a2_inv E h
  obtain ⟨i, j, rfl, rfl, h⟩ := iI_inv h
  cases E1; cases E2
  refine ⟨i, j, rfl, ?_⟩
  rw [show (if j < i then j else i) = min i j by omega]
  exact k.da R Up.refl (.int _) h
theorem cd_max {K : PySem.W.Frag} : CallD K (fun xs H Q => ∃ i j, xs = [.int i, .int j] ∧ Q (.int (if j > i then j else i)) H) cMax := by
  intro b A own H σ s vs xs Ks Q R E h k
  obtain ⟨v, u, x, y, rfl, E1, E2, h⟩ := a2_inv E h
  obtain ⟨i, j, rfl, rfl, h⟩ := iI_inv h
  cases E1; cases E2
  refine ⟨i, j, rfl, ?_⟩
  rw [show (if j > i then j else i) = max i j by omega]
  exact k.da R Up.refl (.int _) h
theorem de_min {p : Pos} (hc : X.calm = true) (hg : Gl X "min") (hm : X.mg "min" = none) (ha : DE X a wa) (hb : DE X b wb)
    (he : starEach (a :: [b]) X.env = (false, eval a X.env) :: starEach [b] X.env := by rfl) (he2 : starEach (b :: []) X.env = (false, eval b X.env) :: starEach [] X.env := by rfl) (hpl : (backTo pos (starEach [b] X.env)).any (·.1) = false := by rfl) : DE X (.Call (.Name "min" p) [a, b] [] pos) (dCall cMin (aCons wa (aCons wb aNil))) := de_callB (call_min2 hc) cd_min hg hm (by decide +kernel) (da_cons ha (da_cons hb da_nil he2) he) (he := he) (hpl := hpl)
theorem de_max {p : Pos} (hc : X.calm = true) (hg : Gl X "max") (hm : X.mg "max" = none) (ha : DE X a wa) (hb : DE X b wb)
    (he : starEach (a :: [b]) X.env = (false, eval a X.env) :: starEach [b] X.env := by rfl) (he2 : starEach (b :: []) X.env = (false, eval b X.env) :: starEach [] X.env := by rfl) (hpl : (backTo pos (starEach [b] X.env)).any (·.1) = false := by rfl) : DE X (.Call (.Name "max" p) [a, b] [] pos) (dCall cMax (aCons wa (aCons wb aNil))) := de_callB (call_max2 hc) cd_max hg hm (by decide +kernel) (da_cons ha (da_cons hb da_nil he2) he) (he := he) (hpl := hpl)
def seqD : D → Option (List D) | .list ds => some ds | .tuple ds => some ds | _ => none
def cList : S → List En → (S → En → Prop) → Prop := fun s xs Ks => a1 xs fun x => onO (vw s x) fun d => onO (seqD d) fun ds => Ks s (.da (.list ds))
def cListM : S → List En → (S → En → Prop) → Prop := fun s xs Ks => a1 xs fun x => onO (vw s x) fun d => onO (seqD d) fun ds => Ks (s.aM (.lst ds)) (.mu s.ms.length)
theorem cd_list {K : PySem.W.Frag} : CallD K (fun xs H Q => ∃ p ys, xs = [.ref p] ∧ (SqL K H p ys ∨ SqT K H p ys) ∧ ∀ l, H l = none → Q (.ref l) (upd H l (.lst ys))) cList := by
  intro b A own H σ s vs xs Ks Q R E h k
  obtain ⟨v, x, rfl, E, h⟩ := a1_inv E h
  obtain ⟨d, hd, h⟩ := onO_inv h
  obtain ⟨ds, hs, h⟩ := onO_inv h
  unfold seqD at hs
  split at hs <;> cases hs
  · obtain ⟨a, vs, rfl, q, r⟩ := vw_lst R E hd
    exact ⟨a, vs, rfl, .inl q, fun l hl => new_lst R k r hl h⟩
  · obtain ⟨a, vs, rfl, q, r⟩ := vw_tup R E hd
    exact ⟨a, vs, rfl, .inr q, fun l hl => new_lst R k r hl h⟩
theorem cd_listM {K : PySem.W.Frag} : CallD K (fun xs H Q => ∃ p ys, xs = [.ref p] ∧ (SqL K H p ys ∨ SqT K H p ys) ∧ ∀ l, H l = none → Q (.ref l) (upd H l (.lst ys))) cListM := by
  intro b A own H σ s vs xs Ks Q R E h k
  obtain ⟨v, x, rfl, E, h⟩ := a1_inv E h
  obtain ⟨d, hd, h⟩ := onO_inv h
  obtain ⟨ds, hs, h⟩ := onO_inv h
  unfold seqD at hs
  split at hs <;> cases hs
  · obtain ⟨a, vs, rfl, q, r⟩ := vw_lst R E hd
    exact ⟨a, vs, rfl, .inl q, fun l hl => new_mu R k r hl h⟩
  · obtain ⟨a, vs, rfl, q, r⟩ := vw_tup R E hd
    exact ⟨a, vs, rfl, .inr q, fun l hl => new_mu R k r hl h⟩
theorem de_list {p : Pos} (hg : Gl X "list") (hm : X.mg "list" = none) (ha : DE X a wa) (he : starEach (a :: []) X.env = (false, eval a X.env) :: starEach [] X.env := by rfl) : DE X (.Call (.Name "list" p) [a] [] pos) (dCall cList (aCons wa aNil)) := de_callTy call_list_of cd_list hg hm (by decide +kernel) (da_cons ha da_nil he) (he := he)
theorem de_listM {p : Pos} (hg : Gl X "list") (hm : X.mg "list" = none) (ha : DE X a wa) (he : starEach (a :: []) X.env = (false, eval a X.env) :: starEach [] X.env := by rfl) : DE X (.Call (.Name "list" p) [a] [] pos) (dCall cListM (aCons wa aNil)) := de_callTy call_list_of cd_listM hg hm (by decide +kernel) (da_cons ha da_nil he) (he := he)
end
end DL
namespace DL
open PySem L2
section
variable {X : Cx} {a b c e : Expr} {wa wb wc we : WE} {pos : Pos} {es : List Expr}
def gN (i : Nat) : WG := fun x s Ks => Ks (s.sE i x)
theorem Sto.refl {js : List Nat} {σ : L2.St} : Sto js σ σ := ⟨rfl, fun _ _ => rfl⟩
theorem Sto.trans {js ks : List Nat} {σ τ υ : L2.St} (h : Sto js σ τ) (k : Sto ks τ υ) : Sto (js ++ ks) σ υ :=
  ⟨k.1.trans h.1, fun i n => (k.2 i fun z => n (List.mem_append_right _ z)).trans (h.2 i fun z => n (List.mem_append_left _ z))⟩
theorem dg_name {i : Nat} {x : Str} (hN : X.N.Nodup) (hi : X.N[i]? = some x) (hx : Loc X.env.scope x) (hf : X.fn x = true ∨ X.env.scope.names.lookup x = some .local := by first | exact .inl rfl | exact .inr rfl | assumption) : DG X (.Name x pos) [i] (gN i) :=
  ⟨_, pg_name hN hi hx hf, fun b A own H σ s v x Ks Q R E h k => k _ _ _ _ _ (R.slot E) Up.refl ⟨List.length_set .., fun j n => List.getElem?_set_ne (fun z => n (by simp [z]))⟩ h⟩
abbrev WGs := List D → S → (S → Prop) → Prop
structure DGs (X : Cx) (ts : List Expr) (js : List Nat) (w : WGs) : Prop where
  ex : ∃ g, PGs X ts g ∧ ∀ (b : Bd) (A : Addr → Prop) (own : List (List Addr)) (H : Hp) (σ : L2.St) (s : S) (vs : List V) (ds : List D) (Ks : S → Prop) (Q : L2.St → Hp → Prop), Rel X.K b A own H σ s → RpL X.K A H vs ds → w ds s Ks → PostG X.K b A own H σ js Ks Q → g vs σ H Q
def gsNil : WGs := fun ds s Ks => match ds with | [] => Ks s | _ => False
def gsCons (g : WG) (r : WGs) : WGs := fun ds s Ks => match ds with | d :: ds => g (.da d) s fun s1 => r ds s1 Ks | [] => False
theorem dgs_nil : DGs X [] [] gsNil := ⟨_, pgs_nil, fun b A own H σ s vs ds Ks Q R E h k => by
  unfold gsNil at h
  split at h
  · cases E; exact ⟨rfl, k _ _ _ _ _ R Up.refl Sto.refl h⟩
  · exact h.elim⟩
theorem dgs_cons {js ks : List Nat} {g : WG} {r : WGs} (h1 : DG X e js g) (h2 : DGs X es ks r) (hs : (assignEach (e :: es) X.env).map (·.2) = assign e X.env :: (assignEach es X.env).map (·.2) := by rfl) : DGs X (e :: es) (js ++ ks) (gsCons g r) := by
  obtain ⟨g1, p1, q1⟩ := h1.ex
  obtain ⟨g2, p2, q2⟩ := h2.ex
  refine ⟨_, pgs_cons p1 p2 hs, fun b A own H σ s vs ds Ks Q R E h k => ?_⟩
  unfold gsCons at h
  split at h
  · cases E with
    | cons e1 e2 =>
      refine ⟨_, _, rfl, ?_⟩
      refine q1 _ _ _ _ _ _ _ _ _ _ R (show ER X.K A own H _ (.da _) from e1) h fun A1 o1 H1 σ1 s1 R1 U1 S1 h1 => ?_
      exact q2 _ _ _ _ _ _ _ _ _ _ R1 (RpL.mono U1.kp e2) h1 fun A2 o2 H2 σ2 s2 R2 U2 S2 h2 => k _ _ _ _ _ R2 (U1.trans U2) (S1.trans S2) h2
  · exact h.elim
def gT (n : Nat) (r : WGs) : WG := fun x s Ks => match x with | .da (.tuple ds) => ds.length = n ∧ r ds s Ks | _ => False
theorem dg_tup {js : List Nat} {r : WGs} {n : Nat} {kk : Nat} (hc : X.calm = true) (h : DGs X es js r) (hn : (assignEach es X.env).length = n := by rfl) (hst : (assignEach es X.env).findIdx? (·.1) = none := by rfl) : DG X (.Tuple es kk pos) js (gT n r) := by
  obtain ⟨g, p, q⟩ := h.ex
  refine ⟨_, pg_tup hc p hn hst, fun b A own H σ s v x Ks Q R E h k => ?_⟩
  unfold gT at h
  split at h
  · obtain ⟨a, vs, rfl, t, r⟩ := vw_tup R E rfl
    exact ⟨a, vs, rfl, t, r.length.trans h.1, q _ _ _ _ _ _ _ _ _ _ R r h.2 k⟩
  · exact h.elim
def mu1 (s : S) (x : En) (k : Nat → List D → Prop) : Prop := match x with | .mu j => (match gm s.ms j with | .lst ds => k j ds | _ => False) | _ => False
theorem mu1_inv {s : S} {x : En} {k : Nat → List D → Prop} (h : mu1 s x k) : ∃ j ds, x = .mu j ∧ gm s.ms j = .lst ds ∧ k j ds := by
  unfold mu1 at h
  split at h
  · split at h
    · exact ⟨_, _, rfl, by assumption, h⟩
    · exact h.elim
  · exact h.elim
theorem gm_lt {ms : List MO} {j : Nat} (h : gm ms j ≠ .gone) : j < ms.length := Nat.lt_of_not_le fun z => h (gm_ge _ _ z)
theorem mu_at {K : PySem.W.Frag} {b : Bd} {A : Addr → Prop} {own : List (List Addr)} {H : Hp} {σ : L2.St} {s : S} (R : Rel K b A own H σ s) {v : V} {j : Nat} {ds : List D} (E : ER K A own H v (.mu j)) (g : gm s.ms j = .lst ds) :
    ∃ p vs, v = .ref p ∧ H p = some (.lst vs) ∧ RpL K A H vs ds ∧ go own j = [p] ∧ ∀ vs' ds', RpL K A H vs' ds' → Rel K b A own (upd H p (.lst vs')) σ (s.sM j (.lst ds')) ∧ Up A own H A own (upd H p (.lst vs')) := by
  have m := R.mr j
  rw [g] at m
  obtain ⟨p, vs, e1, e2, e3⟩ := m
  obtain ⟨p', r, e4, rfl⟩ := E
  rw [e1] at e4
  cases e4
  refine ⟨p, vs, rfl, e2, e3, e1, fun vs' ds' r' => ?_⟩
  refine R.chg j (.lst ds') (fun a o n h => ?_) (fun a h => ?_) (fun u => ?_) (gm_lt (by rw [g]; intro z; cases z))
  · rw [upd_ne]; exact h
    intro z; subst z; exact n (by rw [e1]; simp)
  · rw [e1] at h
    cases List.mem_singleton.mp h
    rw [upd_same]; intro z; cases z
  · rw [e1]; exact ⟨p, vs', rfl, upd_same, RpL.mono u.kp r'⟩
def daI (x : En) (k : D → Prop) : Prop := match x with | .da d => k d | _ => False
theorem daI_inv {x : En} {k : D → Prop} (h : daI x k) : ∃ d, x = .da d ∧ k d := by
  unfold daI at h
  split at h
  · exact ⟨_, rfl, h⟩
  · exact h.elim
def keyD : D → Option Key | .int i => some (.inl i) | .str x => some (.inr x) | _ => none
def findD (kvs : List (Key × D)) (k : Key) : Option D := (kvs.find? fun kv => decide (kv.1 = k)).map (·.2)
def putD (kvs : List (Key × D)) (k : Key) (d : D) : List (Key × D) :=
  if (kvs.any fun kv => decide (kv.1 = k)) = true then kvs.map (fun kv => if kv.1 = k then (kv.1, d) else kv) else kvs ++ [(k, d)]
theorem keyD_rp {K : PySem.W.Frag} {A : Addr → Prop} {H : Hp} {v : V} {d : D} {k : Key} (r : Rp K A H v d) (h : keyD d = some k) : v = kV k := by
  cases r <;> simp only [keyD, Option.some.injEq, reduceCtorEq] at h <;> subst h <;> rfl
section
variable {K : PySem.W.Frag} {A : Addr → Prop} {H : Hp}
theorem RKV.len : ∀ {ws : List (Key × V)} {kvs : List (Key × D)}, RKV K A H ws kvs → ws.length = kvs.length
  | [], [], _ => rfl
  | _ :: _, _ :: _, ⟨_, _, t⟩ => congrArg (· + 1) (RKV.len t)
theorem RKV.keys : ∀ {ws : List (Key × V)} {kvs : List (Key × D)}, RKV K A H ws kvs → ws.map (·.1) = kvs.map (·.1)
  | [], [], _ => rfl
  | _ :: _, _ :: _, ⟨e, _, t⟩ => by rw [List.map_cons, List.map_cons, e, RKV.keys t]
theorem RKV.vals : ∀ {ws : List (Key × V)} {kvs : List (Key × D)}, RKV K A H ws kvs → RpL K A H (ws.map (·.2)) (kvs.map (·.2))
  | [], [], _ => .nil
  | _ :: _, _ :: _, ⟨_, r, t⟩ => .cons r (RKV.vals t)
theorem RKV.any {k : Key} : ∀ {ws : List (Key × V)} {kvs : List (Key × D)}, RKV K A H ws kvs → (ws.any fun kv => decide (kv.1 = k)) = (kvs.any fun kv => decide (kv.1 = k))
  | [], [], _ => rfl
  | _ :: _, _ :: _, ⟨e, _, t⟩ => by rw [List.any_cons, List.any_cons, e, RKV.any t]
theorem RKV.map {k : Key} {v : V} {d : D} (r : Rp K A H v d) : ∀ {ws : List (Key × V)} {kvs : List (Key × D)}, RKV K A H ws kvs → RKV K A H (ws.map fun kv => if kv.1 = k then (kv.1, v) else kv) (kvs.map fun kv => if kv.1 = k then (kv.1, d) else kv)
  | [], [], _ => trivial
  | p :: _, q :: _, ⟨e, r', t⟩ => by
    rw [List.map_cons, List.map_cons]
    by_cases h : q.1 = k
    · rw [if_pos h, if_pos (e.trans h)]; exact ⟨e, r, RKV.map r t⟩
    · rw [if_neg h, if_neg (fun z => h (e.symm.trans z))]; exact ⟨e, r', RKV.map r t⟩
theorem RKV.snoc {k : Key} {v : V} {d : D} (r : Rp K A H v d) : ∀ {ws : List (Key × V)} {kvs : List (Key × D)}, RKV K A H ws kvs → RKV K A H (ws ++ [(k, v)]) (kvs ++ [(k, d)])
  | [], [], _ => ⟨rfl, r, trivial⟩
  | _ :: _, _ :: _, ⟨e, r', t⟩ => ⟨e, r', RKV.snoc r t⟩
theorem RKV.put {k : Key} {v : V} {d : D} (r : Rp K A H v d) {ws : List (Key × V)} {kvs : List (Key × D)} (h : RKV K A H ws kvs) : RKV K A H (putK ws k v) (putD kvs k d) := by
  unfold putK putD
  rw [h.any]
  split
  · exact h.map r
  · exact h.snoc r
theorem RKV.find {k : Key} : ∀ {ws : List (Key × V)} {kvs : List (Key × D)}, RKV K A H ws kvs → (findD kvs k = none ∧ valV ws k = none) ∨ ∃ d v, findD kvs k = some d ∧ valV ws k = some v ∧ Rp K A H v d
  | [], [], _ => .inl ⟨rfl, rfl⟩
  | p :: ws, q :: kvs, ⟨e, r, t⟩ => by
    unfold findD
    rw [List.find?_cons]
    by_cases h : q.1 = k
    · rw [decide_eq_true h, valV_pos (e.trans h)]; exact .inr ⟨_, _, rfl, rfl, r⟩
    · rw [decide_eq_false h, valV_neg (fun z => h (e.symm.trans z))]; exact RKV.find t
end
def mu2 (s : S) (x : En) (k : Nat → List (Key × D) → Prop) : Prop := match x with | .mu j => (match gm s.ms j with | .dct ds => k j ds | _ => False) | _ => False
theorem mu2_inv {s : S} {x : En} {k : Nat → List (Key × D) → Prop} (h : mu2 s x k) : ∃ j ds, x = .mu j ∧ gm s.ms j = .dct ds ∧ k j ds := by
  unfold mu2 at h
  split at h
  · split at h
    · exact ⟨_, _, rfl, by assumption, h⟩
    · exact h.elim
  · exact h.elim
theorem mud_at {K : PySem.W.Frag} {b : Bd} {A : Addr → Prop} {own : List (List Addr)} {H : Hp} {σ : L2.St} {s : S} (R : Rel K b A own H σ s) {v : V} {j : Nat} {ds : List (Key × D)} (E : ER K A own H v (.mu j)) (g : gm s.ms j = .dct ds) :
    ∃ p vs, v = .ref p ∧ H p = some (.dK vs) ∧ RKV K A H vs ds ∧ go own j = [p] ∧ ∀ vs' ds', RKV K A H vs' ds' → Rel K b A own (upd H p (.dK vs')) σ (s.sM j (.dct ds')) ∧ Up A own H A own (upd H p (.dK vs')) := by
  have m := R.mr j
  rw [g] at m
  obtain ⟨p, vs, e1, e2, e3⟩ := m
  obtain ⟨p', r, e4, rfl⟩ := E
  rw [e1] at e4
  cases e4
  refine ⟨p, vs, rfl, e2, e3, e1, fun vs' ds' r' => ?_⟩
  refine R.chg j (.dct ds') (fun a o n h => ?_) (fun a h => ?_) (fun u => ?_) (gm_lt (by rw [g]; intro z; cases z))
  · rw [upd_ne]; exact h
    intro z; subst z; exact n (by rw [e1]; simp)
  · rw [e1] at h
    cases List.mem_singleton.mp h
    rw [upd_same]; intro z; cases z
  · rw [e1]; exact ⟨p, vs', rfl, upd_same, RKV.up u.kp r'⟩
def gSetD (wo wi : WE) : WG := fun x s Ks => wo s fun s1 o => wi s1 fun s2 i => mu2 s2 o fun j kvs => daI i fun kd => onO (keyD kd) fun key => daI x fun d => kvs.length < sizeLine ∧ Ks (s2.sM j (.dct (putD kvs key d)))
theorem dg_setD (hu : X.A.units + 1 < cLine) (ho : DE X a wa) (hi : DE X b wb) (hh : ∀ v, assign (.Subscript a b pos) X.env v = (do
      let ov ← holding [v] (eval a X.env)
      let iv ← holding [v, ov] (eval b X.env)
      standAt pos
      holding [v, ov, iv] (setItem ov iv v)
      release [v, ov, iv] []) := by intro _; rfl) : DG X (.Subscript a b pos) [] (gSetD wa wb) := by
  obtain ⟨ta, pa, qa⟩ := ho.ex
  obtain ⟨tb, pb, qb⟩ := hi.ex
  refine ⟨_, pg_sub pa pb (set_dict hu) hh, fun b A own H σ s v x Ks Q R E h k => ?_⟩
  show ta σ H fun o H1 => tb σ H1 fun i H2 => rSetD o i v H2 fun H3 => Q σ H3
  refine qa _ _ _ _ _ _ _ _ R h fun A1 o1 H1 v1 s1 x1 R1 U1 E1 h1 => ?_
  refine qb _ _ _ _ _ _ _ _ R1 h1 fun A2 o2 H2 v2 s2 x2 R2 U2 E2 h2 => ?_
  obtain ⟨j, ds, rfl, g, h2⟩ := mu2_inv h2
  obtain ⟨kd, rfl, h2⟩ := daI_inv h2
  obtain ⟨key, hk, h2⟩ := onO_inv h2
  obtain ⟨d, rfl, hl, h2⟩ := daI_inv h2
  obtain ⟨p, vs, rfl, e2, e3, _, up⟩ := mud_at R2 (E1.up U2) g
  have r : Rp X.K A2 H2 v d := E.up (U1.trans U2)
  obtain ⟨R3, U3⟩ := up _ _ (e3.put (k := key) r)
  rw [keyD_rp E2 hk]
  exact ⟨p, _, rfl, DPut.k e2 (by rw [e3.len]; exact hl), k _ _ _ _ _ R3 ((U1.trans U2).trans U3) Sto.refl h2⟩
def dNewD : WE := fun s Ks => Ks (s.aM (.dct [])) (.mu s.ms.length)
theorem de_newD : DE X (.Dict [] [] pos) dNewD := ⟨_, pe_dnewK, fun b A own H σ s Ks Q R h k => by
  intro p hp
  obtain ⟨R1, U1, g⟩ := R.newMu (o := .dK []) hp (.dct []) fun A' own' u => ⟨p, [], rfl, upd_same, trivial⟩
  exact k _ _ _ _ _ (.mu s.ms.length) R1 U1 ⟨p, [], g, rfl⟩ h⟩
def dMet (rd : S → Nat → List D → List En → (S → En → Prop) → Prop) (wo : WE) (wr : WA) : WE := fun s Ks => wo s fun s1 o => mu1 s1 o fun j _ => wr s1 fun s2 xs => mu1 s2 (.mu j) fun _ ds => rd s2 j ds xs Ks
def MetD (K : PySem.W.Frag) (r : V → List V → Hp → VK → Prop) (rd : S → Nat → List D → List En → (S → En → Prop) → Prop) : Prop := ∀ (b : Bd) (A : Addr → Prop) (own : List (List Addr)) (H : Hp) (σ : L2.St) (s : S) (p : Addr) (j : Nat) (us : List V) (ds : List D) (vs : List V) (xs : List En) (Ks : S → En → Prop) (Q : VK),
  Rel K b A own H σ s → H p = some (.lst us) → RpL K A H us ds → gm s.ms j = .lst ds → (∀ vs' ds', RpL K A H vs' ds' → Rel K b A own (upd H p (.lst vs')) σ (s.sM j (.lst ds')) ∧ Up A own H A own (upd H p (.lst vs'))) → ERL K A own H vs xs → rd s j ds xs Ks → PostE K b A own H σ Ks Q → r (.ref p) vs H Q
theorem de_met {wr : WA} {name : Str} {id : String} {apos cpos : Pos} {r rd} (slot : Slot "list" name id) (hty : typeOf (.builtin id) = pure (.type "method_descriptor")) (hm : MtR X id r) (hd : MetD X.K r rd) (ho : DE X a wa) (ha : DA X (e :: es) wr)
    (hbase : attributeBase a name X.env (eval a X.env) = eval a X.env := by rfl)
    (hfew : ((backTo cpos (starEach (e :: es) X.env)).all (fun x => !x.1) && (backToKw cpos (keywordEach [] X.env)).all (fun x => x.1.isSome)
      && decide ((e :: es).length + ([] : List Keyword).length + (if ([] : List Keyword).isEmpty then 0 else 1) < 30)) = true := by rfl)
    (hline : (apos.endLine == cpos.line) = true := by rfl) (hs : starEach (e :: es) X.env = (false, eval e X.env) :: starEach es X.env := by rfl) (hplain : (backTo cpos (starEach es X.env)).any (·.1) = false := by rfl) :
    DE X (.Call (.Attribute a name apos) (e :: es) [] cpos) (dMet rd wa wr) := by
  obtain ⟨ta, pa, qa⟩ := ho.ex
  obtain ⟨tr, pr, qr⟩ := ha.ex
  refine ⟨_, pe_bm PySem.F.plainAttrs_list slot hty hm pa pr hbase hfew hline hs hplain, fun b A own H σ s Ks Q R h k => ?_⟩
  show ta σ H fun x H1 => tyV X.K "list" x H1 ∧ tr σ H1 fun xs H2 => r x xs H2 Q
  refine qa _ _ _ _ _ _ _ _ R h fun A1 o1 H1 v1 s1 x1 R1 U1 E1 h1 => ?_
  obtain ⟨j, ds, rfl, g, h1⟩ := mu1_inv h1
  obtain ⟨p, us, rfl, e2, e3, e4, _⟩ := mu_at R1 E1 g
  refine ⟨.inl ⟨rfl, us, .inl (.inl e2)⟩, ?_⟩
  refine qr _ _ _ _ _ _ _ _ R1 h1 fun A2 o2 H2 vs s2 xs R2 U2 E2 h2 => ?_
  obtain ⟨j', ds', ej, g', h2⟩ := mu1_inv h2
  cases ej
  obtain ⟨p', us', ep, f2, f3, f4, up⟩ := mu_at R2 (E1.up U2) g'
  cases ep
  exact hd _ _ _ _ _ _ _ _ _ _ _ _ _ _ R2 f2 f3 g' up E2 h2 (k.up (U1.trans U2))
theorem de_met0 {name : Str} {id : String} {apos cpos : Pos} {r rd} (slot : Slot "list" name id) (hty : typeOf (.builtin id) = pure (.type "method_descriptor")) (hm : MtR X id r) (hd : MetD X.K r rd) (ho : DE X a wa)
    (hbase : attributeBase a name X.env (eval a X.env) = eval a X.env := by rfl) (hline : (apos.endLine == cpos.line) = true := by rfl) :
    DE X (.Call (.Attribute a name apos) [] [] cpos) (dMet rd wa aNil) := by
  obtain ⟨ta, pa, qa⟩ := ho.ex
  refine ⟨_, pe_bm0 PySem.F.plainAttrs_list slot hty hm pa hbase hline, fun b A own H σ s Ks Q R h k => ?_⟩
  show ta σ H fun x H1 => tyV X.K "list" x H1 ∧ r x [] H1 Q
  refine qa _ _ _ _ _ _ _ _ R h fun A1 o1 H1 v1 s1 x1 R1 U1 E1 h1 => ?_
  obtain ⟨j, ds, rfl, g, h1⟩ := mu1_inv h1
  have h1 : mu1 s1 (.mu j) (fun _ ds => rd s1 j ds [] Ks) := h1
  obtain ⟨j', ds', ej, g', h1⟩ := mu1_inv h1
  cases ej
  rw [g] at g'
  cases g'
  obtain ⟨p, us, rfl, e2, e3, e4, up⟩ := mu_at R1 E1 g
  exact ⟨.inl ⟨rfl, us, .inl (.inl e2)⟩, hd _ _ _ _ _ _ _ _ _ _ _ _ _ _ R1 e2 e3 g up (show ERL X.K A1 o1 H1 [] [] from trivial) h1 (k.up U1)⟩
def mAppend : S → Nat → List D → List En → (S → En → Prop) → Prop := fun s j ds xs Ks => a1 xs fun x => daI x fun d => ds.length < sizeLine ∧ Ks (s.sM j (.lst (ds ++ [d]))) (.da .none)
theorem md_append {K : PySem.W.Frag} : MetD K rAppend mAppend := by
  intro b A own H σ s p j us ds vs xs Ks Q R hp r g up E h k
  obtain ⟨v, x, rfl, E, h⟩ := a1_inv E h
  obtain ⟨d, rfl, hl, h⟩ := daI_inv h
  obtain ⟨R1, U1⟩ := up _ _ (r.append (.cons (show Rp K A H v d from E) .nil))
  exact ⟨p, us, v, rfl, rfl, hp, by rw [r.length]; exact hl, k.da R1 U1 .non h⟩
theorem de_append {apos cpos : Pos} (ho : DE X a wa) (hi : DE X b wb)
    (hbase : attributeBase a "append" X.env (eval a X.env) = eval a X.env := by rfl)
    (hfew : ((backTo cpos (starEach (b :: []) X.env)).all (fun x => !x.1) && (backToKw cpos (keywordEach [] X.env)).all (fun x => x.1.isSome)
      && decide ((b :: []).length + ([] : List Keyword).length + (if ([] : List Keyword).isEmpty then 0 else 1) < 30)) = true := by rfl)
    (hline : (apos.endLine == cpos.line) = true := by rfl) (hs : starEach (b :: []) X.env = (false, eval b X.env) :: starEach [] X.env := by rfl) :
    DE X (.Call (.Attribute a "append" apos) [b] [] cpos) (dMet mAppend wa (aCons wb aNil)) := de_met PySem.F.slot_list_append PySem.F.type_list_append mt_append md_append ho (da_cons hi da_nil hs) hbase hfew hline hs
end
end DL
namespace DL
open PySem L2
section
variable {K : PySem.W.Frag}
theorem RpL.dropLast {A : Addr → Prop} {H : Hp} {vs : List V} {ds : List D} (r : RpL K A H vs ds) : RpL K A H vs.dropLast ds.dropLast := by
  rw [List.dropLast_eq_take, List.dropLast_eq_take, r.length]
  exact r.take _
def mReverse : S → Nat → List D → List En → (S → En → Prop) → Prop := fun s j ds xs Ks => match xs with | [] => Ks (s.sM j (.lst ds.reverse)) (.da .none) | _ => False
theorem md_reverse : MetD K rReverse mReverse := by
  intro b A own H σ s p j us ds vs xs Ks Q R hp r g up E h k
  unfold mReverse at h
  split at h
  · cases vs with
    | cons _ _ => exact E.elim
    | nil =>
      obtain ⟨R1, U1⟩ := up _ _ r.reverse
      exact ⟨p, us, rfl, rfl, hp, k.da R1 U1 .non h⟩
  · exact h.elim
theorem vw_lstH {b : Bd} {A : Addr → Prop} {own : List (List Addr)} {H : Hp} {σ : L2.St} {s : S} (R : Rel K b A own H σ s) {v : V} {x : En} {ds : List D} (h : ER K A own H v x) (e : vw s x = some (.list ds)) :
    ∃ a vs, v = .ref a ∧ H a = some (.lst vs) ∧ RpL K A H vs ds := by
  cases x with
  | no => cases e
  | da d' => cases e; cases h with | lst l r => exact ⟨_, _, rfl, l.1, r⟩
  | mu k =>
    obtain ⟨a, r, g, rfl⟩ := h
    have m := R.mr k
    unfold vw at e
    simp only at e
    cases q : gm s.ms k with
    | lst ds =>
      rw [q] at e m
      cases e
      obtain ⟨a', vs, e1, e2, e3⟩ := m
      rw [e1] at g
      cases g
      exact ⟨_, _, rfl, e2, e3⟩
    | _ => rw [q] at e; cases e
end
abbrev SpD := List En → List MO → (List MO → En → Prop) → Prop
def spOf (K : PySem.W.Frag) (n : Nat) (sp : SpD) : Sp := fun vs H Q _ => ∃ (A : Addr → Prop) (own : List (List Addr)) (xs : List En) (ms : List MO) (Ks : List MO → En → Prop), vs.length = n ∧ ERL K A own H vs xs ∧ Own K A own H ms ∧ sp xs ms Ks ∧
  ∀ (A' : Addr → Prop) (own' : List (List Addr)) (H' : Hp) (v : V) (ms' : List MO) (x : En), Own K A' own' H' ms' → own'.take own.length = own → (∀ a, A a → A' a) → (∀ a, A' a → A a ∨ H a = none) → (∀ a o, (∀ k, a ∉ go own k) → H a = some o → H' a = some o) →
    (∀ k a, a ∈ go own' k → (∃ j, a ∈ go own j) ∨ H a = none) → ER K A' own' H' v x → Ks ms' x → Q v H'
def plainM : MO → Bool
  | .lst _ => true
  | .dct _ => true
  | .rnd _ => true
  | .box _ => true
  | .tab _ => true
  | _ => false
theorem MR.plain {K : PySem.W.Frag} {A : Addr → Prop} {own own' : List (List Addr)} {H : Hp} {l : List Addr} {m : MO} (h : MR K A own H l m) (p : plainM m = true) : MR K A own' H l m := by
  cases m with
  | gone => cases p
  | ins _ _ => cases p
  | tab _ => exact h
  | lst ds => exact h
  | dct ds => exact h
  | rnd ds => exact h
  | box ds => exact h
def posOf : List Nat → Nat → Option Nat
  | [], _ => none
  | k :: ks, j => if k = j then some 0 else (posOf ks j).map (· + 1)
theorem posOf_some : ∀ {ks : List Nat} {j i : Nat}, posOf ks j = some i → ks[i]? = some j
  | [], _, _, h => by cases h
  | k :: ks, j, i, h => by
    unfold posOf at h
    split at h
    · cases h; subst_vars; rfl
    · cases q : posOf ks j with
      | none => rw [q] at h; cases h
      | some i' => rw [q] at h; cases h; show (k :: ks)[i' + 1]? = some j; rw [List.getElem?_cons_succ]; exact posOf_some (ks := ks) q
def renE (ks : List Nat) : En → Option En
  | .no => some .no
  | .da d => some (.da d)
  | .mu j => match posOf ks j with | some i => some (.mu i) | none => none
def renL (ks : List Nat) : List En → Option (List En)
  | [] => some []
  | x :: xs => match renE ks x with | some y => (match renL ks xs with | some ys => some (y :: ys) | none => none) | none => none
def pick : List Nat → List MO → List MO
  | [], _ => []
  | k :: ks, ms => gm ms k :: pick ks ms
def pickO : List Nat → List (List Addr) → List (List Addr)
  | [], _ => []
  | k :: ks, own => go own k :: pickO ks own
def putM : List Nat → List MO → List MO → List MO
  | k :: ks, m :: r, ms => putM ks r (sm ms k m)
  | _, _, ms => ms
def allP : List MO → Bool
  | [] => true
  | m :: ms => plainM m && allP ms
def nthN : List Nat → Nat → Nat
  | [], _ => 0
  | k :: _, 0 => k
  | _ :: ks, i + 1 => nthN ks i
def bkE (ks : List Nat) (n : Nat) : En → En
  | .mu j => bif Nat.blt j ks.length then .mu (nthN ks j) else .mu (n + (j - ks.length))
  | x => x
theorem pickO_length : ∀ (ks : List Nat) (own : List (List Addr)), (pickO ks own).length = ks.length
  | [], _ => rfl
  | _ :: ks, own => congrArg (· + 1) (pickO_length ks own)
theorem pick_length : ∀ (ks : List Nat) (ms : List MO), (pick ks ms).length = ks.length
  | [], _ => rfl
  | _ :: ks, own => congrArg (· + 1) (pick_length ks own)
theorem go_pickO : ∀ (ks : List Nat) (own : List (List Addr)) (i j : Nat), ks[i]? = some j → go (pickO ks own) i = go own j
  | k :: ks, own, 0, j, h => by cases h; rfl
  | k :: ks, own, i + 1, j, h => go_pickO ks own i j (by simpa using h)
theorem gm_pick : ∀ (ks : List Nat) (ms : List MO) (i j : Nat), ks[i]? = some j → gm (pick ks ms) i = gm ms j
  | k :: ks, own, 0, j, h => by cases h; rfl
  | k :: ks, own, i + 1, j, h => gm_pick ks own i j (by simpa using h)
theorem nthN_get : ∀ (ks : List Nat) (i : Nat), i < ks.length → ks[i]? = some (nthN ks i)
  | k :: ks, 0, _ => rfl
  | k :: ks, i + 1, h => by
    rw [List.getElem?_cons_succ]; exact nthN_get ks i (by simpa using h)
theorem allP_gm : ∀ (ms : List MO) (i : Nat), allP ms = true → i < ms.length → plainM (gm ms i) = true
  | m :: ms, 0, h, _ => (Bool.and_eq_true_iff.mp h).1
  | m :: ms, i + 1, h, l => allP_gm ms i (Bool.and_eq_true_iff.mp h).2 (by simpa using l)
theorem putM_length : ∀ (ks : List Nat) (r ms : List MO), (putM ks r ms).length = ms.length
  | [], _, _ => rfl
  | _ :: _, [], _ => rfl
  | k :: ks, m :: r, ms => by
    show (putM ks r (sm ms k m)).length = _
    rw [putM_length, sm_length]
theorem gm_putM_not : ∀ (ks : List Nat) (r ms : List MO) (j : Nat), j ∉ ks → gm (putM ks r ms) j = gm ms j
  | [], _, _, _, _ => rfl
  | _ :: _, [], _, _, _ => rfl
  | k :: ks, m :: r, ms, j, h => by
    show gm (putM ks r (sm ms k m)) j = _
    rw [gm_putM_not ks r _ j (fun z => h (List.mem_cons_of_mem _ z)), gm_sm, if_neg fun z => h (by rw [z.1]; exact List.mem_cons_self)]
theorem gm_putM : ∀ (ks : List Nat) (r ms : List MO) (i j : Nat), ks.Nodup → ks[i]? = some j → i < r.length → j < ms.length → gm (putM ks r ms) j = gm r i
  | k :: ks, m :: r, ms, 0, j, nd, h, _, hl => by
    cases h
    show gm (putM ks r (sm ms k m)) k = m
    rw [gm_putM_not ks r _ k (List.nodup_cons.mp nd).1, gm_sm, if_pos ⟨rfl, hl⟩]
  | k :: ks, m :: r, ms, i + 1, j, nd, h, hr, hl => by
    show gm (putM ks r (sm ms k m)) j = gm r i
    exact gm_putM ks r _ i j (List.nodup_cons.mp nd).2 (by simpa using h) (by simpa using hr) (by rw [sm_length]; exact hl)
theorem renL_er {K : PySem.W.Frag} {A : Addr → Prop} {own : List (List Addr)} {H : Hp} {ks : List Nat} : ∀ {vs : List V} {xs ys : List En}, ERL K A own H vs xs → renL ks xs = some ys → ERL K A (pickO ks own) H vs ys
  | [], [], _, _, e => by cases e; trivial
  | v :: vs, x :: xs, ys, ⟨h, t⟩, e => by
    unfold renL at e
    cases q : renE ks x with
    | none => rw [q] at e; cases e
    | some y =>
      rw [q] at e
      simp only at e
      cases q2 : renL ks xs with
      | none => rw [q2] at e; cases e
      | some zs =>
        rw [q2] at e
        cases e
        refine ⟨?_, renL_er t q2⟩
        cases x with
        | no => cases q; trivial
        | da d => cases q; exact h
        | mu j =>
          unfold renE at q
          simp only at q
          cases q3 : posOf ks j with
          | none => rw [q3] at q; cases q
          | some i =>
            rw [q3] at q
            cases q
            obtain ⟨a, r, h1, h2⟩ := h
            exact ⟨a, r, by rw [go_pickO ks own i j (posOf_some q3)]; exact h1, h2⟩
def S.cM (s : S) (ks : List Nat) (ms' : List MO) : S := ⟨s.es, putM ks ms' s.ms ++ ms'.drop ks.length, s.np⟩
def CallW (sp : SpD) (ks : List Nat) : S → List En → (S → En → Prop) → Prop := fun s xs Ks => onO (renL ks xs) fun ys => allP (pick ks s.ms) = true ∧ sp ys (pick ks s.ms) fun ms' r => allP ms' = true ∧ Ks (s.cM ks ms') (bkE ks s.ms.length r)
theorem gm_drop : ∀ (l : List MO) (n i : Nat), gm (l.drop n) i = gm l (n + i)
  | l, 0, i => by simp
  | [], n + 1, i => by simp [gm]
  | x :: l, n + 1, i => by
    rw [show n + 1 + i = (n + i) + 1 by omega]
    exact gm_drop l n i
theorem go_drop : ∀ (l : List (List Addr)) (n i : Nat), go (l.drop n) i = go l (n + i)
  | l, 0, i => by simp
  | [], n + 1, i => by simp [go]
  | x :: l, n + 1, i => by
    rw [show n + 1 + i = (n + i) + 1 by omega]
    exact go_drop l n i
theorem callW_run {K : PySem.W.Frag} {sp : SpD} {ks : List Nat} {n : Nat} (nd : ks.Nodup) {b : Bd} {A : Addr → Prop} {own : List (List Addr)} {H : Hp} {σ : L2.St} {s : S} {vs : List V} {xs : List En} {Ks : S → En → Prop} {Q : VK} {E : XK}
    (hn : vs.length = n) (R : Rel K b A own H σ s) (e : ERL K A own H vs xs) (h : CallW sp ks s xs Ks) (k : PostE K b A own H σ Ks Q) : spOf K n sp vs H Q E := by
  obtain ⟨ys, hr, hp, h⟩ := onO_inv h
  have kl : ∀ i j, ks[i]? = some j → j < s.ms.length := fun i j q => gm_lt fun z => by
    have q2 := allP_gm _ i hp (by rw [pick_length]; exact (List.getElem?_eq_some_iff.mp q).1)
    rw [gm_pick ks s.ms i j q, z] at q2
    cases q2
  have ndx : ∀ i i' j, ks[i]? = some j → ks[i']? = some j → i = i' := fun i i' j q q' => nd_ix nd q q'
  refine ⟨A, pickO ks own, ys, pick ks s.ms, _, hn, renL_er e hr, ⟨by rw [pickO_length, pick_length], fun i => ?_, fun i i' a h1 h2 => ?_, fun i => ?_, fun i a h1 => ?_, R.al⟩, h, fun A' own' H' v ms' x O ot ge li fr fo ex hk => ?_⟩
  · by_cases hi : i < ks.length
    · have q := nthN_get ks i hi
      rw [go_pickO ks own i _ q, gm_pick ks s.ms i _ q]
      have := allP_gm _ i hp (by rw [pick_length]; exact hi)
      rw [gm_pick ks s.ms i _ q] at this
      exact (R.mr _).plain this
    · rw [gm_ge _ _ (by rw [pick_length]; omega)]; trivial
  · by_cases hi : i < ks.length
    · by_cases hi' : i' < ks.length
      · rw [go_pickO ks own i _ (nthN_get ks i hi)] at h1
        rw [go_pickO ks own i' _ (nthN_get ks i' hi')] at h2
        have := R.dj _ _ a h1 h2
        exact ndx i i' _ (nthN_get ks i hi) (by rw [nthN_get ks i' hi', this])
      · rw [go_ge _ _ (by rw [pickO_length]; omega)] at h2; cases h2
    · rw [go_ge _ _ (by rw [pickO_length]; omega)] at h1; cases h1
  · by_cases hi : i < ks.length
    · rw [go_pickO ks own i _ (nthN_get ks i hi)]; exact R.ld _
    · rw [go_ge _ _ (by rw [pickO_length]; omega)]; exact List.nodup_nil
  · by_cases hi : i < ks.length
    · rw [go_pickO ks own i _ (nthN_get ks i hi)] at h1; exact R.oa _ _ h1
    · rw [go_ge _ _ (by rw [pickO_length]; omega)] at h1; cases h1
  · obtain ⟨hap, hk⟩ := hk
    rw [pickO_length] at ot
    have ol' : ks.length ≤ own'.length := by
      have := congrArg List.length ot
      rw [List.length_take, pickO_length] at this
      omega
    have gs : ∀ i, i < ks.length → go own' i = go own (nthN ks i) := fun i hi => by
      have q := go_take own' ks.length i
      rw [if_pos hi, ot, go_pickO ks own i _ (nthN_get ks i hi)] at q
      exact q.symm
    have inA : ∀ a, (∃ j, a ∈ go (pickO ks own) j) → A a := fun a ⟨j, hj⟩ => by
      by_cases hi : j < ks.length
      · rw [go_pickO ks own j _ (nthN_get ks j hi)] at hj; exact R.oa _ _ hj
      · rw [go_ge _ _ (by rw [pickO_length]; omega)] at hj; cases hj
    have notOwn : ∀ a, ¬ A a → ∀ j, a ∉ go (pickO ks own) j := fun a n j hj => n (inA a ⟨j, hj⟩)
    have gl : ∀ k, go (own ++ own'.drop ks.length) k = if k < own.length then go own k else go own' (ks.length + (k - own.length)) := fun k => by rw [go_app, go_drop]
    have newA : ∀ j a, ks.length ≤ j → a ∈ go own' j → H a = none := fun j a hj ha => by
      rcases fo j a ha with ⟨i, hi⟩ | z
      · by_cases hi' : i < ks.length
        · rw [go_pickO ks own i _ (nthN_get ks i hi'), ← gs i hi'] at hi
          have := O.dj _ _ a hi ha
          omega
        · rw [go_ge _ _ (by rw [pickO_length]; omega)] at hi; cases hi
      · exact z
    have u : Up A own H A' (own ++ own'.drop ks.length) H' := ⟨fun a o n q => ⟨fr a o (notOwn a n) q, fun z => by
        rcases li a z with z | z
        · exact n z
        · rw [z] at q; cases q⟩, fun k a r q => by
        rw [gl]
        by_cases hk : k < own.length
        · rw [if_pos hk]; exact q
        · rw [go_ge _ _ (by omega)] at q; cases q⟩
    have pl : (putM ks ms' s.ms).length = own.length := by rw [putM_length, R.ol]
    have ml : ∀ k, gm (putM ks ms' s.ms ++ ms'.drop ks.length) k = if k < own.length then gm (putM ks ms' s.ms) k else gm ms' (ks.length + (k - own.length)) := fun k => by rw [gm_app, pl, gm_drop]
    have oms : own'.length = ms'.length := O.ol
    refine k A' (own ++ own'.drop ks.length) H' v { s with ms := putM ks ms' s.ms ++ ms'.drop ks.length } (bkE ks s.ms.length x) ⟨⟨?_, fun j => ?_, fun i j a h1 h2 => ?_, fun i => ?_, fun i a h1 => ?_, O.al⟩, R.len, fun i => (R.sl i).imp id fun ⟨v, q, r⟩ => ⟨v, q, r.up u⟩, fun a q => ge a (R.ge a q), fun a o n q => ?_, fun i a h1 => ?_, ?_, ?_, fun a q => ?_, R.a0⟩ u ?_ hk
    · rw [List.length_append, List.length_append, List.length_drop, List.length_drop, pl, oms]
    · rw [gl, ml]
      by_cases hj : j < own.length
      · rw [if_pos hj, if_pos hj]
        by_cases hm : j ∈ ks
        · obtain ⟨i, hi⟩ := List.getElem?_of_mem hm
          have hil := (List.getElem?_eq_some_iff.mp hi).1
          have e1 : nthN ks i = j := by
            have := nthN_get ks i hil
            rw [hi] at this; exact (Option.some.inj this).symm
          rw [gm_putM ks ms' s.ms i j nd hi (by omega) (kl i j hi), ← e1, ← gs i hil]
          exact (O.mr i).plain (allP_gm _ _ hap (by omega))
        · rw [gm_putM_not ks ms' s.ms j hm]
          refine (R.mr j).up u fun a o ha q => fr a o (fun i hi => ?_) q
          by_cases hi' : i < ks.length
          · rw [go_pickO ks own i _ (nthN_get ks i hi')] at hi
            have := R.dj _ _ a ha hi
            exact hm (by rw [this]; exact List.mem_of_getElem? (nthN_get ks i hi'))
          · rw [go_ge _ _ (by rw [pickO_length]; omega)] at hi; cases hi
      · rw [if_neg hj, if_neg hj]
        by_cases hl : ks.length + (j - own.length) < ms'.length
        · exact (O.mr _).plain (allP_gm _ _ hap hl)
        · rw [gm_ge _ _ (by omega)]; trivial
    · rw [gl] at h1 h2
      by_cases hi : i < own.length
      · rw [if_pos hi] at h1
        by_cases hj : j < own.length
        · rw [if_pos hj] at h2; exact R.dj _ _ a h1 h2
        · rw [if_neg hj] at h2
          exact absurd (newA _ a (by omega) h2) (R.al a (R.oa _ _ h1))
      · rw [if_neg hi] at h1
        by_cases hj : j < own.length
        · rw [if_pos hj] at h2
          exact absurd (newA _ a (by omega) h1) (R.al a (R.oa _ _ h2))
        · rw [if_neg hj] at h2
          have := O.dj _ _ a h1 h2
          omega
    · rw [gl]
      split
      · exact R.ld _
      · exact O.ld _
    · rw [gl] at h1
      split at h1
      · exact ge a (R.oa _ _ h1)
      · exact O.oa _ _ h1
    · refine fr a o (fun i hi => ?_) (R.fr a o n q)
      by_cases hi' : i < ks.length
      · rw [go_pickO ks own i _ (nthN_get ks i hi')] at hi
        rcases R.fo _ a hi with ⟨j, z⟩ | z
        · exact n j z
        · rw [z] at q; cases q
      · rw [go_ge _ _ (by rw [pickO_length]; omega)] at hi; cases hi
    · rw [gl] at h1
      split at h1
      · exact R.fo _ a h1
      · exact .inr (R.fresh0 (newA _ a (by omega) h1))
    · rw [List.take_append_of_le_length R.npl]; exact R.pre
    · rw [List.length_append]; have := R.npl; show s.np ≤ _; omega
    · rcases li a q with z | z
      · exact R.lim a z
      · exact .inr (R.fresh0 z)
    · cases x with
      | no => trivial
      | da d => exact ex
      | mu j =>
        obtain ⟨a, r, e1, e2⟩ := ex
        show ER K A' (own ++ own'.drop ks.length) H' v (bif Nat.blt j ks.length then .mu (nthN ks j) else .mu (s.ms.length + (j - ks.length)))
        by_cases hj : j < ks.length
        · rw [show Nat.blt j ks.length = true from by simpa using hj]
          refine ⟨a, r, ?_, e2⟩
          have hl := kl j _ (nthN_get ks j hj)
          rw [gl, if_pos (by rw [R.ol]; exact hl), ← gs j hj]; exact e1
        · rw [show Nat.blt j ks.length = false from Bool.eq_false_iff.mpr fun z => hj (by simpa using z)]
          refine ⟨a, r, ?_, e2⟩
          rw [gl, ← R.ol, if_neg (by omega), show ks.length + (own.length + (j - ks.length) - own.length) = j by omega]; exact e1
section
open PySem.Spec PyProof.Rows
structure FnOkG (P : Program) (w : World) (K : PySem.W.Frag) (mg : Str → Option Value) (base : Heap) (CX : CXT) (k : Nat) (f : Addr) (fd : FuncData) (ps : List Str) (sp : L2.Sp) : Prop where
  len : ∀ vs H Q E, sp vs H Q E → vs.length = ps.length
  run : ∀ (A : Around) (outer : List Env) (s : Shared) (H : Hp) (args : Args) (us : List Value) (vs : List V) (Q : VK) (E : XK), Room k A → A.guards = some [] → Env0 P w K mg base A outer s H → BindsTo s fd args (ps.zip us) → Vals vs us → sp vs H Q E →
    codeAny (model P w) A (.call (.ref f) args) (CR CX outer P w H s Q E) s
section
variable {P : Program} {w : World} {K : PySem.W.Frag} {mg : Str → Option Value} {base : Heap} {CX : CXT} {k : Nat} {f : Addr} {fd : FuncData} {ps : List Str} {sp : L2.Sp}
theorem FnOk.toG (F : FnOk P w K mg base CX k f fd ps sp) : FnOkG P w K mg base CX k f fd ps sp := ⟨F.len, fun A outer s H args us vs Q E hr _ e0 hb hv hs => F.run A outer s H args us vs Q E hr e0 hb hv hs⟩
theorem FnOkG.mono {j : Nat} (F : FnOkG P w K mg base CX j f fd ps sp) (h : j ≤ k) : FnOkG P w K mg base CX k f fd ps sp := ⟨F.len, fun A outer s H args us vs Q E hr => F.run A outer s H args us vs Q E (hr.mono h)⟩
end
theorem fn_byG {CX : CXT} {P : Program} {w : World} {K : PySem.W.Frag} {mg : Str → Option Value} {base : Heap} {k : Nat} {f : Addr} {name qual : Str} {params : Arguments} {body : List Stmt} {scope : Scope} {dV kV doc pm cdv ct oc : Value} {an od : Option Addr}
    {osl : Array (Option Value)} {N ps : List Str} {sp : L2.Sp} (lk : K.lookup f = some ⟨oc, od, .func (PySem.W.fnOf name qual params body scope dV kV doc pm an cdv ct), osl⟩) (hcd : PySem.W.codeIn K cdv qual = true) (S : FnScope N ps scope)
    (len : ∀ vs H Q E, sp vs H Q E → vs.length = ps.length)
    (hb : ∀ (A : Around) (outer : List Env) (s : Shared) (H : Hp) (vs : List V) (Q : VK) (E : XK), Room k (A.deeper (PyProof.Rows.envOfC qual scope s.heap.objs.size f cdv)) → A.guards = some [] → sp vs H Q E →
      ∃ t, PSs (cxOf CX P w K mg base N qual scope f cdv A outer s H E) body t ∧ t { nx := fun _ H' => Q .non H', rt := Q } (start N vs) H) :
    FnOkG P w K mg base CX (k + 1) f (PySem.W.fnOf name qual params body scope dV kV doc pm an cdv ct) ps sp := by
  constructor
  · exact len
  · intro A outer s H args us vs Q E hr hg e0 hbi hv hs
    obtain ⟨t, ht, hq⟩ := hb A outer s H vs Q E (hr.deeper _) hg hs
    have n1 := len _ _ _ _ hs
    have kin : K.In s.heap := e0.mod.kin.keeps fun b o e => (e0.bs b o e).1
    have nol : s.heap.NoLimit := e0.mod.nolimit.keeps fun b o e => (e0.bs b o e).1
    have loc : ∀ z ∈ ps.zip us, scope.names.lookup z.1 = some .local ∨ (scope.names.lookup z.1 = some .cell ∧ ((cellsFrom (s.heap.objs.size + 1) scope.names []).lookup z.1).isSome = true) := fun ⟨x, v⟩ hz =>
      (S.par x (List.of_mem_zip hz).1).imp id fun q => ⟨q, PySem.W.cellsFrom_some _ _ _ (.inl q)⟩
    refine codeAny_call_function hr.depth (kin _ _ lk) rfl S.co S.gen rfl (PySem.W.codeRec_of kin hcd) (hbi _ _ _ _ (wpAny_newFunctionEnv_cells S.kind loc fun env he s1 x => ?_))
    cases he
    refine ⟨nol.keeps x.toInCall.keep, codeAny_func (wpAny_mono (ht.run [] s1 (start N vs) H _ (inv_start S hr.hd e0 n1 hv x) hq) (fun fl s' q => ?_) fun _ _ q => q)⟩
    match fl, q with
    | .ret u, ⟨v, σ', H', J, rv, q⟩ => exact ⟨v, H', J.os, J.bare, J.base, J.hok, rv, q⟩
    | .next, ⟨σ', H', J, q⟩ => exact ⟨V.non, H', J.os, J.bare, J.base, J.hok, rfl, q⟩
    | .brk, ⟨_, _, _, q⟩ => exact False.elim q
    | .cont, ⟨_, _, _, q⟩ => exact False.elim q
section
variable {X : L2.Cx} {k : Nat} {f : Addr} {fd : FuncData} {ps : List Str} {sp : L2.Sp} {CX : CXT} {ds : List Value} {dvs : List V} {E : XK} {x : Str} {p pos : Pos} {e : Expr} {es : List Expr} {t : TA}
theorem pe_callG (F : FnOkG X.prog X.w X.K X.mg X.base CX k f fd ps sp) (hr : Room k X.A) (hgd : X.A.guards = some []) (hg : Gl X x) (hm : X.mg x = some (.ref f)) (hk : PySem.W.keepIn X.K (.ref f) = true) (hb : Binds X.K fd ps ds) (hd : Vals dvs ds) (hx : Passes CX X E)
    (ha : PA X (e :: es) t) (hdb : (x == ("__debug__" : Str)) = false := by decide) (he : starEach (e :: es) X.env = (false, eval e X.env) :: starEach es X.env := by rfl) (hpl : (backTo pos (starEach es X.env)).any (·.1) = false := by rfl) :
    PE X (.Call (.Name x p) (e :: es) [] pos) (tCall sp dvs E t) := by
  refine ⟨fun pins s σ H Q I h => wpAny_Call_Name_kw (ld_glob I hg hm ?_ hdb)⟩
  refine PySem.W.callWith_K (h₀ := X.base) I.ok.mod.kin hk (thn (ha.run pos pins s σ H _ I h) fun us s1 ⟨vs, H1, I1, r, q⟩ => ⟨I1.kIn, ?_⟩) he hpl
  have r2 : Vals (vs ++ dvs) (us ++ ds) := r.append hd
  have hl : (us ++ ds).length = ps.length := by rw [← r2.length]; exact F.len _ _ _ _ q
  refine wpAny_call (codeAny_mono (F.run X.A X.stack s1 H1 ⟨us, []⟩ (us ++ ds) (vs ++ dvs) Q E hr hgd I1.env0 (hb s1 us I1.kIn hl) r2 q) fun r s' hq => ?_)
  match r, hq with
  | .error e, hq => exact hx pins σ H1 s1 e s' I1 hq
  | .ok (.ret u), hq => exact I1.after hq
  | .ok .next, hq => exact False.elim hq
  | .ok .brk, hq => exact False.elim hq
  | .ok .cont, hq => exact False.elim hq
end
structure RoomG (k : Nat) (A : Around) : Prop where
  r : Room k A
  g : A.guards = some []
theorem RoomG.mono {j k : Nat} {A : Around} (r : RoomG k A) (h : j ≤ k) : RoomG j A := ⟨r.r.mono h, r.g⟩
section
variable {K : PySem.W.Frag} {P : Program} {w : World} {mg : Str → Option Value} {base : Heap}
theorem fun_okG {x qual : Str} {st : Stmt} {f : Addr} {fd : FuncData} {N ps : List Str} {k : Nat} {sp : L2.Sp} (F : Fun K x qual st f fd) (S : FnScope N ps (defScope st)) (len : ∀ vs H Q E, sp vs H Q E → vs.length = ps.length)
    (hb : ∀ (cdv : Value) (A : Around) (outer : List Env) (s : Shared) (H : Hp) (vs : List V) (Q : VK) (E : XK), RoomG k (A.deeper (PyProof.Rows.envOfC qual (defScope st) s.heap.objs.size f cdv)) → sp vs H Q E →
      ∃ t, PSs (cxOf CX0 P w K mg base N qual (defScope st) f cdv A outer s H E).nox (defBody st) t ∧ t { nx := fun _ H' => Q .non H', rt := Q } (start N vs) H) : FnOkG P w K mg base CX0 (k + 1) f fd ps sp := by
  obtain ⟨oc, od, kV, doc, pm, an, cdv, ct, osl, rfl, lk, hcd⟩ := F.ex
  refine fn_byG lk hcd S len fun A outer s H vs Q E hr hg hs => ?_
  obtain ⟨t, h, q⟩ := hb cdv A outer s H vs Q E ⟨hr, hg⟩ hs
  exact ⟨t, h.nox, q⟩
end
end
section
variable {X : Cx} {e : Expr} {es : List Expr} {wr : WA}
end
end DL
namespace DL
open PySem L2
def limE (m : Nat) : En → En
  | .mu k => bif Nat.blt k m then .mu k else .no
  | x => x
def limF (m : Nat) : List (Str × En) → List (Str × En)
  | [] => []
  | (f, x) :: r => (f, limE m x) :: limF m r
def limM (m : Nat) : MO → MO
  | .ins C fs => .ins C (limF m fs)
  | x => x
def limL (m : Nat) : List En → List En
  | [] => []
  | x :: r => limE m x :: limL m r
def takM (m : Nat) : Nat → List MO → List MO
  | 0, _ => []
  | _ + 1, [] => []
  | n + 1, x :: r => limM m x :: takM m n r
def killL : List Nat → List En → List En
  | [], es => es
  | i :: is, es => st (killL is es) i .no
def clS (kl : List Nat) (m : Nat) (s : S) : S := ⟨killL kl (limL m s.es), takM m m s.ms, s.np⟩
theorem limL_length (m : Nat) : ∀ l : List En, (limL m l).length = l.length
  | [] => rfl
  | _ :: r => congrArg (· + 1) (limL_length m r)
theorem killL_length : ∀ (kl : List Nat) (l : List En), (killL kl l).length = l.length
  | [], _ => rfl
  | i :: is, l => by show (st (killL is l) i .no).length = _; rw [st_length, killL_length is l]
theorem gt_limL (m : Nat) : ∀ (l : List En) (i : Nat), gt (limL m l) i = limE m (gt l i)
  | [], _ => rfl
  | _ :: _, 0 => rfl
  | _ :: r, i + 1 => gt_limL m r i
theorem gt_killL : ∀ (kl : List Nat) (l : List En) (i : Nat), gt (killL kl l) i = .no ∨ (i ∉ kl ∧ gt (killL kl l) i = gt l i)
  | [], _, _ => .inr ⟨by simp, rfl⟩
  | j :: js, l, i => by
    show gt (st (killL js l) j .no) i = .no ∨ _
    rw [show killL (j :: js) l = st (killL js l) j .no from rfl, gt_st]
    split
    · exact .inl rfl
    · rename_i h
      rcases gt_killL js l i with q | ⟨q1, q2⟩
      · exact .inl q
      · by_cases e : j = i
        · subst e
          have : ¬ j < (killL js l).length := fun z => h ⟨rfl, z⟩
          exact .inl (gt_ge _ _ (by omega))
        · exact .inr ⟨fun z => (List.mem_cons.mp z).elim (fun z => e z.symm) q1, q2⟩
theorem takM_length (m : Nat) : ∀ (n : Nat) (l : List MO), (takM m n l).length = min n l.length
  | 0, _ => by simp [takM]
  | n + 1, [] => by simp [takM]
  | n + 1, x :: r => by simp [takM, takM_length m n r]
theorem gm_takM (m : Nat) : ∀ (n : Nat) (l : List MO) (i : Nat), gm (takM m n l) i = if i < n then limM m (gm l i) else .gone
  | 0, _, i => by simp [takM, gm]
  | n + 1, [], i => by simp [takM, gm, limM]
  | n + 1, x :: r, 0 => by simp [takM, gm]
  | n + 1, x :: r, i + 1 => by
    show gm (takM m n r) i = _
    rw [gm_takM m n r i]
    simp [gm]
section
variable {K : PySem.W.Frag} {b : Bd} {A : Addr → Prop} {own : List (List Addr)} {H : Hp} {σ : L2.St} {s : S}
theorem ER.lim {v : V} {x : En} {m : Nat} (h : ER K A own H v x) : ER K A (own.take m) H v (limE m x) := by
  cases x with
  | no => trivial
  | da d => exact h
  | mu k =>
    show ER K A (own.take m) H v (bif Nat.blt k m then .mu k else .no)
    by_cases q : k < m
    · rw [show Nat.blt k m = true from by simpa using q]
      obtain ⟨a, r, e1, e2⟩ := h
      exact ⟨a, r, by rw [go_take, if_pos q]; exact e1, e2⟩
    · rw [show Nat.blt k m = false from Bool.eq_false_iff.mpr fun z => q (by simpa using z)]
      trivial
theorem RKE.lim {m : Nat} : ∀ {ws : List (Str × V)} {fs : List (Str × En)}, RKE K A own H ws fs → RKE K A (own.take m) H ws (limF m fs)
  | [], [], _ => trivial
  | _ :: _, (_, _) :: _, ⟨e, h, t⟩ => ⟨e, h.lim, RKE.lim t⟩
theorem MR.lim {l : List Addr} {x : MO} {m : Nat} (h : MR K A own H l x) : MR K A (own.take m) H l (limM m x) := by
  cases x with
  | gone => trivial
  | lst ds => exact h
  | dct kvs => exact h
  | rnd n => exact h
  | box n => exact h
  | tab n => exact h
  | ins C fs =>
    obtain ⟨a, r, ws, rfl, h1, h3⟩ := h
    exact ⟨a, r, ws, rfl, h1, h3.lim⟩
theorem Own.take {ms : List MO} (o : Own K A own H ms) (m : Nat) : Own K A (own.take m) H (takM m m ms) := by
  refine ⟨by rw [List.length_take, takM_length, o.ol], fun k => ?_, fun k j a h1 h2 => ?_, fun k => ?_, fun k a h1 => ?_, o.al⟩
  · rw [go_take, gm_takM]
    split
    · exact (o.mr k).lim
    · trivial
  · rw [go_take] at h1 h2
    split at h1
    · split at h2
      · exact o.dj k j a h1 h2
      · cases h2
    · cases h1
  · rw [go_take]
    split
    · exact o.ld k
    · exact List.nodup_nil
  · rw [go_take] at h1
    split at h1
    · exact o.oa k a h1
    · cases h1
theorem Rel.cl (r : Rel K b A own H σ s) (kl : List Nat) (m : Nat) (hm : s.np ≤ m) : Rel K b A (own.take m) H σ (clS kl m s) := by
  refine ⟨r.toOwn.take m, by show _ = (killL kl (limL m s.es)).length; rw [killL_length, limL_length]; exact r.len, fun i => ?_, r.ge, r.fr, fun k a h => ?_, ?_, ?_, r.lim, r.a0⟩
  · show gt (killL kl (limL m s.es)) i = .no ∨ ∃ v, σ[i]? = some (some v) ∧ ER K A (own.take m) H v (gt (killL kl (limL m s.es)) i)
    rcases gt_killL kl (limL m s.es) i with q | ⟨_, q⟩
    · exact .inl q
    · rw [q, gt_limL]
      rcases r.sl i with z | ⟨v, e, h⟩
      · rw [z]; exact .inl rfl
      · exact .inr ⟨v, e, h.lim⟩
  · rw [go_take] at h
    split at h
    · exact r.fo k a h
    · cases h
  · rw [List.take_take, show min (clS kl m s).np m = s.np from Nat.min_eq_left hm]; exact r.pre
  · rw [List.length_take]; have := r.npl; show s.np ≤ _; omega
theorem Rel.slots {σ' : L2.St} {es' : List En} (r : Rel K b A own H σ s) (hl : σ'.length = es'.length) (h : ∀ i, gt es' i = .no ∨ ∃ v, σ'[i]? = some (some v) ∧ ER K A own H v (gt es' i)) : Rel K b A own H σ' { s with es := es' } :=
  { r with len := hl, sl := h }
def subE (k : Nat) (d : D) : En → En
  | .mu j => bif Nat.beq j k then .da d else .mu j
  | x => x
def subF (k : Nat) (d : D) : List (Str × En) → List (Str × En)
  | [] => []
  | (f, x) :: r => (f, subE k d x) :: subF k d r
def subM (k : Nat) (d : D) : MO → MO
  | .ins C fs => .ins C (subF k d fs)
  | x => x
def subL (k : Nat) (d : D) : List En → List En
  | [] => []
  | x :: r => subE k d x :: subL k d r
def subS (k : Nat) (d : D) : List MO → List MO
  | [] => []
  | x :: r => subM k d x :: subS k d r
theorem subL_length (k : Nat) (d : D) : ∀ l : List En, (subL k d l).length = l.length
  | [] => rfl
  | _ :: r => congrArg (· + 1) (subL_length k d r)
theorem subS_length (k : Nat) (d : D) : ∀ l : List MO, (subS k d l).length = l.length
  | [] => rfl
  | _ :: r => congrArg (· + 1) (subS_length k d r)
theorem gt_subL (k : Nat) (d : D) : ∀ (l : List En) (i : Nat), gt (subL k d l) i = subE k d (gt l i)
  | [], _ => rfl
  | _ :: _, 0 => rfl
  | _ :: r, i + 1 => gt_subL k d r i
theorem gm_subS (k : Nat) (d : D) : ∀ (l : List MO) (i : Nat), gm (subS k d l) i = subM k d (gm l i)
  | [], _ => rfl
  | _ :: _, 0 => rfl
  | _ :: r, i + 1 => gm_subS k d r i
def so : List (List Addr) → Nat → List (List Addr)
  | [], _ => []
  | _ :: r, 0 => [] :: r
  | x :: r, i + 1 => x :: so r i
theorem so_length : ∀ (l : List (List Addr)) (i : Nat), (so l i).length = l.length
  | [], _ => rfl
  | _ :: _, 0 => rfl
  | _ :: r, i + 1 => congrArg (· + 1) (so_length r i)
theorem go_so : ∀ (l : List (List Addr)) (i j : Nat), go (so l i) j = if i = j then [] else go l j
  | [], i, j => by simp [so, go]
  | x :: r, 0, 0 => by simp [so, go]
  | x :: r, 0, j + 1 => by simp [so, go]
  | x :: r, i + 1, 0 => by simp [so, go]
  | x :: r, i + 1, j + 1 => by
    show go (so r i) j = _
    rw [go_so r i j]
    simp [go]
theorem take_so : ∀ (l : List (List Addr)) (i n : Nat), n ≤ i → (so l i).take n = l.take n
  | [], _, _, _ => rfl
  | x :: r, i, 0, _ => by simp
  | x :: r, 0, n + 1, h => by omega
  | x :: r, i + 1, n + 1, h => by
    show x :: (so r i).take n = x :: r.take n
    rw [take_so r i n (by omega)]
def frzS (k : Nat) (ds : List D) (s : S) : S := ⟨subL k (.list ds) s.es, sm (subS k (.list ds) s.ms) k .gone, s.np⟩
theorem Rel.frz (r : Rel K b A own H σ s) {k : Nat} {ds : List D} (g : gm s.ms k = .lst ds) (hk : s.np ≤ k) :
    Rel K b (fun a => A a ∧ a ∉ go own k) (so own k) H σ (frzS k ds s) ∧ Kp A H (fun a => A a ∧ a ∉ go own k) H ∧ ∀ v, ER K A own H v (.mu k) → Rp K (fun a => A a ∧ a ∉ go own k) H v (.list ds) := by
  have kp : Kp A H (fun a => A a ∧ a ∉ go own k) H := fun a u n q => ⟨q, fun z => n z.1⟩
  have m := r.mr k
  rw [g] at m
  obtain ⟨p, vs, e1, e2, e3⟩ := m
  have rp : Rp K (fun a => A a ∧ a ∉ go own k) H (.ref p) (.list ds) := .lst ⟨e2, fun z => z.2 (by rw [e1]; simp)⟩ (RpL.mono kp e3)
  have er : ∀ {v : V} {x : En}, ER K A own H v x → ER K (fun a => A a ∧ a ∉ go own k) (so own k) H v (subE k (.list ds) x) := by
    intro v x h
    cases x with
    | no => trivial
    | da d => exact Rp.mono kp h
    | mu j =>
      obtain ⟨a, q, f1, f2⟩ := h
      show ER K _ _ H v (bif Nat.beq j k then .da (.list ds) else .mu j)
      by_cases e : j = k
      · subst e
        rw [show Nat.beq j j = true from by simp]
        rw [e1] at f1; cases f1; subst f2; exact rp
      · rw [show Nat.beq j k = false from Bool.eq_false_iff.mpr fun z => e (by simpa using z)]
        exact ⟨a, q, by rw [go_so, if_neg (Ne.symm e)]; exact f1, f2⟩
  have rke : ∀ {ws : List (Str × V)} {fs : List (Str × En)}, RKE K A own H ws fs → RKE K (fun a => A a ∧ a ∉ go own k) (so own k) H ws (subF k (.list ds) fs) := by
    intro ws fs
    induction fs generalizing ws with
    | nil => intro h; cases ws with
      | nil => trivial
      | cons _ _ => exact h.elim
    | cons x xs ih => intro h; cases ws with
      | nil => exact h.elim
      | cons w ws => exact ⟨h.1, er h.2.1, ih h.2.2⟩
  refine ⟨⟨⟨?_, fun j => ?_, fun i j a h1 h2 => ?_, fun i => ?_, fun i a h1 => ?_, fun a h => r.al a h.1⟩, ?_, fun i => ?_, fun a h => ?_, r.fr, fun i a h1 => ?_, ?_, ?_, fun a h => r.lim a h.1, r.a0⟩, kp, fun v h => ?_⟩
  · show (so own k).length = (sm (subS k (.list ds) s.ms) k .gone).length
    rw [so_length, sm_length, subS_length]; exact r.ol
  · show MR K _ (so own k) H (go (so own k) j) (gm (sm (subS k (.list ds) s.ms) k .gone) j)
    rw [gm_sm, go_so]
    by_cases e : k = j
    · subst e
      have : k < s.ms.length := gm_lt (by rw [g]; intro z; cases z)
      rw [if_pos rfl, if_pos ⟨rfl, by rw [subS_length]; exact this⟩]; trivial
    · rw [if_neg e, if_neg (fun z => e z.1), gm_subS]
      have mj := r.mr j
      cases q : gm s.ms j with
      | gone => trivial
      | lst ds' => rw [q] at mj; obtain ⟨a, vs, h1, h2, h3⟩ := mj; exact ⟨a, vs, h1, h2, RpL.mono kp h3⟩
      | dct ds' => rw [q] at mj; obtain ⟨a, vs, h1, h2, h3⟩ := mj; exact ⟨a, vs, h1, h2, h3.up kp⟩
      | rnd n => rw [q] at mj; exact mj
      | box n => rw [q] at mj; exact mj
      | tab n =>
        rw [q] at mj
        obtain ⟨P, c, h1, hc, ps, h2, h3, h4⟩ := mj
        refine ⟨P, c, h1, hc, ps, h2, h3, fun pos cv e => ?_⟩
        obtain ⟨c', e1, e2, e3⟩ := h4 pos cv e
        exact ⟨c', e1, e2, fun z => e3 z.1⟩
      | ins C fs => rw [q] at mj; obtain ⟨a, dx, ws, h1, h2, h4⟩ := mj; exact ⟨a, dx, ws, h1, h2, rke h4⟩
  · rw [go_so] at h1 h2
    split at h1
    · cases h1
    · split at h2
      · cases h2
      · exact r.dj i j a h1 h2
  · rw [go_so]
    split
    · exact List.nodup_nil
    · exact r.ld i
  · rw [go_so] at h1
    split at h1
    · cases h1
    · rename_i ne
      exact ⟨r.oa i a h1, fun z => ne (r.dj k i a z h1)⟩
  · show σ.length = (subL k (.list ds) s.es).length
    rw [subL_length]; exact r.len
  · show gt (subL k (.list ds) s.es) i = .no ∨ ∃ v, σ[i]? = some (some v) ∧ ER K _ (so own k) H v (gt (subL k (.list ds) s.es) i)
    rw [gt_subL]
    rcases r.sl i with z | ⟨v, e, h⟩
    · rw [z]; exact .inl rfl
    · exact .inr ⟨v, e, er h⟩
  · refine ⟨r.ge a h, fun z => ?_⟩
    rcases r.fo k a z with ⟨j, q⟩ | q
    · rw [← r.pre, go_take] at q
      split at q
      · have := r.dj k j a z q; omega
      · cases q
    · exact r.a0 a h q
  · rw [go_so] at h1
    split at h1
    · cases h1
    · exact r.fo i a h1
  · show (so own k).take s.np = b.own0
    rw [take_so own k s.np hk]; exact r.pre
  · rw [so_length]; exact r.npl
  · obtain ⟨a, q, f1, rfl⟩ := h
    rw [e1] at f1; cases f1; exact rp
end
end DL
namespace DL
open PySem L2
section
variable {X : Cx} {a b c e : Expr} {wa wb wc we : WE} {pos : Pos} {es : List Expr} {wr : WA} {wt : WT} {sts : List Stmt} {w u : WS}
def sNil : WS := fun s D => D.nx s
def sSeq (w u : WS) : WS := fun s D => w s { D with nx := fun s1 => u s1 D }
theorem dss_nil : DSs X [] sNil := ⟨_, pss_nil, fun b A own H σ s D E R h m => m.nx _ _ _ _ _ R Kp.refl h⟩
theorem dss_cons {st : Stmt} (h1 : DS X st w) (h2 : DSs X sts u) : DSs X (st :: sts) (sSeq w u) := by
  obtain ⟨t1, p1, q1⟩ := h1.ex
  obtain ⟨t2, p2, q2⟩ := h2.ex
  refine ⟨_, pss_cons p1 p2, fun b A own H σ s D E R h m => ?_⟩
  show t1 { E with nx := t2 E } σ H
  exact q1 _ _ _ _ _ _ _ _ R h ⟨fun A' o' H' σ' s' R' k h' => q2 _ _ _ _ _ _ _ _ R' h' (m.up k), m.rt, m.bk, m.ct⟩
theorem dss_one {st : Stmt} (h1 : DS X st w) : DSs X [st] w := by
  obtain ⟨t1, p1, q1⟩ := h1.ex
  exact ⟨_, pss_one p1, q1⟩
def frzW (k : Nat) (s : S) (K : S → Prop) : Prop := match gm s.ms k with | .lst ds => s.np ≤ k ∧ K (frzS k ds s) | _ => False
def sAsg (we : WE) (wg : WG) : WS := fun s D => we s fun s1 x => wg x s1 D.nx
theorem asg_run {te : TE} {g : TG} {js : List Nat} {wg : WG} (qe : ∀ (b : Bd) (A : Addr → Prop) (own : List (List Addr)) (H : Hp) (σ : L2.St) (s : S) (Ks : S → En → Prop) (Q : VK), Rel X.K b A own H σ s → we s Ks → PostE X.K b A own H σ Ks Q → te σ H Q)
    (qg : ∀ (b : Bd) (A : Addr → Prop) (own : List (List Addr)) (H : Hp) (σ : L2.St) (s : S) (v : V) (x : En) (Ks : S → Prop) (Q : L2.St → Hp → Prop), Rel X.K b A own H σ s → ER X.K A own H v x → wg x s Ks → PostG X.K b A own H σ js Ks Q → g v σ H Q)
    (b : Bd) (A : Addr → Prop) (own : List (List Addr)) (H : Hp) (σ : L2.St) (s : S) (D : Dn) (E : Ends) (R : Rel X.K b A own H σ s) (h : sAsg we wg s D) (m : Mt X.K b A H D E) : tAsg te g E σ H := by
  show te σ H fun x H1 => g x σ H1 E.nx
  refine qe _ _ _ _ _ _ _ _ R h fun A1 o1 H1 v1 s1 x1 R1 U1 E1 h1 => ?_
  exact qg _ _ _ _ _ _ _ _ _ _ R1 E1 h1 fun A2 o2 H2 σ2 s2 R2 U2 _ h2 => m.nx _ _ _ _ _ R2 (U1.trans U2).kp h2
theorem ds_asg {tg : Expr} {js : List Nat} {wg : WG} (he : DE X e we) (hg : DG X tg js wg) (hs : swapsWithSole [tg] e pos.line X.env = pure false := by rfl) (hw : swappedStores [tg] e X.env = pure none := by rfl)
    (h1 : (assignEach [tg] X.env).map (·.2) = [assign tg X.env] := by rfl) : DS X (.Assign [tg] e pos) (sAsg we wg) := by
  obtain ⟨te, pe, qe⟩ := he.ex
  obtain ⟨g, pg, qg⟩ := hg.ex
  exact ⟨_, ps_asg pe pg hs hw h1, asg_run qe qg⟩
theorem gN_run (i : Nat) (b : Bd) (A : Addr → Prop) (own : List (List Addr)) (H : Hp) (σ : L2.St) (s : S) (v : V) (x : En) (Ks : S → Prop) (Q : L2.St → Hp → Prop) (R : Rel X.K b A own H σ s) (E : ER X.K A own H v x) (h : gN i x s Ks) (k : PostG X.K b A own H σ [i] Ks Q) : gName i v σ H Q :=
  k _ _ _ _ _ (R.slot E) Up.refl ⟨List.length_set .., fun j n => List.getElem?_set_ne (fun z => n (by simp [z]))⟩ h
theorem ds_set {i : Nat} {x : Str} {pos' : Pos} (hN : X.N.Nodup) (hi : X.N[i]? = some x) (hx : Loc X.env.scope x) (he : DE X e we) (hs : swapsWith e (some (.Name x pos')) pos.line X.env = pure false := by rfl) (hf : X.fn x = true ∨ X.env.scope.names.lookup x = some .local := by first | exact .inl rfl | exact .inr rfl | assumption) :
    DS X (.Assign [.Name x pos'] e pos) (sAsg we (gN i)) := by
  obtain ⟨te, pe, qe⟩ := he.ex
  exact ⟨_, ps_set hN hi hx pe hs hf, asg_run qe (gN_run i)⟩
def sPar (i j : Nat) (wr : WA) : WS := fun s D => wr s fun s1 xs => a2 xs fun x y => D.nx ((s1.sE i x).sE j y)
theorem ds_par {i j : Nat} {x y : Str} {px py pt : Pos} {kt k2 pt2} (hc : X.calm = true) (hN : X.N.Nodup) (hi : X.N[i]? = some x) (hj : X.N[j]? = some y) (hij : i ≠ j)
    (hx : X.env.scope.names.lookup x = some .local) (hy : X.env.scope.names.lookup y = some .local) (ha : DA X [a, b] wr)
    (hw : swappedStores [.Tuple [.Name x px, .Name y py] kt pt] (.Tuple [a, b] k2 pt2) X.env = pure (some [x, y]))
    (hs : swapsWithSole [.Tuple [.Name x px, .Name y py] kt pt] (.Tuple [a, b] k2 pt2) pos.line X.env = pure false := by rfl) :
    DS X (.Assign [.Tuple [.Name x px, .Name y py] kt pt] (.Tuple [a, b] k2 pt2) pos) (sPar i j wr) := by
  obtain ⟨ta, pa, qa⟩ := ha.ex
  refine ⟨_, ps_par hc hN hi hj hij hx hy pa hw hs, fun b A own H σ s D E R h m => ?_⟩
  show ta σ H fun vs H1 => ∃ v w, vs = [v, w] ∧ E.nx ((σ.set i (some v)).set j (some w)) H1
  refine qa _ _ _ _ _ _ _ _ R h fun A1 o1 H1 vs s1 xs R1 U1 E1 h1 => ?_
  obtain ⟨v, w, x, y, rfl, e1, e2, h1⟩ := a2_inv E1 h1
  exact ⟨v, w, rfl, m.nx _ _ _ _ _ ((R1.slot e1).slot e2) U1.kp h1⟩
def a3 (xs : List En) (k : En → En → En → Prop) : Prop := match xs with | [x, y, z] => k x y z | _ => False
def sExp (we : WE) : WS := fun s D => we s fun s1 _ => D.nx s1
theorem ds_exp (he : DE X e we) (hs : swapsWith e none pos.line X.env = pure false := by rfl) : DS X (.Expr e pos) (sExp we) := by
  obtain ⟨te, pe, qe⟩ := he.ex
  exact ⟨_, ps_expr pe hs, fun b A own H σ s D E R h m => qe _ _ _ _ _ _ _ _ R h fun A1 o1 H1 v1 s1 x1 R1 U1 E1 h1 => m.nx _ _ _ _ _ R1 U1.kp h1⟩
def sRet (we : WE) : WS := fun s D => we s D.rt
theorem ds_ret (he : DE X e we) : DS X (.Return (some e) pos) (sRet we) := by
  obtain ⟨te, pe, qe⟩ := he.ex
  exact ⟨_, ps_ret pe, fun b A own H σ s D E R h m => qe _ _ _ _ _ _ _ _ R h fun A1 o1 H1 v1 s1 x1 R1 U1 E1 h1 => m.rt _ _ _ _ _ _ _ R1 U1.kp E1 h1⟩
def sIf (wt : WT) (w u : WS) : WS := fun s D => wt s fun s1 c => (c = true → w s1 D) ∧ (c = false → u s1 D)
theorem ds_if {sts2 : List Stmt} (hc : DT X c wt) (ha : DSs X sts w) (hb : DSs X sts2 u) : DS X (.If c sts sts2 pos) (sIf wt w u) := by
  obtain ⟨tc, pc, qc⟩ := hc.ex
  obtain ⟨ta, pa, qa⟩ := ha.ex
  obtain ⟨tb, pb, qb⟩ := hb.ex
  refine ⟨_, ps_if pc pa pb, fun b A own H σ s D E R h m => ?_⟩
  show tc σ H fun b H1 => if b = true then ta E σ H1 else tb E σ H1
  refine qc _ _ _ _ _ _ _ _ R h fun A1 o1 H1 s1 c R1 U1 h1 => ?_
  cases c with
  | true => rw [if_pos rfl]; exact qa _ _ _ _ _ _ _ _ R1 (h1.1 rfl) (m.up U1.kp)
  | false => rw [if_neg (by decide)]; exact qb _ _ _ _ _ _ _ _ R1 (h1.2 rfl) (m.up U1.kp)
def Wk (K : PySem.W.Frag) (b : Bd) (J : It) (ds : List D) (A : Addr → Prop) (H : Hp) : Prop := ∀ (A1 : Addr → Prop) (H1 : Hp), Kp A H A1 H1 → ∀ i, (ds.length ≤ i → J.stop i H1) ∧ (∀ d, ds[i]? = some d → J.go i H1 ∧
  ∀ x H2, J.yld i H1 x H2 → ∀ (own1 : List (List Addr)) (σ : L2.St) (s : S), Rel K b A1 own1 H1 σ s → Rel K b A1 own1 H2 σ s ∧ Up A1 own1 H1 A1 own1 H2 ∧ Rp K A1 H2 x d)
abbrev WI := S → (S → List D → Prop) → Prop
def PostI (K : PySem.W.Frag) (b : Bd) (A : Addr → Prop) (own : List (List Addr)) (H : Hp) (σ : L2.St) (Ks : S → List D → Prop) (Q : It → Hp → Prop) : Prop := ∀ (A' : Addr → Prop) (own' : List (List Addr)) (H' : Hp) (s' : S) (ds : List D) (J : It), Rel K b A' own' H' σ s' → Up A own H A' own' H' → Wk K b J ds A' H' → Ks s' ds → Q J H'
structure DI (X : Cx) (tg e : Expr) (w : WI) : Prop where
  ex : ∃ t, PI X tg e t ∧ ∀ (b : Bd) (A : Addr → Prop) (own : List (List Addr)) (H : Hp) (σ : L2.St) (s : S) (Ks : S → List D → Prop) (Q : It → Hp → Prop), Rel X.K b A own H σ s → w s Ks → PostI X.K b A own H σ Ks Q → t σ H Q
variable {tg : Expr}
def iLst (we : WE) : WI := fun s Ks => we s fun s1 x => daI x fun d => match d with | .list ds => Ks s1 ds | _ => False
theorem wk_list {K : PySem.W.Frag} {b : Bd} {a : Addr} {vs : List V} {ds : List D} {A : Addr → Prop} {H : Hp} (l : LsR A H a vs) (r : RpL K A H vs ds) : Wk K b (Itl K a) ds A H := by
  intro A1 H1 kp i
  have l1 : LsR A1 H1 a vs := kp _ _ l.2 l.1
  have r1 : RpL K A1 H1 vs ds := RpL.mono kp r
  refine ⟨fun hi => ⟨vs, l1.sq, by rw [r1.length]; exact hi⟩, fun d hd => ?_⟩
  obtain ⟨x, hx, rx⟩ := r1.get hd
  refine ⟨⟨vs, x, l1.sq, hx⟩, fun y H2 hy own1 σ s R => ?_⟩
  obtain ⟨rfl, hy⟩ := hy
  have := hy vs l1.sq
  rw [hx] at this
  cases this
  exact ⟨R, Up.refl, rx⟩
theorem di_list (he : DE X e we) : DI X tg e (iLst we) := by
  obtain ⟨te, pe, qe⟩ := he.ex
  refine ⟨_, pi_list pe, fun b A own H σ s Ks Q R h k => ?_⟩
  show te σ H fun x H1 => ∃ a, x = .ref a ∧ (∃ xs, SqL X.K H1 a xs) ∧ Q (Itl X.K a) H1
  refine qe _ _ _ _ _ _ _ _ R h fun A1 o1 H1 v1 s1 x1 R1 U1 E1 h1 => ?_
  obtain ⟨d, rfl, h2⟩ := daI_inv h1
  clear h1
  have h1 := h2
  clear h2
  split at h1
  · cases (show Rp X.K A1 H1 v1 _ from E1) with
    | lst l r => exact ⟨_, rfl, ⟨_, l.sq⟩, k _ _ _ _ _ _ R1 U1 (wk_list l r) h1⟩
  · exact h1.elim
def rng (lo : Int) (n : Nat) : List D := (List.range n).map fun (i : Nat) => PyData.int (lo + (i : Int))
theorem rng_length (lo : Int) (n : Nat) : (rng lo n).length = n := by simp [rng]
theorem rng_get {lo : Int} {n i : Nat} {d : D} (h : (rng lo n)[i]? = some d) : i < n ∧ d = .int (lo + (i : Int)) := by
  unfold rng at h
  rw [List.getElem?_map] at h
  by_cases q : i < n
  · rw [List.getElem?_range q] at h
    cases h
    exact ⟨q, rfl⟩
  · rw [List.getElem?_eq_none (by simpa using q)] at h
    cases h
theorem wk_rng {K : PySem.W.Frag} {b : Bd} {lo : Int} {n : Nat} {A : Addr → Prop} {H : Hp} : Wk K b (Itr lo n) (rng lo n) A H := by
  intro A1 H1 kp i
  refine ⟨fun hi => by rw [rng_length] at hi; exact hi, fun d hd => ?_⟩
  obtain ⟨h1, rfl⟩ := rng_get hd
  refine ⟨h1, fun y H2 hy own1 σ s R => ?_⟩
  obtain ⟨rfl, rfl⟩ := hy
  exact ⟨R, Up.refl, .int _⟩
def iR1 (wr : WA) : WI := fun s Ks => wr s fun s1 xs => a1 xs fun x => i1 x fun n => -(2 ^ 62) ≤ n ∧ n < 2 ^ 62 ∧ Ks s1 (rng 0 n.toNat)
theorem di_range1 {p : Pos} (hg : Gl X "range") (hm : X.mg "range" = none) (ha : DA X [a] wr) (hs : starEach [a] X.env = [(false, eval a X.env)] := by rfl) : DI X tg (.Call (.Name "range" p) [a] [] pos) (iR1 wr) := by
  obtain ⟨ta, pa, qa⟩ := ha.ex
  refine ⟨_, pi_range1 hg hm pa hs, fun b A own H σ s Ks Q R h k => ?_⟩
  show ta σ H fun vs H1 => ∃ j : Int, vs = [.int j] ∧ -(2 ^ 62) ≤ j ∧ j < 2 ^ 62 ∧ Q (Itr 0 j.toNat) H1
  refine qa _ _ _ _ _ _ _ _ R h fun A1 o1 H1 vs s1 xs R1 U1 E1 h1 => ?_
  obtain ⟨v, x, rfl, e1, h1⟩ := a1_inv E1 h1
  obtain ⟨n, rfl, b1, b2, h1⟩ := i1_inv h1
  cases e1
  exact ⟨n, rfl, b1, b2, k _ _ _ _ _ _ R1 U1 wk_rng h1⟩
where da2' (xs : List En) (k : D → D → Prop) : Prop := a2 xs fun x y => da2 x y k
def sFor (kl : List Nat) (m : Nat) (wi : WI) (wg : WG) (wb : WS) : WS := fun s D => wi s fun s1 ds => ∃ I : Nat → S → Prop, (s1.np ≤ m ∧ I 0 (clS kl m s1)) ∧
  (∀ i d s2, ds[i]? = some d → I i s2 → wg (.da d) s2 fun s3 => wb s3 { D with nx := fun s4 => s4.np ≤ m ∧ I (i + 1) (clS kl m s4), ct := fun s4 => s4.np ≤ m ∧ I (i + 1) (clS kl m s4), bk := D.nx }) ∧
  (∀ s2, I ds.length s2 → D.nx s2)
theorem ds_for (kl : List Nat) (m : Nat) {wi : WI} {js : List Nat} {wg : WG} {it : Expr} (hp : PassesOwn (model X.prog X.w) X.A X.env X.xe) (hc : X.calm = true) (hi : DI X tg it wi) (hg : DG X tg js wg) (hb : DSs X sts w)
    (hs : ∀ x, foldedSetIterable it X.env x = pure x := by intro _; rfl) : DS X (.For tg it sts [] pos) (sFor kl m wi wg w) := by
  obtain ⟨ti, pi, qi⟩ := hi.ex
  obtain ⟨g, pg, qg⟩ := hg.ex
  obtain ⟨tb, pb, qb⟩ := hb.ex
  refine ⟨_, ps_for hp hc pi pg pb hs, fun b A own H σ s D E R h mt => ?_⟩
  show ti σ H fun J H1 => ∃ W : Nat → Nat → L2.St → Hp → Prop, (∃ m, W 0 m σ H1) ∧ ∀ i m σ H, W i m σ H →
    (J.stop i H ∧ E.nx σ H) ∨ (J.go i H ∧ ∃ N : L2.St → Hp → Prop, (∀ σ' H', N σ' H' → ∃ m', m' < m ∧ W (i + 1) m' σ' H') ∧ ∀ x H', J.yld i H x H' → g x σ H' fun σ2 H2 => tb { E with nx := N, ct := N, bk := E.nx } σ2 H2)
  refine qi _ _ _ _ _ _ _ _ R h fun A1 o1 H1 s1 ds J R1 U1 wk h1 => ?_
  obtain ⟨I, ⟨hm, h0⟩, hs, hd⟩ := h1
  refine ⟨fun i k σ2 H2 => k = ds.length - i ∧ i ≤ ds.length ∧ ∃ (A2 : Addr → Prop) (o2 : List (List Addr)) (s2 : S), Rel X.K b A2 o2 H2 σ2 s2 ∧ Kp A1 H1 A2 H2 ∧ I i s2, ⟨_, rfl, Nat.zero_le _, A1, _, _, R1.cl kl m hm, Kp.refl, h0⟩, ?_⟩
  rintro i k σ2 H2 ⟨rfl, hi, A2, o2, s2, R2, kp, hI⟩
  obtain ⟨wstop, wgo⟩ := wk A2 H2 kp i
  by_cases hlt : i < ds.length
  · obtain ⟨hgo, hy⟩ := wgo ds[i] (List.getElem?_eq_getElem hlt)
    refine .inr ⟨hgo, fun σ' H' => ∃ (A3 : Addr → Prop) (o3 : List (List Addr)) (s3 : S), Rel X.K b A3 o3 H' σ' s3 ∧ Kp A1 H1 A3 H' ∧ I (i + 1) s3, fun σ' H' ⟨A3, o3, s3, r3, k3, i3⟩ => ⟨ds.length - (i + 1), by omega, rfl, hlt, A3, o3, s3, r3, k3, i3⟩, fun x H3 hx => ?_⟩
    obtain ⟨R3, U3, rx⟩ := hy x H3 hx o2 σ2 s2 R2
    refine qg _ _ _ _ _ _ _ _ _ _ R3 (show ER X.K A2 o2 H3 x (.da ds[i]) from rx) (hs i _ s2 (List.getElem?_eq_getElem hlt) hI) fun A4 o4 H4 σ4 s4 R4 U4 _ h4 => ?_
    have kp4 : Kp A1 H1 A4 H4 := (kp.trans U3.kp).trans U4.kp
    exact qb _ _ _ _ _ _ _ _ R4 h4 ⟨fun A5 o5 H5 σ5 s5 R5 k5 h5 => ⟨A5, _, _, R5.cl kl m h5.1, kp4.trans k5, h5.2⟩, fun A5 o5 H5 σ5 s5 v x R5 k5 e5 h5 => mt.rt _ _ _ _ _ _ _ R5 ((U1.kp.trans kp4).trans k5) e5 h5,
      fun A5 o5 H5 σ5 s5 R5 k5 h5 => mt.nx _ _ _ _ _ R5 ((U1.kp.trans kp4).trans k5) h5, fun A5 o5 H5 σ5 s5 R5 k5 h5 => ⟨A5, _, _, R5.cl kl m h5.1, kp4.trans k5, h5.2⟩⟩
  · have e : i = ds.length := by omega
    subst e
    exact .inl ⟨wstop (Nat.le_refl _), mt.nx _ _ _ _ _ R2 (U1.kp.trans kp) (hd _ hI)⟩
end
end DL
namespace DL
open PySem L2
def canE (K : PySem.W.Frag) (w : WE) : TE := fun σ H Q => ∃ (b : Bd) (A : Addr → Prop) (own : List (List Addr)) (s : S) (Ks : S → En → Prop), Rel K b A own H σ s ∧ w s Ks ∧ PostE K b A own H σ Ks Q
def canT (K : PySem.W.Frag) (w : WT) : TT := fun σ H Q => ∃ (b : Bd) (A : Addr → Prop) (own : List (List Addr)) (s : S) (Ks : S → Bool → Prop), Rel K b A own H σ s ∧ w s Ks ∧ PostT K b A own H σ Ks Q
def canG (K : PySem.W.Frag) (js : List Nat) (w : WG) : TG := fun v σ H Q => ∃ (b : Bd) (A : Addr → Prop) (own : List (List Addr)) (s : S) (x : En) (Ks : S → Prop), Rel K b A own H σ s ∧ ER K A own H v x ∧ w x s Ks ∧ PostG K b A own H σ js Ks Q
structure DTs (X : Cx) (ifs : List Expr) (w : WT) : Prop where
  ex : ∃ tt, PTs X ifs tt ∧ ∀ (b : Bd) (A : Addr → Prop) (own : List (List Addr)) (H : Hp) (σ : L2.St) (s : S) (Ks : S → Bool → Prop) (Q : Bool → Hp → Prop), Rel X.K b A own H σ s → w s Ks → PostT X.K b A own H σ Ks Q → tt σ H Q
section
variable {X : Cx} {a b c e : Expr} {we : WE} {wt : WT} {wg : WG} {pos : Pos} {js : List Nat}
theorem DE.can (h : DE X e we) : PE X e (canE X.K we) := by
  obtain ⟨te, pe, qe⟩ := h.ex
  exact ⟨fun pins s σ H Q I ⟨b, A, own, s', Ks, R, hw, k⟩ => pe.run pins s σ H Q I (qe _ _ _ _ _ _ _ _ R hw k)⟩
theorem DG.can (h : DG X e js wg) : PG X e (canG X.K js wg) := by
  obtain ⟨te, pe, qe⟩ := h.ex
  exact ⟨fun pins s σ H v u Q I r ⟨b, A, own, s', x, Ks, R, E, hw, k⟩ => pe.run pins s σ H v u Q I r (qe _ _ _ _ _ _ _ _ _ _ R E hw k)⟩
theorem DTs.can {ifs : List Expr} (h : DTs X ifs wt) : PTs X ifs (canT X.K wt) := by
  obtain ⟨te, pe, qe⟩ := h.ex
  exact ⟨fun pins s σ H Q I ⟨b, A, own, s', Ks, R, hw, k⟩ => pe.run pins s σ H Q I (qe _ _ _ _ _ _ _ _ R hw k)⟩
def tYesD : WT := fun s Ks => Ks s true
theorem dts_nil : DTs X [] tYesD := ⟨_, pts_nil, fun b A own H σ s Ks Q R h k => k _ _ _ _ _ R Up.refl h⟩
theorem dts_one (h : DT X c wt) : DTs X [c] wt := by
  obtain ⟨t, p, q⟩ := h.ex
  exact ⟨_, pts_one p, q⟩
theorem wipe_at (σ : L2.St) : ∀ (vs : List Nat) (i : Nat), (wipe σ vs)[i]? = if i ∈ vs ∧ i < σ.length then some none else σ[i]?
  | [], i => by simp [wipe]
  | v :: vs, i => by
    unfold wipe
    by_cases e : v = i
    · subst e
      by_cases h : v < σ.length
      · rw [List.getElem?_set_self (by rw [wipe_length]; exact h), if_pos ⟨List.mem_cons_self, h⟩]
      · rw [if_neg fun z => h z.2, List.getElem?_eq_none (by rw [List.length_set, wipe_length]; omega), List.getElem?_eq_none (by omega)]
    · rw [List.getElem?_set_ne e, wipe_at σ vs i]
      by_cases h : i ∈ vs ∧ i < σ.length
      · rw [if_pos h, if_pos ⟨List.mem_cons_of_mem _ h.1, h.2⟩]
      · rw [if_neg h, if_neg fun z => h ⟨(List.mem_cons.mp z.1).resolve_left (Ne.symm e), z.2⟩]
theorem wipe_sto {vs js : List Nat} {σ σ' : L2.St} (h : Sto js (wipe σ vs) σ') (hj : ∀ j ∈ js, j ∈ vs) : wipe σ' vs = wipe σ vs := by
  have hl : σ'.length = σ.length := h.1.trans (wipe_length σ vs)
  refine List.ext_getElem? fun i => ?_
  rw [wipe_at, hl]
  by_cases e : i ∈ vs ∧ i < σ.length
  · rw [if_pos e, wipe_at, if_pos e]
  · rw [if_neg e]
    by_cases q : i ∈ vs
    · have : ¬ i < σ.length := fun z => e ⟨q, z⟩
      rw [List.getElem?_eq_none (by omega), List.getElem?_eq_none (by rw [wipe_length]; omega)]
    · exact h.2 i fun z => q (hj i z)
def lcTurns (vs : List Nat) (wg : WG) (wt : WT) (we : WE) (s1 : S) (ds : List D) (Kf : List MO → List D → Prop) : Prop := ∃ I : Nat → List MO → List D → Prop, I 0 s1.ms [] ∧
  (∀ i d ms acc, ds[i]? = some d → I i ms acc → ms.length = s1.ms.length → wg (.da d) ⟨killL vs s1.es, ms ++ [.lst acc], s1.np⟩ fun s2 => wt s2 fun s3 c =>
    (c = true → we s3 fun s4 x => daI x fun y => acc.length < sizeLine ∧ gm s4.ms s1.ms.length = .lst acc ∧ I (i + 1) (takM s1.ms.length s1.ms.length s4.ms) (acc ++ [y])) ∧
    (c = false → gm s3.ms s1.ms.length = .lst acc ∧ I (i + 1) (takM s1.ms.length s1.ms.length s3.ms) acc)) ∧
  (∀ ms acc, I ds.length ms acc → ms.length = s1.ms.length → Kf ms acc)
def dLc (vs : List Nat) (wi : WI) (wg : WG) (wt : WT) (we : WE) : WE := fun s Ks => wi s fun s1 ds => lcTurns vs wg wt we s1 ds fun ms acc => Ks ⟨s1.es, takM s1.ms.length s1.ms.length ms, s1.np⟩ (.da (.list acc))
theorem Rel.wiped {K : PySem.W.Frag} {b : Bd} {A : Addr → Prop} {own : List (List Addr)} {H : Hp} {σ : L2.St} {s : S} (vs : List Nat) (R : Rel K b A own H σ s) : Rel K b A own H (wipe σ vs) { s with es := killL vs s.es } := by
  refine R.slots (by rw [wipe_length, killL_length]; exact R.len) fun i => ?_
  rcases gt_killL vs s.es i with q | ⟨q1, q2⟩
  · exact .inl q
  · rw [q2]
    rcases R.sl i with z | ⟨v, e, h⟩
    · exact .inl z
    · exact .inr ⟨v, by rw [wipe_out q1]; exact e, h⟩
theorem takM_app (m : Nat) (l r : List MO) (h : l.length = m) : takM m m (l ++ r) = takM m m l := by
  have : ∀ (n : Nat) (l : List MO), l.length = n → takM m n (l ++ r) = takM m n l := by
    intro n
    induction n with
    | zero => intro l _; rfl
    | succ n ih => intro l hl; cases l with
      | nil => cases hl
      | cons x xs => exact congrArg (limM m x :: ·) (ih xs (by simpa using hl))
  exact this m l h
theorem takM_sm (m : Nat) (y : MO) : ∀ (n k : Nat) (l : List MO), n ≤ k → takM m n (sm l k y) = takM m n l
  | 0, _, _, _ => rfl
  | n + 1, _, [], _ => rfl
  | n + 1, 0, x :: r, h => by omega
  | n + 1, k + 1, x :: r, h => by
    show limM m x :: takM m n (sm r k y) = limM m x :: takM m n r
    rw [takM_sm m y n k r (by omega)]
theorem Rel.back {K : PySem.W.Frag} {b : Bd} {A : Addr → Prop} {own : List (List Addr)} {H : Hp} {σ' σ : L2.St} {s : S} {m : Nat} {acc : List PyData} {es : List En} (R : Rel K b A own H σ' s) (hm : s.np ≤ m) (g : gm s.ms m = .lst acc)
    (hl : σ.length = es.length) (h : ∀ i, gt es i = .no ∨ ∃ v, σ[i]? = some (some v) ∧ ER K A (own.take (m + 1)) H v (gt es i)) : Rel K b A (own.take (m + 1)) H σ ⟨es, takM m m s.ms ++ [.lst acc], s.np⟩ := by
  have hml : m < s.ms.length := gm_lt (by rw [g]; intro z; cases z)
  have hol := R.ol
  have tl : (takM m m s.ms).length = m := by rw [takM_length]; omega
  have gl : ∀ k, gm (takM m m s.ms ++ [.lst acc]) k = if k < m then limM m (gm s.ms k) else if k = m then .lst acc else .gone := fun k => by
    rw [gm_app, tl]
    by_cases q : k < m
    · rw [if_pos q, if_pos q, gm_takM, if_pos q]
    · rw [if_neg q, if_neg q]
      by_cases q2 : k = m
      · subst q2; rw [Nat.sub_self, if_pos rfl]; rfl
      · rw [if_neg q2]; exact gm_ge _ _ (by simp; omega)
  refine ⟨⟨?_, fun k => ?_, fun k j a h1 h2 => ?_, fun k => ?_, fun k a h1 => ?_, R.al⟩, hl, h, R.ge, R.fr, fun k a h1 => ?_, ?_, ?_, R.lim, R.a0⟩
  · rw [List.length_append, tl, List.length_take]; show _ = m + 1; omega
  · rw [go_take, gl]
    by_cases q : k < m
    · rw [if_pos (show k < m + 1 by omega), if_pos q]
      refine (R.mr k).lim.up ⟨Kp.refl, fun k a r e => ?_⟩ fun a o _ e => e
      rw [go_take] at e ⊢
      split at e
      · rw [if_pos (by omega)]; exact e
      · cases e
    · rw [if_neg q]
      by_cases q2 : k = m
      · subst q2
        rw [if_pos (by omega), if_pos rfl]
        have := R.mr k
        rw [g] at this
        exact this.plain rfl
      · rw [if_neg (by omega), if_neg q2]; trivial
  · rw [go_take] at h1 h2
    split at h1
    · split at h2
      · exact R.dj k j a h1 h2
      · cases h2
    · cases h1
  · rw [go_take]
    split
    · exact R.ld k
    · exact List.nodup_nil
  · rw [go_take] at h1
    split at h1
    · exact R.oa k a h1
    · cases h1
  · rw [go_take] at h1
    split at h1
    · exact R.fo k a h1
    · cases h1
  · rw [List.take_take, show min s.np (m + 1) = s.np by omega]; exact R.pre
  · rw [List.length_take]; have := R.npl; show s.np ≤ _; omega
theorem lc_run {K : PySem.W.Frag} {wi : TI} {wI : WI} {vs : List Nat} (hj : ∀ j ∈ js, j ∈ vs)
    (qi : ∀ (b : Bd) (A : Addr → Prop) (own : List (List Addr)) (H : Hp) (σ : L2.St) (s : S) (Ks : S → List D → Prop) (Q : It → Hp → Prop), Rel K b A own H σ s → wI s Ks → PostI K b A own H σ Ks Q → wi σ H Q)
    (Kf : S → List MO → List D → Prop) (b : Bd) (A : Addr → Prop) (own : List (List Addr)) (H : Hp) (σ : L2.St) (s : S) (Q : VK) (R : Rel K b A own H σ s)
    (h : wI s fun s1 ds => lcTurns vs wg wt we s1 ds (Kf s1))
    (k : ∀ (A' : Addr → Prop) (own' : List (List Addr)) (H' : Hp) (s1 : S) (ms : List MO) (acc : List D) (v : V), Rel K b A' own' H' σ ⟨s1.es, ms ++ [.lst acc], s1.np⟩ → Up A own H A' own' H' → ms.length = s1.ms.length → ER K A' own' H' v (.mu s1.ms.length) →
      (∃ (A'' : Addr → Prop) (own'' : List (List Addr)), Rel K b A'' own'' H' σ ⟨s1.es, takM s1.ms.length s1.ms.length ms, s1.np⟩ ∧ Up A own H A'' own'' H' ∧ Rp K A'' H' v (.list acc)) → Kf s1 ms acc → Q v H') :
    tLc wi (canG K js wg) (canT K wt) (canE K we) vs σ H Q := by
  show wi σ H fun J H1 => ∀ D, H1 D = none → ∃ W : Nat → Nat → Hp → Prop, (∃ m, W 0 m (upd H1 D (.lst []))) ∧ ∀ i m H, W i m H →
    (J.stop i H ∧ Q (.ref D) H) ∨ (J.go i H ∧ ∃ Nx : Hp → Prop, (∀ H', Nx H' → ∃ m', m' < m ∧ W (i + 1) m' H') ∧ ∀ x H', J.yld i H x H' → canG K js wg x (wipe σ vs) H' fun σ2 H2 => wipe σ2 vs = wipe σ vs ∧ canT K wt σ2 H2 fun b H3 =>
      if b = true then canE K we σ2 H3 fun y H4 => ∃ acc, H4 D = some (.lst acc) ∧ acc.length < sizeLine ∧ Nx (upd H4 D (.lst (acc ++ [y]))) else Nx H3)
  refine qi _ _ _ _ _ _ _ _ R h fun A1 o1 H1 s1 ds J R1 U1 wk h1 => ?_
  obtain ⟨I, h0, hs, hd⟩ := h1
  intro D hD
  obtain ⟨R0, U0, g0⟩ := R1.newMu (o := .lst []) hD (.lst []) fun A' own' u => ⟨D, [], rfl, upd_same, .nil⟩
  refine ⟨fun i n H2 => n = ds.length - i ∧ i ≤ ds.length ∧ ∃ (A2 : Addr → Prop) (o2 : List (List Addr)) (ms : List MO) (acc : List PyData), Rel K b A2 o2 H2 σ ⟨s1.es, ms ++ [.lst acc], s1.np⟩ ∧ Up A1 o1 H1 A2 o2 H2 ∧ ms.length = s1.ms.length ∧ go o2 s1.ms.length = [D] ∧ I i ms acc,
    ⟨_, rfl, Nat.zero_le _, _, _, s1.ms, [], R0, U0, rfl, g0, h0⟩, ?_⟩
  rintro i n H2 ⟨rfl, hi, A2, o2, ms, acc, R2, U2, ml, g2, hI⟩
  have npm : s1.np ≤ ms.length := by rw [ml, ← R1.ol]; exact R1.npl
  obtain ⟨wstop, wgo⟩ := wk A2 H2 U2.kp i
  by_cases hlt : i < ds.length
  · obtain ⟨hgo, hy⟩ := wgo ds[i] (List.getElem?_eq_getElem hlt)
    refine .inr ⟨hgo, fun H' => ∃ (A3 : Addr → Prop) (o3 : List (List Addr)) (ms3 : List MO) (acc3 : List PyData), Rel K b A3 o3 H' σ ⟨s1.es, ms3 ++ [.lst acc3], s1.np⟩ ∧ Up A1 o1 H1 A3 o3 H' ∧ ms3.length = s1.ms.length ∧ go o3 s1.ms.length = [D] ∧ I (i + 1) ms3 acc3,
      fun H' ⟨A3, o3, ms3, acc3, r3, u3, l3, g3, i3⟩ => ⟨ds.length - (i + 1), by omega, rfl, hlt, A3, o3, ms3, acc3, r3, u3, l3, g3, i3⟩, fun x H3 hx => ?_⟩
    obtain ⟨R3, U3, rx⟩ := hy x H3 hx o2 σ _ R2
    have R3w := R3.wiped vs
    have back : ∀ (A5 : Addr → Prop) (o5 : List (List Addr)) (H5 : Hp) (σ4 : L2.St) (s5 : S) (acc5 : List PyData), Rel K b A5 o5 H5 σ4 s5 → Up A2 o2 H3 A5 o5 H5 → gm s5.ms s1.ms.length = .lst acc5 →
        Rel K b A5 (o5.take (s1.ms.length + 1)) H5 σ ⟨s1.es, takM s1.ms.length s1.ms.length s5.ms ++ [.lst acc5], s1.np⟩ ∧ Up A1 o1 H1 A5 (o5.take (s1.ms.length + 1)) H5 ∧ (takM s1.ms.length s1.ms.length s5.ms).length = s1.ms.length ∧ go (o5.take (s1.ms.length + 1)) s1.ms.length = [D] := by
      intro A5 o5 H5 σ4 s5 acc5 R5 U5 g5
      have npe : s5.np = s1.np := R5.np.symm.trans R1.np
      have go5 : go o5 s1.ms.length = [D] := U5.ow _ _ _ g2
      have u : Up A1 o1 H1 A5 (o5.take (s1.ms.length + 1)) H5 := ⟨(U2.kp.trans U3.kp).trans U5.kp, fun k a r e => by
        have hk : k < o1.length := Nat.lt_of_not_le fun z => by rw [go_ge _ _ z] at e; cases e
        rw [go_take, if_pos (by have := R1.ol; omega)]
        exact U5.ow _ _ _ (U2.ow _ _ _ e)⟩
      have hml : s1.ms.length < s5.ms.length := gm_lt (by rw [g5]; intro z; cases z)
      refine ⟨?_, u, by rw [takM_length]; omega, by rw [go_take, if_pos (by omega)]; exact go5⟩
      have := R5.back (σ := σ) (es := s1.es) (by rw [npe]; omega) g5 R1.len fun j => (R1.sl j).imp id fun ⟨v, e, q⟩ => ⟨v, e, q.up u⟩
      rw [npe] at this
      exact this
    refine ⟨b, A2, o2, ⟨killL vs s1.es, ms ++ [.lst acc], s1.np⟩, .da ds[i], _, R3w, rx, hs i _ ms acc (List.getElem?_eq_getElem hlt) hI ml, fun A4 o4 H4 σ2 s2 R4 U4 S4 h4 => ⟨wipe_sto S4 hj, b, A4, o4, s2, _, R4, h4, fun A5 o5 H5 s3 c R5 U5 h5 => ?_⟩⟩
    cases c with
    | false =>
      rw [if_neg (by decide)]
      obtain ⟨g5, i5⟩ := h5.2 rfl
      obtain ⟨r, u, l, g⟩ := back A5 o5 H5 σ2 s3 acc R5 (U4.trans U5) g5
      exact ⟨_, _, _, _, r, u, l, g, i5⟩
    | true =>
      rw [if_pos rfl]
      refine ⟨b, A5, o5, s3, _, R5, h5.1 rfl, fun A6 o6 H6 v s4 x R6 U6 E6 h6 => ?_⟩
      obtain ⟨y, rfl, hl, g6, i6⟩ := daI_inv h6
      have go6 : go o6 s1.ms.length = [D] := ((U4.trans U5).trans U6).ow _ _ _ g2
      obtain ⟨p, us, ep, e2, e3, _, up⟩ := mu_at R6 (v := .ref D) ⟨D, [], go6, rfl⟩ g6
      cases ep
      obtain ⟨R7, U7⟩ := up _ _ (e3.append (.cons (show Rp K A6 H6 v y from E6) .nil))
      refine ⟨us, e2, by rw [e3.length]; exact hl, ?_⟩
      have hml : s1.ms.length < s4.ms.length := gm_lt (by rw [g6]; intro z; cases z)
      obtain ⟨r, u, l, g⟩ := back A6 o6 _ σ2 _ (acc ++ [y]) R7 (((U4.trans U5).trans U6).trans U7) (by show gm (sm s4.ms s1.ms.length _) s1.ms.length = _; rw [gm_sm, if_pos ⟨rfl, hml⟩])
      refine ⟨_, _, _, _, r, u, l, g, ?_⟩
      show I (i + 1) (takM _ _ (sm s4.ms s1.ms.length _)) _
      rw [takM_sm _ _ _ _ _ (Nat.le_refl _)]
      exact i6
  · have e : i = ds.length := by omega
    subst e
    refine .inl ⟨wstop (Nat.le_refl _), k _ _ _ s1 ms acc _ R2 (U1.trans U2) ml ⟨D, [], g2, rfl⟩ ?_ (hd ms acc hI ml)⟩
    have g3 : gm (ms ++ [.lst acc]) s1.ms.length = .lst acc := by rw [gm_app, ml, if_neg (Nat.lt_irrefl _), Nat.sub_self]; rfl
    have mm := R2.mr s1.ms.length
    rw [show gm (⟨s1.es, ms ++ [.lst acc], s1.np⟩ : S).ms s1.ms.length = .lst acc from g3] at mm
    obtain ⟨p, us, e1, e2, e3⟩ := mm
    rw [g2] at e1
    cases e1
    have kp : Kp A2 H2 (fun a => A2 a ∧ a ≠ D) H2 := fun a u n q => ⟨q, fun z => n z.1⟩
    have u1 : Up A1 o1 H1 (fun a => A2 a ∧ a ≠ D) (o2.take s1.ms.length) H2 := ⟨U2.kp.trans kp, fun k a r e => by
      have hk : k < o1.length := Nat.lt_of_not_le fun z => by rw [go_ge _ _ z] at e; cases e
      rw [go_take, if_pos (by have := R1.ol; omega)]
      exact U2.ow _ _ _ e⟩
    have hol : o2.length = s1.ms.length + 1 := by
      have := R2.ol
      rw [show (⟨s1.es, ms ++ [.lst acc], s1.np⟩ : S).ms = ms ++ [.lst acc] from rfl, List.length_append, ml] at this
      exact this
    have ne : ∀ k a, k < s1.ms.length → a ∈ go o2 k → a ≠ D := fun k a hk h z => by
      subst z
      have := R2.dj k s1.ms.length a h (by rw [g2]; simp)
      omega
    have up2 : Up A2 (o2.take s1.ms.length) H2 (fun a => A2 a ∧ a ≠ D) (o2.take s1.ms.length) H2 := ⟨kp, fun _ _ _ e => e⟩
    refine ⟨fun a => A2 a ∧ a ≠ D, o2.take s1.ms.length, ⟨⟨?_, fun j => ?_, fun i j a h1 h2 => ?_, fun i => ?_, fun i a h1 => ?_, fun a h => R2.al a h.1⟩, R1.len, fun j => (R1.sl j).imp id fun ⟨v, e, q⟩ => ⟨v, e, q.up u1⟩, fun a h => ⟨R2.ge a h, fun z => ?_⟩, R2.fr, fun i a h1 => ?_, ?_, ?_, fun a h => R2.lim a h.1, R2.a0⟩, U1.trans u1, .lst ⟨e2, fun z => z.2 rfl⟩ (RpL.mono kp e3)⟩
    · show (o2.take s1.ms.length).length = (takM s1.ms.length s1.ms.length ms).length
      rw [List.length_take, takM_length]; omega
    · show MR K _ (o2.take s1.ms.length) H2 (go (o2.take s1.ms.length) j) (gm (takM s1.ms.length s1.ms.length ms) j)
      rw [go_take, gm_takM]
      by_cases q : j < s1.ms.length
      · rw [if_pos q, if_pos q]
        have mj := R2.mr j
        rw [show gm (⟨s1.es, ms ++ [.lst acc], s1.np⟩ : S).ms j = gm ms j from by show gm (ms ++ [.lst acc]) j = _; rw [gm_app, ml, if_pos q]] at mj
        exact mj.lim.up up2 fun a o _ e => e
      · rw [if_neg q, if_neg q]; trivial
    · rw [go_take] at h1 h2
      split at h1
      · split at h2
        · exact R2.dj i j a h1 h2
        · cases h2
      · cases h1
    · rw [go_take]
      split
      · exact R2.ld i
      · exact List.nodup_nil
    · rw [go_take] at h1
      split at h1
      · rename_i hi'
        exact ⟨R2.oa i a h1, ne i a hi' h1⟩
      · cases h1
    · subst z
      exact R2.a0 a h (by
        rcases R2.fo s1.ms.length a (by rw [g2]; simp) with ⟨j, q⟩ | q
        · rw [← R2.pre, go_take] at q
          split at q
          · rename_i hj'
            have := R2.dj _ _ a q (by rw [g2]; simp)
            have npl := R1.npl
            have := R1.ol
            have : (⟨s1.es, ms ++ [.lst acc], s1.np⟩ : S).np = s1.np := rfl
            omega
          · cases q
        · exact q)
    · rw [go_take] at h1
      split at h1
      · exact R2.fo i a h1
      · cases h1
    · have npl := R1.npl
      have := R1.ol
      show (o2.take s1.ms.length).take s1.np = b.own0
      rw [List.take_take, show min s1.np s1.ms.length = s1.np by omega]; exact R2.pre
    · have npl := R1.npl
      have := R1.ol
      show s1.np ≤ (o2.take s1.ms.length).length
      rw [List.length_take]; omega
theorem de_lc {elt tg iter : Expr} {ifs : List Expr} {scope : Scope} (own : List (Str × Nat)) {wI : WI} (hc : X.calm = true) (hN : X.N.Nodup) (hi : DI X tg iter wI) (ok : BlkOk X.N X.env.scope scope own) (hj : ∀ j ∈ js, j ∈ own.map (·.2))
    (hg : ∀ (s : Shared) (H : Hp) (C : Addr) (cl : List (Str × Addr)) (fp : List Addr), DG (X.blk s H scope (compEnvC scope cl C X.env) fp) tg js wg) (ht : ∀ (s : Shared) (H : Hp) (C : Addr) (cl : List (Str × Addr)) (fp : List Addr), DTs (X.blk s H scope (compEnvC scope cl C X.env) fp) ifs wt)
    (he : ∀ (s : Shared) (H : Hp) (C : Addr) (cl : List (Str × Addr)) (fp : List Addr), DE (X.blk s H scope (compEnvC scope cl C X.env) fp) elt we) (hs : ∀ x, foldedSetIterable iter X.env x = pure x := by intro _; rfl) :
    DE X (.ListComp elt [⟨tg, iter, ifs, 0⟩] scope pos) (dLc (own.map (·.2)) wI wg wt we) := by
  obtain ⟨ti, pi, qi⟩ := hi.ex
  refine ⟨_, pe_lc (g := canG X.K js wg) (tt := canT X.K wt) (te := canE X.K we) hc hN pi ok (fun s H C cl fp => (hg s H C cl fp).can) (fun s H C cl fp => (ht s H C cl fp).can) (fun s H C cl fp => (he s H C cl fp).can) hs, fun b A own' H σ s Ks Q R h k => ?_⟩
  exact lc_run hj qi (fun s1 ms acc => Ks ⟨s1.es, takM s1.ms.length s1.ms.length ms, s1.np⟩ (.da (.list acc))) b A own' H σ s Q R h fun A' own' H' s1 ms acc v R1 U1 ml E1 ⟨A2, o2, R2, U2, r⟩ hk => k.da R2 U2 r hk
theorem ds_setLc {i : Nat} {y : Str} {py spos : Pos} {elt tg iter : Expr} {ifs : List Expr} {scope : Scope} (own : List (Str × Nat)) {wI : WI} (hc : X.calm = true) (hN : X.N.Nodup) (hy : X.N[i]? = some y) (hyl : X.env.scope.names.lookup y = some .local)
    (hsw : swapsWith (.ListComp elt [⟨tg, iter, ifs, 0⟩] scope pos) (some (.Name y py)) spos.line X.env = pure true) (hi : DI X tg iter wI) (ok : BlkOk X.N X.env.scope scope own) (hj : ∀ j ∈ js, j ∈ own.map (·.2))
    (hg : ∀ (s : Shared) (H : Hp) (C : Addr) (cl : List (Str × Addr)) (fp : List Addr), DG (X.blk s H scope (compEnvC scope cl C X.env) fp) tg js wg) (ht : ∀ (s : Shared) (H : Hp) (C : Addr) (cl : List (Str × Addr)) (fp : List Addr), DTs (X.blk s H scope (compEnvC scope cl C X.env) fp) ifs wt)
    (he : ∀ (s : Shared) (H : Hp) (C : Addr) (cl : List (Str × Addr)) (fp : List Addr), DE (X.blk s H scope (compEnvC scope cl C X.env) fp) elt we) (hs : ∀ x, foldedSetIterable iter X.env x = pure x := by intro _; rfl) :
    DS X (.Assign [.Name y py] (.ListComp elt [⟨tg, iter, ifs, 0⟩] scope pos) spos) (sAsg (dLc (own.map (·.2)) wI wg wt we) (gN i)) := by
  obtain ⟨ti, pi, qi⟩ := hi.ex
  refine ⟨_, ps_setLc (g := canG X.K js wg) (tt := canT X.K wt) (te := canE X.K we) hc hN hy hyl hsw pi ok (fun s H C cl fp => (hg s H C cl fp).can) (fun s H C cl fp => (ht s H C cl fp).can) (fun s H C cl fp => (he s H C cl fp).can) hs, asg_run (fun b A own' H σ s Ks Q R h k => ?_) (gN_run i)⟩
  exact lc_run hj qi (fun s1 ms acc => Ks ⟨s1.es, takM s1.ms.length s1.ms.length ms, s1.np⟩ (.da (.list acc))) b A own' H σ s Q R h fun A' own' H' s1 ms acc v R1 U1 ml E1 ⟨A2, o2, R2, U2, r⟩ hk => k.da R2 U2 r hk
end
end DL
namespace DL
open PySem L2
def nos : Nat → List En
  | 0 => []
  | n + 1 => .no :: nos n
theorem nos_length : ∀ n, (nos n).length = n
  | 0 => rfl
  | n + 1 => congrArg (· + 1) (nos_length n)
theorem gt_nos : ∀ n i, gt (nos n) i = .no
  | 0, _ => rfl
  | n + 1, 0 => rfl
  | n + 1, i + 1 => gt_nos n i
def endD (Ks : List MO → En → Prop) : Dn where
  nx := fun s => Ks (takM s.np s.np s.ms) (.da .none)
  rt := fun s x => match x with | .mu j => Ks s.ms (.mu j) | .da d => Ks (takM s.np s.np s.ms) (.da d) | .no => False
  bk := fun _ => False
  ct := fun _ => False
section
variable {P : Program} {w : World} {K : PySem.W.Frag} {mg : Str → Option Value} {base : Heap}
theorem start_at {A : Addr → Prop} {own : List (List Addr)} {H : Hp} (N : List Str) : ∀ {vs : List V} {xs : List En}, ERL K A own H vs xs → ∀ (n i : Nat), gt (xs ++ nos n) i = .no ∨ ∃ v, (vs.map some ++ List.replicate n none)[i]? = some (some v) ∧ ER K A own H v (gt (xs ++ nos n) i)
  | [], [], _, n, i => .inl (gt_nos n i)
  | v :: vs, x :: xs, ⟨h, _⟩, n, 0 => .inr ⟨v, rfl, h⟩
  | v :: vs, x :: xs, ⟨_, t⟩, n, i + 1 => start_at N t n i
theorem fn_data {x qual : Str} {st : Stmt} {f : Addr} {fd : FuncData} {N ps : List Str} {k : Nat} {sp : SpD} (F : Fun K x qual st f fd) (Sc : FnScope N ps (defScope st)) (W : WS)
    (hb : ∀ (cdv : Value) (A : Around) (outer : List Env) (s : Shared) (H : Hp) (E : XK), RoomG k (A.deeper (PyProof.Rows.envOfC qual (defScope st) s.heap.objs.size f cdv)) → DSs (cxOf CX0 P w K mg base N qual (defScope st) f cdv A outer s H E).nox (defBody st) W)
    (hsp : ∀ xs ms Ks, sp xs ms Ks → xs.length = ps.length → W ⟨xs ++ nos (N.length - ps.length), ms, ms.length⟩ (endD Ks)) : FnOkG P w K mg base CX0 (k + 1) f fd ps (spOf K ps.length sp) := by
  refine fun_okG F Sc (fun vs H Q E h => ?_) (fun cdv A outer s H vs Q E hr h => ?_)
  · obtain ⟨_, _, _, _, _, hn, _⟩ := h
    exact hn
  · obtain ⟨Av, own, xs, ms, Ks, hn, he, ho, hs, k1⟩ := h
    obtain ⟨t, pt, qt⟩ := (hb cdv A outer s H E hr).ex
    have hxl : xs.length = ps.length := he.len.symm.trans hn
    have hN : ps.length ≤ N.length := by
      have := congrArg List.length Sc.pre
      rw [List.length_take] at this
      omega
    refine ⟨t, pt, ?_⟩
    have R : Rel K ⟨H, own, Av⟩ Av own H (start N vs) ⟨xs ++ nos (N.length - ps.length), ms, ms.length⟩ := by
      refine ⟨ho, ?_, fun i => ?_, fun a h => h, fun a o n h => h, fun k a h => .inl ⟨k, h⟩, ?_, ?_, fun a h => .inl h, ho.al⟩
      · show (vs.map some ++ List.replicate (N.length - vs.length) none).length = _
        simp [nos_length, hn, hxl]
      · show gt (xs ++ nos (N.length - ps.length)) i = .no ∨ ∃ v, (vs.map some ++ List.replicate (N.length - vs.length) none)[i]? = some (some v) ∧ _
        rw [hn]
        exact start_at N he _ i
      · show own.take ms.length = own
        rw [← ho.ol]; exact List.take_length
      · show ms.length ≤ own.length
        rw [ho.ol]; exact Nat.le_refl _
    have fin : ∀ (A' : Addr → Prop) (own' : List (List Addr)) (H' : Hp) (σ' : L2.St) (s' : S) (v : V) (x : En), Rel K ⟨H, own, Av⟩ A' own' H' σ' s' → ER K A' own' H' v x → (match x with | .mu j => Ks s'.ms (.mu j) | .da d => Ks (takM s'.np s'.np s'.ms) (.da d) | .no => False) → Q v H' := by
      intro A' own' H' σ' s' v x R' ex hx
      have np : own.length = s'.np := R'.np
      have hpre : own'.take own.length = own := by rw [np]; exact R'.pre
      cases x with
      | no => exact hx.elim
      | mu j => exact k1 A' own' H' v s'.ms (.mu j) R'.toOwn hpre R'.ge R'.lim (fun a o n h => R'.fr a o n h) R'.fo ex hx
      | da d =>
        refine k1 A' (own'.take s'.np) H' v (takM s'.np s'.np s'.ms) (.da d) (R'.toOwn.take _) ?_ R'.ge R'.lim (fun a o n h => R'.fr a o n h) (fun k a h => ?_) ex hx
        · rw [np, List.take_take, Nat.min_self]; exact R'.pre
        · rw [go_take] at h
          split at h
          · exact R'.fo k a h
          · cases h
    refine qt _ _ _ _ _ _ (endD Ks) _ R (hsp xs ms Ks hs hxl) ⟨fun A' own' H' σ' s' R' _ h => fin A' own' H' σ' s' .non (.da .none) R' .non h, fun A' own' H' σ' s' v x R' _ ex h => fin A' own' H' σ' s' v x R' ex h, fun _ _ _ _ _ _ _ h => h.elim, fun _ _ _ _ _ _ _ h => h.elim⟩
end
def tyD : D → String
  | .none => "NoneType"
  | .bool _ => "bool"
  | .int _ => "int"
  | .str _ => "str"
  | .list _ => "list"
  | .tuple _ => "tuple"
  | .dict _ => "dict"
inductive Ty where | int | bool | str | list | tuple
def Ty.nm : Ty → String
  | .int => "int"
  | .bool => "bool"
  | .str => "str"
  | .list => "list"
  | .tuple => "tuple"
def isT : Ty → D → Bool
  | .int, .int _ => true
  | .int, .bool _ => true
  | .bool, .bool _ => true
  | .str, .str _ => true
  | .list, .list _ => true
  | .tuple, .tuple _ => true
  | _, _ => false
theorem rp_ty {K : PySem.W.Frag} {A : Addr → Prop} {H : Hp} {v : V} {d : D} (r : Rp K A H v d) : TyX K H v (.type (tyD d)) := by
  cases r with
  | non => exact .base .non
  | bl c => exact .base (.bl c)
  | int i => exact .base (.int i)
  | str x => exact .base (.str x)
  | lst l r => exact .base (.lst l.1)
  | tup l r =>
    rcases l with l | l
    · exact .base (.tup l.1)
    · rcases l (fun _ => none) with (h | ⟨o, h⟩) | ⟨o, its, n, h, c, _⟩
      · cases h
      · cases h
      · exact .kTuple h c
  | dct l n r => exact .fDict l
theorem isT_kit (T : Ty) {K : PySem.W.Frag} {A : Addr → Prop} {H : Hp} {v : V} {d : D} (r : Rp K A H v d) : PySem.W.kitOne K (.type (tyD d)) (.type T.nm) = some (isT T d) := by
  refine kit_ty ?_
  have key : ∀ T : Ty, kitB "NoneType" T.nm = some false ∧ kitB "bool" T.nm = some (isT T (.bool true)) ∧ kitB "int" T.nm = some (isT T (.int 0)) ∧ kitB "str" T.nm = some (isT T (.str "")) ∧ kitB "list" T.nm = some (isT T (.list [])) ∧ kitB "tuple" T.nm = some (isT T (.tuple [])) ∧ kitB "dict" T.nm = some false := by
    intro T
    cases T <;> decide +kernel
  obtain ⟨k0, k1, k2, k3, k4, k5, k6⟩ := key T
  cases r with
  | non => rw [show isT T .none = false from by cases T <;> rfl]; exact k0
  | bl c => rw [show isT T (.bool c) = isT T (.bool true) from by cases T <;> rfl]; exact k1
  | int i => rw [show isT T (.int i) = isT T (.int 0) from by cases T <;> rfl]; exact k2
  | str x => rw [show isT T (.str x) = isT T (.str "") from by cases T <;> rfl]; exact k3
  | @lst _ _ ds l r => rw [show isT T (.list ds) = isT T (.list []) from by cases T <;> rfl]; exact k4
  | @tup _ _ ds l r => rw [show isT T (.tuple ds) = isT T (.tuple []) from by cases T <;> rfl]; exact k5
  | @dct _ _ _ kvs l n r => rw [show isT T (.dict (kvs.map fun z => (kD z.1, z.2))) = false from by cases T <;> rfl]; exact k6
theorem vw_ty {K : PySem.W.Frag} {b : Bd} {A : Addr → Prop} {own : List (List Addr)} {H : Hp} {σ : L2.St} {s : S} (R : Rel K b A own H σ s) {v : V} {x : En} {d : D} (h : ER K A own H v x) (e : vw s x = some d) : TyX K H v (.type (tyD d)) ∧ ∃ A' v', Rp K A' H v' d := by
  cases x with
  | no => cases e
  | da d' => cases e; exact ⟨rp_ty h, A, v, h⟩
  | mu k =>
    obtain ⟨a, vs, rfl, h1, r⟩ : ∃ a vs, v = .ref a ∧ H a = some (.lst vs) ∧ ∃ ds, d = .list ds ∧ RpL K A H vs ds := by
      obtain ⟨a, r, g, rfl⟩ := h
      have m := R.mr k
      unfold vw at e
      simp only at e
      cases q : gm s.ms k with
      | lst ds =>
        rw [q] at e m
        cases e
        obtain ⟨a', vs, e1, e2, e3⟩ := m
        rw [e1] at g
        cases g
        exact ⟨_, _, rfl, e2, ds, rfl, e3⟩
      | _ => rw [q] at e; cases e
    obtain ⟨ds, rfl, r⟩ := r
    refine ⟨.base (.lst h1), fun _ => False, .ref a, .lst ⟨h1, fun z => z⟩ ?_⟩
    exact RpL.mono (A := A) (H := H) (fun b u n q => ⟨q, fun z => z⟩) r
section
variable {X : Cx} {a b c e : Expr} {wa wb wc we : WE} {pos : Pos}
def dIsi (T : Ty) (wa : WE) : WE := fun s Ks => wa s fun s1 x => onO (vw s1 x) fun d => Ks s1 (.da (.bool (isT T d)))
theorem pe_type {x : Str} {T : String} {p : Pos} (hg : Gl X x) (hm : X.mg x = none) (hv : bootBuiltins x = some (.type T)) (hn : x ≠ "__name__" := by decide) (hd : (x == ("__debug__" : Str)) = false := by decide) : PE X (.Name x p) (tC (.ty T)) := pe_bltn hg hm hv (show RelV (.ty T) (.type T) from rfl) hn hd
theorem de_isi {x : Str} (T : Ty) {p p2 : Pos} (hg : Gl X "isinstance") (hm : X.mg "isinstance" = none) (hg2 : Gl X x) (hm2 : X.mg x = none) (hv2 : bootBuiltins x = some (.type T.nm)) (ha : DE X a wa)
    (hn : x ≠ "__name__" := by decide) (hd : (x == ("__debug__" : Str)) = false := by decide)
    (he : starEach (a :: [.Name x p2]) X.env = (false, eval a X.env) :: starEach [.Name x p2] X.env := by rfl) (hpl : (backTo pos (starEach [.Name x p2] X.env)).any (·.1) = false := by rfl) (he2 : starEach (.Name x p2 :: []) X.env = (false, eval (.Name x p2) X.env) :: starEach [] X.env := by rfl) :
    DE X (.Call (.Name "isinstance" p) [a, .Name x p2] [] pos) (dIsi T wa) := by
  obtain ⟨ta, pa, qa⟩ := ha.ex
  refine ⟨_, pe_callB call_isi hg hm (by decide +kernel) (pa_cons pa (pa_cons (pe_type hg2 hm2 hv2 hn hd) pa_nil he2) he) (he := he) (hpl := hpl), fun b A own H σ s Ks Q R h k => ?_⟩
  show ta σ H fun x H1 => rIsi X.K [x, .ty T.nm] H1 Q
  refine qa _ _ _ _ _ _ _ _ R h fun A1 o1 H1 v1 s1 x1 R1 U1 E1 h1 => ?_
  obtain ⟨d, hd, h1⟩ := onO_inv h1
  obtain ⟨t1, A', v', r'⟩ := vw_ty R1 E1 hd
  exact ⟨v1, .ty T.nm, _, _, _, rfl, .ty T.nm, t1, isT_kit T r', k.da R1 U1 (.bl _) h1⟩
end
end DL
namespace DL
open PySem L2 PySem.Spec PyProof.Rows
section
variable {X : Cx} {tg e : Expr} {we : WE}
end
section
variable {X : Cx} {a b c e : Expr} {wa wb wc we : WE} {pos : Pos} {es : List Expr}
def dAddS : WE → WE → WE := d2 fun s x y Ks => match x, y with | .da (.str i), .da (.str j) => i.length + j.length ≤ sizeLine ∧ Ks s (.da (.str (i ++ j))) | _, _ => False
theorem opd_addS {K : PySem.W.Frag} : OpD K (fun x y H Q => ∃ i j, x = .str i ∧ y = .str j ∧ i.length + j.length ≤ sizeLine ∧ Q (.str (i ++ j)) H) (fun s x y Ks => match x, y with | .da (.str i), .da (.str j) => i.length + j.length ≤ sizeLine ∧ Ks s (.da (.str (i ++ j))) | _, _ => False) := by
  intro b A own H σ s vx vy x y Ks Q R ex ey h k
  split at h
  · cases ex; cases ey
    exact ⟨_, _, rfl, rfl, h.1, k.da R Up.refl (.str _) h.2⟩
  · exact h.elim
theorem de_addS (ha : DE X a wa) (hb : DE X b wb) : DE X (.BinOp a .Add b pos) (dAddS wa wb) := de_op op_add_str opd_addS ha hb
def dCat : WE → WE → WE := d2 fun s x y Ks => vw2 s x y fun d e => match d, e with | .list i, .list j => i.length + j.length ≤ sizeLine ∧ Ks s (.da (.list (i ++ j))) | _, _ => False
theorem opd_cat {K : PySem.W.Frag} : OpD K rCat (fun s x y Ks => vw2 s x y fun d e => match d, e with | .list i, .list j => i.length + j.length ≤ sizeLine ∧ Ks s (.da (.list (i ++ j))) | _, _ => False) := by
  intro b A own H σ s vx vy x y Ks Q R ex ey h k
  obtain ⟨d, hd, h⟩ := onO_inv h
  obtain ⟨e, he, h⟩ := onO_inv h
  split at h
  · obtain ⟨p, vs, rfl, q, r⟩ := vw_lstH R ex hd
    obtain ⟨p', vs', rfl, q', r'⟩ := vw_lstH R ey he
    exact ⟨p, p', vs, vs', rfl, rfl, q, q', by rw [r.length, r'.length]; exact h.1, fun z hz => new_lst R k (r.append r') hz h.2⟩
  · exact h.elim
theorem de_cat (ha : DE X a wa) (hb : DE X b wb) : DE X (.BinOp a .Add b pos) (dCat wa wb) := de_op op_cat opd_cat ha hb
end
def spTake : SpD := fun xs ms Ks => match xs, ms with
  | [.mu 0, .da (.int many)], [.rnd n] => 1 ≤ n ∧ CDivW 0 many ∧ ∀ d, 0 ≤ d → d < many → Ks [.rnd (n - 1)] (.da (.int d))
  | _, _ => False
def spTakeH : Sp := fun vs H Q _ => ∃ (a c : Addr) (cs : List Int) (t many : Int), vs = [.ref a, .int many] ∧ H a = some (.dK [(.inr "cells", .ref c), (.inr "turn", .int t)]) ∧ H c = some (.lst (cs.map V.int)) ∧
  1 ≤ cs.length ∧ cs.length ≤ 63 ∧ 0 ≤ t ∧ t + 1 ≤ turnMax ∧ CDivW 0 many ∧
  ∀ (H' : Hp) (cs' : List Int) (d : Int), (∀ b o, b ≠ a → b ≠ c → H b = some o → H' b = some o) → H' a = some (.dK [(.inr "cells", .ref c), (.inr "turn", .int (t + 1))]) → H' c = some (.lst (cs'.map V.int)) → cs'.length = cs.length → 0 ≤ d → d < many → Q (.int d) H'
theorem spTake_imp {K : PySem.W.Frag} {vs : List V} {H : Hp} {Q : VK} {E : XK} (h : spOf K 2 spTake vs H Q E) : spTakeH vs H Q E := by
  obtain ⟨A, own, xs, ms, Ks, hn, he, ho, hs, k⟩ := h
  unfold spTake at hs
  split at hs
  · rename_i many n
    obtain ⟨h1, h2, h3⟩ := hs
    match vs, he with
    | [v, u], ⟨e1, e2, _⟩ =>
      cases e2
      obtain ⟨a, r, g, rfl⟩ := e1
      have m := ho.mr 0
      obtain ⟨a', c, cs, t, e1, ha, hc, l1, l2, t0, t1⟩ := (show MR K A own H (go own 0) (.rnd n) from m)
      rw [e1] at g
      cases g
      refine ⟨a, c, cs, t, many, rfl, ha, hc, l1, l2, t0, by omega, h2, fun H' cs' d fr ha' hc' hl d0 d1 => ?_⟩
      have ol : own.length = 1 := ho.ol
      have own_eq : own = [[a, c]] := by
        match own, ol, e1 with
        | [l], _, e => exact congrArg (fun x => [x]) e
      subst own_eq
      refine k A [[a, c]] H' (.int d) [.rnd (n - 1)] (.da (.int d)) ⟨rfl, fun j => ?_, ho.dj, ho.ld, ho.oa, fun b hb => ?_⟩ rfl (fun _ h => h) (fun _ h => .inl h) (fun b o hb q => fr b o (fun z => hb 0 (by subst z; exact List.mem_cons_self)) (fun z => hb 0 (by subst z; exact List.mem_cons_of_mem _ List.mem_cons_self)) q) (fun j b hb => .inl ⟨j, hb⟩) (.int d) (h3 d d0 d1)
      · match j with
        | 0 => exact ⟨a, c, cs', t + 1, rfl, ha', hc', by omega, by omega, by omega, by omega⟩
        | j + 1 => trivial
      · by_cases q : b = a
        · subst q; rw [ha']; intro z; cases z
        · by_cases q2 : b = c
          · subst q2; rw [hc']; intro z; cases z
          · intro z
            cases e : H b with
            | none => exact ho.al b hb e
            | some o => rw [fr b o q q2 e] at z; cases z
  · exact hs.elim
def spBeginH (K : PySem.W.Frag) : Sp := fun vs H Q _ => ∃ (s : Addr) (ns : List Int), vs = [.ref s] ∧ SqL K H s (ns.map V.int) ∧
  ∀ (H' : Hp) (a c : Addr) (cs : List Int), (∀ b o, H b = some o → H' b = some o) → H' a = some (.dK [(.inr "cells", .ref c), (.inr "turn", .int 0)]) → H' c = some (.lst (cs.map V.int)) → H a = none → H c = none → a ≠ c → 1 ≤ cs.length → cs.length ≤ 63 → Q (.ref a) H'
def fuel0 : Nat := 1000000000000
def endLaw : Dn where
  nx := fun _ => False
  rt := fun _ x => x = .da (.bool true)
  bk := fun _ => False
  ct := fun _ => False
end DL
namespace DL
open PySem L2 PySem.Spec PyProof.Rows
section
variable {p : Prop} [Decidable p] {A B : Prop}
theorem nF (h : p) (b : B) : ((!decide p) = true → A) ∧ ((!decide p) = false → B) := ⟨fun z => (by rw [decide_eq_true h] at z; cases z), fun _ => b⟩
theorem nT (h : ¬ p) (a : A) : ((!decide p) = true → A) ∧ ((!decide p) = false → B) := ⟨fun _ => a, fun z => by rw [decide_eq_false h] at z; cases z⟩
theorem tt (a : A) : (true = true → A) ∧ (true = false → B) := ⟨fun _ => a, fun z => by cases z⟩
theorem ff (b : B) : (false = true → A) ∧ (false = false → B) := ⟨fun z => (by cases z), fun _ => b⟩
end
theorem nd1 {k : Nat} : ([k] : List Nat).Nodup := List.nodup_cons.mpr ⟨List.not_mem_nil, List.nodup_nil⟩
theorem mulA {a b : Int} (x y : Nat) (ha : a.natAbs < 2 ^ x) (hb : b.natAbs < 2 ^ y) (h : x + y ≤ 134217728 := by decide) : CMulX a b := mulx_ok ha hb h
theorem divA {a b : Int} (x : Nat) (h : 0 < b) (hb : b.natAbs < 2 ^ x) (h0 : 0 < x := by decide) (h9 : x ≤ 9000 := by decide) : CDivW a b := wide_div h hb h0 h9
theorem pw10 {k : Int} (h : 0 ≤ k) (h2 : k ≤ 1000000) : CPow 10 k := ⟨h, h2, by decide⟩
def muks : List En → List Nat
  | [] => []
  | .mu k :: r => k :: muks r
  | _ :: r => muks r
def CallV (sp : SpD) : S → List En → (S → En → Prop) → Prop := fun s xs Ks => (muks xs).Nodup ∧ CallW sp (muks xs) s xs Ks
structure At (K : PySem.W.Frag) (mg : Str → Option Value) (x : Str) (st : Stmt) (ps : List Str) (f : Addr) (fd : FuncData) : Prop where
  F : Fun K x x st f fd
  g : mg x = some (.ref f)
  kp : PySem.W.keepIn K (.ref f) = true
  b : Binds K fd ps []
structure Ok (P : Program) (w : World) (K : PySem.W.Frag) (mg : Str → Option Value) (base : Heap) (k : Nat) (x : Str) (st : Stmt) (ps : List Str) (n : Nat) (sp : SpD) : Prop where
  ex : ∃ f fd, At K mg x st ps f fd ∧ FnOkG P w K mg base CX0 k f fd ps (spOf K n sp)
section
variable {X : Cx} {e : Expr} {es : List Expr} {wr : WA}
theorem de_callV {k : Nat} {st : Stmt} {ps : List Str} {sp : SpD} {x : Str} {p pos : Pos} {n : Nat} (O : Ok X.prog X.w X.K X.mg X.base k x st ps n sp) (hr : RoomG k X.A) (hg : Gl X x)
    (ha : DAn X (e :: es) n wr) (hdb : (x == ("__debug__" : Str)) = false := by decide) (he : starEach (e :: es) X.env = (false, eval e X.env) :: starEach es X.env := by rfl) (hpl : (backTo pos (starEach es X.env)).any (·.1) = false := by rfl) :
    DE X (.Call (.Name x p) (e :: es) [] pos) (dCall (CallV sp) wr) := by
  obtain ⟨f, fd, a, F⟩ := O.ex
  obtain ⟨ta, pa, qa⟩ := ha.ex
  refine ⟨_, pe_callG F hr.r hr.g hg a.g a.kp a.b .nil (pass0 (X := X)) pa hdb he hpl, fun b A own H σ s Ks Q R h kk => ?_⟩
  show ta σ H fun vs H1 => spOf X.K n sp (vs ++ []) H1 Q E0
  refine qa _ _ _ _ _ _ _ _ R h fun A1 o1 H1 vs s1 xs R1 U1 E1 h1 => ?_
  rw [List.append_nil]
  exact callW_run h1.2.1 (E1.len.trans h1.1) R1 E1 h1.2.2 (kk.up U1)
def sFrzV (i : Nat) (w : WS) : WS := fun s D => match gt s.es i with | .mu k => frzW k s fun s1 => w s1 D | _ => w s D
theorem dss_frzV {sts : List Stmt} {w : WS} (i : Nat) (h : DSs X sts w) : DSs X sts (sFrzV i w) := by
  obtain ⟨t, p, q⟩ := h.ex
  refine ⟨t, p, fun b A own H σ s D E R h m => ?_⟩
  unfold sFrzV at h
  split at h
  · rename_i k _
    unfold frzW at h
    split at h
    · rename_i ds g
      obtain ⟨R1, k1, _⟩ := R.frz g h.1
      exact q _ _ _ _ _ _ _ _ R1 h.2 (m.up k1)
    · exact h.elim
  · exact q _ _ _ _ _ _ _ _ R h m
end
section
variable {P : Program} {w : World} {K : PySem.W.Frag} {mg : Str → Option Value} {base : Heap}
theorem hu64 {k : Nat} {A : Around} (hr : RoomG k A) : A.units + 64 < cLine := by have := hr.r.un; omega
theorem hu1 {k : Nat} {A : Around} (hr : RoomG k A) : A.units + 1 < cLine := by have := hr.r.un; omega
theorem hu1R {k : Nat} {A : Around} (hr : Room k A) : A.units + 1 < cLine := by have := hr.un; omega
def st0 (xs : List En) (n0 : Nat) (ms : List MO) (np : Nat) : S := ⟨xs ++ nos n0, ms, np⟩
theorem ok_data {x : Str} {st : Stmt} {N ps : List Str} {k n n0 : Nat} {sp : SpD} (hF : ∃ f fd, At K mg x st ps f fd) (Sc : FnScope N ps (defScope st)) (W : WS)
    (hb : ∀ (f : Addr) (cdv : Value) (A : Around) (outer : List Env) (s : Shared) (H : Hp) (E : XK), RoomG k (A.deeper (PyProof.Rows.envOfC x (defScope st) s.heap.objs.size f cdv)) → DSs (cxOf CX0 P w K mg base N x (defScope st) f cdv A outer s H E).nox (defBody st) W)
    (hsp : ∀ xs ms Ks, sp xs ms Ks → xs.length = n → W (st0 xs n0 ms ms.length) (endD Ks)) (hn : ps.length = n := by rfl) (hn0 : N.length - ps.length = n0 := by rfl) : Ok P w K mg base (k + 1) x st ps n sp := by
  obtain ⟨f, fd, a⟩ := hF
  subst hn
  subst hn0
  exact ⟨f, fd, a, fn_data a.F Sc W (hb f) hsp⟩
end
end DL
namespace DL
open PySem L2 PySem.Spec PyProof.Rows
mutual
def okS (bo : Bool) : D → Bool
  | .none => true
  | .bool _ => bo
  | .int _ => true
  | .str x => PyData.canLay0 (.str x)
  | .list ds => okSs bo ds && decide (ds.length ≤ sizeLine)
  | .tuple ds => okSs bo ds && decide (ds.length ≤ sizeLine)
  | .dict _ => false
def okSs (bo : Bool) : List D → Bool
  | [] => true
  | d :: r => okS bo d && okSs bo r
end
mutual
theorem okS_lay {bo : Bool} : ∀ {d : D}, okS bo d = true → d.canLay0 = true
  | .none, _ => by simp [PyData.canLay0]
  | .bool _, _ => by simp [PyData.canLay0]
  | .int _, _ => by simp [PyData.canLay0]
  | .str x, h => by simpa [okS] using h
  | .list ds, h => by
    simp only [okS, Bool.and_eq_true] at h
    simpa [PyData.canLay0] using okSs_lay h.1
  | .tuple ds, h => by
    simp only [okS, Bool.and_eq_true] at h
    simpa [PyData.canLay0] using okSs_lay h.1
  | .dict _, h => by simp [okS] at h
theorem okSs_lay {bo : Bool} : ∀ {ds : List D}, okSs bo ds = true → PyData.canLayAll0 ds = true
  | [], _ => by simp [PyData.canLayAll0]
  | d :: r, h => by
    simp only [okSs, Bool.and_eq_true] at h
    simp [PyData.canLayAll0, okS_lay h.1, okSs_lay h.2]
end
theorem okSs_get {bo : Bool} : ∀ {ds : List D} {i : Nat} {d : D}, okSs bo ds = true → ds[i]? = some d → okS bo d = true
  | [], _, _, _, h => by simp at h
  | x :: r, 0, d, h, e => by
    simp only [okSs, Bool.and_eq_true] at h
    simp at e; subst e; exact h.1
  | x :: r, i + 1, d, h, e => by
    simp only [okSs, Bool.and_eq_true] at h
    exact okSs_get h.2 (by simpa using e)
theorem okSs_of {bo : Bool} : ∀ {ds : List D}, (∀ d ∈ ds, okS bo d = true) → okSs bo ds = true
  | [], _ => rfl
  | x :: r, h => by
    simp only [okSs, Bool.and_eq_true]
    exact ⟨h _ (by simp), okSs_of fun d q => h d (by simp [q])⟩
theorem depth_get : ∀ {ds : List D} {i : Nat} {d : D}, ds[i]? = some d → d.depth ≤ PyData.depthAll ds
  | [], _, _, h => by simp at h
  | x :: r, 0, d, e => by
    simp at e; subst e; simp only [PyData.depthAll]; omega
  | x :: r, i + 1, d, e => by
    have := depth_get (ds := r) (by simpa using e)
    simp only [PyData.depthAll]; omega
theorem depth_of {n : Nat} : ∀ {ds : List D}, (∀ d ∈ ds, d.depth ≤ n) → PyData.depthAll ds ≤ n
  | [], _ => by simp [PyData.depthAll]
  | x :: r, h => by
    have h1 := h x (by simp)
    have h2 := depth_of (n := n) (ds := r) fun d q => h d (by simp [q])
    simp only [PyData.depthAll]; omega
theorem shaped_of {bo : Bool} {d : D} (h : okS bo d = true) (hd : d.depth ≤ 64) : SeqAt.shaped d = true := by
  show (d.canLay0 && decide (d.depth ≤ 64)) = true
  rw [okS_lay h, decide_eq_true hd]; rfl
theorem Ok.none {P : Program} {w : World} {K : PySem.W.Frag} {mg : Str → Option Value} {base : Heap} {x : Str} {st : Stmt} {ps : List Str} {n : Nat} {sp : SpD} (hF : ∃ f fd, At K mg x st ps f fd) (h : ∀ xs ms Ks, ¬ sp xs ms Ks) : Ok P w K mg base 0 x st ps n sp := by
  obtain ⟨f, fd, a⟩ := hF
  refine ⟨f, fd, a, ⟨fun vs H Q E q => ?_, fun A outer s H args us vs Q E hr _ he hb hv hs => ?_⟩⟩
  · obtain ⟨_, _, _, _, _, _, _, _, q, _⟩ := q
    exact (h _ _ _ q).elim
  · obtain ⟨_, _, _, _, _, _, _, _, q, _⟩ := hs
    exact (h _ _ _ q).elim
theorem onO_mk {α : Type} {o : Option α} {f : α → Prop} {x : α} (h : o = some x) (k : f x) : onO o f := by subst h; exact k
end DL
namespace DL
open PySem L2 PySem.Spec PyProof.Rows
section
variable {X : Cx} {a b c e : Expr} {wa wb wc we : WE} {pos : Pos} {es : List Expr} {wr : WA}
end
end DL
namespace DL
open PySem L2 PySem.Spec PyProof.Rows
def scD : D → Bool
  | .none => true
  | .bool _ => true
  | .int _ => true
  | .str _ => true
  | _ => false
theorem Rp.scal {K : PySem.W.Frag} {A A' : Addr → Prop} {H H' : Hp} {v : V} {d : D} (r : Rp K A H v d) (h : scD d = true) : Rp K A' H' v d := by
  cases r with
  | non => exact .non
  | bl c => exact .bl c
  | int i => exact .int i
  | str x => exact .str x
  | lst l r => cases h
  | tup l r => cases h
  | dct l n r => cases h
theorem Own.none (K : PySem.W.Frag) (H : Hp) : Own K (fun _ => False) [] H [] := ⟨rfl, fun _ => trivial, fun _ _ _ h => (by cases h), fun _ => List.nodup_nil, fun _ _ h => (by cases h), fun _ h => h.elim⟩
section
variable {X : Cx} {e : Expr} {es : List Expr} {wr : WA}
end
end DL
namespace DL
open PySem L2 PySem.Spec PyProof.Rows
section
variable {X : Cx} {a b c e : Expr} {wa wb wc we : WE} {pos : Pos} {es : List Expr} {wr : WA}
def cMin3 : S → List En → (S → En → Prop) → Prop := fun s xs Ks => a3 xs fun x y z => iI x y fun i j => i1 z fun k => Ks s (.da (.int (min (min i j) k)))
end
end DL
namespace DL
open PySem L2 PySem.Spec PyProof.Rows
section
variable {X : Cx} {a b c e : Expr} {wa wb wc we : WE} {pos : Pos} {es : List Expr} {wr : WA}
def cInt : S → List En → (S → En → Prop) → Prop := fun s xs Ks => a1 xs fun x => daI x fun d => match d with
  | .int i => Ks s (.da (.int i))
  | .bool k => Ks s (.da (.int (if k = true then 1 else 0)))
  | .str z => ∃ n, PySem.intText? z = some n ∧ z.length ≤ 640 ∧ Ks s (.da (.int n))
  | _ => False
def rInt : List V → Hp → VK → Prop := fun xs H Q => ((∃ i, xs = [.int i] ∧ Q (.int i) H) ∨ ∃ k, xs = [.bl k] ∧ Q (.int (if k then 1 else 0)) H) ∨ ∃ a n, xs = [.str a] ∧ PySem.intText? a = some n ∧ a.length ≤ 640 ∧ Q (.int n) H
theorem cr_int : CallR X (.type "int") rInt := fun pins s σ H vs us Q I r h => h.elim (fun h => call_int1 pins s σ H vs us Q I r h) fun h => call_int_str pins s σ H vs us Q I r h
theorem cd_int {K : PySem.W.Frag} : CallD K rInt cInt := by
  intro b A own H σ s vs xs Ks Q R E h k
  obtain ⟨v, x, rfl, e1, h⟩ := a1_inv E h
  obtain ⟨d, rfl, h⟩ := daI_inv h
  cases d with
  | int i => cases e1; exact .inl (.inl ⟨i, rfl, k.da R Up.refl (.int i) h⟩)
  | bool c => cases e1; exact .inl (.inr ⟨c, rfl, k.da R Up.refl (.int _) h⟩)
  | str z =>
    cases e1
    obtain ⟨n, h1, h2, h3⟩ := h
    exact .inr ⟨z, n, rfl, h1, h2, k.da R Up.refl (.int n) h3⟩
  | none => exact h.elim
  | list _ => exact h.elim
  | tuple _ => exact h.elim
  | dict _ => exact h.elim
theorem de_int1 {p : Pos} (hg : Gl X "int") (hm : X.mg "int" = none) (ha : DE X a wa) (he : starEach (a :: []) X.env = (false, eval a X.env) :: starEach [] X.env := by rfl) : DE X (.Call (.Name "int" p) [a] [] pos) (dCall cInt (aCons wa aNil)) := de_callTy cr_int cd_int hg hm (by decide +kernel) (da_cons ha da_nil he) (he := he)
def fitD (ds : List D) : Prop := PyData.canLayAll0 ds = true ∧ PyData.depthAll ds ≤ 60
def rInS (K : PySem.W.Frag) (neg : Bool) : R2 := fun x y H Q => ∃ (d : D) (ds : List D), Dp K H x d ∧ (Dp K H y (.list ds) ∨ Dp K H y (.tuple ds)) ∧ fitD [d] ∧ fitD ds ∧ Q (.bl (xr neg (ds.any fun z => PyData.eqv z d))) H
theorem fit_room {A : Around} {d : D} {ds : List D} (h : fitD [d]) (hu : A.units + 64 < cLine) : A.units + 1 + min (PyData.depthAll ds) d.depth < cLine := by
  have h2 := h.2
  simp only [PyData.depthAll] at h2
  have : min (PyData.depthAll ds) d.depth ≤ d.depth := Nat.min_le_right _ _
  omega
theorem fit_one {d : D} (h : fitD [d]) : d.canLay0 = true := by
  have := h.1
  simp only [PyData.canLayAll0, Bool.and_eq_true] at this
  exact this.1
theorem op_inS2 (hu : X.A.units + 64 < cLine) : OpR X (compareOp .In) (rInS X.K false) := by
  intro pins s σ H x y v u Q I rx ry h
  obtain ⟨d, ds, hd, he, fd, fs, q⟩ := h
  obtain ⟨as, r1⟩ := Dp.reads I d x v hd rx
  rcases he with he | he
  · obtain ⟨bs, r2⟩ := Dp.reads I (.list ds) y u he ry
    exact SeqAt.in_list_reads r2 r1 fs.1 (fit_one fd) (fit_room fd hu) ⟨.bl _, H, I, rfl, q⟩
  · obtain ⟨bs, r2⟩ := Dp.reads I (.tuple ds) y u he ry
    exact SeqAt.in_tuple_reads r2 r1 fs.1 (fit_one fd) (fit_room fd hu) ⟨.bl _, H, I, rfl, q⟩
def rdInD (neg : Bool) : S → En → En → (S → En → Prop) → Prop := fun s x y Ks => vw2 s x y fun d e => onO (seqD e) fun ds => fitD [d] ∧ fitD ds ∧ Ks s (.da (.bool (xr neg (ds.any fun z => PyData.eqv z d))))
theorem opd_inD {K : PySem.W.Frag} {neg : Bool} : OpD K (rInS K neg) (rdInD neg) := by
  intro b A own H σ s vx vy x y Ks Q R e1 e2 h k
  obtain ⟨d, hd, h⟩ := onO_inv h
  obtain ⟨e, he, h⟩ := onO_inv h
  obtain ⟨ds, hs, f1, f2, h⟩ := onO_inv h
  refine ⟨d, ds, vw_dp R e1 hd (by have := f1.1; rw [PyData.canLayAll0, Bool.and_eq_true] at this; exact this.1), ?_, f1, f2, k.da R Up.refl (.bl _) h⟩
  have q := vw_dp R e2 he
  cases e with
  | list es => cases hs; exact .inl (q (by simpa only [PyData.canLay0] using f2.1))
  | tuple es => cases hs; exact .inr (q (by simpa only [PyData.canLay0] using f2.1))
  | _ => cases hs
theorem dt_inD (hu : X.A.units + 64 < cLine) (ha : DE X a wa) (hb : DE X b wb) (hm : behindInMarks .In b = false := by rfl) : DT X (.Compare a [.In] [b] pos) (tT (d2 (rdInD false) wa wb)) := dt_cmp (op_inS2 hu) opd_inD ha hb hm
def sortD (ds : List D) : List D := ds.mergeSort (PySem.W.dataLe false id)
def canSort (ds : List D) : Prop := PySem.W.AllAlike ds ∧ PySem.W.Sortable ds ∧ fitD ds
def rSortedD (K : PySem.W.Frag) : List V → Hp → VK → Prop := fun vs H Q => ∃ (a : Addr) (zs : List (V × D)), vs = [.ref a] ∧ SqL K H a (zs.map (·.1)) ∧ DpAll K H (zs.map (·.1)) (zs.map (·.2)) ∧ canSort (zs.map (·.2)) ∧
  ∀ p, H p = none → Q (.ref p) (upd H p (.lst ((zs.mergeSort (PySem.W.dataLe false (·.2))).map (·.1))))
theorem each_vals {h : Heap} : ∀ {zs : List (V × D)} {us : List Value} {as : List Addr}, Vals (zs.map (·.1)) us → ReadsAll h us (zs.map (·.2)) as → PySem.W.EachIs (fun (u : Value) (z : V × D) => RelV z.1 u) us zs ∧ PySem.W.EachIs (fun (u : Value) (z : V × D) => ∃ as, Reads h u z.2 as) us zs
  | [], _, _, .nil, _ => ⟨.nil, .nil⟩
  | z :: zs, _, _, .cons r t, .cons r2 t2 => by
    obtain ⟨h1, h2⟩ := each_vals t t2
    exact ⟨.cons r h1, .cons ⟨_, r2⟩ h2⟩
theorem vals_each : ∀ {zs : List (V × D)} {us : List Value}, PySem.W.EachIs (fun (u : Value) (z : V × D) => RelV z.1 u) us zs → Vals (zs.map (·.1)) us
  | _, _, .nil => .nil
  | _, _, .cons r t => .cons r (vals_each t)
theorem depth_le_all {ds : List D} {d : D} (h : d ∈ ds) : d.depth ≤ PyData.depthAll ds := by
  obtain ⟨i, hi⟩ := List.getElem?_of_mem h
  exact depth_get hi
theorem cr_sortedD (hu : X.A.units + 64 < cLine) : CallR X (.builtin "sorted") (rSortedD X.K) := by
  intro pins s σ H vs us Q I r h
  obtain ⟨a, zs, rfl, hs, hd, ⟨c1, c2, c3, c4⟩, q⟩ := h
  obtain ⟨its, rv, hl, hz⟩ := I.list hs
  rw [Vals.ref1 r]
  obtain ⟨as, hr⟩ := Dp.readsAll I _ _ its hd rv
  obtain ⟨h1, h2⟩ := each_vals rv hr
  refine PySem.W.sorted_data (enc := fun z : V × D => z.2) hl.isList h1 h2 c1 c2 (by rw [List.length_map] at hz; exact hz) (fun z hm => ?_) fun out h3 h4 => ?_
  · have := depth_le_all (List.mem_map_of_mem (f := fun z : V × D => z.2) hm)
    omega
  · obtain ⟨ep, he'⟩ := PyProof.Rows.sortedAll_at s.heap its out.toArray
    refine ⟨.ref _, upd H (s.heap.objs.size + 1) (.lst ((zs.mergeSort (PySem.W.dataLe false (·.2))).map (·.1))), I.laid (t' := s.toks) (fun _ _ => PyProof.Rows.sortedAll_old) (Nat.le_succ _) ⟨?_, out, ep, vals_each h4, he'⟩, rfl, q _ (I.hok.fresh (Nat.le_succ _))⟩
    rw [List.length_map, List.length_mergeSort]
    rw [List.length_map] at hz
    exact hz
theorem rpl_zip {K : PySem.W.Frag} {A : Addr → Prop} {H : Hp} : ∀ {vs : List V} {ds : List D}, RpL K A H vs ds → ∃ zs : List (V × D), zs.map (·.1) = vs ∧ zs.map (·.2) = ds ∧ ∀ z ∈ zs, Rp K A H z.1 z.2
  | _, _, .nil => ⟨[], rfl, rfl, fun _ h => by cases h⟩
  | _, _, .cons r t => by
    obtain ⟨zs, e1, e2, h⟩ := rpl_zip t
    refine ⟨(_, _) :: zs, by rw [List.map_cons, e1], by rw [List.map_cons, e2], fun z hz => ?_⟩
    rcases List.mem_cons.mp hz with rfl | hz
    · exact r
    · exact h z hz
theorem rpl_map {K : PySem.W.Frag} {A : Addr → Prop} {H : Hp} : ∀ {zs : List (V × D)}, (∀ z ∈ zs, Rp K A H z.1 z.2) → RpL K A H (zs.map (·.1)) (zs.map (·.2))
  | [], _ => .nil
  | z :: zs, h => .cons (h z (by simp)) (rpl_map fun y hy => h y (by simp [hy]))
theorem map_sort (zs : List (V × D)) : (zs.mergeSort (PySem.W.dataLe false (·.2))).map (·.2) = sortD (zs.map (·.2)) :=
  List.map_mergeSort fun _ _ _ _ => rfl
def cSortD : S → List En → (S → En → Prop) → Prop := fun s xs Ks => a1 xs fun x => ∃ ds : List D, vw s x = some (.list ds) ∧ canSort ds ∧ Ks s (.da (.list (sortD ds)))
theorem sortD_run {K : PySem.W.Frag} {b : Bd} {A : Addr → Prop} {own : List (List Addr)} {H : Hp} {σ : L2.St} {s : S} {v : V} {x : En} {ds : List D} {Q : VK} (R : Rel K b A own H σ s) (e1 : ER K A own H v x) (hd : vw s x = some (.list ds)) (hc : canSort ds)
    (q : ∀ vs p, RpL K A H vs (sortD ds) → H p = none → Q (.ref p) (upd H p (.lst vs))) : rSortedD K [v] H Q := by
  obtain ⟨a, us, rfl, hs, r⟩ := vw_lst R e1 hd
  obtain ⟨zs, rfl, rfl, hz⟩ := rpl_zip r
  refine ⟨a, zs, rfl, hs, r.dp hc.2.2.1, hc, fun p hp => q _ p ?_ hp⟩
  rw [← map_sort]
  exact rpl_map fun z hm => hz z ((List.mergeSort_perm _ _).mem_iff.mp hm)
theorem cd_sortD {K : PySem.W.Frag} : CallD K (rSortedD K) cSortD := by
  intro b A own H σ s vs xs Ks Q R E h k
  obtain ⟨v, x, rfl, e1, ds, hd, hc, h⟩ := a1_inv E h
  exact sortD_run R e1 hd hc fun vs p r hp => new_lst R k r hp h
theorem de_sortD {p : Pos} (hu : X.A.units + 64 < cLine) (hg : Gl X "sorted") (hm : X.mg "sorted" = none) (ha : DE X a wa) (he : starEach (a :: []) X.env = (false, eval a X.env) :: starEach [] X.env := by rfl) : DE X (.Call (.Name "sorted" p) [a] [] pos) (dCall cSortD (aCons wa aNil)) := de_callB (cr_sortedD hu) cd_sortD hg hm (by decide +kernel) (da_cons ha da_nil he) (he := he)
end
end DL
namespace DL
open PySem L2 PySem.Spec PyProof.Rows
section
variable {X : Cx} {e : Expr} {te : TE} {p apos cpos pos : Pos}
end
section
variable {X : Cx} {a b c e : Expr} {wa wb wc we : WE} {pos : Pos}
def cListK : S → List En → (S → En → Prop) → Prop := fun s xs Ks => a1 xs fun o => mu2 s o fun _ kvs => Ks s (.da (.list (kvs.map fun z => kD z.1)))
def rListK : List V → Hp → VK → Prop := fun xs H Q => ∃ (a : Addr) (kvs : List (Key × V)), xs = [.ref a] ∧ Rd H a (.dK kvs) ∧ ∀ p, H p = none → Q (.ref p) (upd H p (.lst (kvs.map fun kv => kV kv.1)))
theorem rkv_keysV {K : PySem.W.Frag} {A : Addr → Prop} {H : Hp} : ∀ {ws : List (Key × V)} {kvs : List (Key × D)}, RKV K A H ws kvs → RpL K A H (ws.map fun kv => kV kv.1) (kvs.map fun z => kD z.1)
  | [], [], _ => .nil
  | w :: ws, z :: kvs, ⟨e, _, t⟩ => by
    refine .cons ?_ (rkv_keysV t)
    show Rp K A H (kV w.1) (kD z.1)
    rw [show w.1 = z.1 from e]
    cases z.1 with
    | inl i => exact .int i
    | inr x => exact .str x
theorem cd_listK {K : PySem.W.Frag} : CallD K rListK cListK := by
  intro b A own H σ s vs xs Ks Q R E h k
  obtain ⟨v, x, rfl, e1, h⟩ := a1_inv E h
  obtain ⟨j, kvs, rfl, g, h⟩ := mu2_inv h
  obtain ⟨d, vs, rfl, e2, e3, e4, _⟩ := mud_at R e1 g
  exact ⟨d, vs, rfl, .inl e2, fun p hp => new_lst R k (rkv_keysV e3) hp h⟩
theorem de_listK {p : Pos} (hc : X.calm = true) (hg : Gl X "list") (hm : X.mg "list" = none) (ha : DE X a wa) (he : starEach (a :: []) X.env = (false, eval a X.env) :: starEach [] X.env := by rfl) : DE X (.Call (.Name "list" p) [a] [] pos) (dCall cListK (aCons wa aNil)) := de_callTy (call_listD hc) cd_listK hg hm (by decide +kernel) (da_cons ha da_nil he) (he := he)
end
end DL
namespace DL
open PySem L2 PySem.Spec PyProof.Rows
section
variable {X : Cx} {a b c e : Expr} {wa wb wc we : WE} {pos : Pos}
end
end DL
namespace DL
open PySem L2 PySem.Spec PyProof.Rows
section
variable {prog : Program} {w : World} {A : Around} {E : Value → Shared → Prop} {s : Shared}
end
section
variable {X : Cx} {a b c e : Expr} {wr : WA} {pos : Pos}
end
end DL
namespace DL
open PySem L2 PySem.Spec PyProof.Rows
section
variable {K : PySem.W.Frag} {A A' : Addr → Prop} {own own' : List (List Addr)} {H H' : Hp} {b : Bd} {σ : L2.St} {s : S}
theorem RpK.get : ∀ {ws : List (Key × V)} {kvs : List (Key × D)} {i : Nat} {k : Key} {d : D}, RpK K A H ws kvs → kvs[i]? = some (k, d) → ∃ v, ws[i]? = some (k, v) ∧ Rp K A H v d
  | _, _, _, _, _, .nil, e => by simp at e
  | _, _, 0, _, _, .cons a _, e => by
    simp at e
    obtain ⟨rfl, rfl⟩ := e
    exact ⟨_, rfl, a⟩
  | _, _, i + 1, _, _, .cons _ b, e => by
    obtain ⟨y, h1, h2⟩ := RpK.get (i := i) b (by simpa using e)
    exact ⟨y, by simpa using h1, h2⟩
theorem RpK.length : ∀ {ws : List (Key × V)} {kvs : List (Key × D)}, RpK K A H ws kvs → ws.length = kvs.length
  | _, _, .nil => rfl
  | _, _, .cons _ b => congrArg (· + 1) (RpK.length b)
end
section
variable {X : Cx} {a b c e : Expr} {wa wb wc we : WE} {pos : Pos} {sts : List Stmt} {w : WS}
end
end DL
namespace DL
open PySem L2 PySem.Spec PyProof.Rows
def Sq1 (K : PySem.W.Frag) (H : Hp) (t : Bool) (a : Addr) (xs : List V) : Prop := match t with | false => SqL K H a xs | true => SqT K H a xs
def isS (t : Bool) (h : Heap) (a : Addr) (its : Array Value) : Prop := match t with | false => h.IsList a its | true => h.IsTuple a its
def itN (t : Bool) (h : Heap) (it a : Addr) (i : Nat) : Prop := match t with | false => h.IsListIter it a i | true => h.IsTupleIter it a i
theorem isS.lt {t : Bool} {h : Heap} {a : Addr} {its : Array Value} (p : isS t h a its) : a < h.objs.size := by
  cases t with
  | false => obtain ⟨o, e, _⟩ := (show h.IsList a its from p); exact Heap.lt_size e
  | true => obtain ⟨o, e, _⟩ := (show h.IsTuple a its from p); exact Heap.lt_size e
theorem itN.obj {t : Bool} {h : Heap} {it a : Addr} {i : Nat} (p : itN t h it a i) : ∃ o, h.get? it = some o ∧ ∀ v, o.data ≠ .cell v := by
  cases t with
  | false => obtain ⟨o, e, c, d⟩ := (show h.IsListIter it a i from p); exact ⟨o, e, fun v z => by rw [d] at z; cases z⟩
  | true => obtain ⟨o, e, c, d⟩ := (show h.IsTupleIter it a i from p); exact ⟨o, e, fun v z => by rw [d] at z; cases z⟩
theorem itN.at {t : Bool} {h h' : Heap} {it a : Addr} {i : Nat} (p : itN t h it a i) (k : ∀ o, h.get? it = some o → h'.get? it = some o) : itN t h' it a i := by
  cases t with
  | false => exact Heap.IsListIter.at (show h.IsListIter it a i from p) k
  | true => exact Heap.IsTupleIter.at (show h.IsTupleIter it a i from p) k
section
variable {X : Cx} {pins : List (Addr × Obj)} {σ : L2.St} {H : Hp} {s : Shared}
end
def SqD (K : PySem.W.Frag) (A : Addr → Prop) (H : Hp) (t : Bool) (a : Addr) (xs : List V) : Prop := match t with | false => LsR A H a xs | true => TuR K A H a xs
theorem SqD.sq {K : PySem.W.Frag} {A : Addr → Prop} {H : Hp} {t : Bool} {a : Addr} {xs : List V} (h : SqD K A H t a xs) : Sq1 K H t a xs := by
  cases t with
  | false => exact LsR.sq h
  | true => exact TuR.sq h
theorem SqD.mono {K : PySem.W.Frag} {A A' : Addr → Prop} {H H' : Hp} {t : Bool} {a : Addr} {xs : List V} (h : SqD K A H t a xs) (kp : Kp A H A' H') : SqD K A' H' t a xs := by
  cases t with
  | false => exact kp _ _ h.2 h.1
  | true => exact Or.elim h (fun q => .inl (kp _ _ q.2 q.1)) .inr
section
variable {X : Cx} {e1 e2 : Expr} {wr : WA} {pos : Pos}
end
section
variable {X : Cx} {e1 e2 e3 : Expr} {wr : WA} {pos : Pos}
end
end DL
namespace DL
open PySem L2 PySem.Spec PyProof.Rows
section
variable {X : Cx} {a b c e : Expr} {wa wb wc we : WE} {pos : Pos}
section
variable {ta tb : TE} (qa : ∀ (b : Bd) (A : Addr → Prop) (own : List (List Addr)) (H : Hp) (σ : L2.St) (s : S) (Ks : S → En → Prop) (Q : VK), Rel X.K b A own H σ s → wa s Ks → PostE X.K b A own H σ Ks Q → ta σ H Q)
    (qb : ∀ (b : Bd) (A : Addr → Prop) (own : List (List Addr)) (H : Hp) (σ : L2.St) (s : S) (Ks : S → En → Prop) (Q : VK), Rel X.K b A own H σ s → wb s Ks → PostE X.K b A own H σ Ks Q → tb σ H Q)
include qa qb
end
end
end DL
namespace DL
open PySem L2 PySem.Spec PyProof.Rows
section
variable {K : PySem.W.Frag} {A A' : Addr → Prop} {own own' : List (List Addr)} {H H' : Hp} {b : Bd} {σ : L2.St} {s : S}
end
section
variable {X : Cx} {e : Expr} {we : WE}
end
end DL
namespace DL
open PySem L2 PySem.Spec PyProof.Rows
theorem limE_mu (m k : Nat) : limE m (.mu k) = if k < m then .mu k else .no := by
  show (bif Nat.blt k m then En.mu k else .no) = _
  by_cases h : k < m
  · have : Nat.blt k m = true := Nat.ble_eq_true_of_le h
    rw [if_pos h, this]; rfl
  · have : Nat.blt k m = false := by
      cases q : Nat.blt k m with
      | false => rfl
      | true => exact absurd (Nat.le_of_ble_eq_true q) h
    rw [if_neg h, this]; rfl
theorem limE_da (m : Nat) (d : D) : limE m (.da d) = .da d := rfl
theorem limE_no (m : Nat) : limE m .no = .no := rfl
theorem subE_mu (k j : Nat) (d : D) : subE k d (.mu j) = if j = k then .da d else .mu j := by
  show (bif Nat.beq j k then En.da d else .mu j) = _
  by_cases h : j = k
  · have : Nat.beq j k = true := by simpa using h
    rw [if_pos h, this]; rfl
  · have : Nat.beq j k = false := by
      cases q : Nat.beq j k with
      | false => rfl
      | true => exact absurd (by simpa using q) h
    rw [if_neg h, this]; rfl
theorem subE_da (k : Nat) (d e : D) : subE k d (.da e) = .da e := rfl
theorem subE_no (k : Nat) (d : D) : subE k d .no = .no := rfl
section
variable {X : Cx} {e : Expr} {we : WE} {tg : Expr}
end
end DL
namespace DL
open PySem L2 PySem.Spec PyProof.Rows
section
variable {X : Cx} {o e : Expr} {wo we : WE}
theorem rpl_strs {K : PySem.W.Frag} {A : Addr → Prop} {H : Hp} : ∀ {ys : List Str} {vs : List V}, RpL K A H vs (ys.map .str) → vs = ys.map V.str
  | [], [], _ => rfl
  | y :: ys, v :: vs, .cons r t => by
    cases (show Rp K A H v (.str y) from r)
    rw [rpl_strs t]
    rfl
def dJoin (wo we : WE) : WE := fun s Ks => wo s fun s1 x => daI x fun d => match d with
  | .str a => we s1 fun s2 y => ∃ ys : List Str, vw s2 y = some (.list (ys.map .str)) ∧ (ys.map (·.length)).sum + ys.length * a.length ≤ 16777216 ∧ Ks s2 (.da (.str (Txt.join a ys)))
  | _ => False
theorem de_join {apos pos : Pos} (ho : DE X o wo) (he : DE X e we) (hs : starEach [e] X.env = [(false, eval e X.env)] := by rfl) (hbase : attributeBase o "join" X.env (eval o X.env) = eval o X.env := by rfl) (hline : (apos.endLine == pos.line) = true := by rfl) :
    DE X (.Call (.Attribute o "join" apos) [e] [] pos) (dJoin wo we) := by
  obtain ⟨to, po, qo⟩ := ho.ex
  obtain ⟨te, pe, qe⟩ := he.ex
  refine ⟨_, pe_join po pe hs hbase hline, fun b A own H σ s Ks Q R h k => ?_⟩
  refine qo _ _ _ _ _ _ _ _ R h fun A1 o1 H1 v1 s1 x1 R1 U1 E1 h1 => ?_
  obtain ⟨d, rfl, h2⟩ := daI_inv h1
  clear h1
  split at h2
  · rename_i a
    cases (show Rp X.K A1 H1 v1 (.str a) from E1)
    refine ⟨⟨a, rfl⟩, ?_⟩
    refine qe _ _ _ _ _ _ _ _ R1 h2 fun A2 o2 H2 v2 s2 x2 R2 U2 E2 h3 => ?_
    obtain ⟨ys, hy, hz, h4⟩ := h3
    obtain ⟨p, vs, rfl, hs, r⟩ := vw_lst R2 E2 hy
    rw [rpl_strs r] at hs
    exact ⟨a, p, ys, rfl, rfl, .inl hs, hz, k.da R2 (U1.trans U2) (.str _) h4⟩
  · exact h2.elim
variable {a b : Expr} {wa wb : WE} {pos : Pos}
end
end DL
namespace DL
open PySem L2 PySem.Spec PyProof.Rows
mutual
def nL : D → Bool
  | .none => true
  | .bool _ => true
  | .int _ => true
  | .str _ => true
  | .list _ => false
  | .tuple ds => nLs ds
  | .dict _ => false
def nLs : List D → Bool
  | [] => true
  | d :: ds => nL d && nLs ds
end
section
variable {K : PySem.W.Frag} {A A' : Addr → Prop} {own own' : List (List Addr)} {H H' : Hp} {b : Bd} {σ : L2.St} {s : S}
end
section
variable {X : Cx} {e : Expr} {we : WE}
variable {js : List Nat} {wg : WG} {wt : WT} {pos : Pos}
end
end DL
namespace DL
open PySem L2 PySem.Spec PyProof.Rows
section
variable {X : L2.Cx}
variable {a b : Expr} {wa wb : WE} {pos : Pos}
end
end DL
namespace DL.KJ
open PySem PySem.Calls PyProof.Rows PySem.W
theorem get_gone {h : Heap} {c : Addr} : ({ h with objs := h.objs.setIfInBounds c ⟨.none, none, .freed, #[]⟩ } : Heap).get? c = none := by
  unfold Heap.get?
  by_cases hc : c < h.objs.size
  · simp [Array.getElem?_setIfInBounds, hc]
  · simp [Array.getElem?_setIfInBounds, hc]
theorem get_gone_ne {h : Heap} {b c : Addr} (hb : b ≠ c) : ({ h with objs := h.objs.setIfInBounds c ⟨.none, none, .freed, #[]⟩ } : Heap).get? b = h.get? b := by
  unfold Heap.get?
  simp [Array.getElem?_setIfInBounds, Ne.symm hb]
section
variable {prog : Program} {w : World} {A : Around} {E : Value → Shared → Prop} {s : Shared} {a kS : Addr} {b : Bool} {vs : List Value} {e1 : Nat} {P : PySem.Fin → Shared → Prop} {kz : List PyData} {f : Value} {J : Nat → Shared → List Value → Prop}
theorem rest (hlen : kz.length = vs.length) (hZ : vs.length ≤ sizeLine) (hal : AllAlike kz) (hsk : Sortable kz) (hu : ∀ d, d ∈ kz → A.units + d.depth < cLine) (hka : kS ≠ a)
    (j0 : J 0 s []) (nk : s.heap.get? kS = some (seqObj "list" #[] 0)) (na : s.heap.get? a = some (seqObj "list" #[] e1)) (jl : ∀ i s1 ks, J i s1 ks → ks.length = i)
    (turn : ∀ (i : Nat) (v : Value), vs[i]? = some v → ∀ (s1 : Shared) (ks : List Value) (e : Nat), J i s1 ks → s1.heap.get? kS = some (seqObj "list" ks.toArray e) → s1.heap.get? a = some (seqObj "list" #[] e1) →
      wpAny (model prog w) A (call f [v]) (fun u s2 => s2.heap.get? kS = some (seqObj "list" ks.toArray e) ∧ s2.heap.get? a = some (seqObj "list" #[] e1) ∧ ∀ h', Heap.SameBut kS s2.heap h' → J (i + 1) { s2 with heap := h' } (ks ++ [u])) (fun _ _ => False) s1)
    (reads : ∀ s1 ks, J vs.length s1 ks → EachIs (fun v k => ∃ as, Reads s1.heap v k as) ks kz)
    (h : ∀ s1 ks, J vs.length s1 ks → ∀ h' tk out c, (∀ b o, b ≠ a → b ≠ kS → s1.heap.get? b = some o → h'.get? b = some o) → h'.get? a = some (seqObj "list" (List.toArray out) c) → KeyedOut b kz vs out → P (.done (.ret .none)) { s1 with heap := h', toks := tk }) :
    wpAny (model prog w) A (ksk_rest a f b vs.toArray e1 (.ref kS)) P E s := by
  unfold ksk_rest
  refine wpAny_bind (wpAny_rule ?_)
  first
    | rw [List.forIn_toArray]
    | (rw [← Array.forIn_toList]; simp only [List.toList_toArray])
    | rw [← Array.forIn_toList]
  refine wpAny_bind (ksk_fold (fun i s' => ∃ ks e, J i s' ks ∧ s'.heap.get? kS = some (seqObj "list" ks.toArray e) ∧ s'.heap.get? a = some (seqObj "list" #[] e1)) vs 0 s ⟨[], 0, j0, nk, na⟩ ?step ?done)
  case step =>
    rintro j x s' hx ⟨ks, e, hJ, nk', na'⟩
    simp only [Nat.zero_add] at hJ ⊢
    have hj : j < vs.length := (List.getElem?_eq_some_iff.mp hx).1
    have hz : ks.toArray.size ≤ vs.length := by rw [List.size_toArray, jl _ _ _ hJ]; omega
    refine wpAny_bind (wpAny_attempt (wpAny_mono (turn j x hx s' ks e hJ nk' na') (fun v s'' he => ?_) fun _ _ hF => hF.elim))
    obtain ⟨nk2, na2, hJ2⟩ := he
    try dsimp only
    have s1 := Heap.SameBut.update s''.heap kS (Obj.mapSeq (·.push v))
    obtain ⟨c2, hc2⟩ : ∃ c2, (s''.heap.update kS (Obj.mapSeq (·.push v))).get? kS = some (seqObj "list" (ks.toArray.push v) c2) := ⟨_, get?_update_seq nk2 (·.push v)⟩
    refine wpAny_bind (listUpdate_at nk2 rfl ?_ (Nat.le_trans hz hZ) (Nat.le_trans (Nat.le_of_eq (Array.size_push ..)) (Nat.succ_le_succ (Nat.le_trans hz hZ))))
    refine wpAny_pure ⟨rfl, ks ++ [v], c2, hJ2 _ s1, ?_, (s1.2 a hka.symm).trans na2⟩
    rw [hc2]
    simp
  case done =>
    rintro s' ⟨ks, e, hJ, nk', na'⟩
    rw [Nat.zero_add] at hJ
    have hsz : ks.toArray.size = vs.length := by rw [List.size_toArray, jl _ _ _ hJ]
    have hk' := reads _ _ hJ
    try dsimp only
    refine wpAny_bind (listItems_at nk' rfl ?_)
    have kp : KeepsBut a ({ s'.heap with objs := s'.heap.objs.setIfInBounds kS ⟨.none, none, .freed, #[]⟩ } : Heap) s'.heap := fun b o hb q => by
      by_cases hbk : b = kS
      · rw [hbk, get_gone] at q; cases q
      · rw [get_gone_ne hbk] at q; exact q
    refine keyH_end (κ := dataKind s'.heap kz) kp get_gone nk' na' hka (by rw [List.toList_toArray]; exact SortsAt.data (s := s') hk' hal hsk hu) hsz hZ fun h3 tk3 c k3 n3 => ?_
    rw [List.toList_toArray] at n3
    exact h s' ks hJ h3 tk3 _ c (fun b o h1 h2 q => k3 b o h1 (by rw [get_gone_ne h2]; exact q)) n3 ⟨s'.heap, ks, hal, rfl, hk'⟩
theorem tree {n : Nat} (ho : s.heap.get? a = some (seqObj "list" vs.toArray n)) (hlen : kz.length = vs.length) (hZ : vs.length ≤ sizeLine) (hal : AllAlike kz) (hsk : Sortable kz) (hu : ∀ d, d ∈ kz → A.units + d.depth < cLine)
    (j0 : J 0 { s with heap := sortingHeap s.heap a vs } []) (jl : ∀ i s1 ks, J i s1 ks → ks.length = i)
    (turn : ∀ (i : Nat) (v : Value), vs[i]? = some v → ∀ (s1 : Shared) (ks : List Value) (e e1 : Nat), J i s1 ks → s1.heap.get? (s.heap.objs.size + 1) = some (seqObj "list" ks.toArray e) → s1.heap.get? a = some (seqObj "list" #[] e1) →
      wpAny (model prog w) A (call f [v]) (fun u s2 => s2.heap.get? (s.heap.objs.size + 1) = some (seqObj "list" ks.toArray e) ∧ s2.heap.get? a = some (seqObj "list" #[] e1) ∧ ∀ h', Heap.SameBut (s.heap.objs.size + 1) s2.heap h' → J (i + 1) { s2 with heap := h' } (ks ++ [u])) (fun _ _ => False) s1)
    (reads : ∀ s1 ks, J vs.length s1 ks → EachIs (fun v k => ∃ as, Reads s1.heap v k as) ks kz)
    (h : ∀ s1 ks, J vs.length s1 ks → ∀ h' tk out c, (∀ b o, b ≠ a → b ≠ s.heap.objs.size + 1 → s1.heap.get? b = some o → h'.get? b = some o) → h'.get? a = some (seqObj "list" (List.toArray out) c) → KeyedOut b kz vs out → P (.done (.ret .none)) { s1 with heap := h', toks := tk }) :
    wpAny (model prog w) A (ksk_tree a f b) P E s := by
  have ha : a < s.heap.objs.size := Heap.lt_size ho
  obtain ⟨e1, ho1⟩ : ∃ e1, (s.heap.update a (Obj.mapSeq fun _ => (#[] : Array Value))).get? a = some (seqObj "list" #[] e1) := ⟨_, get?_update_seq ho fun _ => #[]⟩
  have hkS : ((s.heap.update a (Obj.mapSeq fun _ => (#[] : Array Value))).push (seqObj "tuple" vs.toArray 0)).objs.size = s.heap.objs.size + 1 := by rw [size_push', Heap.size_update]
  unfold ksk_tree
  refine wpAny_bind (listItems_at ho rfl ?_)
  refine wpAny_bind (listUpdate_at ho rfl ?_ (by rw [List.size_toArray]; exact hZ) (Nat.zero_le _))
  refine wpAny_bind (seqEpoch_at ho1 rfl ?_)
  refine wpAny_bind (wpAny_newTuple ?_ (by show vs.length ≤ _; exact hZ))
  refine wpAny_bind (wpAny_newList ?_ (Nat.zero_le _))
  refine wpAny_holding ?_
  rw [← hkS] at turn h
  refine rest (J := J) (kz := kz) (s := { s with heap := sortingHeap s.heap a vs }) (kS := ((s.heap.update a (Obj.mapSeq fun _ => (#[] : Array Value))).push (seqObj "tuple" vs.toArray 0)).objs.size)
    hlen hZ hal hsk hu (by rw [hkS]; exact Nat.ne_of_gt (Nat.lt_succ_of_lt ha)) j0 (Heap.get?_push_size _ rfl) (Heap.get?_push_of_some _ (Heap.get?_push_of_some _ ho1)) jl (fun i v hv s1 ks e => turn i v hv s1 ks e e1) reads h
theorem sorted {l : Addr} {kw : List (Str × Value)} {Q : Value → Shared → Prop} (hl : s.heap.IsList l vs.toArray) (hlen : kz.length = vs.length) (hZ : vs.length ≤ sizeLine) (hal : AllAlike kz) (hsk : Sortable kz) (hu : ∀ d, d ∈ kz → A.units + 2 + d.depth < cLine)
    (ha1 : argsOk "sorted" ⟨[.ref l], kw⟩) (ha2 : ∀ x, argsOk "list.sort" ⟨[.ref x], kw⟩) (ht : ∀ x, Builtin.«list.sort» ⟨[.ref x], kw⟩ = ksk_tree x f b)
    (j0 : ∀ h', (∀ b o, s.heap.get? b = some o → h'.get? b = some o) → J 0 { s with heap := h' } []) (jl : ∀ i s1 ks, J i s1 ks → ks.length = i)
    (turn : ∀ (i : Nat) (v : Value), vs[i]? = some v → ∀ (s1 : Shared) (ks : List Value) (e e1 : Nat), J i s1 ks → s1.heap.get? (s.heap.objs.size + 3) = some (seqObj "list" ks.toArray e) → s1.heap.get? (s.heap.objs.size + 1) = some (seqObj "list" #[] e1) →
      wpAny (model prog w) A.in1.in1 (call f [v]) (fun u s2 => s2.heap.get? (s.heap.objs.size + 3) = some (seqObj "list" ks.toArray e) ∧ s2.heap.get? (s.heap.objs.size + 1) = some (seqObj "list" #[] e1) ∧ ∀ h', Heap.SameBut (s.heap.objs.size + 3) s2.heap h' → J (i + 1) { s2 with heap := h' } (ks ++ [u])) (fun _ _ => False) s1)
    (reads : ∀ s1 ks, J vs.length s1 ks → EachIs (fun v k => ∃ as, Reads s1.heap v k as) ks kz)
    (h : ∀ s1 ks, J vs.length s1 ks → ∀ h' tk out c, (∀ b o, b ≠ s.heap.objs.size + 1 → b ≠ s.heap.objs.size + 3 → s1.heap.get? b = some o → h'.get? b = some o) → h'.get? (s.heap.objs.size + 1) = some (seqObj "list" (List.toArray out) c) → KeyedOut b kz vs out → Q (.ref (s.heap.objs.size + 1)) { s1 with heap := h', toks := tk }) :
    wpAny (model prog w) A (call (.builtin "sorted") [.ref l] kw) Q E s := by
  refine sorted_of_sort hl hZ ha1 ha2 fun E' => ?_
  rw [ht]
  have hsz : (copyHeap s.heap vs).objs.size + 1 = s.heap.objs.size + 3 := by
    unfold copyHeap
    rw [size_push', Heap.size_update, size_push']
  rw [← hsz] at turn h
  refine tree (J := J) (kz := kz) (s := { s with heap := copyHeap s.heap vs }) (copyHeap_at s.heap vs) hlen hZ hal hsk (fun d hd => hu d hd) (j0 _ fun b o q => sorting_copy_old q) jl turn reads fun s1 ks hJ h' tk out c k1 k2 k3 => ⟨rfl, h s1 ks hJ h' tk out c k1 k2 k3⟩
end
end DL.KJ
namespace DL
open PySem L2 PySem.Spec PyProof.Rows
section
variable {X : L2.Cx}
theorem Inv.turned2 {pins : List (Addr × Obj)} {σ : L2.St} {H : Hp} {s : Shared} {h' : Heap} {t' : Nat} {it ju : Addr} (I : Inv X pins σ H s) (k : ∀ b o, b ≠ it → b ≠ ju → s.heap.get? b = some o → h'.get? b = some o) (f : FpOk X pins H it) (g : FpOk X pins H ju) :
    Inv X pins σ H { s with heap := h', toks := t' } := by
  obtain ⟨f1, f2, f3, f4, f5, f6⟩ := f
  obtain ⟨g1, g2, g3, g4, g5, g6⟩ := g
  have nit : ∀ b u, H b = some u → b ≠ it := fun b u e z => by rw [z, f1] at e; cases e
  have nju : ∀ b u, H b = some u → b ≠ ju := fun b u e z => by rw [z, g1] at e; cases e
  have hc2 : ∀ b : Addr, b ∉ [it, ju] → b ≠ it ∧ b ≠ ju := fun b hb => ⟨fun z => hb (by simp [z]), fun z => hb (by simp [z])⟩
  refine I.step (g' := s.gens) (d' := s.drawn) (ch := [it, ju]) (fun b hb => ?_) (fun b o _ _ hc e _ => k b o (hc2 b hc).1 (hc2 b hc).2 e) (fun b o _ _ hc e _ => ⟨o.slots, k b o (hc2 b hc).1 (hc2 b hc).2 e⟩) (fun _ _ _ _ n => n)
    (fun b o hc e => ⟨o, k b o (hc2 b hc).1 (hc2 b hc).2 e⟩) (fun _ _ e => e) (fun _ _ _ e => e) (fun b ps e => ⟨#[], by rw [e]; simp⟩) (fun m hm => ?_) (fun b u e => ?_) I.bare
  · rcases List.mem_cons.mp hb with rfl | hb
    · exact ⟨f4, f2, f5, f6⟩
    · obtain rfl := List.mem_singleton.mp hb
      exact ⟨g4, g2, g5, g6⟩
  · obtain ⟨o, es, ep, ho, r⟩ := hm
    exact ⟨o, es, ep, k _ o (Ne.symm f2) (Ne.symm g2) ho, r⟩
  · refine (I.hok b u e).stay (fun c v hc q => k c v ?_ ?_ q) (fun _ q => q) fun _ _ q => q
    · rcases hc with z | z
      · rw [z]; exact nit b u e
      · exact nit c _ z
    · rcases hc with z | z
      · rw [z]; exact nju b u e
      · exact nju c _ z
theorem FpOk.other {pins : List (Addr × Obj)} {H H' : Hp} {b : Addr} (f : FpOk X pins H b) (h : H' b = none) : FpOk X pins H' b := ⟨h, f.2⟩
def KeyRun (sp : Sp) : List V → List V → Hp → (List V → Hp → Prop) → Prop
  | [], us, H, Q => Q us H
  | x :: xs, us, H, Q => sp [x] H (fun u H' => KeyRun sp xs (us ++ [u]) H' Q) E0
def sortV (its : List V) (kz : List D) : List V := ((its.zip kz).mergeSort (PySem.W.dataLe false (·.2))).map (·.1)
theorem reads_each {h : Heap} : ∀ {ds : List D} {us : List Value} {as : List Addr}, ReadsAll h us ds as → PySem.W.EachIs (fun (u : Value) (d : D) => ∃ as, Reads h u d as) us ds
  | [], _, _, r => by cases r; exact .nil
  | d :: ds, _, _, .cons r t => .cons ⟨_, r⟩ (reads_each t)
theorem each_zip2 : ∀ {its : List V} {us : List Value} {kz : List D}, Vals its us → kz.length = its.length → PySem.W.EachIs (fun (u : Value) (z : V × D) => RelV z.1 u) us (its.zip kz)
  | [], _, _, .nil, _ => .nil
  | x :: xs, _, [], .cons r t, h => by simp at h
  | x :: xs, _, d :: ds, .cons r t, h => .cons r (each_zip2 t (by simpa using h))
def sortKD (key : D → D) (ds : List D) : List D := ds.mergeSort (PySem.W.dataLe false key)
theorem sortV_pairs {zs : List (V × D)} {key : D → D} : sortV (zs.map (·.1)) ((zs.map (·.2)).map key) = (zs.mergeSort (PySem.W.dataLe false fun z => key z.2)).map (·.1) := by
  unfold sortV
  have e : (zs.map (·.1)).zip ((zs.map (·.2)).map key) = zs.map fun z => (z.1, key z.2) := by
    induction zs with
    | nil => rfl
    | cons z zs ih => rw [List.map_cons, List.map_cons, List.map_cons, List.zip_cons_cons, ih]; rfl
  have m := List.map_mergeSort (r := PySem.W.dataLe false fun z : V × D => key z.2) (s := PySem.W.dataLe false fun z : V × D => z.2) (f := fun z : V × D => (z.1, key z.2)) (l := zs) fun _ _ _ _ => rfl
  rw [e, ← m, List.map_map]
  rfl
theorem sortKD_pairs {zs : List (V × D)} {key : D → D} : sortKD key (zs.map (·.2)) = (zs.mergeSort (PySem.W.dataLe false fun z => key z.2)).map (·.2) := by
  unfold sortKD
  exact (List.map_mergeSort (r := PySem.W.dataLe false fun z : V × D => key z.2) (s := PySem.W.dataLe false key) (f := fun z : V × D => z.2) (l := zs) fun _ _ _ _ => rfl).symm
end
end DL
namespace DL
open PySem L2 PySem.Spec PyProof.Rows
section
variable {P : Program} {w : World} {A : Around} {E : Value → Shared → Prop} {s : Shared}
end
section
variable {X : L2.Cx}
end
end DL
namespace DL
open PySem L2 PySem.Spec PyProof.Rows
section
variable {X : L2.Cx} {a : Expr} {wa : WE}
end
section
variable {X : L2.Cx} {e : Expr} {we : WE} {pos : Pos}
end
def TxOk (x : Str) : Prop := ∀ c ∈ x.cps.toList, c < 0x110000
theorem chr_lt (c : Char) : c.toNat < 0x110000 := by
  have h := c.valid
  show c.val.toNat < _
  rcases h with h | h
  · exact Nat.lt_trans h (by decide)
  · exact h.2
theorem TxOk.of (s : String) : TxOk (Str.ofString s) := fun c hc => by
  have hc : c ∈ (Str.ofString s).cps.toList := hc
  have e : (Str.ofString s).cps.toList = s.toList.map Char.toNat := by rw [Str.ofString_eq_toList]
  rw [e] at hc
  obtain ⟨a, _, rfl⟩ := List.mem_map.mp hc
  exact chr_lt a
theorem TxOk.app {x y : Str} (hx : TxOk x) (hy : TxOk y) : TxOk (x ++ y) := fun c hc => by
  have e : (x ++ y).cps = x.cps ++ y.cps := rfl
  rw [e, Array.toList_append] at hc
  rcases List.mem_append.mp hc with h | h
  · exact hx c h
  · exact hy c h
theorem TxOk.join {ts : List Str} (h : ∀ t ∈ ts, TxOk t) : TxOk (Str.join ", " ts) := fun c hc => by
  rcases (PyProof.Rows.mem_join ", " c ts).mp hc with ⟨t, ht, hm⟩ | ⟨_, hm⟩
  · exact h t ht c hm
  · exact TxOk.of ", " c hm
structure ShT (n : Nat) (d : D) : Prop where
  s : d.showable = true
  h : d.hasDict = false
  l : d.shown.length ≤ n
theorem ShT.mono {n m : Nat} {d : D} (h : ShT n d) (hm : n ≤ m) : ShT m d := ⟨h.s, h.h, Nat.le_trans h.l hm⟩
theorem ShT.none : ShT 4 .none := ⟨rfl, rfl, by show ((("None" : String) : Str)).length ≤ 4; decide⟩
theorem ShT.bool (b : Bool) : ShT 5 (.bool b) := ⟨rfl, rfl, by cases b <;> decide⟩
theorem ShT.int {k : Nat} {i : Int} (h : i.natAbs < 2 ^ k) (hk : 0 < k) (hk2 : k ≤ 1900) : ShT (k + 1) (.int i) := by
  have hl : i.natAbs.log2 < k := by
    rcases Nat.eq_zero_or_pos i.natAbs with z | z
    · rw [z]; simpa using hk
    · exact (Nat.log2_lt (by omega)).mpr h
  refine ⟨by simp only [PyData.showable]; exact decide_eq_true (by omega), rfl, ?_⟩
  simp only [PyData.shown]
  rw [PySem.ofString_length]
  exact int_text_length_le hk hl
theorem ShT.str {x : Str} (h : ∀ c ∈ x.cps.toList, c < 16 ^ 8) : ShT (10 * x.length + 2) (.str x) := ⟨rfl, rfl, by simp only [PyData.shown]; exact StrLaws.reprText_len x h⟩
theorem piled_le {n : Nat} : ∀ {ds : List D}, (∀ d ∈ ds, ShT n d) → piled (PyData.shownAll ds) ≤ ds.length * (n + 2)
  | [], _ => Nat.zero_le _
  | d :: ds, h => by
    rw [PyData.shownAll, piled_cons, List.length_cons, Nat.succ_mul]
    have := (h d (List.mem_cons_self ..)).l
    have := piled_le (ds := ds) fun x hx => h x (List.mem_cons_of_mem _ hx)
    omega
theorem showAll {n : Nat} : ∀ {ds : List D}, (∀ d ∈ ds, ShT n d) → PyData.showableAll ds = true ∧ PyData.hasDictAll ds = false
  | [], _ => ⟨rfl, rfl⟩
  | d :: ds, h => by
    have a := h d (List.mem_cons_self ..)
    have b := showAll (ds := ds) fun x hx => h x (List.mem_cons_of_mem _ hx)
    rw [PyData.showableAll, PyData.hasDictAll, a.s, a.h, b.1, b.2]
    exact ⟨rfl, rfl⟩
theorem listText_le (ts : List Str) : (listText ts).length ≤ piled ts + 2 := by
  cases ts with
  | nil => decide
  | cons t r =>
    have h := textFrom_length_pos r 1 (("[" : Str) ++ (if (0 : Nat) > 0 then ", " else "" : String) ++ t) (Nat.succ_pos 0)
    have e : ((("[" : Str) ++ (if (0 : Nat) > 0 then ", " else "" : String) ++ t)).length = 1 + t.length := by
      rw [strLen_append, strLen_append]; rfl
    have hX : (listText (t :: r)).length = (textFrom 0 "[" (t :: r)).length + 1 := by
      show (textFrom 0 "[" (t :: r) ++ "]").length = _
      rw [strLen_append]; rfl
    have hY : (textFrom 0 "[" (t :: r)).length = (textFrom 1 (("[" : Str) ++ (if (0 : Nat) > 0 then ", " else "" : String) ++ t) r).length := rfl
    rw [piled_cons]
    omega
theorem tupleText_le (ts : List Str) : (tupleText ts).length ≤ piled ts + 3 := by
  unfold tupleText
  rw [strLen_append, strLen_append]
  have e1 : ((("(" : String) : Str)).length = 1 := rfl
  have e3 : (((if ts.length == 1 then ",)" else ")" : String) : Str)).length ≤ 2 := by split <;> decide
  rw [e1]
  by_cases h : ts = []
  · subst h
    have : (Str.join ", " ([] : List Str)).length = 0 := rfl
    omega
  · have := join_length_add ts h
    omega
theorem ShT.list {n : Nat} {ds : List D} (h : ∀ d ∈ ds, ShT n d) : ShT (ds.length * (n + 2) + 2) (.list ds) := by
  have a := showAll h
  refine ⟨by simp only [PyData.showable]; exact a.1, by simp only [PyData.hasDict]; exact a.2, ?_⟩
  simp only [PyData.shown]
  have := listText_le (PyData.shownAll ds)
  have := piled_le h
  omega
theorem ShT.tuple {n : Nat} {ds : List D} (h : ∀ d ∈ ds, ShT n d) : ShT (ds.length * (n + 2) + 3) (.tuple ds) := by
  have a := showAll h
  refine ⟨by simp only [PyData.showable]; exact a.1, by simp only [PyData.hasDict]; exact a.2, ?_⟩
  simp only [PyData.shown]
  have := tupleText_le (PyData.shownAll ds)
  have := piled_le h
  omega
structure Shw (n p : Nat) (d : D) : Prop where
  t : ShT n d
  p : d.depth ≤ p
  o : okS true d = true
theorem Shw.mono {n m p q : Nat} {d : D} (h : Shw n p d) (hm : n ≤ m) (hp : p ≤ q) : Shw m q d := ⟨h.t.mono hm, Nat.le_trans h.p hp, h.o⟩
theorem Shw.none : Shw 4 0 .none := ⟨ShT.none, by simp [PyData.depth], rfl⟩
theorem Shw.bool (b : Bool) : Shw 5 0 (.bool b) := ⟨ShT.bool b, by simp [PyData.depth], rfl⟩
theorem Shw.int {k : Nat} {i : Int} (h : i.natAbs < 2 ^ k) (hk : 0 < k) (hk2 : k ≤ 1900) : Shw (k + 1) 0 (.int i) := ⟨ShT.int h hk hk2, by simp [PyData.depth], rfl⟩
theorem Shw.str {x : Str} (h : ∀ c ∈ x.cps.toList, c < 16 ^ 8) (ho : PyData.canLay0 (.str x) = true) : Shw (10 * x.length + 2) 0 (.str x) := ⟨ShT.str h, by simp [PyData.depth], ho⟩
theorem Shw.list {n p : Nat} {ds : List D} (h : ∀ d ∈ ds, Shw n p d) (hl : ds.length ≤ sizeLine) : Shw (ds.length * (n + 2) + 2) (p + 1) (.list ds) := by
  refine ⟨ShT.list fun d hd => (h d hd).t, ?_, ?_⟩
  · simp only [PyData.depth]
    have := depth_of (n := p) fun d hd => (h d hd).p
    omega
  · rw [okS, Bool.and_eq_true]
    exact ⟨okSs_of fun d hd => (h d hd).o, decide_eq_true hl⟩
theorem Shw.tuple {n p : Nat} {ds : List D} (h : ∀ d ∈ ds, Shw n p d) (hl : ds.length ≤ sizeLine) : Shw (ds.length * (n + 2) + 3) (p + 1) (.tuple ds) := by
  refine ⟨ShT.tuple fun d hd => (h d hd).t, ?_, ?_⟩
  · simp only [PyData.depth]
    have := depth_of (n := p) fun d hd => (h d hd).p
    omega
  · rw [okS, Bool.and_eq_true]
    exact ⟨okSs_of fun d hd => (h d hd).o, decide_eq_true hl⟩
theorem Shw.t1 {n p : Nat} {a : D} (ha : Shw n p a) : Shw (n + 5) (p + 1) (.tuple [a]) :=
  (Shw.tuple (ds := [a]) (fun d hd => by rw [List.mem_singleton.mp hd]; exact ha) (by show 1 ≤ sizeLine; decide)).mono (by show 1 * (n + 2) + 3 ≤ _; omega) (Nat.le_refl _)
theorem Shw.t2 {n p : Nat} {a b : D} (ha : Shw n p a) (hb : Shw n p b) : Shw (2 * n + 7) (p + 1) (.tuple [a, b]) :=
  (Shw.tuple (ds := [a, b]) (fun d hd => by rcases List.mem_cons.mp hd with rfl | hd; exact ha; rw [List.mem_singleton.mp hd]; exact hb) (by show 2 ≤ sizeLine; decide)).mono (by show 2 * (n + 2) + 3 ≤ _; omega) (Nat.le_refl _)
theorem Shw.lay {n p : Nat} {d : D} (h : Shw n p d) : d.canLay0 = true := okS_lay h.o
theorem Shw.all {n p : Nat} {ds : List D} {x : D} (h : Shw n p x) (e : seqD x = some ds) : ∀ d ∈ ds, Shw n p d := by
  have key : ∀ (ts : List Str) (t : Str), t ∈ ts → t.length + 2 ≤ piled ts := by
    intro ts
    induction ts with
    | nil => intro t ht; cases ht
    | cons a r ih =>
      intro t ht
      rw [piled_cons]
      rcases List.mem_cons.mp ht with rfl | ht
      · omega
      · have := ih t ht; omega
  have mem : ∀ (l : List D) (d : D), d ∈ l → d.shown ∈ PyData.shownAll l := by
    intro l
    induction l with
    | nil => intro d hd; cases hd
    | cons a r ih =>
      intro d hd
      rw [PyData.shownAll]
      rcases List.mem_cons.mp hd with rfl | hd
      · exact List.mem_cons_self ..
      · exact List.mem_cons_of_mem _ (ih d hd)
  have sh : ∀ (l : List D) (d : D), d ∈ l → PyData.showableAll l = true → d.showable = true := by
    intro l
    induction l with
    | nil => intro d hd; cases hd
    | cons a r ih =>
      intro d hd h
      rw [PyData.showableAll, Bool.and_eq_true] at h
      rcases List.mem_cons.mp hd with rfl | hd
      · exact h.1
      · exact ih d hd h.2
  have hd' : ∀ (l : List D) (d : D), d ∈ l → PyData.hasDictAll l = false → d.hasDict = false := by
    intro l
    induction l with
    | nil => intro d hd; cases hd
    | cons a r ih =>
      intro d hd h
      rw [PyData.hasDictAll, Bool.or_eq_false_iff] at h
      rcases List.mem_cons.mp hd with rfl | hd
      · exact h.1
      · exact ih d hd h.2
  have dp : ∀ (l : List D) (d : D), d ∈ l → d.depth ≤ PyData.depthAll l := by
    intro l d hd
    obtain ⟨i, hi⟩ := List.getElem?_of_mem hd
    exact depth_get hi
  have ok : ∀ (l : List D) (d : D), d ∈ l → okSs true l = true → okS true d = true := by
    intro l d hd h
    obtain ⟨i, hi⟩ := List.getElem?_of_mem hd
    exact okSs_get h hi
  intro d hd
  have hs := h.t.s
  have hh := h.t.h
  have hl := h.t.l
  have hp := h.p
  have ho := h.o
  cases x with
  | list l =>
    obtain rfl : l = ds := Option.some.inj e
    simp only [PyData.showable] at hs
    simp only [PyData.hasDict] at hh
    simp only [PyData.shown] at hl
    simp only [PyData.depth] at hp
    rw [okS, Bool.and_eq_true] at ho
    have h1 := key _ _ (mem l d hd)
    have h2 := piled_le_listText (PyData.shownAll l)
    have h3 := dp l d hd
    exact ⟨⟨sh l d hd hs, hd' l d hd hh, by omega⟩, by omega, ok l d hd ho.1⟩
  | tuple l =>
    obtain rfl : l = ds := Option.some.inj e
    simp only [PyData.showable] at hs
    simp only [PyData.hasDict] at hh
    simp only [PyData.shown] at hl
    simp only [PyData.depth] at hp
    rw [okS, Bool.and_eq_true] at ho
    have h1 := key _ _ (mem l d hd)
    have h2 := piled_le_tupleText (PyData.shownAll l)
    have h3 := dp l d hd
    exact ⟨⟨sh l d hd hs, hd' l d hd hh, by omega⟩, by omega, ok l d hd ho.1⟩
  | none => cases e
  | bool _ => cases e
  | int _ => cases e
  | str _ => cases e
  | dict _ => cases e
theorem Shw.len {n p : Nat} {ds : List D} {x : D} (h : Shw n p x) (e : seqD x = some ds) : 2 * ds.length ≤ n ∧ ds.length ≤ sizeLine := by
  have key : ∀ (l : List D), 2 * l.length ≤ piled (PyData.shownAll l) := by
    intro l
    induction l with
    | nil => exact Nat.zero_le _
    | cons a r ih => rw [PyData.shownAll, piled_cons, List.length_cons]; omega
  have hl := h.t.l
  have ho := h.o
  cases x with
  | list l =>
    obtain rfl : l = ds := Option.some.inj e
    simp only [PyData.shown] at hl
    rw [okS, Bool.and_eq_true] at ho
    have h2 := piled_le_listText (PyData.shownAll l)
    have h3 := key l
    exact ⟨by omega, of_decide_eq_true ho.2⟩
  | tuple l =>
    obtain rfl : l = ds := Option.some.inj e
    simp only [PyData.shown] at hl
    rw [okS, Bool.and_eq_true] at ho
    have h2 := piled_le_tupleText (PyData.shownAll l)
    have h3 := key l
    exact ⟨by omega, of_decide_eq_true ho.2⟩
  | none => cases e
  | bool _ => cases e
  | int _ => cases e
  | str _ => cases e
  | dict _ => cases e
section
variable {prog : Program} {w : World} {A : Around} {E : Value → Shared → Prop} {s : Shared} {b : Bool} {i : Int} {t : Tok} {Q : Value → Shared → Prop}
end
section
variable {X : L2.Cx} {a c : Expr} {wa wc : WE} {pos : Pos}
end
end DL
namespace DL
open PySem L2 PySem.Spec PyProof.Rows
def sq (x : En) : Str × En := (Str.empty, x)
section
variable {K : PySem.W.Frag} {b : Bd} {A : Addr → Prop} {own : List (List Addr)} {H : Hp} {σ : L2.St} {s : S} {Ks : S → En → Prop} {Q : VK} {p : Addr}
theorem rke_of : ∀ {vs : List V} {xs : List En}, ERL K A own H vs xs → RKE K A own H (vs.map fun v => (Str.empty, v)) (xs.map sq)
  | [], [], _ => trivial
  | _ :: _, _ :: _, ⟨h, t⟩ => ⟨rfl, h, rke_of t⟩
  | [], _ :: _, h => h.elim
  | _ :: _, [], h => h.elim
theorem RKE.len : ∀ {ws : List (Str × V)} {fs : List (Str × En)}, RKE K A own H ws fs → ws.length = fs.length
  | [], [], _ => rfl
  | _ :: _, _ :: _, ⟨_, _, t⟩ => congrArg (· + 1) (RKE.len t)
  | [], _ :: _, h => h.elim
  | _ :: _, [], h => h.elim
theorem RKE.get : ∀ {ws : List (Str × V)} {fs : List (Str × En)} {i : Nat} {f : Str × En}, RKE K A own H ws fs → fs[i]? = some f → ∃ w, ws[i]? = some w ∧ ER K A own H w.2 f.2
  | [], [], _, _, _, h => by cases h
  | w :: _, _ :: _, 0, _, ⟨_, h, _⟩, e => ⟨w, rfl, by cases e; exact h⟩
  | _ :: _, _ :: _, i + 1, _, ⟨_, _, t⟩, e => RKE.get (i := i) t e
  | [], _ :: _, _, _, h, _ => h.elim
  | _ :: _, [], _, _, h, _ => h.elim
theorem RKE.snoc : ∀ {ws : List (Str × V)} {fs : List (Str × En)} {v : V} {x : En}, RKE K A own H ws fs → ER K A own H v x → RKE K A own H (ws ++ [(Str.empty, v)]) (fs ++ [sq x])
  | [], [], _, _, _, h => ⟨rfl, h, trivial⟩
  | _ :: _, _ :: _, _, _, ⟨h1, h2, t⟩, h => ⟨h1, h2, RKE.snoc t h⟩
  | [], _ :: _, _, _, h, _ => h.elim
  | _ :: _, [], _, _, h, _ => h.elim
theorem snd_map (vs : List V) : (vs.map fun v => ((Str.empty, v) : Str × V)).map (·.2) = vs := by
  rw [List.map_map]
  exact List.map_id _
theorem new_sqT {vs : List V} {xs : List En} (R : Rel K b A own H σ s) (k : PostE K b A own H σ Ks Q) (E : ERL K A own H vs xs) (hp : H p = none) (h : Ks (s.aM (.ins .tup (xs.map sq))) (.mu s.ms.length)) : Q (.ref p) (upd H p (.tup vs)) := by
  obtain ⟨R1, U1, g⟩ := R.newMu (o := .tup vs) hp (.ins .tup (xs.map sq)) fun A' own' u => ⟨p, [], _, rfl, ⟨rfl, by rw [snd_map, upd_same]⟩, (rke_of E).up u⟩
  exact k _ _ _ _ _ (.mu s.ms.length) R1 U1 ⟨p, [], g, rfl⟩ h
theorem new_sqL {vs : List V} {xs : List En} (R : Rel K b A own H σ s) (k : PostE K b A own H σ Ks Q) (E : ERL K A own H vs xs) (hp : H p = none) (h : Ks (s.aM (.ins .lst (xs.map sq))) (.mu s.ms.length)) : Q (.ref p) (upd H p (.lst vs)) := by
  obtain ⟨R1, U1, g⟩ := R.newMu (o := .lst vs) hp (.ins .lst (xs.map sq)) fun A' own' u => ⟨p, [], _, rfl, ⟨rfl, by rw [snd_map, upd_same]⟩, (rke_of E).up u⟩
  exact k _ _ _ _ _ (.mu s.ms.length) R1 U1 ⟨p, [], g, rfl⟩ h
end
section
variable {X : L2.Cx} {a c e : Expr} {es : List Expr} {wa wc we : WE} {wr : WA} {pos : Pos}
def dTupS (wr : WA) : WE := fun s Ks => wr s fun s1 xs => Ks (s1.aM (.ins .tup (xs.map sq))) (.mu s1.ms.length)
def dLstS (wr : WA) : WE := fun s Ks => wr s fun s1 xs => Ks (s1.aM (.ins .lst (xs.map sq))) (.mu s1.ms.length)
theorem de_tupS {n : Nat} {x1} (h : DAn X es n wr) (hn : n ≤ 1000 := by decide) : DE X (.Tuple es x1 pos) (dTupS wr) := by
  obtain ⟨ta, pa, qa⟩ := h.ex
  refine ⟨_, pe_tup pa, fun b A own H σ s Ks Q R h k => ?_⟩
  refine qa _ _ _ _ _ _ _ _ R h fun A1 o1 H1 vs s1 xs R1 U1 E1 h1 => ?_
  obtain ⟨hl, h1⟩ := h1
  refine ⟨?_, fun p hp => new_sqT R1 (k.up U1) E1 hp h1⟩
  rw [E1.len, hl]
  exact Nat.le_trans hn (by decide)
theorem de_lstS {n : Nat} (h : DAn X es n wr) (hn : n ≤ 1000 := by decide) : DE X (.List es pos) (dLstS wr) := by
  obtain ⟨ta, pa, qa⟩ := h.ex
  refine ⟨_, pe_lst pa, fun b A own H σ s Ks Q R h k => ?_⟩
  refine qa _ _ _ _ _ _ _ _ R h fun A1 o1 H1 vs s1 xs R1 U1 E1 h1 => ?_
  obtain ⟨hl, h1⟩ := h1
  refine ⟨?_, fun p hp => new_sqL R1 (k.up U1) E1 hp h1⟩
  rw [E1.len, hl]
  exact Nat.le_trans hn (by decide)
def insAt (s : S) (x : En) (k : List (Str × En) → Prop) : Prop := match x with
  | .mu j => (match gm s.ms j with | .ins .lst fs => k fs | .ins .tup fs => k fs | _ => False)
  | _ => False
theorem insAt_inv {s : S} {x : En} {k : List (Str × En) → Prop} (h : insAt s x k) : ∃ j fs sh, x = .mu j ∧ gm s.ms j = .ins sh fs ∧ (sh = .lst ∨ sh = .tup) ∧ k fs := by
  unfold insAt at h
  split at h
  · rename_i j
    split at h
    · rename_i fs g; exact ⟨j, fs, .lst, rfl, g, .inl rfl, h⟩
    · rename_i fs g; exact ⟨j, fs, .tup, rfl, g, .inr rfl, h⟩
    · exact h.elim
  · exact h.elim
def rdIxS : S → En → En → (S → En → Prop) → Prop := fun s x y Ks => insAt s x fun fs => i1 y fun i => ∃ f, L2.atI fs i = some f ∧ Ks s f.2
theorem opd_ixS {K : PySem.W.Frag} : OpD K (rIx K) rdIxS := by
  intro b A own H σ s vx vy x y Ks Q R ex ey h k
  obtain ⟨j, fs, sh, rfl, g, hsh, h⟩ := insAt_inv h
  obtain ⟨i, rfl, f, hf, h⟩ := i1_inv h
  cases ey
  have m := R.mr j
  rw [g] at m
  obtain ⟨p, r, ws, e1, e2, e3⟩ := m
  obtain ⟨p', r', e4, rfl⟩ := ex
  rw [e1] at e4
  cases e4
  obtain ⟨w, hw, ew⟩ : ∃ w, L2.atI (ws.map (·.2)) i = some w ∧ ER K A own H w f.2 := by
    unfold L2.atI at hf ⊢
    rw [List.length_map, e3.len]
    cases q : ixN fs.length i with
    | none => rw [q] at hf; cases hf
    | some n =>
      rw [q] at hf
      obtain ⟨w, h1, h2⟩ := e3.get hf
      exact ⟨w.2, by show (ws.map (·.2))[n]? = _; rw [List.getElem?_map, h1]; rfl, h2⟩
  have fin : Q w H := k _ _ _ _ _ f.2 R Up.refl ew h
  rcases hsh with rfl | rfl
  · exact .inl ⟨p, _, i, w, rfl, rfl, .inl (.inl e2.2), hw, fin⟩
  · exact .inr (.inl ⟨p, _, i, w, rfl, rfl, .inl (.inl e2.2), hw, fin⟩)
def dIxS : WE → WE → WE := d2 rdIxS
theorem de_ixS (ha : DE X a wa) (hb : DE X c wc) (hs : PlainIx c := by exact fun _ _ => rfl) : DE X (.Subscript a c pos) (dIxS wa wc) := by
  obtain ⟨ta, pa, qa⟩ := ha.ex
  obtain ⟨tb, pb, qb⟩ := hb.ex
  exact ⟨_, pe_ix ix_seq pa pb hs, d2_run opd_ixS qa qb⟩
def isLstS (s : S) (x : En) (k : Nat → List (Str × En) → Prop) : Prop := match x with
  | .mu j => (match gm s.ms j with | .ins .lst fs => k j fs | _ => False)
  | _ => False
theorem isLstS_inv {s : S} {x : En} {k : Nat → List (Str × En) → Prop} (h : isLstS s x k) : ∃ j fs, x = .mu j ∧ gm s.ms j = .ins .lst fs ∧ k j fs := by
  unfold isLstS at h
  split at h
  · rename_i j
    split at h
    · rename_i fs g; exact ⟨j, fs, rfl, g, h⟩
    · exact h.elim
  · exact h.elim
def dAppS (wa wc : WE) : WE := fun s Ks => wa s fun s1 o => isLstS s1 o fun _ _ => wc s1 fun s2 x => isLstS s2 o fun j fs => fs.length < sizeLine ∧ Ks (s2.sM j (.ins .lst (fs ++ [sq x]))) (.da .none)
theorem ins_at {K : PySem.W.Frag} {b : Bd} {A : Addr → Prop} {own : List (List Addr)} {H : Hp} {σ : L2.St} {s : S} (R : Rel K b A own H σ s) {v : V} {j : Nat} {fs : List (Str × En)} (E : ER K A own H v (.mu j)) (g : gm s.ms j = .ins .lst fs) :
    ∃ p ws, v = .ref p ∧ H p = some (.lst (ws.map (·.2))) ∧ RKE K A own H ws fs ∧ ∀ (ws' : List (Str × V)) fs', RKE K A own H ws' fs' → Rel K b A own (upd H p (.lst (ws'.map (·.2)))) σ (s.sM j (.ins .lst fs')) ∧ Up A own H A own (upd H p (.lst (ws'.map (·.2)))) := by
  have m := R.mr j
  rw [g] at m
  obtain ⟨p, r, ws, e1, ⟨rfl, e2⟩, e3⟩ := m
  obtain ⟨p', r, e4, rfl⟩ := E
  rw [e1] at e4
  cases e4
  refine ⟨p, ws, rfl, e2, e3, fun vs' ds' r' => ?_⟩
  refine R.chg j (.ins .lst ds') (fun a o n h => ?_) (fun a h => ?_) (fun u => ?_) (gm_lt (by rw [g]; intro z; cases z))
  · rw [upd_ne]; exact h
    intro z; subst z; exact n (by rw [e1]; simp)
  · rw [e1] at h
    cases List.mem_singleton.mp h
    rw [upd_same]; intro z; cases z
  · rw [e1]; exact ⟨p, [], vs', rfl, ⟨rfl, upd_same⟩, r'.up u⟩
theorem de_appS {apos cpos : Pos} (ho : DE X a wa) (hi : DE X c wc)
    (hbase : attributeBase a "append" X.env (eval a X.env) = eval a X.env := by rfl)
    (hfew : ((backTo cpos (starEach (c :: []) X.env)).all (fun x => !x.1) && (backToKw cpos (keywordEach [] X.env)).all (fun x => x.1.isSome)
      && decide ((c :: []).length + ([] : List Keyword).length + (if ([] : List Keyword).isEmpty then 0 else 1) < 30)) = true := by rfl)
    (hline : (apos.endLine == cpos.line) = true := by rfl) (hs : starEach (c :: []) X.env = (false, eval c X.env) :: starEach [] X.env := by rfl) (hplain : (backTo cpos (starEach [] X.env)).any (·.1) = false := by rfl) :
    DE X (.Call (.Attribute a "append" apos) [c] [] cpos) (dAppS wa wc) := by
  obtain ⟨ta, pa, qa⟩ := ho.ex
  obtain ⟨tr, pr, qr⟩ := (da_cons hi da_nil hs).ex
  refine ⟨_, pe_bm PySem.F.plainAttrs_list PySem.F.slot_list_append PySem.F.type_list_append mt_append pa pr hbase hfew hline hs hplain, fun b A own H σ s Ks Q R h k => ?_⟩
  show ta σ H fun x H1 => tyV X.K "list" x H1 ∧ tr σ H1 fun xs H2 => rAppend x xs H2 Q
  refine qa _ _ _ _ _ _ _ _ R h fun A1 o1 H1 v1 s1 x1 R1 U1 E1 h1 => ?_
  obtain ⟨j, fs, rfl, g, h1⟩ := isLstS_inv h1
  obtain ⟨p, ws, rfl, e2, e3, _⟩ := ins_at R1 E1 g
  refine ⟨.inl ⟨rfl, _, .inl (.inl e2)⟩, ?_⟩
  have h1' : aCons wc aNil s1 (fun s2 xs => a1 xs fun x => isLstS s2 (.mu j) fun j fs => fs.length < sizeLine ∧ Ks (s2.sM j (.ins .lst (fs ++ [sq x]))) (.da .none)) := h1
  refine qr _ _ _ _ _ _ _ _ R1 h1' fun A2 o2 H2 vs s2 xs R2 U2 E2 h2 => ?_
  obtain ⟨v, x, rfl, E3, h2⟩ := a1_inv E2 h2
  obtain ⟨j', fs', ej, g', hl, h2⟩ := isLstS_inv h2
  cases ej
  obtain ⟨p', ws', ep, f2, f3, up⟩ := ins_at R2 (E1.up U2) g'
  cases ep
  obtain ⟨R3, U3⟩ := up _ _ (f3.snoc E3)
  rw [List.map_append] at R3 U3
  exact ⟨p, _, v, rfl, rfl, f2, by rw [List.length_map, f3.len]; exact hl, k.da R3 ((U1.trans U2).trans U3) .non h2⟩
end
end DL
namespace DL
open PySem L2 PySem.Spec PyProof.Rows
section
variable {X : Cx} {a b c e : Expr} {we : WE} {wt : WT} {wg : WG} {pos : Pos} {js : List Nat}
end
structure Adj (s s' : S) : Prop where
  ex : ∀ {K : PySem.W.Frag} {b : Bd} {A : Addr → Prop} {own : List (List Addr)} {H : Hp} {σ : L2.St}, Rel K b A own H σ s → ∃ (A' : Addr → Prop) (own' : List (List Addr)), Rel K b A' own' H σ s' ∧ Kp A H A' H
theorem Adj.refl {s : S} : Adj s s := ⟨fun R => ⟨_, _, R, Kp.refl⟩⟩
theorem Adj.trans {s t u : S} (h : Adj s t) (g : Adj t u) : Adj s u := ⟨fun R => by
  obtain ⟨_, _, R1, k1⟩ := h.ex R
  obtain ⟨_, _, R2, k2⟩ := g.ex R1
  exact ⟨_, _, R2, k1.trans k2⟩⟩
theorem Adj.frz {s : S} (k : Nat) {ds : List D} (g : gm s.ms k = .lst ds) (hk : s.np ≤ k) : Adj s (frzS k ds s) := ⟨fun R => by
  obtain ⟨R1, k1, _⟩ := R.frz g hk
  exact ⟨_, _, R1, k1⟩⟩
section
variable {X : Cx}
end
theorem Adj.cut {s : S} (m : Nat) (hm : s.np ≤ m) : Adj s (clS [] m s) := ⟨fun R => ⟨_, _, R.cl [] m hm, Kp.refl⟩⟩
structure AdjE (s : S) (x : En) (s' : S) (x' : En) : Prop where
  ex : ∀ {K : PySem.W.Frag} {b : Bd} {A : Addr → Prop} {own : List (List Addr)} {H : Hp} {σ : L2.St} {v : V}, Rel K b A own H σ s → ER K A own H v x → ∃ (A' : Addr → Prop) (own' : List (List Addr)), Rel K b A' own' H σ s' ∧ Kp A H A' H ∧ ER K A' own' H v x'
theorem AdjE.refl {s : S} {x : En} : AdjE s x s x := ⟨fun R E => ⟨_, _, R, Kp.refl, E⟩⟩
theorem AdjE.cut {s : S} {x : En} (m : Nat) (hm : s.np ≤ m) : AdjE s x (clS [] m s) (limE m x) := ⟨fun R E => ⟨_, _, R.cl [] m hm, Kp.refl, E.lim⟩⟩
theorem AdjE.da {s s' : S} {d : D} (h : Adj s s') : AdjE s (.da d) s' (.da d) := ⟨fun R E => by
  obtain ⟨A', o', R', k⟩ := h.ex R
  exact ⟨A', o', R', k, Rp.mono k E⟩⟩
theorem AdjE.trans {s t u : S} {x y z : En} (h : AdjE s x t y) (g : AdjE t y u z) : AdjE s x u z := ⟨fun R E => by
  obtain ⟨_, _, R1, k1, E1⟩ := h.ex R E
  obtain ⟨_, _, R2, k2, E2⟩ := g.ex R1 E1
  exact ⟨_, _, R2, k1.trans k2, E2⟩⟩
section
variable {X : Cx} {sts : List Stmt} {w : WS}
def rtD (D : Dn) : Dn where
  nx := fun s => ∃ s', Adj s s' ∧ D.nx s'
  rt := fun s x => ∃ s' x', AdjE s x s' x' ∧ D.rt s' x'
  bk := D.bk
  ct := D.ct
def sRta (w : WS) : WS := fun s D => w s (rtD D)
theorem dss_rta (h : DSs X sts w) : DSs X sts (sRta w) := by
  obtain ⟨t, p, q⟩ := h.ex
  refine ⟨t, p, fun b A own H σ s D E R h m => q _ _ _ _ _ _ _ _ R h ⟨fun A1 o1 H1 σ1 s1 R1 k1 h1 => ?_, fun A1 o1 H1 σ1 s1 v x R1 k1 e1 h1 => ?_, m.bk, m.ct⟩⟩
  · obtain ⟨s2, a, h2⟩ := h1
    obtain ⟨_, _, R2, k2⟩ := a.ex R1
    exact m.nx _ _ _ _ _ R2 (k1.trans k2) h2
  · obtain ⟨s2, x2, a, h2⟩ := h1
    obtain ⟨_, _, R2, k2, e2⟩ := a.ex R1 e1
    exact m.rt _ _ _ _ _ _ _ R2 (k1.trans k2) e2 h2
end
end DL
namespace DL
open PySem L2 PySem.Spec PyProof.Rows
section
variable {X : Cx} {e : Expr} {es : List Expr} {wr : WA}
end
end DL
namespace DL
open PySem L2 PySem.Spec PyProof.Rows
section
variable {X : Cx} {e : Expr} {es : List Expr} {wr : WA}
end
end DL
namespace DL
open PySem L2 PySem.Spec PyProof.Rows
def getT {α : Type} (fs : List (Str × α)) (f : Str) : Option α := (fs.find? fun q => decide (q.1 = f)).map (·.2)
theorem getT_lookup {α : Type} {f : Str} : ∀ fs : List (Str × α), fs.lookup f = getT fs f
  | [] => rfl
  | (g, x) :: r => by
    unfold getT
    rw [List.lookup_cons, List.find?_cons]
    by_cases h : g = f
    · subst h; simp
    · rw [show (f == g) = false from beq_eq_false_iff_ne.mpr (Ne.symm h), show decide ((g, x).1 = f) = false from decide_eq_false h]
      exact getT_lookup r
def putE {α : Type} (f : Str) (y : α) : List (Str × α) → List (Str × α)
  | [] => [(f, y)]
  | (g, z) :: r => if g = f then (g, y) :: r else (g, z) :: putE f y r
section
variable {K : PySem.W.Frag} {b : Bd} {A : Addr → Prop} {own : List (List Addr)} {H : Hp} {σ : L2.St} {s : S}
theorem RKE.look {f : Str} : ∀ {ws : List (Str × V)} {fs : List (Str × En)} {y : En}, RKE K A own H ws fs → fs.lookup f = some y → ∃ v, ws.lookup f = some v ∧ ER K A own H v y
  | [], [], _, _, e => by cases e
  | (g, w) :: ws, (g', x) :: fs, y, ⟨e0, h, t⟩, e => by
    obtain rfl : g = g' := e0
    rw [List.lookup_cons] at e ⊢
    cases q : f == g with
    | true => rw [q] at e; cases e; exact ⟨w, rfl, h⟩
    | false => rw [q] at e; exact RKE.look t e
  | [], _ :: _, _, h, _ => h.elim
  | _ :: _, [], _, h, _ => h.elim
theorem RKE.put {f : Str} {v : V} {y : En} (hv : ER K A own H v y) : ∀ {ws : List (Str × V)} {fs : List (Str × En)}, RKE K A own H ws fs → RKE K A own H (putF f v ws) (putE f y fs)
  | [], [], _ => ⟨rfl, hv, trivial⟩
  | (g, w) :: ws, (g', x) :: fs, ⟨e0, h, t⟩ => by
    obtain rfl : g = g' := e0
    unfold putF putE
    by_cases q : g = f
    · rw [if_pos q, if_pos q]; exact ⟨rfl, hv, t⟩
    · rw [if_neg q, if_neg q]; exact ⟨rfl, h, RKE.put hv t⟩
  | [], _ :: _, h => h.elim
  | _ :: _, [], h => h.elim
theorem obj_at (R : Rel K b A own H σ s) {v : V} {j : Nat} {c : Str} {fs : List (Str × En)} (E : ER K A own H v (.mu j)) (g : gm s.ms j = .ins (.obj c) fs) :
    ∃ p C dx ws, v = .ref p ∧ PySem.W.nsIn K mainGlobals c = some (some (.ref C)) ∧ H p = some (.ins C dx ws) ∧ RKE K A own H ws fs ∧
      ∀ (ws' : List (Str × V)) fs', RKE K A own H ws' fs' → Rel K b A own (upd H p (.ins C dx ws')) σ (s.sM j (.ins (.obj c) fs')) ∧ Up A own H A own (upd H p (.ins C dx ws')) := by
  have m := R.mr j
  rw [g] at m
  obtain ⟨p, r, ws, e1, ⟨C, dx, e0, rfl, e2, e2'⟩, e3⟩ := m
  obtain ⟨p', r, e4, rfl⟩ := E
  rw [e1] at e4
  cases e4
  have ne : dx ≠ p := fun z => by
    have := R.ld j
    rw [e1, z] at this
    simp at this
  refine ⟨p, C, dx, ws, rfl, e0, e2, e3, fun vs' ds' r' => ?_⟩
  refine R.chg j (.ins (.obj c) ds') (fun a o n h => ?_) (fun a h => ?_) (fun u => ?_) (gm_lt (by rw [g]; intro z; cases z))
  · rw [upd_ne]; exact h
    intro z; subst z; exact n (by rw [e1]; simp)
  · rw [e1] at h
    by_cases q : a = p
    · subst q; rw [upd_same]; intro z; cases z
    · rw [upd_ne q]
      rcases List.mem_cons.mp h with z | z
      · exact absurd z q
      · cases List.mem_singleton.mp z; rw [e2']; intro z; cases z
  · rw [e1]; exact ⟨p, [dx], vs', rfl, ⟨C, dx, e0, rfl, upd_same, by rw [upd_ne ne]; exact e2'⟩, r'.up u⟩
end
def FOk (K : PySem.W.Frag) (cs : List Str) (f : Str) : Prop := ∀ c ∈ cs, ∀ C, PySem.W.nsIn K mainGlobals c = some (some (.ref C)) → Cls K C ∧ NoAttr K C f
section
variable {X : L2.Cx} {a c e : Expr} {es : List Expr} {wa wc we : WE} {wr : WA} {pos : Pos}
def fldW (cs : List Str) (s : S) (x : En) (k : Nat → Str → List (Str × En) → Prop) : Prop := ∃ j c fs, x = .mu j ∧ gm s.ms j = .ins (.obj c) fs ∧ c ∈ cs ∧ k j c fs
def dFld (cs : List Str) (f : Str) (wa : WE) : WE := fun s Ks => wa s fun s1 x => fldW cs s1 x fun _ _ fs => ∃ y, getT fs f = some y ∧ Ks s1 y
theorem de_fld {cs : List Str} {f : Str} (F : FOk X.K cs f) (he : DE X e we) (hb : attributeBase e f X.env (eval e X.env) = eval e X.env := by rfl) : DE X (.Attribute e f pos) (dFld cs f we) := by
  obtain ⟨te, pe, qe⟩ := he.ex
  refine ⟨_, pe_fld pe hb, fun b A own H σ s Ks Q R h k => ?_⟩
  show te σ H fun x H1 => ∃ a C dx fs v, x = .ref a ∧ H1 a = some (.ins C dx fs) ∧ Cls X.K C ∧ NoAttr X.K C f ∧ fs.lookup f = some v ∧ Q v H1
  refine qe _ _ _ _ _ _ _ _ R h fun A1 o1 H1 v1 s1 x1 R1 U1 E1 h1 => ?_
  obtain ⟨j, c, fs, rfl, g, hc, y, hy, h1⟩ := h1
  obtain ⟨p, C, dx, ws, rfl, n, hp, r, _⟩ := obj_at R1 E1 g
  obtain ⟨v, hv, ev⟩ := r.look ((getT_lookup fs).trans hy)
  exact ⟨p, C, dx, ws, v, rfl, hp, (F c hc C n).1, (F c hc C n).2, hv, k _ _ _ _ _ y R1 U1 ev h1⟩
def sFldSet (cs : List Str) (f : Str) (wa wv : WE) : WS := fun s D => wv s fun s1 y => wa s1 fun s2 x => fldW cs s2 x fun j c fs => fs.length < 1000 ∧ D.nx (s2.sM j (.ins (.obj c) (putE f y fs)))
theorem ds_fld {cs : List Str} {f : Str} {pos' : Pos} (F : FOk X.K cs f) (ha : DE X a wa) (hv : DE X e we) (hs : swapsWith e (some (.Attribute a f pos')) pos.line X.env = pure false := by rfl) : DS X (.Assign [.Attribute a f pos'] e pos) (sFldSet cs f wa we) := by
  obtain ⟨ta, pa, qa⟩ := ha.ex
  obtain ⟨te, pe, qe⟩ := hv.ex
  refine ⟨_, ps_fld pa pe hs, fun b A own H σ s D E R h m => ?_⟩
  show te σ H fun y H1 => ta σ H1 fun x H2 => ∃ a C dx fs, x = .ref a ∧ H2 a = some (.ins C dx fs) ∧ Cls X.K C ∧ NoAttr X.K C f ∧ fs.length < 1000 ∧ E.nx σ (upd H2 a (.ins C dx (putF f y fs)))
  refine qe _ _ _ _ _ _ _ _ R h fun A1 o1 H1 v1 s1 x1 R1 U1 E1 h1 => ?_
  refine qa _ _ _ _ _ _ _ _ R1 h1 fun A2 o2 H2 v2 s2 x2 R2 U2 E2 h2 => ?_
  obtain ⟨j, c, fs, rfl, g, hc, hl, h2⟩ := h2
  obtain ⟨p, C, dx, ws, rfl, n, hp, r, up⟩ := obj_at R2 E2 g
  obtain ⟨R3, U3⟩ := up _ _ (r.put (f := f) (E1.up U2))
  exact ⟨p, C, dx, ws, rfl, hp, (F c hc C n).1, (F c hc C n).2, by rw [r.len]; exact hl, m.nx _ _ _ _ _ R3 ((U1.trans U2).trans U3).kp h2⟩
end
def CallT (sp : SpD) : S → List En → (S → En → Prop) → Prop := fun s xs Ks => sp xs s.ms fun ms' r => Ks ⟨s.es, ms', s.np⟩ r
theorem callT_run {K : PySem.W.Frag} {sp : SpD} {n : Nat} {b : Bd} {A : Addr → Prop} {own : List (List Addr)} {H : Hp} {σ : L2.St} {s : S} {vs : List V} {xs : List En} {Ks : S → En → Prop} {Q : VK} {E : XK}
    (hn : vs.length = n) (R : Rel K b A own H σ s) (e : ERL K A own H vs xs) (h : CallT sp s xs Ks) (k : PostE K b A own H σ Ks Q) : spOf K n sp vs H Q E := by
  refine ⟨A, own, xs, s.ms, _, hn, e, R.toOwn, h, fun A' own' H' v ms' x O ot ge li fr fo ex hk => ?_⟩
  have notOwn : ∀ a, ¬ A a → ∀ j, a ∉ go own j := fun a n j hj => n (R.oa j a hj)
  have u : Up A own H A' own' H' := ⟨fun a o n q => ⟨fr a o (notOwn a n) q, fun z => by
      rcases li a z with z | z
      · exact n z
      · rw [z] at q; cases q⟩, fun k a r q => by
      rw [← ot, go_take] at q
      split at q
      · exact q
      · cases q⟩
  refine k A' own' H' v ⟨s.es, ms', s.np⟩ x ⟨O, R.len, fun i => (R.sl i).imp id fun ⟨v, q, r⟩ => ⟨v, q, r.up u⟩, fun a q => ge a (R.ge a q), fun a o n q => ?_, fun i a h1 => ?_, ?_, ?_, fun a q => ?_, R.a0⟩ u ex hk
  · refine fr a o (fun i hi => ?_) (R.fr a o n q)
    rcases R.fo _ a hi with ⟨j, z⟩ | z
    · exact n j z
    · rw [z] at q; cases q
  · rcases fo i a h1 with ⟨j, z⟩ | z
    · exact R.fo j a z
    · exact .inr (R.fresh0 z)
  · have := R.pre
    rw [← ot, List.take_take, Nat.min_eq_left R.npl] at this
    exact this
  · have := congrArg List.length ot
    rw [List.length_take] at this
    have := R.npl
    show s.np ≤ _
    omega
  · rcases li a q with z | z
    · exact R.lim a z
    · exact .inr (R.fresh0 z)
section
variable {X : L2.Cx} {k : Nat} {f C : Addr} {fd : FuncData} {ps : List Str} {sp : L2.Sp} {CX : CXT} {E : XK} {x m : Str} {p pos apos : Pos} {e o : Expr} {es : List Expr} {t : TA} {ta : TE}
theorem run_fnG {pins : List (Addr × Obj)} {σ : L2.St} {H : Hp} {s : Shared} {Q : VK} {us : List Value} {vs : List V} (F : FnOkG X.prog X.w X.K X.mg X.base CX k f fd ps sp) (hr : RoomG k X.A) (hb : Binds X.K fd ps []) (hx : Passes CX X E)
    (I : Inv X pins σ H s) (r : Vals vs us) (h : sp vs H Q E) : wpAny (model X.prog X.w) X.A (PySem.call (.ref f) us) (EP X pins σ Q) X.xe s := by
  have hl : us.length = ps.length := by rw [← r.length]; exact F.len _ _ _ _ h
  have hb' := hb s us I.kIn (by rw [List.append_nil]; exact hl)
  rw [List.append_nil] at hb'
  refine wpAny_call (codeAny_mono (F.run X.A X.stack s H ⟨us, []⟩ us vs Q E hr.r hr.g I.env0 hb' r h) fun r s' hq => ?_)
  cases r with
  | error e => exact hx pins σ H s e s' I hq
  | ok fl =>
    cases fl with
    | ret u => exact I.after hq
    | next => exact False.elim hq
    | brk => exact False.elim hq
    | cont => exact False.elim hq
theorem pe_methT {pl : Sem Bool} (he : PE X o ta) (c : Cls X.K C) (hm : Meth X.K C m f) (F : FnOkG X.prog X.w X.K X.mg X.base CX k f fd ps sp) (hr : RoomG k X.A) (hb : Binds X.K fd ps []) (hx : Passes CX X E) (ha : PA X (e :: es) t)
    (hst : starEach (e :: es) X.env = (false, eval e X.env) :: starEach es X.env := by rfl) (hpl : (backTo pos (starEach es X.env)).any (·.1) = false := by rfl)
    (ht : eval (.Call (.Attribute o m apos) (e :: es) [] pos) X.env = (do
      let ov ← eval o X.env
      standAt apos.atName
      let (f, first) ← holding [ov] (getMethod ov m pl)
      callWith pos f first (backTo pos (starEach (e :: es) X.env)) (backToKw pos (keywordEach [] X.env))) := by rfl) :
    PE X (.Call (.Attribute o m apos) (e :: es) [] pos) (tMeth C m sp [] E ta t) := by
  refine ⟨fun pins s σ H Q I h => ?_⟩
  refine PySem.W.methodCall_KW (pl := pl) (thn (he.run pins s σ H _ I h) fun u s1 ⟨x, H1, I1, rx, a, dx, fs, ex, ea, l, q⟩ => ?_) ht
  subst ex
  obtain rfl : u = Value.ref a := rx
  refine getmeth_ok I1 ea c hm l ?_
  refine PySem.W.callWith_K (first := [.ref a]) (h₀ := X.base) I.ok.mod.kin hm.kp (thn (ha.run pos pins s1 σ H1 _ I1 q) fun us s2 ⟨vs, H2, I2, r, q2⟩ => ⟨I2.kIn, ?_⟩) hst hpl
  have q2 : sp (V.ref a :: (vs ++ [])) H2 Q E := q2
  rw [List.append_nil] at q2
  exact run_fnG (us := .ref a :: us) (vs := .ref a :: vs) F hr hb hx I2 (.cons rfl r) q2
theorem pe_methT0 {pl : Sem Bool} (he : PE X o ta) (c : Cls X.K C) (hm : Meth X.K C m f) (F : FnOkG X.prog X.w X.K X.mg X.base CX k f fd ps sp) (hr : RoomG k X.A) (hb : Binds X.K fd ps []) (hx : Passes CX X E)
    (ht : eval (.Call (.Attribute o m apos) [] [] pos) X.env = (do
      let ov ← eval o X.env
      standAt apos.atName
      let (f, first) ← holding [ov] (getMethod ov m pl)
      callWith pos f first (backTo pos (starEach [] X.env)) (backToKw pos (keywordEach [] X.env))) := by rfl) :
    PE X (.Call (.Attribute o m apos) [] [] pos) (tMeth C m sp [] E ta tNil) := by
  refine ⟨fun pins s σ H Q I h => ?_⟩
  refine PySem.W.methodCall_KW (pl := pl) (thn (he.run pins s σ H _ I h) fun u s1 ⟨x, H1, I1, rx, a, dx, fs, ex, ea, l, q⟩ => ?_) ht
  subst ex
  obtain rfl : u = Value.ref a := rx
  refine getmeth_ok I1 ea c hm l ?_
  exact PySem.W.callWith_K0 (first := [.ref a]) I1.kIn hm.kp (run_fnG (us := [.ref a]) (vs := [.ref a]) F hr hb hx I1 (.cons rfl .nil) q)
theorem RoomG.make {A : Around} (r : RoomG (k + 1) A) (C : Addr) (us : List Value) (kw : List (Str × Value)) : RoomG k (A.under (.builtin "type.__call__" ⟨.ref C :: us, kw⟩)) :=
  ⟨r.r.make C us kw, by
    have := r.g
    rw [← this]
    rfl⟩
theorem run_makeT {pins : List (Addr × Obj)} {σ : L2.St} {H : Hp} {s : Shared} {Q : VK} {us : List Value} {vs : List V} (M : Mk X.K C f) (F : FnOkG X.prog X.w X.K X.mg X.base CX k f fd ps sp) (hr : RoomG (k + 1) X.A) (hb : Binds X.K fd ps [])
    (hx : Passes CX X E) (I : Inv X pins σ H s) (r : Vals vs us)
    (h : ∀ x dx, H x = none → H dx = none → dx ≠ x → sp (.ref x :: vs) (upd (upd H dx (.own x)) x (.ins C dx [])) (fun v H2 => v = .non ∧ Q (.ref x) H2) E) :
    wpAny (model X.prog X.w) X.A (PySem.call (.ref C) us) (EP X pins σ Q) X.xe s := by
  have hq := h (s.heap.objs.size + 1) s.heap.objs.size (I.hok.fresh (Nat.le_succ _)) (I.hok.fresh (Nat.le_refl _)) (Nat.ne_of_lt (Nat.lt_succ_self _))
  have I2 := Inv.made (C := C) I
  have r2 : Vals (V.ref (s.heap.objs.size + 1) :: vs) (Value.ref (s.heap.objs.size + 1) :: us) := .cons rfl r
  have hl : (Value.ref (s.heap.objs.size + 1) :: us).length = ps.length := by
    have e := r2.length
    rw [F.len _ _ _ _ hq] at e
    exact e.symm
  have hb' := hb _ (Value.ref (s.heap.objs.size + 1) :: us) I2.kIn (by rw [List.append_nil]; exact hl)
  rw [List.append_nil] at hb'
  refine wpAny_call (make_map (f := f) I.kIn M.makes M.init (beq_iff_eq.mp M.fn) (codeAny_mono (F.run _ X.stack _ _ ⟨Value.ref (s.heap.objs.size + 1) :: us, []⟩ (Value.ref (s.heap.objs.size + 1) :: us) _ _ E (hr.make C us []).r (hr.make C us []).g
    (I2.env0.make C us []) hb' r2 hq) fun r s' hq' => ?_))
  cases r with
  | error e => exact hx pins σ _ _ e s' I2 hq'
  | ok fl =>
    cases fl with
    | ret u =>
      obtain ⟨v, H', I3, rv, ev, q3⟩ := I2.after hq'
      subst ev
      exact ⟨rv, ⟨V.ref (s.heap.objs.size + 1), H', I3, rfl, q3⟩⟩
    | next => exact False.elim hq'
    | brk => exact False.elim hq'
    | cont => exact False.elim hq'
theorem pe_makeT (M : Mk X.K C f) (F : FnOkG X.prog X.w X.K X.mg X.base CX k f fd ps sp) (hr : RoomG (k + 1) X.A) (hg : Gl X x) (hm : X.mg x = some (.ref C)) (hb : Binds X.K fd ps []) (hx : Passes CX X E)
    (ha : PA X (e :: es) t) (hdb : (x == ("__debug__" : Str)) = false := by decide) (he : starEach (e :: es) X.env = (false, eval e X.env) :: starEach es X.env := by rfl) (hpl : (backTo pos (starEach es X.env)).any (·.1) = false := by rfl) :
    PE X (.Call (.Name x p) (e :: es) [] pos) (tMake C sp [] E t) := by
  refine ⟨fun pins s σ H Q I h => ?_⟩
  refine wpAny_Call_Name_kw (ld_glob I hg hm ?_ hdb)
  refine PySem.W.callWith_K (h₀ := X.base) I.ok.mod.kin M.kp (thn (ha.run pos pins s σ H _ I h) fun us s1 ⟨vs, H1, I1, r, q⟩ => ⟨I1.kIn, ?_⟩) he hpl
  exact run_makeT M F hr hb hx I1 r fun x dx h1 h2 h3 => by have := q x dx h1 h2 h3; rw [List.append_nil] at this; exact this
end
structure AtM (K : PySem.W.Frag) (c m q : Str) (st : Stmt) (ps : List Str) (C f : Addr) (fd : FuncData) : Prop where
  n : PySem.W.nsIn K mainGlobals c = some (some (.ref C))
  cl : Cls K C
  me : Meth K C m f
  F : Fun K m q st f fd
  b : Binds K fd ps []
structure OkM (P : Program) (w : World) (K : PySem.W.Frag) (mg : Str → Option Value) (base : Heap) (k : Nat) (c m q : Str) (st : Stmt) (ps : List Str) (n : Nat) (sp : SpD) : Prop where
  ex : ∃ C f fd, AtM K c m q st ps C f fd ∧ FnOkG P w K mg base CX0 k f fd ps (spOf K n sp)
structure AtI (K : PySem.W.Frag) (mg : Str → Option Value) (c q : Str) (st : Stmt) (ps : List Str) (C f : Addr) (fd : FuncData) : Prop where
  n : PySem.W.nsIn K mainGlobals c = some (some (.ref C))
  g : mg c = some (.ref C)
  mke : Mk K C f
  F : Fun K "__init__" q st f fd
  b : Binds K fd ps []
structure OkI (P : Program) (w : World) (K : PySem.W.Frag) (mg : Str → Option Value) (base : Heap) (k : Nat) (c q : Str) (st : Stmt) (ps : List Str) (n : Nat) (sp : SpD) : Prop where
  ex : ∃ C f fd, AtI K mg c q st ps C f fd ∧ FnOkG P w K mg base CX0 k f fd ps (spOf K n sp)
section
variable {X : L2.Cx} {a e o : Expr} {es : List Expr} {wa we : WE} {wr : WA}
theorem de_callT {k : Nat} {st : Stmt} {ps : List Str} {sp : SpD} {x : Str} {p pos : Pos} {n : Nat} (O : Ok X.prog X.w X.K X.mg X.base k x st ps n sp) (hr : RoomG k X.A) (hg : Gl X x)
    (ha : DAn X (e :: es) n wr) (hdb : (x == ("__debug__" : Str)) = false := by decide) (he : starEach (e :: es) X.env = (false, eval e X.env) :: starEach es X.env := by rfl) (hpl : (backTo pos (starEach es X.env)).any (·.1) = false := by rfl) :
    DE X (.Call (.Name x p) (e :: es) [] pos) (dCall (CallT sp) wr) := by
  obtain ⟨f, fd, a, F⟩ := O.ex
  obtain ⟨ta, pa, qa⟩ := ha.ex
  refine ⟨_, pe_callG F hr.r hr.g hg a.g a.kp a.b .nil (pass0 (X := X)) pa hdb he hpl, fun b A own H σ s Ks Q R h kk => ?_⟩
  show ta σ H fun vs H1 => spOf X.K n sp (vs ++ []) H1 Q E0
  refine qa _ _ _ _ _ _ _ _ R h fun A1 o1 H1 vs s1 xs R1 U1 E1 h1 => ?_
  rw [List.append_nil]
  exact callT_run (E1.len.trans h1.1) R1 E1 h1.2 (kk.up U1)
def dMeth (c m : Str) (sp : SpD) (wo : WE) (wr : WA) : WE := fun s Ks => wo s fun s1 x => fldW [c] s1 x fun _ _ fs => getT fs m = none ∧ wr s1 fun s2 xs => CallT sp s2 (x :: xs) Ks
theorem RKE.lookN {K : PySem.W.Frag} {A : Addr → Prop} {own : List (List Addr)} {H : Hp} {f : Str} : ∀ {ws : List (Str × V)} {fs : List (Str × En)}, RKE K A own H ws fs → fs.lookup f = none → ws.lookup f = none
  | [], [], _, _ => rfl
  | (g, w) :: ws, (g', x) :: fs, ⟨e0, h, t⟩, e => by
    obtain rfl : g = g' := e0
    rw [List.lookup_cons] at e ⊢
    cases q : f == g with
    | true => rw [q] at e; cases e
    | false => rw [q] at e; exact RKE.lookN t e
  | [], _ :: _, h, _ => h.elim
  | _ :: _, [], h, _ => h.elim
theorem de_meth {k : Nat} {st : Stmt} {ps : List Str} {sp : SpD} {c m q : Str} {apos pos : Pos} {n : Nat} (O : OkM X.prog X.w X.K X.mg X.base k c m q st ps (n + 1) sp) (hr : RoomG k X.A) {pl : Sem Bool} (ho : DE X o we)
    (ha : DAn X (e :: es) n wr) (hst : starEach (e :: es) X.env = (false, eval e X.env) :: starEach es X.env := by rfl) (hpl : (backTo pos (starEach es X.env)).any (·.1) = false := by rfl)
    (ht : eval (.Call (.Attribute o m apos) (e :: es) [] pos) X.env = (do
      let ov ← eval o X.env
      standAt apos.atName
      let (f, first) ← holding [ov] (getMethod ov m pl)
      callWith pos f first (backTo pos (starEach (e :: es) X.env)) (backToKw pos (keywordEach [] X.env))) := by rfl) :
    DE X (.Call (.Attribute o m apos) (e :: es) [] pos) (dMeth c m sp we wr) := by
  obtain ⟨C, f, fd, a, F⟩ := O.ex
  obtain ⟨to, po, qo⟩ := ho.ex
  obtain ⟨ta, pa, qa⟩ := ha.ex
  refine ⟨_, pe_methT po a.cl a.me F hr a.b (pass0 (X := X)) pa hst hpl ht, fun b A own H σ s Ks Q R h kk => ?_⟩
  show to σ H fun x H1 => ∃ a dx fs, x = .ref a ∧ H1 a = some (.ins C dx fs) ∧ fs.lookup m = none ∧ ta σ H1 fun vs H2 => spOf X.K (n + 1) sp (x :: (vs ++ [])) H2 Q E0
  refine qo _ _ _ _ _ _ _ _ R h fun A1 o1 H1 v1 s1 x1 R1 U1 E1 h1 => ?_
  obtain ⟨j, c', fs, rfl, g, hc, hl, h1⟩ := h1
  cases List.mem_singleton.mp hc
  obtain ⟨p, C', dx, ws, rfl, n', hp, r, _⟩ := obj_at R1 E1 g
  rw [a.n] at n'
  cases n'
  refine ⟨p, dx, ws, rfl, hp, r.lookN ((getT_lookup fs).trans hl), ?_⟩
  refine qa _ _ _ _ _ _ _ _ R1 h1 fun A2 o2 H2 vs s2 xs R2 U2 E2 h2 => ?_
  rw [List.append_nil]
  exact callT_run (xs := .mu j :: xs) (congrArg (· + 1) (E2.len.trans h2.1)) R2 ⟨E1.up U2, E2⟩ h2.2 (kk.up (U1.trans U2))
theorem de_meth0 {k : Nat} {st : Stmt} {ps : List Str} {sp : SpD} {c m q : Str} {apos pos : Pos} (O : OkM X.prog X.w X.K X.mg X.base k c m q st ps 1 sp) (hr : RoomG k X.A) {pl : Sem Bool} (ho : DE X o we)
    (ht : eval (.Call (.Attribute o m apos) [] [] pos) X.env = (do
      let ov ← eval o X.env
      standAt apos.atName
      let (f, first) ← holding [ov] (getMethod ov m pl)
      callWith pos f first (backTo pos (starEach [] X.env)) (backToKw pos (keywordEach [] X.env))) := by rfl) :
    DE X (.Call (.Attribute o m apos) [] [] pos) (dMeth c m sp we aNil) := by
  obtain ⟨C, f, fd, a, F⟩ := O.ex
  obtain ⟨to, po, qo⟩ := ho.ex
  refine ⟨_, pe_methT0 po a.cl a.me F hr a.b (pass0 (X := X)) ht, fun b A own H σ s Ks Q R h kk => ?_⟩
  show to σ H fun x H1 => ∃ a dx fs, x = .ref a ∧ H1 a = some (.ins C dx fs) ∧ fs.lookup m = none ∧ spOf X.K 1 sp (x :: ([] ++ [])) H1 Q E0
  refine qo _ _ _ _ _ _ _ _ R h fun A1 o1 H1 v1 s1 x1 R1 U1 E1 h1 => ?_
  obtain ⟨j, c', fs, rfl, g, hc, hl, h1⟩ := h1
  cases List.mem_singleton.mp hc
  obtain ⟨p, C', dx, ws, rfl, n', hp, r, _⟩ := obj_at R1 E1 g
  rw [a.n] at n'
  cases n'
  exact ⟨p, dx, ws, rfl, hp, r.lookN ((getT_lookup fs).trans hl), callT_run (xs := [.mu j]) rfl R1 ⟨E1, trivial⟩ h1 (kk.up U1)⟩
end
theorem Rel.newMuL {K : PySem.W.Frag} {b : Bd} {A : Addr → Prop} {own : List (List Addr)} {H H' : Hp} {σ : L2.St} {s : S} (r : Rel K b A own H σ s) (l : List Addr) (hp : ∀ p ∈ l, H p = none) (hnd : l.Nodup) (hx : ∀ a u, H a = some u → H' a = some u) (hn : ∀ p ∈ l, H' p ≠ none) (m : MO)
    (hm : ∀ (A' : Addr → Prop) (own' : List (List Addr)), Up A own H A' own' H' → MR K A' own' H' l m) :
    Rel K b (fun a => A a ∨ a ∈ l) (own ++ [l]) H' σ { s with ms := s.ms ++ [m] } ∧ Up A own H (fun a => A a ∨ a ∈ l) (own ++ [l]) H' ∧ go (own ++ [l]) s.ms.length = l := by
  have gl : ∀ k, go (own ++ [l]) k = if k < own.length then go own k else if k = own.length then l else [] := fun k => by
    rw [go_app]
    by_cases h : k < own.length
    · rw [if_pos h, if_pos h]
    · rw [if_neg h, if_neg h]
      by_cases h2 : k = own.length
      · subst h2; rw [Nat.sub_self, if_pos rfl]; rfl
      · rw [if_neg h2]; exact go_ge _ _ (by simp; omega)
  have gml : ∀ k, gm (s.ms ++ [m]) k = if k < own.length then gm s.ms k else if k = own.length then m else .gone := fun k => by
    rw [gm_app, ← r.ol]
    by_cases h : k < own.length
    · rw [if_pos h, if_pos h]
    · rw [if_neg h, if_neg h]
      by_cases h2 : k = own.length
      · subst h2; rw [Nat.sub_self, if_pos rfl]; rfl
      · rw [if_neg h2]; exact gm_ge _ _ (by simp; omega)
  have u : Up A own H (fun a => A a ∨ a ∈ l) (own ++ [l]) H' := ⟨fun a o n h => ⟨hx _ _ h, fun z => by
      rcases z with z | z
      · exact n z
      · rw [hp a z] at h; cases h⟩, fun k a q h => by
      rw [gl]
      by_cases h1 : k < own.length
      · rw [if_pos h1]; exact h
      · rw [go_ge _ _ (by omega)] at h; cases h⟩
  have np : ∀ k p, p ∈ l → p ∉ go own k := fun k p hl h => r.al p (r.oa k p h) (hp p hl)
  refine ⟨⟨⟨by simp [r.ol], fun k => ?_, fun k j a h1 h2 => ?_, fun k => ?_, fun k a h => ?_, fun a h => ?_⟩, r.len, fun i => (r.sl i).imp id fun ⟨v, e, h⟩ => ⟨v, e, h.up u⟩, fun a h => .inl (r.ge a h), fun a o n h => hx _ _ (r.fr a o n h), fun k a h => ?_, ?_, ?_, fun a h => ?_, r.a0⟩, u, ?_⟩
  · rw [gl, gml]
    by_cases h1 : k < own.length
    · rw [if_pos h1, if_pos h1]; exact (r.mr k).up u fun a o _ h => hx a o h
    · rw [if_neg h1, if_neg h1]
      by_cases h2 : k = own.length
      · rw [if_pos h2, if_pos h2]; exact hm _ _ u
      · rw [if_neg h2, if_neg h2]; trivial
  · rw [gl] at h1 h2
    by_cases k1 : k < own.length
    · rw [if_pos k1] at h1
      by_cases j1 : j < own.length
      · rw [if_pos j1] at h2; exact r.dj k j a h1 h2
      · rw [if_neg j1] at h2
        by_cases j2 : j = own.length
        · rw [if_pos j2] at h2; exact (np _ _ h2 h1).elim
        · rw [if_neg j2] at h2; cases h2
    · rw [if_neg k1] at h1
      by_cases k2 : k = own.length
      · rw [if_pos k2] at h1
        by_cases j1 : j < own.length
        · rw [if_pos j1] at h2; exact (np _ _ h1 h2).elim
        · rw [if_neg j1] at h2
          by_cases j2 : j = own.length
          · omega
          · rw [if_neg j2] at h2; cases h2
      · rw [if_neg k2] at h1; cases h1
  · rw [gl]
    split
    · exact r.ld k
    · split
      · exact hnd
      · exact List.nodup_nil
  · rw [gl] at h
    split at h
    · exact .inl (r.oa k a h)
    · split at h
      · exact .inr h
      · cases h
  · rcases h with h | h
    · intro z
      cases q : H a with
      | none => exact r.al a h q
      | some o => rw [hx a o q] at z; cases z
    · exact hn a h
  · rw [gl] at h
    split at h
    · exact r.fo k a h
    · split at h
      · exact .inr (r.fresh0 (hp a h))
      · cases h
  · rw [List.take_append_of_le_length r.npl]; exact r.pre
  · rw [List.length_append]; have := r.npl; show s.np ≤ _; omega
  · rcases h with h | h
    · exact r.lim a h
    · exact .inr (r.fresh0 (hp a h))
  · rw [gl, ← r.ol, if_neg (Nat.lt_irrefl _), if_pos rfl]
section
variable {X : L2.Cx} {a e o : Expr} {es : List Expr} {wa we : WE} {wr : WA}
def dMake (c : Str) (sp : SpD) (wr : WA) : WE := fun s Ks => wr s fun s1 xs => sp (.mu s1.ms.length :: xs) (s1.ms ++ [.ins (.obj c) []]) fun ms' r => r = .da .none ∧ Ks ⟨s1.es, ms', s1.np⟩ (.mu s1.ms.length)
theorem de_make {k : Nat} {st : Stmt} {ps : List Str} {sp : SpD} {c q : Str} {p pos : Pos} {n : Nat} (O : OkI X.prog X.w X.K X.mg X.base k c q st ps (n + 1) sp) (hr : RoomG (k + 1) X.A) (hg : Gl X c)
    (ha : DAn X (e :: es) n wr) (hdb : (c == ("__debug__" : Str)) = false := by decide) (he : starEach (e :: es) X.env = (false, eval e X.env) :: starEach es X.env := by rfl) (hpl : (backTo pos (starEach es X.env)).any (·.1) = false := by rfl) :
    DE X (.Call (.Name c p) (e :: es) [] pos) (dMake c sp wr) := by
  obtain ⟨C, f, fd, a, F⟩ := O.ex
  obtain ⟨ta, pa, qa⟩ := ha.ex
  refine ⟨_, pe_makeT a.mke F hr hg a.g a.b (pass0 (X := X)) pa hdb he hpl, fun b A own H σ s Ks Q R h kk => ?_⟩
  show ta σ H fun vs H1 => ∀ x dx, H1 x = none → H1 dx = none → dx ≠ x → spOf X.K (n + 1) sp (.ref x :: (vs ++ [])) (upd (upd H1 dx (.own x)) x (.ins C dx [])) (fun v H2 => v = .non ∧ Q (.ref x) H2) E0
  refine qa _ _ _ _ _ _ _ _ R h fun A1 o1 H1 vs s1 xs R1 U1 E1 h1 => ?_
  intro x dx hx hdx ne
  rw [List.append_nil]
  obtain ⟨R2, U2, g2⟩ := R1.newMuL (H' := upd (upd H1 dx (.own x)) x (.ins C dx [])) [x, dx] (fun p hp => by
    rcases List.mem_cons.mp hp with rfl | hp
    · exact hx
    · cases List.mem_singleton.mp hp; exact hdx) (List.nodup_cons.mpr ⟨fun z => ne (List.mem_singleton.mp z).symm, by simp⟩) (fun a u h => by
    rw [upd_ne (ne_of_none h hx), upd_ne (ne_of_none h hdx)]; exact h) (fun p hp => by
    rcases List.mem_cons.mp hp with rfl | hp
    · rw [upd_same]; intro z; cases z
    · cases List.mem_singleton.mp hp; rw [upd_ne ne, upd_same]; intro z; cases z) (.ins (.obj c) []) (fun A' own' u => ⟨x, [dx], [], rfl, ⟨C, dx, a.n, rfl, upd_same, by rw [upd_ne ne, upd_same]⟩, trivial⟩)
  refine callT_run (s := { s1 with ms := s1.ms ++ [.ins (.obj c) []] }) (xs := .mu s1.ms.length :: xs) (Ks := fun s' r => r = .da .none ∧ Ks s' (.mu s1.ms.length)) (congrArg (· + 1) (E1.len.trans h1.1)) R2 ⟨⟨x, [dx], g2, rfl⟩, E1.up U2⟩ h1.2 ?_
  intro A3 o3 H3 v3 s3 x3 R3 U3 E3 h3
  obtain ⟨rfl, h3⟩ := h3
  cases E3
  exact ⟨rfl, kk _ _ _ _ _ (.mu s1.ms.length) R3 ((U1.trans U2).trans U3) ⟨x, [dx], U3.ow _ _ _ g2, rfl⟩ h3⟩
end
def clA (kl : List Nat) (s : S) : S := ⟨killL kl s.es, s.ms, s.np⟩
theorem Rel.clA {K : PySem.W.Frag} {b : Bd} {A : Addr → Prop} {own : List (List Addr)} {H : Hp} {σ : L2.St} {s : S} (r : Rel K b A own H σ s) (kl : List Nat) : Rel K b A own H σ (clA kl s) := by
  refine r.slots (by rw [killL_length]; exact r.len) fun i => ?_
  rcases gt_killL kl s.es i with q | ⟨_, q⟩
  · exact .inl q
  · rw [q]; exact r.sl i
section
variable {X : L2.Cx} {a b c e : Expr} {wa wb we : WE} {wt : WT} {w u : WS} {sts : List Stmt} {tg : Expr} {pos : Pos}
def sCutA (kl : List Nat) (w u : WS) : WS := fun s D => ∃ M : S → Prop, w s { D with nx := fun s1 => M (clA kl s1) } ∧ ∀ s1, M s1 → u s1 D
theorem dss_cutA {st : Stmt} (kl : List Nat) (h1 : DS X st w) (h2 : DSs X sts u) : DSs X (st :: sts) (sCutA kl w u) := by
  obtain ⟨t1, p1, q1⟩ := h1.ex
  obtain ⟨t2, p2, q2⟩ := h2.ex
  refine ⟨_, pss_cons p1 p2, fun b A own H σ s D E R h mt => ?_⟩
  obtain ⟨M, h1, h2⟩ := h
  show t1 { E with nx := t2 E } σ H
  exact q1 _ _ _ _ _ _ _ _ R h1 ⟨fun A' o' H' σ' s' R' k h' => q2 _ _ _ _ _ _ _ _ (R'.clA kl) (h2 _ h') (mt.up k), mt.rt, mt.bk, mt.ct⟩
def sForA (kl : List Nat) (wi : WI) (wg : WG) (wb : WS) : WS := fun s D => wi s fun s1 ds => ∃ I : Nat → S → Prop, I 0 (clA kl s1) ∧
  (∀ i d s2, ds[i]? = some d → I i s2 → wg (.da d) s2 fun s3 => wb s3 { D with nx := fun s4 => I (i + 1) (clA kl s4), ct := fun s4 => I (i + 1) (clA kl s4), bk := D.nx }) ∧
  (∀ s2, I ds.length s2 → D.nx s2)
theorem ds_forA (kl : List Nat) {wi : WI} {js : List Nat} {wg : WG} {it : Expr} (hp : PassesOwn (model X.prog X.w) X.A X.env X.xe) (hc : X.calm = true) (hi : DI X tg it wi) (hg : DG X tg js wg) (hb : DSs X sts w)
    (hs : ∀ x, foldedSetIterable it X.env x = pure x := by intro _; rfl) : DS X (.For tg it sts [] pos) (sForA kl wi wg w) := by
  obtain ⟨ti, pi, qi⟩ := hi.ex
  obtain ⟨g, pg, qg⟩ := hg.ex
  obtain ⟨tb, pb, qb⟩ := hb.ex
  refine ⟨_, ps_for hp hc pi pg pb hs, fun b A own H σ s D E R h mt => ?_⟩
  show ti σ H fun J H1 => ∃ W : Nat → Nat → L2.St → Hp → Prop, (∃ m, W 0 m σ H1) ∧ ∀ i m σ H, W i m σ H →
    (J.stop i H ∧ E.nx σ H) ∨ (J.go i H ∧ ∃ N : L2.St → Hp → Prop, (∀ σ' H', N σ' H' → ∃ m', m' < m ∧ W (i + 1) m' σ' H') ∧ ∀ x H', J.yld i H x H' → g x σ H' fun σ2 H2 => tb { E with nx := N, ct := N, bk := E.nx } σ2 H2)
  refine qi _ _ _ _ _ _ _ _ R h fun A1 o1 H1 s1 ds J R1 U1 wk h1 => ?_
  obtain ⟨I, h0, hs, hd⟩ := h1
  refine ⟨fun i k σ2 H2 => k = ds.length - i ∧ i ≤ ds.length ∧ ∃ (A2 : Addr → Prop) (o2 : List (List Addr)) (s2 : S), Rel X.K b A2 o2 H2 σ2 s2 ∧ Kp A1 H1 A2 H2 ∧ I i s2, ⟨_, rfl, Nat.zero_le _, A1, _, _, R1.clA kl, Kp.refl, h0⟩, ?_⟩
  rintro i k σ2 H2 ⟨rfl, hi, A2, o2, s2, R2, kp, hI⟩
  obtain ⟨wstop, wgo⟩ := wk A2 H2 kp i
  by_cases hlt : i < ds.length
  · obtain ⟨hgo, hy⟩ := wgo ds[i] (List.getElem?_eq_getElem hlt)
    refine .inr ⟨hgo, fun σ' H' => ∃ (A3 : Addr → Prop) (o3 : List (List Addr)) (s3 : S), Rel X.K b A3 o3 H' σ' s3 ∧ Kp A1 H1 A3 H' ∧ I (i + 1) s3, fun σ' H' ⟨A3, o3, s3, r3, k3, i3⟩ => ⟨ds.length - (i + 1), by omega, rfl, hlt, A3, o3, s3, r3, k3, i3⟩, fun x H3 hx => ?_⟩
    obtain ⟨R3, U3, rx⟩ := hy x H3 hx o2 σ2 s2 R2
    refine qg _ _ _ _ _ _ _ _ _ _ R3 (show ER X.K A2 o2 H3 x (.da ds[i]) from rx) (hs i _ s2 (List.getElem?_eq_getElem hlt) hI) fun A4 o4 H4 σ4 s4 R4 U4 _ h4 => ?_
    have kp4 : Kp A1 H1 A4 H4 := (kp.trans U3.kp).trans U4.kp
    exact qb _ _ _ _ _ _ _ _ R4 h4 ⟨fun A5 o5 H5 σ5 s5 R5 k5 h5 => ⟨A5, _, _, R5.clA kl, kp4.trans k5, h5⟩, fun A5 o5 H5 σ5 s5 v x R5 k5 e5 h5 => mt.rt _ _ _ _ _ _ _ R5 ((U1.kp.trans kp4).trans k5) e5 h5,
      fun A5 o5 H5 σ5 s5 R5 k5 h5 => mt.nx _ _ _ _ _ R5 ((U1.kp.trans kp4).trans k5) h5, fun A5 o5 H5 σ5 s5 R5 k5 h5 => ⟨A5, _, _, R5.clA kl, kp4.trans k5, h5⟩⟩
  · have e : i = ds.length := by omega
    subst e
    exact .inl ⟨wstop (Nat.le_refl _), mt.nx _ _ _ _ _ R2 (U1.kp.trans kp) (hd _ hI)⟩
end
def endT (Ks : List MO → En → Prop) : Dn where
  nx := fun s => Ks s.ms (.da .none)
  rt := fun s x => onE x (Ks s.ms)
  bk := fun _ => False
  ct := fun _ => False
section
variable {P : Program} {w : World} {K : PySem.W.Frag} {mg : Str → Option Value} {base : Heap}
theorem fn_dataT {x qual : Str} {st : Stmt} {f : Addr} {fd : FuncData} {N ps : List Str} {k : Nat} {sp : SpD} (F : Fun K x qual st f fd) (Sc : FnScope N ps (defScope st)) (W : WS)
    (hb : ∀ (cdv : Value) (A : Around) (outer : List Env) (s : Shared) (H : Hp) (E : XK), RoomG k (A.deeper (PyProof.Rows.envOfC qual (defScope st) s.heap.objs.size f cdv)) → DSs (cxOf CX0 P w K mg base N qual (defScope st) f cdv A outer s H E).nox (defBody st) W)
    (hsp : ∀ xs ms Ks, sp xs ms Ks → xs.length = ps.length → W ⟨xs ++ nos (N.length - ps.length), ms, ms.length⟩ (endT Ks)) : FnOkG P w K mg base CX0 (k + 1) f fd ps (spOf K ps.length sp) := by
  refine fun_okG F Sc (fun vs H Q E h => ?_) (fun cdv A outer s H vs Q E hr h => ?_)
  · obtain ⟨_, _, _, _, _, hn, _⟩ := h
    exact hn
  · obtain ⟨Av, own, xs, ms, Ks, hn, he, ho, hs, k1⟩ := h
    obtain ⟨t, pt, qt⟩ := (hb cdv A outer s H E hr).ex
    have hxl : xs.length = ps.length := he.len.symm.trans hn
    have hN : ps.length ≤ N.length := by
      have := congrArg List.length Sc.pre
      rw [List.length_take] at this
      omega
    refine ⟨t, pt, ?_⟩
    have R : Rel K ⟨H, own, Av⟩ Av own H (start N vs) ⟨xs ++ nos (N.length - ps.length), ms, ms.length⟩ := by
      refine ⟨ho, ?_, fun i => ?_, fun a h => h, fun a o n h => h, fun k a h => .inl ⟨k, h⟩, ?_, ?_, fun a h => .inl h, ho.al⟩
      · show (vs.map some ++ List.replicate (N.length - vs.length) none).length = _
        simp [nos_length, hn, hxl]
      · show gt (xs ++ nos (N.length - ps.length)) i = .no ∨ ∃ v, (vs.map some ++ List.replicate (N.length - vs.length) none)[i]? = some (some v) ∧ _
        rw [hn]
        exact start_at N he _ i
      · show own.take ms.length = own
        rw [← ho.ol]; exact List.take_length
      · show ms.length ≤ own.length
        rw [ho.ol]; exact Nat.le_refl _
    have fin : ∀ (A' : Addr → Prop) (own' : List (List Addr)) (H' : Hp) (σ' : L2.St) (s' : S) (v : V) (x : En), Rel K ⟨H, own, Av⟩ A' own' H' σ' s' → ER K A' own' H' v x → Ks s'.ms x → Q v H' := by
      intro A' own' H' σ' s' v x R' ex hx
      have np : own.length = s'.np := R'.np
      have hpre : own'.take own.length = own := by rw [np]; exact R'.pre
      exact k1 A' own' H' v s'.ms x R'.toOwn hpre R'.ge R'.lim (fun a o n h => R'.fr a o n h) R'.fo ex hx
    refine qt _ _ _ _ _ _ (endT Ks) _ R (hsp xs ms Ks hs hxl) ⟨fun A' own' H' σ' s' R' _ h => fin A' own' H' σ' s' .non (.da .none) R' .non h, fun A' own' H' σ' s' v x R' _ ex h => fin A' own' H' σ' s' v x R' ex (onE_inv h).2, fun _ _ _ _ _ _ _ h => h.elim, fun _ _ _ _ _ _ _ h => h.elim⟩
theorem ok_dataT {x : Str} {st : Stmt} {N ps : List Str} {k n n0 : Nat} {sp : SpD} (hF : ∃ f fd, At K mg x st ps f fd) (Sc : FnScope N ps (defScope st)) (W : WS)
    (hb : ∀ (f : Addr) (cdv : Value) (A : Around) (outer : List Env) (s : Shared) (H : Hp) (E : XK), RoomG k (A.deeper (PyProof.Rows.envOfC x (defScope st) s.heap.objs.size f cdv)) → DSs (cxOf CX0 P w K mg base N x (defScope st) f cdv A outer s H E).nox (defBody st) W)
    (hsp : ∀ xs ms Ks, sp xs ms Ks → xs.length = n → W (st0 xs n0 ms ms.length) (endT Ks)) (hn : ps.length = n := by rfl) (hn0 : N.length - ps.length = n0 := by rfl) : Ok P w K mg base (k + 1) x st ps n sp := by
  obtain ⟨f, fd, a⟩ := hF
  subst hn
  subst hn0
  exact ⟨f, fd, a, fn_dataT a.F Sc W (hb f) hsp⟩
theorem ok_dataM {c m q : Str} {st : Stmt} {N ps : List Str} {k n n0 : Nat} {sp : SpD} (hF : ∃ C f fd, AtM K c m q st ps C f fd) (Sc : FnScope N ps (defScope st)) (W : WS)
    (hb : ∀ (f : Addr) (cdv : Value) (A : Around) (outer : List Env) (s : Shared) (H : Hp) (E : XK), RoomG k (A.deeper (PyProof.Rows.envOfC q (defScope st) s.heap.objs.size f cdv)) → DSs (cxOf CX0 P w K mg base N q (defScope st) f cdv A outer s H E).nox (defBody st) W)
    (hsp : ∀ xs ms Ks, sp xs ms Ks → xs.length = n → W (st0 xs n0 ms ms.length) (endT Ks)) (hn : ps.length = n := by rfl) (hn0 : N.length - ps.length = n0 := by rfl) : OkM P w K mg base (k + 1) c m q st ps n sp := by
  obtain ⟨C, f, fd, a⟩ := hF
  subst hn
  subst hn0
  exact ⟨C, f, fd, a, fn_dataT a.F Sc W (hb f) hsp⟩
theorem ok_dataI {c q : Str} {st : Stmt} {N ps : List Str} {k n n0 : Nat} {sp : SpD} (hF : ∃ C f fd, AtI K mg c q st ps C f fd) (Sc : FnScope N ps (defScope st)) (W : WS)
    (hb : ∀ (f : Addr) (cdv : Value) (A : Around) (outer : List Env) (s : Shared) (H : Hp) (E : XK), RoomG k (A.deeper (PyProof.Rows.envOfC q (defScope st) s.heap.objs.size f cdv)) → DSs (cxOf CX0 P w K mg base N q (defScope st) f cdv A outer s H E).nox (defBody st) W)
    (hsp : ∀ xs ms Ks, sp xs ms Ks → xs.length = n → W (st0 xs n0 ms ms.length) (endT Ks)) (hn : ps.length = n := by rfl) (hn0 : N.length - ps.length = n0 := by rfl) : OkI P w K mg base (k + 1) c q st ps n sp := by
  obtain ⟨C, f, fd, a⟩ := hF
  subst hn
  subst hn0
  exact ⟨C, f, fd, a, fn_dataT a.F Sc W (hb f) hsp⟩
end
def Clo (ms : List MO) : Prop := takM ms.length ms.length ms = ms
theorem RKE.lt {K : PySem.W.Frag} {A : Addr → Prop} {own : List (List Addr)} {H : Hp} {n : Nat} (hn : own.length = n) : ∀ {ws : List (Str × V)} {fs : List (Str × En)}, RKE K A own H ws fs → limF n fs = fs
  | [], [], _ => rfl
  | _ :: _, (f, x) :: fs, ⟨_, h, t⟩ => by
    show (f, limE n x) :: limF n fs = _
    rw [RKE.lt hn t]
    cases x with
    | no => rfl
    | da d => rfl
    | mu k =>
      obtain ⟨a, r, g, _⟩ := h
      have : k < own.length := Nat.lt_of_not_le fun z => by rw [go_ge _ _ z] at g; cases g
      show (f, bif Nat.blt k n then En.mu k else .no) :: fs = _
      rw [show Nat.blt k n = true from by rw [← hn]; simpa using this]
      rfl
  | [], _ :: _, h => h.elim
  | _ :: _, [], h => h.elim
theorem takM_id (m : Nat) : ∀ (n : Nat) (l : List MO), l.length ≤ n → (∀ k, limM m (gm l k) = gm l k) → takM m n l = l
  | 0, [], _, _ => rfl
  | 0, _ :: _, h, _ => by simp at h
  | n + 1, [], _, _ => rfl
  | n + 1, x :: r, h, q => by
    show limM m x :: takM m n r = _
    rw [show limM m x = x from q 0, takM_id m n r (by simpa using h) fun k => q (k + 1)]
theorem Rel.clo {K : PySem.W.Frag} {b : Bd} {A : Addr → Prop} {own : List (List Addr)} {H : Hp} {σ : L2.St} {s : S} (R : Rel K b A own H σ s) : Clo s.ms := by
  refine takM_id _ _ _ (Nat.le_refl _) fun k => ?_
  have m := R.mr k
  cases q : gm s.ms k with
  | gone => rfl
  | lst _ => rfl
  | dct _ => rfl
  | rnd _ => rfl
  | box _ => rfl
  | tab _ => rfl
  | ins C fs =>
    rw [q] at m
    obtain ⟨a, r, ws, _, _, e⟩ := m
    show MO.ins C (limF s.ms.length fs) = _
    rw [RKE.lt R.ol e]
theorem Clo.app {ms r : List MO} (h : Clo ms) : takM ms.length ms.length (ms ++ r) = ms := by
  rw [takM_app _ _ _ rfl]; exact h
section
variable {X : L2.Cx} {tg e : Expr} {wi : WI} {sts : List Stmt} {w : WS}
theorem di_cl (h : DI X tg e wi) : DI X tg e (fun s Ks => wi s fun s1 ds => Clo s1.ms → Ks s1 ds) := by
  obtain ⟨t, p, q⟩ := h.ex
  exact ⟨t, p, fun b A own H σ s Ks Q R h k => q _ _ _ _ _ _ _ _ R h fun A' own' H' s' ds J R' U' wk h' => k _ _ _ _ _ _ R' U' wk (h' R'.clo)⟩
def sClo (w : WS) : WS := fun s D => Clo s.ms → w s D
theorem dss_clo (h : DSs X sts w) : DSs X sts (sClo w) := by
  obtain ⟨t, p, q⟩ := h.ex
  exact ⟨t, p, fun b A own H σ s D E R h m => q _ _ _ _ _ _ _ _ R (h R.clo) m⟩
end
def putT {α : Type} (fs : List (Str × α)) (f : Str) (x : α) : List (Str × α) := if (fs.any fun q => decide (q.1 = f)) = true then fs.map (fun q => if q.1 = f then (q.1, x) else q) else fs ++ [(f, x)]
def mergeT {α : Type} (fs more : List (Str × α)) : List (Str × α) := more.foldl (fun acc q => putT acc q.1 q.2) fs
def keyed (ws : List (Str × V)) : List (Key × V) := ws.map fun p => (.inr p.1, p.2)
def dvl (ms : List MO) (j : Nat) (key : Key) : Option (Option En) := match gm ms j with
  | .dct kvs => some ((findD kvs key).map En.da)
  | .ins .dct fs => some (match key with | .inr f => getT fs f | .inl _ => none)
  | _ => none
section
variable {K : PySem.W.Frag} {b : Bd} {A : Addr → Prop} {own : List (List Addr)} {H : Hp} {σ : L2.St} {s : S}
theorem rke_find {f : Str} : ∀ {ws : List (Str × V)} {fs : List (Str × En)}, RKE K A own H ws fs → (getT fs f = none ∧ valV (keyed ws) (.inr f) = none) ∨ ∃ y v, getT fs f = some y ∧ valV (keyed ws) (.inr f) = some v ∧ ER K A own H v y
  | [], [], _ => .inl ⟨rfl, rfl⟩
  | p :: ws, q :: fs, ⟨e, r, t⟩ => by
    unfold getT
    rw [List.find?_cons]
    show _ ∨ ∃ y v, _ ∧ valV ((.inr p.1, p.2) :: keyed ws) (.inr f) = some v ∧ _
    by_cases h : q.1 = f
    · rw [decide_eq_true h, valV_pos (show (Sum.inr p.1 : Key) = .inr f from congrArg Sum.inr (e.trans h))]; exact .inr ⟨_, _, rfl, rfl, r⟩
    · rw [decide_eq_false h]
      have hk : ¬ (Sum.inr p.1 : Key) = .inr f := fun z => h (e.symm.trans (Sum.inr.inj z))
      rcases rke_find (f := f) t with ⟨q1, q2⟩ | ⟨y, v, q1, q2, q3⟩
      · exact .inl ⟨q1, (valV_neg hk).trans q2⟩
      · exact .inr ⟨y, v, q1, (valV_neg hk).trans q2, q3⟩
  | [], _ :: _, h => h.elim
  | _ :: _, [], h => h.elim
theorem rke_inl {i : Int} : ∀ (ws : List (Str × V)), valV (keyed ws) (.inl i) = none
  | [] => rfl
  | p :: ws => (valV_neg (show ¬ (Sum.inr p.1 : Key) = .inl i from fun z => nomatch z)).trans (rke_inl ws)
theorem rke_any {f : Str} : ∀ {ws : List (Str × V)} {fs : List (Str × En)}, RKE K A own H ws fs → ((keyed ws).any fun kv => decide (kv.1 = (Sum.inr f : Key))) = (fs.any fun q => decide (q.1 = f))
  | [], [], _ => rfl
  | p :: ws, q :: fs, ⟨e, _, t⟩ => by
    show (decide ((Sum.inr p.1 : Key) = .inr f) || (keyed ws).any _) = _
    rw [List.any_cons, rke_any t, show decide ((Sum.inr p.1 : Key) = .inr f) = decide (q.1 = f) from by rw [show p.1 = q.1 from e]; by_cases h : q.1 = f <;> simp [h]]
  | [], _ :: _, h => h.elim
  | _ :: _, [], h => h.elim
theorem rke_map {f : Str} {v : V} {x : En} (r : ER K A own H v x) : ∀ {ws : List (Str × V)} {fs : List (Str × En)}, RKE K A own H ws fs →
    ∃ ws', (keyed ws).map (fun kv => if kv.1 = (Sum.inr f : Key) then (kv.1, v) else kv) = keyed ws' ∧ RKE K A own H ws' (fs.map (fun q => if q.1 = f then (q.1, x) else q))
  | [], [], _ => ⟨[], rfl, trivial⟩
  | p :: ws, q :: fs, ⟨e, r', t⟩ => by
    obtain ⟨ws', h1, h2⟩ := rke_map (f := f) r t
    show ∃ ws'', (if (Sum.inr p.1 : Key) = .inr f then ((Sum.inr p.1 : Key), v) else (.inr p.1, p.2)) :: (keyed ws).map _ = keyed ws'' ∧ _
    rw [List.map_cons]
    by_cases h : q.1 = f
    · rw [if_pos h, if_pos (congrArg Sum.inr (e.trans h))]
      exact ⟨(p.1, v) :: ws', by rw [h1]; rfl, e, r, h2⟩
    · rw [if_neg h, if_neg fun z => h (e.symm.trans (Sum.inr.inj z))]
      exact ⟨p :: ws', by rw [h1]; rfl, e, r', h2⟩
  | [], _ :: _, h => h.elim
  | _ :: _, [], h => h.elim
theorem rke_snoc {f : Str} {v : V} {x : En} (r : ER K A own H v x) : ∀ {ws : List (Str × V)} {fs : List (Str × En)}, RKE K A own H ws fs → RKE K A own H (ws ++ [(f, v)]) (fs ++ [(f, x)])
  | [], [], _ => ⟨rfl, r, trivial⟩
  | _ :: _, _ :: _, ⟨e, r', t⟩ => ⟨e, r', rke_snoc r t⟩
  | [], _ :: _, h => h.elim
  | _ :: _, [], h => h.elim
theorem rke_put {f : Str} {v : V} {x : En} (r : ER K A own H v x) {ws : List (Str × V)} {fs : List (Str × En)} (h : RKE K A own H ws fs) : ∃ ws', putK (keyed ws) (.inr f) v = keyed ws' ∧ RKE K A own H ws' (putT fs f x) := by
  unfold putK putT
  rw [rke_any h]
  split
  · exact rke_map r h
  · exact ⟨ws ++ [(f, v)], by simp [keyed], rke_snoc r h⟩
theorem rke_merge : ∀ {ms : List (Str × V)} {more : List (Str × En)} {ws : List (Str × V)} {fs : List (Str × En)}, RKE K A own H ms more → RKE K A own H ws fs → ∃ ws', mergeK (keyed ws) (keyed ms) = keyed ws' ∧ RKE K A own H ws' (mergeT fs more)
  | [], [], ws, _, _, h => ⟨ws, rfl, h⟩
  | p :: ms, q :: more, ws, fs, ⟨e, r, t⟩, h => by
    obtain ⟨ws', h1, h2⟩ := rke_put (f := q.1) r h
    obtain ⟨ws'', h3, h4⟩ := rke_merge t h2
    refine ⟨ws'', ?_, h4⟩
    show mergeK (putK (keyed ws) (.inr p.1) p.2) (keyed ms) = _
    rw [show p.1 = q.1 from e, h1, h3]
  | [], _ :: _, _, _, h, _ => h.elim
  | _ :: _, [], _, _, h, _ => h.elim
theorem keyed_len (ws : List (Str × V)) : (keyed ws).length = ws.length := by simp [keyed]
theorem dsn_at (R : Rel K b A own H σ s) {v : V} {j : Nat} {fs : List (Str × En)} (E : ER K A own H v (.mu j)) (g : gm s.ms j = .ins .dct fs) :
    ∃ p ws, v = .ref p ∧ H p = some (.dK (keyed ws)) ∧ RKE K A own H ws fs ∧ ∀ (ws' : List (Str × V)) fs', RKE K A own H ws' fs' → Rel K b A own (upd H p (.dK (keyed ws'))) σ (s.sM j (.ins .dct fs')) ∧ Up A own H A own (upd H p (.dK (keyed ws'))) := by
  have m := R.mr j
  rw [g] at m
  obtain ⟨p, r, ws, e1, ⟨rfl, e2⟩, e3⟩ := m
  obtain ⟨p', r, e4, rfl⟩ := E
  rw [e1] at e4
  cases e4
  refine ⟨p, ws, rfl, e2, e3, fun vs' ds' r' => ?_⟩
  refine R.chg j (.ins .dct ds') (fun a o n h => ?_) (fun a h => ?_) (fun u => ?_) (gm_lt (by rw [g]; intro z; cases z))
  · rw [upd_ne]; exact h
    intro z; subst z; exact n (by rw [e1]; simp)
  · rw [e1] at h
    cases List.mem_singleton.mp h
    rw [upd_same]; intro z; cases z
  · rw [e1]; exact ⟨p, [], vs', rfl, ⟨rfl, upd_same⟩, r'.up u⟩
theorem dvl_at (R : Rel K b A own H σ s) {v : V} {j : Nat} {key : Key} {o : Option En} (E : ER K A own H v (.mu j)) (g : dvl s.ms j key = some o) :
    ∃ p ws, v = .ref p ∧ H p = some (.dK ws) ∧ ((o = none ∧ valV ws key = none) ∨ ∃ y u, o = some y ∧ valV ws key = some u ∧ ER K A own H u y) := by
  unfold dvl at g
  split at g
  · rename_i kvs g0
    cases g
    obtain ⟨p, vs, rfl, e2, e3, _, _⟩ := mud_at R E g0
    refine ⟨p, vs, rfl, e2, ?_⟩
    rcases e3.find (k := key) with ⟨q1, q2⟩ | ⟨d, u, q1, q2, q3⟩
    · exact .inl ⟨by rw [q1]; rfl, q2⟩
    · exact .inr ⟨.da d, u, by rw [q1]; rfl, q2, q3⟩
  · rename_i fs g0
    cases g
    obtain ⟨p, ws, rfl, e2, e3, _⟩ := dsn_at R E g0
    refine ⟨p, _, rfl, e2, ?_⟩
    cases key with
    | inl i => exact .inl ⟨rfl, rke_inl ws⟩
    | inr f => exact rke_find e3
  · cases g
end
section
variable {X : L2.Cx} {a c e f : Expr} {es : List Expr} {wa wc we wf : WE} {wr : WA} {pos : Pos}
def dky (x : En) (k : Key → Prop) : Prop := daI x fun kd => onO (keyD kd) k
theorem dky_inv {K : PySem.W.Frag} {A : Addr → Prop} {own : List (List Addr)} {H : Hp} {v : V} {x : En} {k : Key → Prop} (E : ER K A own H v x) (h : dky x k) : ∃ key, v = kV key ∧ k key := by
  obtain ⟨kd, rfl, h⟩ := daI_inv h
  obtain ⟨key, hk, h⟩ := onO_inv h
  exact ⟨key, keyD_rp E hk, h⟩
def dGetG (wd wk : WE) : WE := fun s Ks => wd s fun s1 o => wk s1 fun s2 i => dky i fun key => ∃ j y, o = .mu j ∧ dvl s2.ms j key = some (some y) ∧ Ks s2 y
theorem de_dgetG (hu : X.A.units + 1 < cLine) (ho : DE X a wa) (hi : DE X c wc) (hs : NoSl c := by exact fun _ _ => rfl) : DE X (.Subscript a c pos) (dGetG wa wc) := by
  obtain ⟨ta, pa, qa⟩ := ho.ex
  obtain ⟨tb, pb, qb⟩ := hi.ex
  refine ⟨_, pe_dget hu pa pb hs, fun b A own H σ s Ks Q R h k => ?_⟩
  show ta σ H fun x H1 => tb σ H1 fun y H2 => ∃ a v, x = .ref a ∧ DGet H2 a y (some v) ∧ Q v H2
  refine qa _ _ _ _ _ _ _ _ R h fun A1 o1 H1 v1 s1 x1 R1 U1 E1 h1 => ?_
  refine qb _ _ _ _ _ _ _ _ R1 h1 fun A2 o2 H2 v2 s2 x2 R2 U2 E2 h2 => ?_
  obtain ⟨key, rfl, j, y, rfl, g, h2⟩ := dky_inv E2 h2
  obtain ⟨p, ws, rfl, hp, q⟩ := dvl_at R2 (E1.up U2) g
  rcases q with ⟨q, _⟩ | ⟨y', u, q1, q2, q3⟩
  · cases q
  · cases q1
    exact ⟨p, u, rfl, by rw [← q2]; exact DGet.k hp, k _ _ _ _ _ y R2 (U1.trans U2) q3 h2⟩
def dInG (neg : Bool) (wk wd : WE) : WE := fun s Ks => wk s fun s1 i => wd s1 fun s2 o => dky i fun key => ∃ j r, o = .mu j ∧ dvl s2.ms j key = some r ∧ Ks s2 (.da (.bool (xr neg r.isSome)))
theorem inG_run {neg : Bool} {ta tb : TE} (qa : ∀ (b : Bd) (A : Addr → Prop) (own : List (List Addr)) (H : Hp) (σ : L2.St) (s : S) (Ks : S → En → Prop) (Q : VK), Rel X.K b A own H σ s → wa s Ks → PostE X.K b A own H σ Ks Q → ta σ H Q)
    (qb : ∀ (b : Bd) (A : Addr → Prop) (own : List (List Addr)) (H : Hp) (σ : L2.St) (s : S) (Ks : S → En → Prop) (Q : VK), Rel X.K b A own H σ s → wc s Ks → PostE X.K b A own H σ Ks Q → tb σ H Q)
    (b : Bd) (A : Addr → Prop) (own : List (List Addr)) (H : Hp) (σ : L2.St) (s : S) (Ks : S → En → Prop) (Q : VK) (R : Rel X.K b A own H σ s) (h : dInG neg wc wa s Ks) (k : PostE X.K b A own H σ Ks Q) :
    tb σ H fun y H1 => ta σ H1 fun x H2 => ∃ a o, x = .ref a ∧ DGet H2 a y o ∧ Q (.bl (xr neg o.isSome)) H2 := by
  refine qb _ _ _ _ _ _ _ _ R h fun A1 o1 H1 v1 s1 x1 R1 U1 E1 h1 => ?_
  refine qa _ _ _ _ _ _ _ _ R1 h1 fun A2 o2 H2 v2 s2 x2 R2 U2 E2 h2 => ?_
  obtain ⟨key, rfl, j, r, rfl, g, h2⟩ := dky_inv (E1.up U2) h2
  obtain ⟨p, ws, rfl, hp, q⟩ := dvl_at R2 E2 g
  refine ⟨p, _, rfl, DGet.k hp, ?_⟩
  rcases q with ⟨q, q2⟩ | ⟨y', u, q1, q2, q3⟩
  · rw [q2]; rw [q] at h2; exact (k.up (U1.trans U2)).da R2 Up.refl (.bl _) h2
  · rw [q2]; rw [q1] at h2; exact (k.up (U1.trans U2)).da R2 Up.refl (.bl _) h2
theorem dt_dinG (hu : X.A.units + 1 < cLine) (hi : DE X c wc) (ho : DE X a wa) (hm : behindInMarks .In a = false := by rfl) : DT X (.Compare c [.In] [a] pos) (tT (dInG false wc wa)) := by
  obtain ⟨ta, pa, qa⟩ := ho.ex
  obtain ⟨tb, pb, qb⟩ := hi.ex
  exact ⟨_, pt_cmp (pc_din hu pb pa) hm, tT_run fun b A own H σ s Ks Q R h k => inG_run (neg := false) qa qb b A own H σ s Ks Q R h k⟩
theorem dt_dnotinG (hu : X.A.units + 1 < cLine) (hi : DE X c wc) (ho : DE X a wa) (hm : behindInMarks .NotIn a = false := by rfl) : DT X (.Compare c [.NotIn] [a] pos) (tT (dInG true wc wa)) := by
  obtain ⟨ta, pa, qa⟩ := ho.ex
  obtain ⟨tb, pb, qb⟩ := hi.ex
  exact ⟨_, pt_cmp (pc_dnotin hu pb pa) hm, tT_run fun b A own H σ s Ks Q R h k => inG_run (neg := true) qa qb b A own H σ s Ks Q R h k⟩
def dputW (ms : List MO) (j : Nat) (key : Key) (x : En) (k : List MO → Prop) : Prop :=
  (∃ kvs d, gm ms j = .dct kvs ∧ x = .da d ∧ kvs.length < sizeLine ∧ k (sm ms j (.dct (putD kvs key d)))) ∨ (∃ fs f, gm ms j = .ins .dct fs ∧ key = .inr f ∧ fs.length < sizeLine ∧ k (sm ms j (.ins .dct (putT fs f x))))
def gSetG (wo wi : WE) : WG := fun x s Ks => wo s fun s1 o => wi s1 fun s2 i => dky i fun key => ∃ j, o = .mu j ∧ dputW s2.ms j key x fun ms => Ks ⟨s2.es, ms, s2.np⟩
theorem dput_run {K : PySem.W.Frag} {b : Bd} {A : Addr → Prop} {own : List (List Addr)} {H : Hp} {σ : L2.St} {s : S} (R : Rel K b A own H σ s) {v u : V} {j : Nat} {key : Key} {x : En} (E : ER K A own H v (.mu j)) (Eu : ER K A own H u x) {k : List MO → Prop} (h : dputW s.ms j key x k) :
    ∃ p H', v = .ref p ∧ DPut H p (kV key) u H' ∧ ∃ ms, Rel K b A own H' σ ⟨s.es, ms, s.np⟩ ∧ Up A own H A own H' ∧ k ms := by
  rcases h with ⟨kvs, d, g, rfl, hl, h⟩ | ⟨fs, f, g, rfl, hl, h⟩
  · obtain ⟨p, vs, rfl, e2, e3, _, up⟩ := mud_at R E g
    obtain ⟨R3, U3⟩ := up _ _ (e3.put (k := key) Eu)
    exact ⟨p, _, rfl, DPut.k e2 (by rw [e3.len]; exact hl), _, R3, U3, h⟩
  · obtain ⟨p, ws, rfl, e2, e3, up⟩ := dsn_at R E g
    obtain ⟨ws', e4, e5⟩ := rke_put (f := f) Eu e3
    obtain ⟨R3, U3⟩ := up _ _ e5
    refine ⟨p, _, rfl, DPut.k (k := .inr f) e2 (by rw [keyed_len, e3.len]; exact hl), _, ?_, ?_, h⟩
    · rw [e4]; exact R3
    · rw [e4]; exact U3
theorem dg_setG (hu : X.A.units + 1 < cLine) (ho : DE X a wa) (hi : DE X c wc) (hh : ∀ v, assign (.Subscript a c pos) X.env v = (do
      let ov ← holding [v] (eval a X.env)
      let iv ← holding [v, ov] (eval c X.env)
      standAt pos
      holding [v, ov, iv] (setItem ov iv v)
      release [v, ov, iv] []) := by intro _; rfl) : DG X (.Subscript a c pos) [] (gSetG wa wc) := by
  obtain ⟨ta, pa, qa⟩ := ho.ex
  obtain ⟨tb, pb, qb⟩ := hi.ex
  refine ⟨_, pg_sub pa pb (set_dict hu) hh, fun b A own H σ s v x Ks Q R E h k => ?_⟩
  show ta σ H fun o H1 => tb σ H1 fun i H2 => rSetD o i v H2 fun H3 => Q σ H3
  refine qa _ _ _ _ _ _ _ _ R h fun A1 o1 H1 v1 s1 x1 R1 U1 E1 h1 => ?_
  refine qb _ _ _ _ _ _ _ _ R1 h1 fun A2 o2 H2 v2 s2 x2 R2 U2 E2 h2 => ?_
  obtain ⟨key, rfl, j, rfl, hq⟩ := dky_inv E2 h2
  obtain ⟨p, H', rfl, hd, ms, R3, U3, h3⟩ := dput_run R2 (E1.up U2) (E.up (U1.trans U2)) hq
  exact ⟨p, H', rfl, hd, k _ _ _ _ _ R3 ((U1.trans U2).trans U3) Sto.refl h3⟩
end
section
variable {X : L2.Cx} {o e : Expr} {apos cpos : Pos} {td ty : TE}
def tDUpd (td ty : TE) : TE := fun σ H Q => td σ H fun x H1 => ∃ a, x = .ref a ∧ IsD H1 a ∧ ty σ H1 fun y H2 => ∃ kvs b more, y = .ref b ∧ a ≠ b ∧ H2 a = some (.dK kvs) ∧ H2 b = some (.dK more) ∧ kvs.length + more.length ≤ sizeLine ∧ Q .non (upd H2 a (.dK (mergeK kvs more)))
theorem pe_dupd (ho : PE X o td) (he : PE X e ty) (m : M1 X o "update" apos e cpos) : PE X (.Call (.Attribute o "update" apos) [e] [] cpos) (tDUpd td ty) := by
  refine ⟨fun pins s σ H Q I h => ?_⟩
  refine wpAny_Call_method m.base m.few m.line PySem.F.plainAttrs_dict PySem.F.slot_dict_update PySem.F.type_dict_update (thn (ho.run pins s σ H _ I h) fun u s1 ⟨x, H1, I1, rx, a, ex, d, q1⟩ => ?_)
  subst ex
  obtain rfl : u = Value.ref a := rx
  obtain ⟨t1, t2, _⟩ := isD_at I1 d
  refine ⟨t1, t2, ?_⟩
  rw [m.trees]
  refine Calls.callWith_builtin rfl (Calls.evalArgs_plain (Calls.spliced_cons (thn (he.run pins s1 σ H1 _ I1 q1) fun iv s2 ⟨y, H2, I2, ry, kvs, b, more, ey, ne, ea, eb, hl, q2⟩ => Calls.spliced_nil ?_)))
  subst ey
  obtain rfl : iv = Value.ref b := ry
  obtain ⟨z, hd, vs, rel, dd⟩ := dk_of I2.hok ea
  obtain ⟨z2, hd2, vs2, rel2, dd2⟩ := dk_of I2.hok eb
  refine call_meetsIn PySem.F.slot_dict_update dd.typeIs PySem.F.entry_dict_update (PySem.F.args_dict_update_2 _ _) (meets_dict_update (mixKind X.prog X.w) a b ne hd2) ⟨vs, vs2, dd, dd2, by rw [← rel.length, ← rel2.length]; exact hl, fun h' dd' _ hs => ⟨.non, _, d_write I2 (by rw [ea]; exact True.intro) hs (let ⟨q, _, _, hq, _⟩ := dd'; ⟨q, hq⟩) (dk_new (Nat.le_trans (length_mergeK _ _) hl) hd (KV.merge rel2 rel) dd'), rfl, q2⟩⟩
end
section
variable {X : L2.Cx} {a c e f : Expr} {es : List Expr} {wa wc we wf : WE} {wr : WA} {pos : Pos}
def dUpdG (wd wo : WE) : WE := fun s Ks => wd s fun s1 x => (∃ j fs, x = .mu j ∧ gm s1.ms j = .ins .dct fs) ∧ wo s1 fun s2 y => ∃ j i fs gs, x = .mu j ∧ y = .mu i ∧ i ≠ j ∧ gm s2.ms j = .ins .dct fs ∧ gm s2.ms i = .ins .dct gs ∧ fs.length + gs.length ≤ sizeLine ∧ Ks (s2.sM j (.ins .dct (mergeT fs gs))) (.da .none)
theorem de_updG {apos cpos : Pos} (ho : DE X a wa) (hi : DE X c wc) (m : M1 X a "update" apos c cpos := by exact ⟨rfl, rfl, rfl, rfl⟩) : DE X (.Call (.Attribute a "update" apos) [c] [] cpos) (dUpdG wa wc) := by
  obtain ⟨ta, pa, qa⟩ := ho.ex
  obtain ⟨tb, pb, qb⟩ := hi.ex
  refine ⟨_, pe_dupd pa pb m, fun b A own H σ s Ks Q R h k => ?_⟩
  show ta σ H fun x H1 => ∃ a, x = .ref a ∧ IsD H1 a ∧ tb σ H1 fun y H2 => ∃ kvs b more, y = .ref b ∧ a ≠ b ∧ H2 a = some (.dK kvs) ∧ H2 b = some (.dK more) ∧ kvs.length + more.length ≤ sizeLine ∧ Q .non (upd H2 a (.dK (mergeK kvs more)))
  refine qa _ _ _ _ _ _ _ _ R h fun A1 o1 H1 v1 s1 x1 R1 U1 E1 h1 => ?_
  obtain ⟨⟨j, fs, rfl, g⟩, h1⟩ := h1
  obtain ⟨p, ws, rfl, hp, _⟩ := dsn_at R1 E1 g
  refine ⟨p, rfl, .inl ⟨_, .inl hp⟩, ?_⟩
  refine qb _ _ _ _ _ _ _ _ R1 h1 fun A2 o2 H2 v2 s2 x2 R2 U2 E2 h2 => ?_
  obtain ⟨j', i, fs', gs, ej, rfl, ne, g', g2, hl, h3⟩ := h2
  cases ej
  obtain ⟨p', ws', ep, hp', r', up⟩ := dsn_at R2 (E1.up U2) g'
  cases ep
  obtain ⟨p2, ws2, rfl, hp2, r2, _⟩ := dsn_at R2 E2 g2
  obtain ⟨ws3, e3, r3⟩ := rke_merge r2 r'
  obtain ⟨R3, U3⟩ := up _ _ r3
  refine ⟨_, p2, _, rfl, fun z => ne ?_, hp', hp2, by rw [keyed_len, keyed_len, r'.len, r2.len]; exact hl, ?_⟩
  · obtain ⟨a1, r1, g1, ea⟩ := E2
    obtain ⟨a2, r2', g2', ea2⟩ := E1.up U2
    cases ea; cases ea2
    exact R2.dj i j p (by rw [g1, z]; simp) (by rw [g2']; simp)
  · rw [e3]
    exact k.da R3 ((U1.trans U2).trans U3) .non h3
def dropD (kvs : List (Key × D)) (k : Key) : List (Key × D) := kvs.filter fun kv => decide (kv.1 ≠ k)
theorem RKV.drop {K : PySem.W.Frag} {A : Addr → Prop} {H : Hp} {k : Key} : ∀ {ws : List (Key × V)} {kvs : List (Key × D)}, RKV K A H ws kvs → RKV K A H (dropK ws k) (dropD kvs k)
  | [], [], _ => trivial
  | p :: ws, q :: kvs, ⟨e, r, t⟩ => by
    unfold dropK dropD
    rw [List.filter_cons, List.filter_cons]
    by_cases h : q.1 = k
    · rw [if_neg (by simp [e.trans h]), if_neg (by simp [h])]; exact RKV.drop t
    · rw [if_pos (by simp; exact fun z => h (e.symm.trans z)), if_pos (by simp; exact h)]; exact ⟨e, r, RKV.drop t⟩
def dPopG (wd wk : WE) : WE := fun s Ks => wd s fun s1 x => (∃ j kvs, x = .mu j ∧ gm s1.ms j = .dct kvs) ∧ wk s1 fun s2 i => dky i fun key => ∃ j kvs d, x = .mu j ∧ gm s2.ms j = .dct kvs ∧ findD kvs key = some d ∧ Ks (s2.sM j (.dct (dropD kvs key))) (.da d)
theorem de_popG {apos cpos : Pos} (ho : DE X a wa) (hi : DE X c wc) (m : M1 X a "pop" apos c cpos := by exact ⟨rfl, rfl, rfl, rfl⟩) : DE X (.Call (.Attribute a "pop" apos) [c] [] cpos) (dPopG wa wc) := by
  obtain ⟨ta, pa, qa⟩ := ho.ex
  obtain ⟨tb, pb, qb⟩ := hi.ex
  refine ⟨_, pe_dpop1 pa pb m, fun b A own H σ s Ks Q R h k => ?_⟩
  show ta σ H fun x H1 => ∃ a, x = .ref a ∧ IsD H1 a ∧ tb σ H1 fun y H2 => ∃ kvs k v, H2 a = some (.dK kvs) ∧ y = kV k ∧ valV kvs k = some v ∧ Q v (upd H2 a (.dK (dropK kvs k)))
  refine qa _ _ _ _ _ _ _ _ R h fun A1 o1 H1 v1 s1 x1 R1 U1 E1 h1 => ?_
  obtain ⟨⟨j, kvs, rfl, g⟩, h1⟩ := h1
  obtain ⟨p, ws, rfl, hp, _⟩ := mud_at R1 E1 g
  refine ⟨p, rfl, .inl ⟨_, .inl hp⟩, ?_⟩
  refine qb _ _ _ _ _ _ _ _ R1 h1 fun A2 o2 H2 v2 s2 x2 R2 U2 E2 h2 => ?_
  obtain ⟨key, rfl, j', kvs', d, ej, g', hd, h3⟩ := dky_inv E2 h2
  cases ej
  obtain ⟨p', ws', ep, hp', r', _, up⟩ := mud_at R2 (E1.up U2) g'
  cases ep
  rcases r'.find (k := key) with ⟨q1, q2⟩ | ⟨d', v', q1, q2, q3⟩
  · rw [q1] at hd; cases hd
  · rw [q1] at hd; cases hd
    obtain ⟨R3, U3⟩ := up _ _ (r'.drop (k := key))
    exact ⟨ws', key, v', hp', rfl, q2, k.da R3 ((U1.trans U2).trans U3) (Rp.mono U3.kp q3) h3⟩
structure DPs (X : L2.Cx) (pos : Pos) (keys : List (Option Expr)) (values : List Expr) (ks : List Str) (w : WA) : Prop where
  ex : ∃ trs, PPs X pos keys values trs ∧ ∀ (b : Bd) (A : Addr → Prop) (own : List (List Addr)) (H : Hp) (σ : L2.St) (s : S) (Ks : S → List En → Prop) (Q : List (V × V) → Hp → Prop), Rel X.K b A own H σ s → w s Ks →
    (∀ (A' : Addr → Prop) (own' : List (List Addr)) (H' : Hp) (s' : S) (xs : List En) (ws : List (Str × V)), Rel X.K b A' own' H' σ s' → Up A own H A' own' H' → RKE X.K A' own' H' ws (ks.zip xs) → ks.length = xs.length → Ks s' xs → Q (ws.map fun p => (V.str p.1, p.2)) H') → tPairs trs σ H Q
theorem dps_nil : DPs X pos [] [] [] aNil := ⟨_, pps_nil, fun b A own H σ s Ks Q R h k => k A own H s [] [] R Up.refl trivial rfl h⟩
theorem dps_cons {keys : List (Option Expr)} {values : List Expr} {ks : List Str} {x : Str} {i : Nat} {p1 : Pos} (hv : DE X e we) (hr : DPs X pos keys values ks wr) : DPs X pos (some (.Constant (.str x) i p1) :: keys) (e :: values) (x :: ks) (aCons we wr) := by
  obtain ⟨te, pe, qe⟩ := hv.ex
  obtain ⟨trs, pr, qr⟩ := hr.ex
  refine ⟨_, pps_cons pe_str pe pr, fun b A own H σ s Ks Q R h k => ?_⟩
  show te σ H fun y H2 => tPairs trs σ H2 fun ps H3 => Q ((.str x, y) :: ps) H3
  refine qe _ _ _ _ _ _ _ _ R h fun A1 o1 H1 v1 s1 x1 R1 U1 E1 h1 => ?_
  refine qr _ _ _ _ _ _ _ _ R1 h1 fun A2 o2 H2 s2 xs ws R2 U2 E2 hl h2 => ?_
  exact k A2 o2 H2 s2 (x1 :: xs) ((x, v1) :: ws) R2 (U1.trans U2) ⟨rfl, E1.up U2, E2⟩ (congrArg (· + 1) hl) h2
def dDisp (ks : List Str) (wr : WA) : WE := fun s Ks => wr (s.aM (.ins .dct [])) fun s1 xs => gm s1.ms s.ms.length = .ins .dct [] ∧ Ks (s1.sM s.ms.length (.ins .dct (mergeT [] (ks.zip xs)))) (.mu s.ms.length)
theorem de_disp {keys : List (Option Expr)} {values : List Expr} {ks : List Str} (h : DPs X pos keys values ks wr) (hall : keys.all (·.isSome) = true := by rfl) (hl : keys.length = values.length := by rfl) (h0 : keys ≠ [] := by exact fun z => nomatch z) (h15 : keys.length ≤ 15 := by decide) (hks : ks.length ≤ 15 := by decide) : DE X (.Dict keys values pos) (dDisp ks wr) := by
  obtain ⟨trs, p, q⟩ := h.ex
  refine ⟨_, pe_disp p hall hl h0 h15, fun b A own H σ s Ks Q R h k => ?_⟩
  show ∀ p, H p = none → tPairs trs σ (upd H p (.dK [])) fun ps H2 => H2 p = some (.dK []) ∧ ∃ kvs : List (Key × V), ps = kvs.map (fun kv => (kV kv.1, kv.2)) ∧ kvs.length ≤ 15 ∧ Q (.ref p) (upd H2 p (.dK (mergeK [] kvs)))
  intro p hp
  obtain ⟨R1, U1, g1⟩ := R.newMu (o := .dK []) hp (.ins .dct []) fun A' own' u => ⟨p, [], [], rfl, ⟨rfl, upd_same⟩, trivial⟩
  refine q _ _ _ _ _ _ _ _ R1 h fun A2 o2 H2 s2 xs ws R2 U2 E2 hlx h2 => ?_
  have E1 : ER X.K A2 o2 H2 (.ref p) (.mu s.ms.length) := ⟨p, [], U2.ow _ _ _ g1, rfl⟩
  obtain ⟨p', ws', ep, hp', r', up⟩ := dsn_at R2 E1 h2.1
  cases ep
  have w0 : ws' = [] := by
    cases ws' with
    | nil => rfl
    | cons _ _ => exact r'.elim
  subst w0
  obtain ⟨ws3, e3, r3⟩ := rke_merge E2 r'
  obtain ⟨R3, U3⟩ := up _ _ r3
  have hlen : ws.length ≤ 15 := by
    rw [E2.len, List.length_zip]
    omega
  refine ⟨hp', keyed ws, by simp [keyed, kV], by rw [keyed_len]; exact hlen, ?_⟩
  have e3 : mergeK [] (keyed ws) = keyed ws3 := e3
  rw [e3]
  exact k _ _ _ _ _ (.mu s.ms.length) R3 ((U1.trans U2).trans U3) (E1.up U3) h2.2
end
end DL
namespace DL
open PySem L2 PySem.Spec PyProof.Rows
inductive Tr where
  | da (d : D)
  | lst (ds : List D)
  | dct (kvs : List (Key × D))
  | nd (sh : Sh) (fs : List (Str × Tr))
mutual
inductive Tre (ms : List MO) : En → Tr → List Nat → Prop
  | da (d : D) : Tre ms (.da d) (.da d) []
  | lst {k : Nat} {ds : List D} : gm ms k = .lst ds → Tre ms (.mu k) (.lst ds) [k]
  | dct {k : Nat} {kvs : List (Key × D)} : gm ms k = .dct kvs → Tre ms (.mu k) (.dct kvs) [k]
  | nd {k : Nat} {sh : Sh} {es : List (Str × En)} {fs : List (Str × Tr)} {js : List Nat} : gm ms k = .ins sh es → TreL ms es fs js → Tre ms (.mu k) (.nd sh fs) (k :: js)
inductive TreL (ms : List MO) : List (Str × En) → List (Str × Tr) → List Nat → Prop
  | nil : TreL ms [] [] []
  | cons {f : Str} {x : En} {t : Tr} {es : List (Str × En)} {fs : List (Str × Tr)} {js ks : List Nat} : Tre ms x t js → TreL ms es fs ks → TreL ms ((f, x) :: es) ((f, t) :: fs) (js ++ ks)
end
structure Fr (ms : List MO) (js : List Nat) (ms' : List MO) (js' : List Nat) : Prop where
  len : ms.length ≤ ms'.length
  eq : ∀ i, i < ms.length → i ∉ js → gm ms' i = gm ms i
  new : ∀ i ∈ js', i ∈ js ∨ ms.length ≤ i
theorem Fr.refl {ms : List MO} {js : List Nat} : Fr ms js ms js := ⟨Nat.le_refl _, fun _ _ _ => rfl, fun _ h => .inl h⟩
theorem Fr.trans {ms ms' ms'' : List MO} {js js' js'' : List Nat} (h : Fr ms js ms' js') (g : Fr ms' js' ms'' js'') : Fr ms js ms'' js'' :=
  ⟨Nat.le_trans h.len g.len, fun i hi hn => (g.eq i (Nat.lt_of_lt_of_le hi h.len) fun z => (h.new i z).elim hn fun q => by omega).trans (h.eq i hi hn), fun i hi => by
    have := h.len
    rcases g.new i hi with z | z
    · exact h.new i z
    · exact .inr (by omega)⟩
mutual
theorem Tre.lt {ms : List MO} : ∀ {x : En} {t : Tr} {js : List Nat}, Tre ms x t js → ∀ i ∈ js, i < ms.length
  | _, _, _, .da _, _, h => by cases h
  | _, _, _, .lst g, i, h => by
    cases List.mem_singleton.mp h
    exact gm_lt (by rw [g]; intro z; cases z)
  | _, _, _, .dct g, i, h => by
    cases List.mem_singleton.mp h
    exact gm_lt (by rw [g]; intro z; cases z)
  | _, _, _, .nd g l, i, h => by
    rcases List.mem_cons.mp h with rfl | h
    · exact gm_lt (by rw [g]; intro z; cases z)
    · exact TreL.lt l i h
theorem TreL.lt {ms : List MO} : ∀ {es : List (Str × En)} {fs : List (Str × Tr)} {js : List Nat}, TreL ms es fs js → ∀ i ∈ js, i < ms.length
  | _, _, _, .nil, _, h => by cases h
  | _, _, _, .cons a b, i, h => by
    rcases List.mem_append.mp h with h | h
    · exact Tre.lt a i h
    · exact TreL.lt b i h
end
mutual
theorem Tre.eq {ms ms' : List MO} : ∀ {x : En} {t : Tr} {js : List Nat}, Tre ms x t js → (∀ i ∈ js, gm ms' i = gm ms i) → Tre ms' x t js
  | _, _, _, .da d, _ => .da d
  | _, _, _, .lst g, h => .lst ((h _ (List.mem_singleton.mpr rfl)).trans g)
  | _, _, _, .dct g, h => .dct ((h _ (List.mem_singleton.mpr rfl)).trans g)
  | _, _, _, .nd g l, h => .nd ((h _ List.mem_cons_self).trans g) (TreL.eq l fun i hi => h i (List.mem_cons_of_mem _ hi))
theorem TreL.eq {ms ms' : List MO} : ∀ {es : List (Str × En)} {fs : List (Str × Tr)} {js : List Nat}, TreL ms es fs js → (∀ i ∈ js, gm ms' i = gm ms i) → TreL ms' es fs js
  | _, _, _, .nil, _ => .nil
  | _, _, _, .cons a b, h => .cons (Tre.eq a fun i hi => h i (List.mem_append_left _ hi)) (TreL.eq b fun i hi => h i (List.mem_append_right _ hi))
end
theorem gm_app_lt {ms r : List MO} {i : Nat} (h : i < ms.length) : gm (ms ++ r) i = gm ms i := by rw [gm_app, if_pos h]
theorem Tre.app {ms r : List MO} {x : En} {t : Tr} {js : List Nat} (h : Tre ms x t js) : Tre (ms ++ r) x t js := h.eq fun i hi => gm_app_lt (h.lt i hi)
theorem Fr.app {ms r : List MO} {js : List Nat} : Fr ms js (ms ++ r) js := ⟨by simp, fun i hi _ => gm_app_lt hi, fun _ h => .inl h⟩
theorem Tre.fr {ms ms' : List MO} {x : En} {t : Tr} {js js' ks : List Nat} (h : Tre ms x t ks) (f : Fr ms js ms' js') (d : ∀ i ∈ ks, i ∉ js) : Tre ms' x t ks ∧ ∀ i ∈ ks, i ∉ js' :=
  ⟨h.eq fun i hi => f.eq i (h.lt i hi) (d i hi), fun i hi z => (f.new i z).elim (d i hi) fun q => by have := h.lt i hi; omega⟩
inductive Stp where
  | f (ok : Sh → Bool) (s : Str)
  | i (n : Nat)
def isO (cs : List Str) : Sh → Bool | .obj c => decide (c ∈ cs) | _ => false
def isDc : Sh → Bool | .dct => true | _ => false
abbrev Stp.a (cs : List Str) (f : Str) : Stp := .f (isO cs) f
abbrev Stp.k (f : Str) : Stp := .f isDc f
def rd1 (ms : List MO) (x : En) (s : Stp) : Option En := match x with
  | .mu k => (match gm ms k with
    | .ins sh es => (match s with
      | .f ok f => (match ok sh with | true => getT es f | false => none)
      | .i n => (es[n]?).map (·.2))
    | _ => none)
  | _ => none
def rd (ms : List MO) : En → List Stp → Option En
  | x, [] => some x
  | x, s :: p => match rd1 ms x s with | some y => rd ms y p | none => none
def tget1 (t : Tr) (s : Stp) : Option Tr := match t with
  | .nd sh fs => (match s with
    | .f ok f => (match ok sh with | true => getT fs f | false => none)
    | .i n => (fs[n]?).map (·.2))
  | _ => none
def tget : Tr → List Stp → Option Tr
  | t, [] => some t
  | t, s :: p => match tget1 t s with | some u => tget u p | none => none
def tset1 (t : Tr) (s : Stp) (u : Tr) : Tr := match t with
  | .nd sh fs => (match s with
    | .f _ f => .nd sh (putE f u fs)
    | .i n => (match fs[n]? with | some q => .nd sh (fs.set n (q.1, u)) | none => .nd sh fs))
  | t => t
def tput : Tr → List Stp → Tr → Tr
  | _, [], u => u
  | t, s :: p, u => match tget1 t s with | some v => tset1 t s (tput v p u) | none => t
theorem getT_cons {α : Type} {f g : Str} {x : α} {r : List (Str × α)} : getT ((g, x) :: r) f = if g = f then some x else getT r f := by
  unfold getT
  rw [List.find?_cons]
  by_cases h : g = f
  · rw [if_pos h, show decide ((g, x).1 = f) = true from decide_eq_true h]; rfl
  · rw [if_neg h, show decide ((g, x).1 = f) = false from decide_eq_false h]
theorem TreL.look {ms : List MO} {s : Str} : ∀ {es : List (Str × En)} {fs : List (Str × Tr)} {js : List Nat} {t : Tr}, TreL ms es fs js → getT fs s = some t →
    ∃ x A j B, getT es s = some x ∧ Tre ms x t j ∧ js = A ++ j ++ B ∧ ∀ ms' u j', Tre ms' x u j' → (∀ i ∈ A, gm ms' i = gm ms i) → (∀ i ∈ B, gm ms' i = gm ms i) → TreL ms' es (putE s u fs) (A ++ j' ++ B)
  | _, _, _, t, .nil, e => by cases e
  | _, _, _, t, .cons (f := f) (x := x) (t := t0) (es := es) (fs := fs) (js := j0) (ks := ks) a b, e => by
    rw [getT_cons] at e
    by_cases h : f = s
    · rw [if_pos h] at e
      cases e
      refine ⟨x, [], j0, ks, by rw [getT_cons, if_pos h], a, rfl, fun ms' u j' hu _ hB => ?_⟩
      unfold putE
      rw [if_pos h]
      exact .cons hu (b.eq hB)
    · rw [if_neg h] at e
      obtain ⟨y, A, j, B, h1, h2, h3, h4⟩ := TreL.look b e
      refine ⟨y, j0 ++ A, j, B, by rw [getT_cons, if_neg h]; exact h1, h2, by rw [h3]; simp, fun ms' u j' hu hA hB => ?_⟩
      unfold putE
      rw [if_neg h]
      have := TreL.cons (f := f) (a.eq fun i hi => hA i (List.mem_append_left _ hi)) (h4 ms' u j' hu (fun i hi => hA i (List.mem_append_right _ hi)) hB)
      simpa using this
theorem TreL.item {ms : List MO} : ∀ {n : Nat} {es : List (Str × En)} {fs : List (Str × Tr)} {js : List Nat} {q : Str × Tr}, TreL ms es fs js → fs[n]? = some q →
    ∃ x A j B, es[n]? = some (q.1, x) ∧ Tre ms x q.2 j ∧ js = A ++ j ++ B ∧ ∀ ms' u j', Tre ms' x u j' → (∀ i ∈ A, gm ms' i = gm ms i) → (∀ i ∈ B, gm ms' i = gm ms i) → TreL ms' es (fs.set n (q.1, u)) (A ++ j' ++ B)
  | _, _, _, _, t, .nil, e => by simp at e
  | 0, _, _, _, t, .cons (f := f) (x := x) (t := t0) (es := es) (fs := fs) (js := j0) (ks := ks) a b, e => by
    simp at e
    subst e
    exact ⟨x, [], j0, ks, rfl, a, rfl, fun ms' u j' hu _ hB => .cons hu (b.eq hB)⟩
  | n + 1, _, _, _, t, .cons (f := f) (x := x) (t := t0) (es := es) (fs := fs) (js := j0) (ks := ks) a b, e => by
    obtain ⟨y, A, j, B, h1, h2, h3, h4⟩ := TreL.item (n := n) b (by simpa using e)
    refine ⟨y, j0 ++ A, j, B, by simpa using h1, h2, by rw [h3]; simp, fun ms' u j' hu hA hB => ?_⟩
    have := TreL.cons (f := f) (a.eq fun i hi => hA i (List.mem_append_left _ hi)) (h4 ms' u j' hu (fun i hi => hA i (List.mem_append_right _ hi)) hB)
    simpa using this
theorem Tre.at1 {ms : List MO} {x : En} {t u : Tr} {s : Stp} {js : List Nat} (h : Tre ms x t js) (e : tget1 t s = some u) : ∃ k sh es fs ks y A j B, x = .mu k ∧ t = .nd sh fs ∧ js = k :: ks ∧ gm ms k = .ins sh es ∧ rd1 ms x s = some y ∧ Tre ms y u j ∧ ks = A ++ j ++ B ∧
    ∀ ms' u' j', Tre ms' y u' j' → gm ms' k = gm ms k → (∀ i ∈ A, gm ms' i = gm ms i) → (∀ i ∈ B, gm ms' i = gm ms i) → Tre ms' x (tset1 t s u') (k :: (A ++ j' ++ B)) := by
  cases h with
  | da d => cases e
  | lst g => cases e
  | dct g => cases e
  | @nd k sh es fs ks g l =>
    cases s with
    | f ok f =>
      unfold tget1 at e
      simp only at e
      cases hok : ok sh with
      | false => rw [hok] at e; cases e
      | true =>
        rw [hok] at e
        obtain ⟨y, A, j, B, h1, h2, h3, h4⟩ := l.look e
        refine ⟨k, sh, es, fs, ks, y, A, j, B, rfl, rfl, rfl, g, ?_, h2, h3, fun ms' u' j' hu hk hA hB => ?_⟩
        · unfold rd1
          simp only
          rw [g]
          simp only [hok]
          exact h1
        · exact .nd (hk.trans g) (h4 ms' u' j' hu hA hB)
    | i n =>
      unfold tget1 at e
      simp only at e
      cases q : fs[n]? with
      | none => rw [q] at e; cases e
      | some z =>
        rw [q] at e
        cases e
        obtain ⟨y, A, j, B, h1, h2, h3, h4⟩ := l.item q
        refine ⟨k, sh, es, fs, ks, y, A, j, B, rfl, rfl, rfl, g, ?_, h2, h3, fun ms' u' j' hu hk hA hB => ?_⟩
        · unfold rd1
          simp only
          rw [g]
          simp only
          rw [h1]; rfl
        · unfold tset1
          simp only
          rw [q]
          exact .nd (hk.trans g) (h4 ms' u' j' hu hA hB)
theorem Tre.at {ms : List MO} : ∀ {p : List Stp} {x : En} {t u : Tr} {js : List Nat}, Tre ms x t js → js.Nodup → tget t p = some u →
    ∃ y ks, rd ms x p = some y ∧ Tre ms y u ks ∧ ks.Nodup ∧ (∀ i ∈ ks, i ∈ js) ∧ ∀ ms' u' ks', Tre ms' y u' ks' → ks'.Nodup → Fr ms ks ms' ks' → ∃ js', Tre ms' x (tput t p u') js' ∧ js'.Nodup ∧ Fr ms js ms' js'
  | [], x, t, u, js, h, hnd, e => by
    cases e
    exact ⟨x, js, rfl, h, hnd, fun _ z => z, fun ms' u' ks' h' nd' f => ⟨ks', h', nd', f⟩⟩
  | s :: p, x, t, u, js, h, hnd, e => by
    unfold tget at e
    cases q : tget1 t s with
    | none => rw [q] at e; cases e
    | some t1 =>
      rw [q] at e
      obtain ⟨k, sh, es, fs, ks0, x1, A, j, B, rfl, rfl, rfl, g, h1, h2, rfl, h4⟩ := h.at1 q
      have hl : ∀ i ∈ k :: (A ++ j ++ B), i < ms.length := h.lt
      obtain ⟨nk, nd1⟩ := List.nodup_cons.mp hnd
      have nd2 : (A ++ j).Nodup := (List.nodup_append.mp nd1).1
      have ndj : j.Nodup := (List.nodup_append.mp nd2).2.1
      obtain ⟨y, ks, r1, r2, r3, r4, r5⟩ := Tre.at h2 ndj e
      refine ⟨y, ks, by unfold rd; rw [h1]; exact r1, r2, r3, fun i hi => List.mem_cons_of_mem _ (List.mem_append_left _ (List.mem_append_right _ (r4 i hi))), fun ms' u' ks' h' nd' f => ?_⟩
      obtain ⟨j', f1, f2, f3⟩ := r5 ms' u' ks' h' nd' f
      have dA : ∀ i ∈ A, i ∉ j := fun i hi z => (List.nodup_append.mp nd2).2.2 i hi i z rfl
      have dB : ∀ i ∈ B, i ∉ j := fun i hi z => (List.nodup_append.mp nd1).2.2 i (List.mem_append_right _ z) i hi rfl
      have dAB : ∀ i ∈ A, i ∉ B := fun i hi z => (List.nodup_append.mp nd1).2.2 i (List.mem_append_left _ hi) i z rfl
      have dk : k ∉ j := fun z => nk (List.mem_append_left _ (List.mem_append_right _ z))
      have lA : ∀ i ∈ A, i < ms.length := fun i hi => hl i (List.mem_cons_of_mem _ (List.mem_append_left _ (List.mem_append_left _ hi)))
      have lB : ∀ i ∈ B, i < ms.length := fun i hi => hl i (List.mem_cons_of_mem _ (List.mem_append_right _ hi))
      have lk : k < ms.length := hl k List.mem_cons_self
      have nj : ∀ i, i < ms.length → i ∉ j → i ∉ j' := fun i hi hn z => (f3.new i z).elim hn fun q => by omega
      refine ⟨k :: (A ++ j' ++ B), ?_, ?_, f3.len, fun i hi hn => ?_, fun i hi => ?_⟩
      · unfold tput
        rw [q]
        exact h4 ms' _ j' f1 (f3.eq k lk dk) (fun i hi => f3.eq i (lA i hi) (dA i hi)) fun i hi => f3.eq i (lB i hi) (dB i hi)
      · refine List.nodup_cons.mpr ⟨fun z => ?_, List.nodup_append.mpr ⟨List.nodup_append.mpr ⟨(List.nodup_append.mp nd2).1, f2, fun a ha b hb e => ?_⟩, (List.nodup_append.mp nd1).2.1, fun a ha b hb e => ?_⟩⟩
        · rcases List.mem_append.mp z with z | z
          · rcases List.mem_append.mp z with z | z
            · exact nk (List.mem_append_left _ (List.mem_append_left _ z))
            · exact nj k lk dk z
          · exact nk (List.mem_append_right _ z)
        · subst e; exact nj a (lA a ha) (dA a ha) hb
        · subst e
          rcases List.mem_append.mp ha with ha | ha
          · exact dAB a ha hb
          · exact nj a (lB a hb) (dB a hb) ha
      · exact f3.eq i hi fun z => hn (List.mem_cons_of_mem _ (List.mem_append_left _ (List.mem_append_right _ z)))
      · rcases List.mem_cons.mp hi with rfl | hi
        · exact .inl List.mem_cons_self
        · rcases List.mem_append.mp hi with hi | hi
          · rcases List.mem_append.mp hi with hi | hi
            · exact .inl (List.mem_cons_of_mem _ (List.mem_append_left _ (List.mem_append_left _ hi)))
            · rcases f3.new i hi with z | z
              · exact .inl (List.mem_cons_of_mem _ (List.mem_append_left _ (List.mem_append_right _ z)))
              · exact .inr z
          · exact .inl (List.mem_cons_of_mem _ (List.mem_append_right _ hi))
theorem Tre.nds {ms : List MO} {x : En} {sh : Sh} {fs : List (Str × Tr)} {js : List Nat} (h : Tre ms x (.nd sh fs) js) : ∃ k es ks, x = .mu k ∧ gm ms k = .ins sh es ∧ TreL ms es fs ks ∧ js = k :: ks := by cases h; exact ⟨_, _, _, rfl, by assumption, by assumption, rfl⟩
theorem gm_sm_self {ms : List MO} {k : Nat} {m : MO} (h : k < ms.length) : gm (sm ms k m) k = m := by rw [gm_sm, if_pos ⟨rfl, h⟩]
theorem gm_sm_ne {ms : List MO} {k i : Nat} {m : MO} (h : k ≠ i) : gm (sm ms k m) i = gm ms i := by rw [gm_sm, if_neg fun z => h z.1]
theorem gm_lt' {ms : List MO} {j : Nat} {m : MO} (g : gm ms j = m) (h : m ≠ .gone) : j < ms.length := gm_lt (by rw [g]; exact h)
theorem TreL.putE {ms : List MO} {f : Str} {y : En} {u : Tr} {jy : List Nat} (hy : Tre ms y u jy) : ∀ {es : List (Str × En)} {fs : List (Str × Tr)} {js : List Nat}, TreL ms es fs js →
    ∃ js', TreL ms (putE f y es) (DL.putE f u fs) js' ∧ (∀ i ∈ js', i ∈ js ∨ i ∈ jy) ∧ (js.Nodup → jy.Nodup → (∀ i ∈ jy, i ∉ js) → js'.Nodup)
  | _, _, _, .nil => ⟨jy ++ [], .cons hy .nil, fun i h => by simpa using h, fun _ h _ => by simpa using h⟩
  | _, _, _, .cons (f := g) (x := x) (t := t) (es := es) (fs := fs) (js := j0) (ks := ks) a b => by
    unfold DL.putE
    by_cases h : g = f
    · rw [if_pos h, if_pos h]
      refine ⟨jy ++ ks, .cons hy b, fun i hi => ?_, fun h1 h2 h3 => List.nodup_append.mpr ⟨h2, (List.nodup_append.mp h1).2.1, fun p hp q hq e => h3 p hp (by rw [e]; exact List.mem_append_right _ hq)⟩⟩
      rcases List.mem_append.mp hi with z | z
      · exact .inr z
      · exact .inl (List.mem_append_right _ z)
    · rw [if_neg h, if_neg h]
      obtain ⟨js', h1, h2, h3⟩ := TreL.putE hy b
      refine ⟨j0 ++ js', .cons a h1, fun i hi => ?_, fun n1 n2 n3 => List.nodup_append.mpr ⟨(List.nodup_append.mp n1).1, h3 (List.nodup_append.mp n1).2.1 n2 fun i hi z => n3 i hi (List.mem_append_right _ z), fun p hp q hq e => ?_⟩⟩
      · rcases List.mem_append.mp hi with z | z
        · exact .inl (List.mem_append_left _ z)
        · exact (h2 i z).imp (List.mem_append_right _) id
      · subst e
        rcases h2 p hq with z | z
        · exact (List.nodup_append.mp n1).2.2 p hp p z rfl
        · exact n3 p z (List.mem_append_left _ hp)
theorem TreL.any {ms : List MO} {f : Str} : ∀ {es : List (Str × En)} {fs : List (Str × Tr)} {js : List Nat}, TreL ms es fs js → (es.any fun q => decide (q.1 = f)) = (fs.any fun q => decide (q.1 = f))
  | _, _, _, .nil => rfl
  | _, _, _, .cons a b => by rw [List.any_cons, List.any_cons, TreL.any b]
theorem TreL.keys {ms : List MO} : ∀ {es : List (Str × En)} {fs : List (Str × Tr)} {js : List Nat}, TreL ms es fs js → es.map (·.1) = fs.map (·.1)
  | _, _, _, .nil => rfl
  | _, _, _, .cons a b => by rw [List.map_cons, List.map_cons, TreL.keys b]
theorem TreL.snoc {ms : List MO} {f : Str} {y : En} {u : Tr} {jy : List Nat} (hy : Tre ms y u jy) : ∀ {es : List (Str × En)} {fs : List (Str × Tr)} {js : List Nat}, TreL ms es fs js → TreL ms (es ++ [(f, y)]) (fs ++ [(f, u)]) (js ++ jy)
  | _, _, _, .nil => by simpa using TreL.cons (f := f) hy .nil
  | _, _, _, .cons (f := g) a b => by
    have := TreL.cons (f := g) a (TreL.snoc (f := f) hy b)
    simpa using this
theorem TreL.mapD {ms : List MO} {f : Str} {d : D} : ∀ {es : List (Str × En)} {fs : List (Str × Tr)} {js : List Nat}, TreL ms es fs js →
    ∃ js', TreL ms (es.map fun q => if q.1 = f then (q.1, .da d) else q) (fs.map fun q => if q.1 = f then (q.1, .da d) else q) js' ∧ js'.Sublist js
  | _, _, _, .nil => ⟨[], .nil, List.Sublist.refl _⟩
  | _, _, _, .cons (f := g) (js := j0) a b => by
    obtain ⟨js', h1, h2⟩ := TreL.mapD (f := f) (d := d) b
    rw [List.map_cons, List.map_cons]
    by_cases h : g = f
    · rw [if_pos h, if_pos h]
      exact ⟨[] ++ js', .cons (.da d) h1, h2.trans (List.sublist_append_right _ _)⟩
    · rw [if_neg h, if_neg h]
      exact ⟨j0 ++ js', .cons a h1, List.Sublist.append (List.Sublist.refl _) h2⟩
theorem Tre.renew {ms : List MO} {k : Nat} {sh : Sh} {es : List (Str × En)} {fs : List (Str × Tr)} {js' : List Nat} (hk : k < ms.length) (hn : k ∉ js') (l : TreL ms es fs js') : Tre (sm ms k (.ins sh es)) (.mu k) (.nd sh fs) (k :: js') :=
  .nd (gm_sm_self hk) (l.eq fun i hi => gm_sm_ne fun z => hn (z ▸ hi))
theorem Fr.sm {ms : List MO} {k : Nat} {m : MO} {js js' : List Nat} (hk : k ∈ js) (h : ∀ i ∈ js', i ∈ js ∨ ms.length ≤ i) : Fr ms js (sm ms k m) js' := ⟨by rw [sm_length]; exact Nat.le_refl _, fun i hi hn => gm_sm_ne fun z => hn (z ▸ hk), h⟩
theorem Tre.keyD {ms : List MO} {x : En} {sh : Sh} {fs : List (Str × Tr)} {js : List Nat} (h : Tre ms x (.nd sh fs) js) (hn : js.Nodup) (f : Str) (d : D) :
    ∃ k es js', x = .mu k ∧ gm ms k = .ins sh es ∧ es.length = fs.length ∧ Tre (sm ms k (.ins sh (putT es f (.da d)))) x (.nd sh (putT fs f (.da d))) js' ∧ js'.Nodup ∧ Fr ms js (sm ms k (.ins sh (putT es f (.da d)))) js' := by
  obtain ⟨k, es, ks, rfl, g, l, rfl⟩ := h.nds
  obtain ⟨hk, hks⟩ := List.nodup_cons.mp hn
  obtain ⟨js', h1, h2⟩ : ∃ js', TreL ms (putT es f (.da d)) (putT fs f (.da d)) js' ∧ js'.Sublist ks := by
    unfold putT
    rw [l.any]
    split
    · exact l.mapD
    · exact ⟨ks ++ [], l.snoc (.da d), by simp⟩
  exact ⟨k, es, k :: js', rfl, g, by have := congrArg List.length l.keys; simpa using this, .renew (gm_lt' g (fun z => nomatch z)) (fun z => hk (h2.subset z)) h1, List.nodup_cons.mpr ⟨fun z => hk (h2.subset z), h2.nodup hks⟩, .sm List.mem_cons_self fun i hi => by
    rcases List.mem_cons.mp hi with rfl | hi
    · exact .inl List.mem_cons_self
    · exact .inl (List.mem_cons_of_mem _ (h2.subset hi))⟩
end DL
namespace DL
open PySem L2 PySem.Spec PyProof.Rows LamX NdefX
structure LF where
  qual : Str
  params : Arguments
  body : Expr
  scope : Scope
  cl : List (Str × Addr)
  c : Addr
abbrev LF.nf (F : LF) : NF := ⟨"<lambda>", F.qual, F.params, [], F.scope, F.cl, F.c⟩
abbrev LF.ob (F : LF) (pm ctv : Value) : Obj := PySem.W.kla_obj "<lambda>" F.qual F.params F.body F.scope F.cl pm F.c ctv
def LmO (f : Addr) (F : LF) : HO := .ext fun h => ∃ pm ctv : Value, h.get? f = some (F.ob pm ctv)
section
variable {X : Cx} {pins : List (Addr × Obj)} {σ : L2.St} {H : Hp} {s : Shared}
theorem inv_lm {F : LF} {t' : Nat} {pm ctv : Value} (I : Inv X pins σ H s) : Inv X pins σ (upd H s.heap.objs.size (LmO s.heap.objs.size F)) { s with heap := s.heap.push (F.ob pm ctv), toks := t' } := by
  have e : (s.heap.push (F.ob pm ctv)).get? s.heap.objs.size = some (F.ob pm ctv) := Heap.get?_push_size _ rfl
  exact I.laid (a := s.heap.objs.size) (fun b u q => Heap.get?_push_of_some _ q) (Nat.le_refl _) ⟨⟨pm, ctv, e⟩, ⟨_, e⟩, fun h1 h2 ⟨p, t, z⟩ st => ⟨p, t, st _ z⟩⟩
def TOk (H : Hp) (q : Str) (ps : Array Value) : Prop := TriplesOk ps.toList ∧ ∀ (p : Pos) (cv : Value), codeAmong p ps.toList = some cv → ∃ c, cv = .ref c ∧ H c = some (CodeO c q)
theorem lm_make {c P : Addr} {ps : Array Value} {params : Arguments} {body : Expr} {scope : Scope} {pos : Pos} {E : Value → Shared → Prop} {Q : Value → Shared → Prop} (I : Inv X pins σ H s) (TB : TabB X.base X.mg c P) (hcode : X.env.code = .ref c)
    (hP : H P = some (.tbl ps)) (hT : TOk H (X.env.qual ++ "<lambda>") ps) (hdef : defaultsOf params X.env = ([], [])) (hfree : ∀ y ∈ scope.names, y.2 = .free → ∃ c, X.env.cells.lookup y.1 = some c)
    (h : ∀ (f c' : Addr) (ps' : Array Value) (H1 : Hp) (s' : Shared), (∀ b o, b ≠ P → H b = some o → H1 b = some o) → H1 P = some (.tbl ps') → TOk H1 (X.env.qual ++ "<lambda>") ps' → (∀ p cv, codeAmong p ps'.toList = some cv → ∃ c, cv = .ref c ∧ (H c = none ∨ codeAmong p ps.toList = some cv)) →
      H1 f = none → H1 c' = some (CodeO c' (X.env.qual ++ "<lambda>")) → Inv X pins σ (upd H1 f (LmO f ⟨X.env.qual ++ "<lambda>", params, body, scope, cloFrom X.env.cells scope.names [], c'⟩)) s' → Q (.ref f) s') :
    wpAny (model X.prog X.w) X.A (eval (.Lambda params body scope pos) X.env) Q E s := by
  obtain ⟨ht, ha⟩ := hT
  refine PySem.W.kla_eval hdef ?_
  have hP0 := I.hok P _ hP
  have hb := TB.bm.keeps I.bk
  rcases hq : codeAmong pos ps.toList with _ | cv
  · refine PySem.W.kla_makeFunction (P := P) (ps := ps) (closure_ok hfree) I.ok.glob (I.mod.glob.keeps I.bk) hcode (TB.code.keeps I.bk) hP0 ht hq TB.gP hb fun c' ctv h' tk hx hge hlt hrec htb => ?_
    obtain ⟨cc, oc, vs, t, ecc, hoc, hd, hv⟩ := hrec
    cases ecc
    have nC := I.hok.fresh hge
    have nPc := ne_of_none hP nC
    have I1 := inv_table (t' := tk) (h' := h') I hP (fun b o n e => hx b o n e) htb hge ⟨oc, vs, t, hoc, hd, hv⟩
    have stay : ∀ b o, b ≠ P → H b = some o → upd (upd H P (.tbl (ps ++ #[rawInt pos.line, rawInt pos.col, .ref c']))) c' (CodeO c' (X.env.qual ++ "<lambda>")) b = some o := fun b o n e => by
      rw [upd_ne (ne_of_none e nC), upd_ne n]; exact e
    have eL : (ps ++ #[rawInt pos.line, rawInt pos.col, .ref c']).toList = ps.toList ++ [rawInt pos.line, rawInt pos.col, .ref c'] := by simp
    have atP : ∀ p cv, codeAmong p (ps ++ #[rawInt pos.line, rawInt pos.col, .ref c']).toList = some cv → codeAmong p ps.toList = some cv ∨ cv = .ref c' := fun p cv e => by
      rw [eL] at e
      exact among_app _ ht e
    refine h h'.objs.size c' _ _ _ stay (by rw [upd_ne nPc, upd_same]) ⟨by rw [eL]; exact TriplesOk_snoc _ _ _ _ ht, fun p cv e => ?_⟩ (fun p cv e => ?_) (I1.hok.fresh (Nat.le_refl _)) upd_same (inv_lm I1)
    · rcases atP p cv e with z | rfl
      · obtain ⟨c0, e1, e2⟩ := ha p cv z
        exact ⟨c0, e1, stay _ _ (fun y => by rw [y, hP] at e2; exact codeO_ne ps (Option.some.inj e2).symm) e2⟩
      · exact ⟨_, rfl, upd_same⟩
    · rcases atP p cv e with z | rfl
      · obtain ⟨c0, e1, _⟩ := ha p cv z
        exact ⟨c0, e1, .inr z⟩
      · exact ⟨_, rfl, .inl nC⟩
  · obtain ⟨c', rfl, hco⟩ := ha pos cv hq
    refine PySem.W.kla_makeFunctionHit (P := P) (ps := ps) (closure_ok hfree) I.ok.glob (I.mod.glob.keeps I.bk) hcode (TB.code.keeps I.bk) hP0 ht hq hb fun ctv h' tk hx hsz => ?_
    have I1 : Inv X pins σ H { s with heap := h', toks := tk } := I.kept hx
    refine h h'.objs.size c' ps H _ (fun _ _ _ e => e) hP ⟨ht, ha⟩ (fun p cv e => ?_) (I1.hok.fresh (Nat.le_refl _)) hco (inv_lm I1)
    obtain ⟨c0, e1, _⟩ := ha p cv e
    exact ⟨c0, e1, .inr e⟩
end
theorem lm_call {P : Program} {w : World} {K : PySem.W.Frag} {mg : Str → Option Value} {base : Heap} {k : Nat} {f : Addr} {F : LF} {N ps fr : List Str} {A : Around} {outer : List Env} {s : Shared} {H : Hp} {us : List Value} {vs : List V} {ws : List (Option V)} {te : TE} {Q : VK} {E : XK}
    (S : NScope N ps fr F.scope) (hb : ∀ pm ctv, bindArgs (PySem.W.kla_fn "<lambda>" F.qual F.params F.body F.scope F.cl pm (.ref F.c) ctv) ⟨us, []⟩ = pure (ps.zip us)) (hr : Room (k + 1) A) (e0 : Env0 P w K mg base A outer s H)
    (hf : H f = some (LmO f F)) (hc : H F.c = some (CodeO F.c F.qual)) (C : CellsAt F.cl fr ws s.heap H) (r : Vals vs us) (hl : vs.length = ps.length)
    (pe : PE (ncx CX0 P w K mg base N F.nf f A outer s H E) F.body te) (q : te (startF N vs ws) H Q) : codeAny (model P w) A (.call (.ref f) ⟨us, []⟩) (CR CX0 outer P w H s Q E) s := by
  obtain ⟨⟨pm, ctv, ho⟩, _, _⟩ := e0.hok f _ hf
  have lim : s.heap.NoLimit := e0.mod.nolimit.keeps fun b o e => (e0.bs b o e).1
  refine PySem.W.kla_callFunE hr.depth ho rfl S.co S.gen rfl (codeO_at e0.hok hc) ?_
  rw [hb]
  refine wpAny_pure (wpAny_newFunctionEnv S.nocell (fun ⟨n, _⟩ hy => S.par n (List.of_mem_zip hy).1) (fun h₁ hns hsb => ⟨lim.fresh _ hsb, ?_⟩) S.kind)
  have kp : ∀ b o, s.heap.get? b = some o → h₁.get? b = some o := fun b o e => hsb.extBut b o (Nat.ne_of_lt (Heap.lt_size e)) (Heap.get?_push_of_some _ e)
  have I : Inv (ncx CX0 P w K mg base N F.nf f A outer s H E) [] (startF N vs ws) H { s with heap := h₁, toks := s.toks + (ps.zip us).length } := inv_startN S hr.hd e0 hl r C hns kp
  show codeAny _ _ (.expr F.body (envF F.nf f s.heap.objs.size)) _ _
  refine PySem.W.kla_codeExpr (wpAny_mono (pe.run [] _ _ H Q I q) (fun v s' ⟨w', H', J, rv, hq⟩ => ⟨w', H', J.os, J.bare, J.base, J.hok, rv, hq⟩) fun e s' hq => hq)
structure WR (K : PySem.W.Frag) (A : Addr → Prop) (H : Hp) (ws : List (Option V)) (cs : List En) : Prop where
  len : ws.length = cs.length
  at_ : ∀ i, gt cs i = .no ∨ ∃ v d, ws[i]? = some (some v) ∧ gt cs i = .da d ∧ Rp K A H v d
def spLm (K : PySem.W.Frag) (f : Addr) (F : LF) (wb : WE) (key : D → D) (n : Nat) (ws : List (Option V)) : Sp := fun vs H Q _ => H f = some (LmO f F) ∧ H F.c = some (CodeO F.c F.qual) ∧ ∃ (v : V) (d : D) (A : Addr → Prop) (cs : List En), vs = [v] ∧ Rp K A H v d ∧ WR K A H ws cs ∧ (∀ a, A a → H a ≠ none) ∧
  wb ⟨.da d :: (cs ++ nos n), [], 0⟩ (fun _ r => r = .da (key d)) ∧ ∀ (A' : Addr → Prop) (H' : Hp) (v' : V), (∀ a o, H a = some o → H' a = some o) → (∀ a, A a → A' a) → Rp K A' H' v' (key d) → Q v' H'
theorem gt_app_lt : ∀ (l r : List En) (i : Nat), i < l.length → gt (l ++ r) i = gt l i
  | x :: l, r, 0, _ => rfl
  | x :: l, r, i + 1, h => gt_app_lt l r i (by simpa using h)
theorem gt_app_ge : ∀ (l r : List En) (i : Nat), l.length ≤ i → gt (l ++ r) i = gt r (i - l.length)
  | [], r, i, _ => by simp
  | x :: l, r, 0, h => by simp at h
  | x :: l, r, i + 1, h => by
    rw [List.length_cons, Nat.add_sub_add_right]
    exact gt_app_ge l r i (by simpa using h)
theorem lm_run {P : Program} {w : World} {K : PySem.W.Frag} {mg : Str → Option Value} {base : Heap} {k : Nat} {f : Addr} {F : LF} {N fr : List Str} {x : Str} {A : Around} {outer : List Env} {s : Shared} {H : Hp} {u : Value} {v : V} {ws : List (Option V)} {wb : WE} {key : D → D} {n : Nat} {Q : VK} {E : XK}
    (S : NScope N [x] fr F.scope) (hn : N.length = 1 + fr.length + n) (hb : ∀ pm ctv, bindArgs (PySem.W.kla_fn "<lambda>" F.qual F.params F.body F.scope F.cl pm (.ref F.c) ctv) ⟨[u], []⟩ = pure [(x, u)]) (hr : RoomG (k + 1) A) (e0 : Env0 P w K mg base A outer s H)
    (C : CellsAt F.cl fr ws s.heap H) (r : RelV v u) (hbody : ∀ (A : Around) (outer : List Env) (s : Shared) (H : Hp) (E : XK), RoomG k (A.deeper (envF F.nf f s.heap.objs.size)) → DE (ncx CX0 P w K mg base N F.nf f A outer s H E) F.body wb) (q : spLm K f F wb key n ws [v] H Q E) :
    codeAny (model P w) A (.call (.ref f) ⟨[u], []⟩) (CR CX0 outer P w H s Q E) s := by
  obtain ⟨hf, hc, v', d, Av, cs, ev, rd, W, al, hw, hk⟩ := q
  cases ev
  obtain ⟨te, pe, qe⟩ := (hbody A outer s H E ⟨hr.r.deeper _, hr.g⟩).ex
  refine lm_call (us := [u]) (vs := [v]) (ps := [x]) S hb hr.r e0 hf hc C (.cons r .nil) rfl pe ?_
  have hw1 : ws.length = fr.length := C.len
  have hcs : cs.length = fr.length := W.len.symm.trans hw1
  refine qe ⟨H, [], Av⟩ Av [] H _ ⟨.da d :: (cs ++ nos n), [], 0⟩ _ Q ⟨⟨rfl, fun _ => trivial, fun _ _ _ h => (by cases h), fun _ => List.nodup_nil, fun _ _ h => (by cases h), al⟩, ?_, fun i => ?_, fun _ h => h, fun _ _ _ h => h, fun _ _ h => (by cases h), rfl, Nat.le_refl _, fun _ h => .inl h, al⟩ hw ?_
  · show ([v].map some ++ (ws ++ List.replicate (N.length - [v].length - ws.length) none)).length = (.da d :: (cs ++ nos n) : List En).length
    simp [nos_length]
    omega
  · show gt (.da d :: (cs ++ nos n)) i = .no ∨ ∃ v', (some v :: (ws ++ List.replicate (N.length - 1 - ws.length) none))[i]? = some (some v') ∧ ER K Av [] H v' (gt (.da d :: (cs ++ nos n)) i)
    match i with
    | 0 => exact .inr ⟨v, rfl, rd⟩
    | i + 1 =>
      show gt (cs ++ nos n) i = .no ∨ ∃ v', (ws ++ List.replicate (N.length - 1 - ws.length) none)[i]? = some (some v') ∧ ER K Av [] H v' (gt (cs ++ nos n) i)
      by_cases hi : i < cs.length
      · rw [gt_app_lt _ _ _ hi]
        rcases W.at_ i with z | ⟨v1, d1, z1, z2, z3⟩
        · exact .inl z
        · exact .inr ⟨v1, by rw [List.getElem?_append_left (by rw [W.len]; exact hi)]; exact z1, by rw [z2]; exact z3⟩
      · rw [gt_app_ge _ _ _ (by omega)]; exact .inl (gt_nos _ _)
  · intro A' own' H' v' s' y R' U' ey hy
    subst hy
    exact hk A' H' v' (fun a o h => R'.fr a o (fun _ z => by cases z) h) R'.ge ey
def tLm (P : Addr) (q : Str) (mk : Addr → LF) : TE := fun _ H Q => ∃ ps, H P = some (.tbl ps) ∧ TOk H q ps ∧ ∀ (f c' : Addr) (ps' : Array Value) (H1 : Hp), (∀ b o, b ≠ P → H b = some o → H1 b = some o) → H1 P = some (.tbl ps') → TOk H1 q ps' →
  (∀ p cv, codeAmong p ps'.toList = some cv → ∃ c, cv = .ref c ∧ (H c = none ∨ codeAmong p ps.toList = some cv)) → H1 f = none → H1 c' = some (CodeO c' q) → Q (.ref f) (upd H1 f (LmO f (mk c')))
theorem pe_lm {X : L2.Cx} {c P : Addr} {params : Arguments} {body : Expr} {scope : Scope} {pos : Pos} (TB : TabB X.base X.mg c P) (hcode : X.env.code = .ref c) (hdef : defaultsOf params X.env = ([], [])) (hfree : X.Ok → ∀ y ∈ scope.names, y.2 = .free → ∃ c, X.env.cells.lookup y.1 = some c) :
    PE X (.Lambda params body scope pos) (tLm P (X.env.qual ++ "<lambda>") fun c' => ⟨X.env.qual ++ "<lambda>", params, body, scope, cloFrom X.env.cells scope.names [], c'⟩) := by
  refine ⟨fun pins s σ H Q I h => ?_⟩
  obtain ⟨ps, hP, hT, h⟩ := h
  exact lm_make I TB hcode hP hT hdef (hfree I.ok) fun f c' ps' H1 s' e1 e2 e3 e4 e5 e6 I1 => ⟨.ref f, _, I1, rfl, h f c' ps' H1 e1 e2 e3 e4 e5 e6⟩
theorem pe_callKs {X : L2.Cx} {x : Str} {id : String} {ks : List Str} {r : L2.St → List V → List V → Hp → VK → Prop} {e : Expr} {es : List Expr} {kws : List Keyword} {t tk : TA} {p pos : Pos}
    (hc : ∀ (pins : List (Addr × Obj)) (s : Shared) (σ : L2.St) (H : Hp) (xs zs : List V) (us ws : List Value) (Q : VK), Inv X pins σ H s → Vals xs us → Vals zs ws → r σ xs zs H Q → wpAny (model X.prog X.w) X.A (PySem.call (.builtin id) us (ks.zip ws)) (EP X pins σ Q) X.xe s)
    (hg : Gl X x) (hm : X.mg x = none) (hv : bootBuiltins x = some (.builtin id)) (ha : PA X (e :: es) t) (hk : PK X kws tk) (hn : x ≠ "__name__" := by decide) (hdb : (x == ("__debug__" : Str)) = false := by decide)
    (he : backTo pos (starEach (e :: es) X.env) = (false, eval e X.env) :: backTo pos (starEach es X.env) := by rfl) (hpl : (backTo pos (starEach (e :: es) X.env)).any (·.1) = false := by rfl)
    (hall : (backToKw pos (keywordEach kws X.env)).all (·.1.isSome) = true := by rfl) (hnone : (backToKw pos (keywordEach kws X.env)).any (·.1.isNone) = false := by rfl) (hks : (backToKw pos (keywordEach kws X.env)).filterMap (·.1) = ks := by rfl) :
    PE X (.Call (.Name x p) (e :: es) kws pos) (fun σ H Q => t σ H fun vs H1 => tk σ H1 fun zs H2 => r σ vs zs H2 Q) := by
  refine ⟨fun pins s σ H Q I h => wpAny_Call_Name_kw (ld_blt I hg hm hv ?_ hn hdb)⟩
  refine PyProof.Rows.callWith_kw (thn (ha.run pos pins s σ H _ I h) fun us s1 ⟨vs, H1, I1, r1, q1⟩ => thn (hk.run pos pins s1 σ H1 _ I1 q1) fun ws s2 ⟨zs, H2, I2, r2, q2⟩ => ?_) he hpl hall hnone
  rw [hks]
  exact hc pins s2 σ H2 vs zs us ws Q I2 r1 r2 q2
def rSortL (K : PySem.W.Frag) (mk : Addr → LF) (wb : WE) (n : Nat) (js : List Nat) : L2.St → List V → List V → Hp → VK → Prop := fun σ vs zs H Q => ∃ (key : D → D) (l f c' : Addr) (its : List V) (kz : List D), vs = [.ref l] ∧ zs = [.ref f] ∧ SqL K H l its ∧ kz.length = its.length ∧ canSort kz ∧
  KeyRun (spLm K f (mk c') wb key n (js.map (slotAt σ))) its [] H fun us H' => DpAll K H' us kz ∧ ∀ p, H' p = none → Q (.ref p) (upd H' p (.lst (sortV its kz)))
section
variable {X : L2.Cx}
theorem sortL_run {k n : Nat} {mk : Addr → LF} {wb : WE} {N fr : List Str} {x : Str} {js : List Nat} (S : ∀ c', NScope N [x] fr (mk c').scope) (hn : N.length = 1 + fr.length + n)
    (hb : ∀ c' pm ctv u, bindArgs (PySem.W.kla_fn "<lambda>" (mk c').qual (mk c').params (mk c').body (mk c').scope (mk c').cl pm (.ref (mk c').c) ctv) ⟨[u], []⟩ = pure [(x, u)]) (hr : RoomG (k + 1) X.A.in1.in1) (hu : X.A.units + 64 < cLine)
    (cp : ∀ c', X.Ok → Caps X (mk c').cl fr js)
    (hbody : ∀ (f c' : Addr) (A : Around) (outer : List Env) (s : Shared) (H : Hp) (E : XK), RoomG k (A.deeper (envF (mk c').nf f s.heap.objs.size)) → DE (ncx CX0 X.prog X.w X.K X.mg X.base N (mk c').nf f A outer s H E) (mk c').body wb)
    (pins : List (Addr × Obj)) (s : Shared) (σ : L2.St) (H : Hp) (vs zs : List V) (us ws : List Value) (Q : VK) (I : Inv X pins σ H s) (r : Vals vs us) (rz : Vals zs ws) (h : rSortL X.K mk wb n js σ vs zs H Q) :
    wpAny (model X.prog X.w) X.A (PySem.call (.builtin "sorted") us ([Str.ofString "key"].zip ws)) (EP X pins σ Q) X.xe s := by
  obtain ⟨key, l, f, c', its, kz, rfl, rfl, hs, hlen, hc, hrun⟩ := h
  obtain rfl := Vals.ref1 r
  obtain ⟨w1, rfl, e1⟩ := vals1 rz
  obtain rfl : w1 = Value.ref f := e1
  obtain ⟨uits, rv, hl, hz⟩ := I.list hs
  have hlv := rv.length
  have size1 : s.heap.objs.size ≤ s.heap.objs.size + 1 := Nat.le_succ _
  have size3 : s.heap.objs.size ≤ s.heap.objs.size + 3 := by omega
  refine KJ.sorted (b := false) (vs := uits) (kz := kz) (f := .ref f)
    (J := fun i s1 ks => ∃ (H1 : Hp) (us1 : List V), Inv X pins σ H1 s1 ∧ FpOk X pins H1 (s.heap.objs.size + 1) ∧ FpOk X pins H1 (s.heap.objs.size + 3) ∧ Vals us1 ks ∧ us1.length = i ∧ KeyRun (spLm X.K f (mk c') wb key n (js.map (slotAt σ))) (its.drop i) us1 H1 fun us H' => DpAll X.K H' us kz ∧ ∀ p, H' p = none → Q (.ref p) (upd H' p (.lst (sortV its kz))))
    hl.isList (by rw [hlen, hlv]) (by rw [← hlv]; exact hz) hc.1 hc.2.1 (fun d hd => ?_) (ksk_s1 _ _) (fun _ => ksk_l1 _ _) (fun _ => ksk_t1 _ _) (fun h' kh => ?_) (fun i s1 ks hJ => ?_) (fun i v hv s1 ks e e1 hJ g3 g1 => ?_) (fun s1 ks hJ => ?_) fun s1 ks hJ h' tk out c kh hg ko => ?_
  · have := depth_le_all hd
    have := hc.2.2.2
    omega
  · exact ⟨H, [], I.kept (t' := s.toks) kh, I.fpOk size1 (I.hok.fresh size1), I.fpOk size3 (I.hok.fresh size3), .nil, rfl, hrun⟩
  · obtain ⟨H1, us1, _, _, _, rr, hl1, _⟩ := hJ
    rw [← rr.length]; exact hl1
  · obtain ⟨H1, us1, I1, f1, f3, rr, hl1, hk⟩ := hJ
    have hi : i < its.length := by rw [hlv]; exact (List.getElem?_eq_some_iff.mp hv).1
    have hx : its[i]? = some its[i] := List.getElem?_eq_getElem hi
    obtain ⟨v', hv', rx⟩ := rv.get hx
    rw [hv] at hv'
    obtain rfl := Option.some.inj hv'
    rw [List.drop_eq_getElem_cons hi] at hk
    have I2 : Inv X ((s.heap.objs.size + 3, seqObj "list" ks.toArray e) :: (s.heap.objs.size + 1, seqObj "list" #[] e1) :: pins) σ H1 s1 := I1.pins_of fun p hp => by
      rcases List.mem_cons.mp hp with rfl | hp
      · exact ⟨g3, f3.1, f3.2.1, f3.2.2.1, fun v z => by cases z⟩
      · rcases List.mem_cons.mp hp with rfl | hp
        · exact ⟨g1, f1.1, f1.2.1, f1.2.2.1, fun v z => by cases z⟩
        · exact I1.pin p (List.mem_append_right _ hp)
    refine wpAny_call (codeAny_mono (lm_run (S c') hn (fun pm ctv => hb c' pm ctv v) hr I1.env0.in1.in1 (cells_of I1 (cp c' I1.ok)) rx (hbody f c') hk) fun rr2 s2 hq => ?_)
    cases rr2 with
    | error er => exact False.elim hq
    | ok fl =>
      cases fl with
      | next => exact False.elim hq
      | brk => exact False.elim hq
      | cont => exact False.elim hq
      | ret u =>
        obtain ⟨vu, H2, I3, ru, hk2⟩ := I2.after hq
        have p3 := I3.pin (s.heap.objs.size + 3, seqObj "list" ks.toArray e) (List.mem_append_right _ (.head _))
        have p1 := I3.pin (s.heap.objs.size + 1, seqObj "list" #[] e1) (List.mem_append_right _ (.tail _ (.head _)))
        refine ⟨p3.1, p1.1, fun h' hsb => ?_⟩
        have I4 : Inv X pins σ H2 s2 := I3.pins_of fun p hp => I3.pin p (List.mem_append_right _ (.tail _ (.tail _ hp)))
        have F3 := FpOk.other f3 p3.2.1
        refine ⟨H2, us1 ++ [vu], I4.turned (it := s.heap.objs.size + 3) (t' := s2.toks) (fun b o hb q => (hsb.2 b hb).trans q) F3.1 F3.2.1 F3.2.2.2.1 F3.2.2.2.2.1 F3.2.2.2.2.2, FpOk.other f1 p1.2.1, F3, rr.append (.cons ru .nil), by rw [List.length_append, hl1]; rfl, hk2⟩
  · obtain ⟨H1, us1, I1, f1, f3, rr, hl1, hk⟩ := hJ
    rw [← hlv, List.drop_length] at hk
    obtain ⟨hd, _⟩ := hk
    obtain ⟨as, hr2⟩ := Dp.readsAll I1 _ _ ks hd rr
    exact reads_each hr2
  · obtain ⟨H1, us1, I1, f1, f3, rr, hl1, hk⟩ := hJ
    rw [← hlv, List.drop_length] at hk
    obtain ⟨hd, q⟩ := hk
    have I2 : Inv X pins σ H1 { s1 with heap := h', toks := tk } := Inv.turned2 I1 kh f1 f3
    have hzl : (its.zip kz).map (·.2) = kz := List.map_snd_zip (by omega)
    have eo := PySem.W.keyedOut_each (R := fun (u : Value) (z : V × D) => RelV z.1 u) (bs := its.zip kz) (·.2) (by rw [hzl]; exact ko) (each_zip2 rv hlen)
    have hol : (sortV its kz).length ≤ sizeLine := by
      unfold sortV
      rw [List.length_map, List.length_mergeSort, List.length_zip]
      omega
    exact ⟨.ref _, upd H1 (s.heap.objs.size + 1) (.lst (sortV its kz)), I2.take (t' := tk) (h' := h') (fun b ob _ e => e) f1 ⟨hol, out, c, vals_each eo, hg⟩, rfl, q _ f1.1⟩
end
def capE : En → En | .da d => .da d | _ => .no
theorem keyRunL {K : PySem.W.Frag} {f : Addr} {F : LF} {wb : WE} {key : D → D} {n : Nat} {js : List Nat} {b : Bd} {σ : L2.St} {s : S} {Qe : List V → Hp → Prop} : ∀ (vs : List V) (ds : List D) (us : List V) (kds : List D) (A : Addr → Prop) (own : List (List Addr)) (H : Hp), Rel K b A own H σ s → H f = some (LmO f F) → H F.c = some (CodeO F.c F.qual) → RpL K A H vs ds → RpL K A H us kds →
    (∀ d ∈ ds, wb ⟨.da d :: (js.map (fun j => capE (gt s.es j)) ++ nos n), [], 0⟩ fun _ r => r = .da (key d)) → (∀ H' us', Rel K b A own H' σ s → Up A own H A own H' → RpL K A H' us' (kds ++ ds.map key) → Qe us' H') → KeyRun (spLm K f F wb key n (js.map (slotAt σ))) vs us H Qe
  | _, _, us, kds, A, own, H, R, hf, hc, .nil, ru, _, fin => fin H us R Up.refl (by rw [List.map_nil, List.append_nil]; exact ru)
  | v :: vs, d :: ds, us, kds, A, own, H, R, hf, hc, .cons rv rt, ru, hk, fin => by
    refine ⟨hf, hc, v, d, A, _, rfl, rv, ⟨by rw [List.length_map, List.length_map], fun i => ?_⟩, R.al, hk d (List.mem_cons_self ..), fun A' H' v' hx hA rx => ?_⟩
    · by_cases hi : i < js.length
      · have e : gt (js.map fun j => capE (gt s.es j)) i = capE (gt s.es js[i]) := by
          clear hk fin
          induction js generalizing i with
          | nil => simp at hi
          | cons j js ih =>
            match i, hi with
            | 0, _ => rfl
            | i + 1, hi => exact ih i (by simpa using hi)
        rw [e]
        cases q : gt s.es js[i] with
        | no => exact .inl rfl
        | mu k => exact .inl rfl
        | da d' =>
          rcases R.sl js[i] with z | ⟨w', z1, z2⟩
          · rw [q] at z; cases z
          · rw [q] at z2
            exact .inr ⟨w', d', by rw [List.getElem?_map, List.getElem?_eq_getElem hi]; exact congrArg some (slotAt_of z1), rfl, z2⟩
      · exact .inl (gt_ge _ _ (by rw [List.length_map]; omega))
    · obtain ⟨R', U'⟩ := R.ext hx
      have kp : Kp A' H' A H' := fun a u n q => ⟨q, fun z => n (hA a z)⟩
      refine keyRunL vs ds (us ++ [v']) (kds ++ [key d]) A own H' R' (hx _ _ hf) (hx _ _ hc) (RpL.mono U'.kp rt) ((RpL.mono U'.kp ru).append (.cons (Rp.mono kp rx) .nil)) (fun d' hd' => hk d' (List.mem_cons_of_mem _ hd')) fun H2 us' R2 U2 r2 => fin H2 us' R2 (U'.trans U2) ?_
      rw [List.map_cons]
      simpa [List.append_assoc] using r2
theorem sm_same : ∀ (l : List MO) (k : Nat), k < l.length → sm l k (gm l k) = l
  | x :: r, 0, _ => rfl
  | x :: r, k + 1, h => congrArg (x :: ·) (sm_same r k (by simpa using h))
section
variable {X : L2.Cx} {a : Expr} {wa wb : WE}
def dSortLm (q : Str) (n : Nat) (js : List Nat) (wb wa : WE) : WE := fun s Ks => wa s fun s1 x => ∃ (ds : List D) (key : D → D) (j : Nat), vw s1 x = some (.list ds) ∧ gm s1.ms j = .tab q ∧ (∀ d ∈ ds, wb ⟨.da d :: (js.map (fun j => capE (gt s1.es j)) ++ nos n), [], 0⟩ fun _ r => r = .da (key d)) ∧ canSort (ds.map key) ∧ Ks s1 (.da (.list (sortKD key ds)))
theorem codeHd_inj {K : PySem.W.Frag} {c P P' : Addr} (h : PySem.W.codeHdIn K c P = true) (h' : PySem.W.codeHdIn K c P' = true) : P = P' := by
  unfold PySem.W.codeHdIn at h h'
  split at h
  · rename_i vs _ hk
    rw [hk] at h'
    simp only [Bool.and_eq_true] at h h'
    obtain ⟨⟨⟨⟨⟨e1, _⟩, _⟩, _⟩, _⟩, _⟩ := h
    obtain ⟨⟨⟨⟨⟨e2, _⟩, _⟩, _⟩, _⟩, _⟩ := h'
    split at e1
    · rename_i P1 h11
      rw [h11] at e2
      simp only at e2
      exact (beq_iff_eq.mp e1).symm.trans (beq_iff_eq.mp e2)
    · cases e1
  · cases h
theorem fnAt_top {K : PySem.W.Frag} {q : Str} (h : q ≠ Str.ofString "Book.heap") : fnAt K q = PySem.W.nsIn K mainGlobals q := if_neg h
theorem TabC.inj {K : PySem.W.Frag} {q : Str} {c P c' P' : Addr} (h : TabC K q c P) (h' : TabC K q c' P') : c = c' ∧ P = P' := by
  obtain ⟨f, oc, od, fd, osl, n, l, e, hd⟩ := h
  obtain ⟨f', oc', od', fd', osl', n', l', e', hd'⟩ := h'
  rw [n] at n'; cases n'
  rw [l] at l'; cases l'
  rw [e] at e'; cases e'
  exact ⟨rfl, codeHd_inj hd hd'⟩
theorem de_sortLm {k n : Nat} {q x : Str} {N fr : List Str} (js : List Nat) {params : Arguments} {body : Expr} {scope : Scope} {p lp pos pk : Pos} {c P : Addr} (hC : TabC X.K q c P) (hTB : TabB X.base X.mg c P) (hcd : X.env.code = .ref c) (hq : X.env.qual = q ++ ".<locals>.")
    (Sc : NScope N [x] fr scope) (hn : N.length = 1 + fr.length + n) (hb : ∀ c' pm ctv u, bindArgs (PySem.W.kla_fn "<lambda>" (q ++ ".<locals>." ++ "<lambda>") params body scope (cloFrom X.env.cells scope.names []) pm (.ref c') ctv) ⟨[u], []⟩ = pure [(x, u)])
    (hfree : ∀ y ∈ scope.names, y.2 = .free → X.env.scope.names.lookup y.1 = some .cell ∨ X.env.scope.names.lookup y.1 = some .free) (hfr : ∀ y ∈ fr, (y, NameKind.free) ∈ scope.names) (hjs : js.map (fun j => X.N[j]?) = fr.map some)
    (hr : RoomG (k + 2) X.A) (hg : Gl X "sorted") (hm : X.mg "sorted" = none) (ha : DE X a wa)
    (hbody : ∀ (f c' : Addr) (A : Around) (outer : List Env) (s : Shared) (H : Hp) (E : XK), RoomG k (A.deeper (envF (LF.nf ⟨q ++ ".<locals>." ++ "<lambda>", params, body, scope, cloFrom X.env.cells scope.names [], c'⟩) f s.heap.objs.size)) → DE (ncx CX0 X.prog X.w X.K X.mg X.base N (LF.nf ⟨q ++ ".<locals>." ++ "<lambda>", params, body, scope, cloFrom X.env.cells scope.names [], c'⟩) f A outer s H E) body wb)
    (hdef : defaultsOf params X.env = ([], []) := by rfl) (he : starEach (a :: []) X.env = (false, eval a X.env) :: starEach [] X.env := by rfl)
    (he2 : backTo pos (starEach (a :: []) X.env) = (false, eval a X.env) :: backTo pos (starEach [] X.env) := by rfl) (hpl : (backTo pos (starEach (a :: []) X.env)).any (·.1) = false := by rfl)
    (hall : (backToKw pos (keywordEach [⟨some "key", .Lambda params body scope lp, pk⟩] X.env)).all (·.1.isSome) = true := by rfl) (hnone : (backToKw pos (keywordEach [⟨some "key", .Lambda params body scope lp, pk⟩] X.env)).any (·.1.isNone) = false := by rfl) (hks : (backToKw pos (keywordEach [⟨some "key", .Lambda params body scope lp, pk⟩] X.env)).filterMap (·.1) = [Str.ofString "key"] := by rfl) :
    DE X (.Call (.Name "sorted" p) [a] [⟨some "key", .Lambda params body scope lp, pk⟩] pos) (dSortLm q n js wb wa) := by
  obtain ⟨ta, pa, qa⟩ := (da_cons ha da_nil he).ex
  have hr2 : RoomG (k + 1) X.A.in1.in1 := ⟨⟨hr.r.hd, by have := hr.r.dp; show X.A.depth + 3 * (k + 1) + 5 < _; omega, by have := hr.r.un; show X.A.units + 1 + 1 + 16 * (k + 1) + 200 < _; omega⟩, hr.g⟩
  have hf0 : X.Ok → ∀ y ∈ scope.names, y.2 = .free → ∃ c, X.env.cells.lookup y.1 = some c := fun ok y hy e => (hfree y hy e).elim (fun z => ok.has _ (.inl z)) fun z => ok.has _ (.inr z)
  have pl := pe_lm (params := params) (body := body) (scope := scope) (pos := lp) hTB hcd hdef hf0
  rw [hq] at pl
  refine ⟨_, pe_callKs (sortL_run (mk := fun c' => ⟨q ++ ".<locals>." ++ "<lambda>", params, body, scope, cloFrom X.env.cells scope.names [], c'⟩) (fun _ => Sc) hn hb hr2 (by have := hr.r.un; omega) (fun c' ok => Caps.made ok hfree hfr hjs) hbody) hg hm (by decide +kernel) pa (pk_cons pl pk_nil) (he := he2) (hpl := hpl) (hall := hall) (hnone := hnone) (hks := hks), fun b A own H σ s Ks Q R h kk => ?_⟩
  refine qa b A own H σ s (fun s1 xs => a1 xs fun x => ∃ (ds : List D) (key : D → D) (j : Nat), vw s1 x = some (.list ds) ∧ gm s1.ms j = .tab q ∧ (∀ d ∈ ds, wb ⟨.da d :: (js.map (fun j => capE (gt s1.es j)) ++ nos n), [], 0⟩ fun _ r => r = .da (key d)) ∧ canSort (ds.map key) ∧ Ks s1 (.da (.list (sortKD key ds)))) _ R h fun A1 o1 H1 vs s1 xs R1 U1 E1 h1 => ?_
  obtain ⟨v, x, rfl, e1, ds, key, j, hd, gj, hk, hc, h⟩ := a1_inv E1 h1
  obtain ⟨l, us, rfl, hs, r⟩ := vw_lst R1 e1 hd
  have m := R1.mr j
  rw [gj] at m
  obtain ⟨P', c', ej, hC', ps, hP, ht, ha⟩ := m
  obtain ⟨rfl, rfl⟩ := hC.inj hC'
  refine ⟨ps, hP, ⟨ht, fun p cv e => let ⟨c0, e0, e2, _⟩ := ha p cv e; ⟨c0, e0, e2⟩⟩, fun f cc ps' H2 hx hP2 hT2 hnew hf hcc => ?_⟩
  have nPf : P ≠ f := fun z => by rw [← z, hP2] at hf; cases hf
  have hx2 : ∀ b o, b ≠ P → H1 b = some o → upd H2 f (LmO f ⟨q ++ ".<locals>." ++ "<lambda>", params, body, scope, cloFrom X.env.cells scope.names [], cc⟩) b = some o := fun b o n e => by
    have e2 := hx b o n e
    rw [upd_ne (ne_of_none e2 hf)]; exact e2
  obtain ⟨R2, U2⟩ := R1.chg (H' := upd H2 f (LmO f ⟨q ++ ".<locals>." ++ "<lambda>", params, body, scope, cloFrom X.env.cells scope.names [], cc⟩)) j (.tab q) (fun a o n e => hx2 a o (fun z => n (by rw [ej, z]; simp)) e) (fun a h => by
    rw [ej] at h
    cases List.mem_singleton.mp h
    rw [upd_ne nPf, hP2]; intro z; cases z) (fun u => by
    refine ⟨P, c, ej, hC, ps', by rw [upd_ne nPf]; exact hP2, hT2.1, fun p cv e => ?_⟩
    obtain ⟨c0, e0, e2⟩ := hT2.2 p cv e
    refine ⟨c0, e0, by rw [upd_ne (ne_of_none e2 hf)]; exact e2, ?_⟩
    obtain ⟨c1, e3, e4⟩ := hnew p cv e
    obtain rfl : c0 = c1 := by rw [e0] at e3; cases e3; rfl
    rcases e4 with z | z
    · exact fun y => R1.al _ y z
    · obtain ⟨c2, e5, _, e6⟩ := ha p cv z
      obtain rfl : c0 = c2 := by rw [e0] at e5; cases e5; rfl
      exact e6) (gm_lt (by rw [gj]; intro z; cases z))
  have es : ({ s1 with ms := sm s1.ms j (.tab q) } : S) = s1 := by
    have := sm_same s1.ms j (gm_lt (by rw [gj]; intro z; cases z))
    rw [gj] at this
    rw [this]
  rw [es] at R2
  show rSortL X.K _ wb n js σ [.ref l] [.ref f] _ Q
  obtain ⟨l', us', ep, hs2, r2⟩ := vw_lst R2 (e1.up U2) hd
  cases ep
  obtain ⟨zs, rfl, rfl, hz⟩ := rpl_zip r2
  refine ⟨key, l, f, cc, zs.map (·.1), (zs.map (·.2)).map key, rfl, rfl, hs2, by simp, hc, ?_⟩
  refine keyRunL _ _ [] [] A1 o1 _ R2 upd_same (by rw [upd_ne (ne_of_none hcc hf)]; exact hcc) r2 .nil hk fun H3 us' R3 U3 r3 => ⟨r3.dp (by rw [List.nil_append]; exact hc.2.2.1), fun q' hq' => ?_⟩
  rw [sortV_pairs]
  rw [sortKD_pairs] at h
  refine new_lst R3 ((kk.up (U1.trans U2)).up U3) ?_ hq' h
  exact rpl_map fun z hm => Rp.mono U3.kp (hz z ((List.mergeSort_perm _ _).mem_iff.mp hm))
end
end DL
namespace DL
open PySem L2 PySem.Spec PyProof.Rows LamX NdefX
structure TabsIn (K : PySem.W.Frag) (mg : Str → Option Value) (h : Heap) (ts : List (Str × Addr × Addr)) : Prop where
  at_ : ∀ t ∈ ts, h.get? t.2.2 = some { cls := .none, data := .fields #[] }
  no : ∀ t ∈ ts, K.lookup t.2.2 = none
  tc : ∀ t ∈ ts, TabC K t.1 t.2.1 t.2.2
  nd : (ts.map (·.2.2)).Nodup
def tabH (ts : List (Str × Addr × Addr)) (H : Hp) : Hp := fun b => if b ∈ ts.map (·.2.2) then some (.tbl #[]) else H b
def spLawT (K : PySem.W.Frag) (ts : List (Str × Addr × Addr)) : Sp := fun vs H Q _ => ∃ (a : Addr) (ns : List Int), vs = [.ref a] ∧ SqL K H a (ns.map V.int) ∧ ns.length ≤ 63 ∧ (∀ n ∈ ns, Builtin.Int.intBits n ≤ 1048576) ∧ (∀ t ∈ ts, H t.2.2 = some (.tbl #[])) ∧ ∀ H', Q (.bl true) H'
section
variable {P : Program} {w : World} {K : PySem.W.Frag} {mg mb : Str → Option Value} {s : Shared} {ts : List (Str × Addr × Addr)} {a : Addr} {vs : List Value} {is : List Int}
theorem dict_ne {h : Heap} {b : Addr} {o : Obj} {es : Array DictEntry} {ep : Nat} (e : h.get? b = some o) (d : o.data = .dict es ep) {q : Obj} (e' : h.get? b = some q) (z : ∀ es ep, q.data ≠ .dict es ep) : False := by
  rw [e] at e'
  cases e'
  exact z _ _ d
theorem law_coreT {k : Nat} {fa : Addr} {fd : FuncData} {x : Str} {H : Hp}
    (kin : K.In s.heap) (ng : s.heap.Ns mainGlobals mg) (nb : s.heap.Ns builtinsNs mb) (hbb : ∀ x : Str, x ≠ "__name__" → mb x = bootBuiltins x) (nol : s.heap.NoLimit) (hg : s.gens = #[])
    (hT : TabsIn K mg s.heap ts) (hbm : ∃ (bm : Addr) (ob : Obj), mg "__builtins__" = some (.ref bm) ∧ bm ≠ builtinsNs ∧ s.heap.get? bm = some ob ∧ ob.cls = .type "module" ∧ ob.dict = some builtinsNs ∧ ob.data = .plain)
    (ha : s.heap.get? a = some { cls := .type "list", data := .seq vs.toArray }) (hr : Room k callerA)
    (F : ∀ base : Heap, K.In base → base.Ns mainGlobals mg → (∀ t ∈ ts, TabB base mg t.2.1 t.2.2) → FnOkG P w K mg base CX0 k fa fd [x] (spLawT K ts)) (hbi : ∀ (s : Shared) (u : Value), BindsTo s fd ⟨[u], []⟩ [(x, u)])
    (hO : ∀ b, H b = none ∨ (b = a ∧ ∃ o xs, H b = some (.frz o (.lst xs)))) (hS : SqL K (tabH ts H) a (is.map V.int)) (hl : is.length ≤ 63) (hbits : ∀ n ∈ is, Builtin.Int.intBits n ≤ 1048576) (hok : HOk P w (tabH ts H) s.heap) (hK : H a ≠ none → K.lookup a = none) :
    codeAny (model P w) callerA (.call (.ref fa) ⟨[.ref a], []⟩) (fun r s' => r = .ok (.ret (.bool true)) ∧ OldK s.heap s'.heap ∧ s'.os = s.os ∧ AllBare s'.gens) s := by
  have isT : ∀ b, b ∈ ts.map (·.2.2) → s.heap.get? b = some { cls := .none, data := .fields #[] } := fun b hb => by
    obtain ⟨t, ht, rfl⟩ := List.mem_map.mp hb
    exact hT.at_ t ht
  have isA : ∀ b, tabH ts H b ≠ none → b ∉ ts.map (·.2.2) → b = a := fun b hb n => by
    rcases hO b with z | z
    · exact (hb (by unfold tabH; rw [if_neg n]; exact z)).elim
    · exact z.1
  have free : ∀ {b : Addr} {o : Obj}, s.heap.get? b = some o → (∀ q n, o.data ≠ .seq q n) → o.data ≠ .fields #[] → tabH ts H b = none := fun {b o} e h1 h2 => Classical.byContradiction fun z => by
    by_cases hb : b ∈ ts.map (·.2.2)
    · rw [isT b hb] at e; cases e; exact h2 rfl
    · rw [isA b z hb, ha] at e; cases e; exact h1 _ _ rfl
  have freeD : ∀ {b : Addr} {o : Obj} {es : Array DictEntry} {ep : Nat}, s.heap.get? b = some o → o.data = .dict es ep → tabH ts H b = none := fun e d => free e (fun _ _ z => nomatch d.symm.trans z) fun z => nomatch d.symm.trans z
  have ns : ∀ {b : Addr} {m : Str → Option Value}, s.heap.Ns b m → (hidT s.heap (tabH ts H)).Ns b m := fun {b m} ⟨o, es, ep, e, d, r⟩ => ⟨o, es, ep, hidT_get e (freeD e d), d, r⟩
  have kb : K.In (hidT s.heap (tabH ts H)) := fun b o e => hidT_get (kin b o e) (Classical.byContradiction fun z => by
    by_cases hb : b ∈ ts.map (·.2.2)
    · obtain ⟨t, ht, rfl⟩ := List.mem_map.mp hb
      rw [hT.no t ht] at e; cases e
    · have e2 := isA b z hb
      subst e2
      rw [hK fun y => z (by unfold tabH; rw [if_neg hb]; exact y)] at e
      cases e)
  have TB : ∀ t ∈ ts, TabB (hidT s.heap (tabH ts H)) mg t.2.1 t.2.2 := fun t ht => by
    obtain ⟨_, _, _, _, _, _, _, _, hd⟩ := hT.tc t ht
    have nG : mainGlobals ≠ t.2.2 := fun z => by
      obtain ⟨o, es, ep, e, d, _⟩ := ng
      exact dict_ne e d (by rw [z]; exact hT.at_ t ht) fun _ _ y => by cases y
    refine ⟨PySem.W.codeHd_of_K kb hd, ?_, nG⟩
    obtain ⟨bm, ob, b1, b2, b3, b4, b5, b6⟩ := hbm
    refine ⟨bm, ob, b1, b2, fun z => ?_, fun z => ?_, hidT_get b3 (free b3 (fun _ _ z => nomatch b6.symm.trans z) fun z => nomatch b6.symm.trans z), b4, b5, b6⟩
    · obtain ⟨o, es, ep, e, d, _⟩ := ng
      exact dict_ne e d (by rw [← z]; exact b3) fun _ _ y => nomatch b6.symm.trans y
    · rw [z, hT.at_ t ht] at b3
      cases b3
      exact nomatch b6
  obtain ⟨mc, l1, l2⟩ := nol
  have e0 : Env0 P w K mg (hidT s.heap (tabH ts H)) callerA [] s (tabH ts H) := ⟨rfl, ⟨kb, ns ng, ⟨mb, ns nb, hbb⟩, mc, ns l1, l2⟩, fun b o e => of_hidT e, Nat.le_of_eq (hidT_size _ _), trivial, fun _ z => (by cases z), hok, .of_eq hg⟩
  refine codeAny_mono ((F _ kb (ns ng) TB).run callerA [] s (tabH ts H) ⟨[.ref a], []⟩ [.ref a] [.ref a] (fun v _ => v = .bl true) E0 hr rfl e0 (hbi s (.ref a)) (.cons rfl .nil) ⟨a, is, rfl, hS, hl, hbits, fun t ht => ?_, fun _ => rfl⟩) fun r s' h => ?_
  · show (if t.2.2 ∈ ts.map (·.2.2) then some (HO.tbl #[]) else H t.2.2) = _
    rw [if_pos (List.mem_map.mpr ⟨t, ht, rfl⟩)]
  · match r, h with
    | .error e, h => exact h.elim
    | .ok .next, h => exact h.elim
    | .ok .brk, h => exact h.elim
    | .ok .cont, h => exact h.elim
    | .ok (.ret u), ⟨v, H', os, bare, un, hok', rv, q⟩ =>
      cases (show v = .bl true from q)
      obtain rfl : u = Value.bool true := rv
      have old : ∀ b o, s.heap.get? b = some o → s'.heap.get? b = some o ∨ ∃ t ∈ ts, b = t.2.2 ∧ ∃ more, s'.heap.get? b = some { cls := .none, data := .fields more } := fun b o e => by
        by_cases hb : b ∈ ts.map (·.2.2)
        · obtain ⟨t, ht, rfl⟩ := List.mem_map.mp hb
          obtain ⟨more, z⟩ := un.tbls t.2.2 #[] (by show (if t.2.2 ∈ ts.map (·.2.2) then some (HO.tbl #[]) else H t.2.2) = _; rw [if_pos hb])
          exact .inr ⟨t, ht, rfl, _, hok' _ _ z⟩
        · cases q : tabH ts H b with
          | none => exact .inl (un.keep b o e q (fun z => absurd (show b ∈ ([] : List Addr) from z) (by simp)) (by simp))
          | some u =>
            have hH : H b = some u := by unfold tabH at q; rw [if_neg hb] at q; exact q
            rcases hO b with z | ⟨_, ob, xs, z⟩
            · rw [hH] at z; cases z
            · rw [hH] at z
              cases z
              obtain ⟨e1, _⟩ := hok b _ q
              obtain ⟨e2, _⟩ := hok' b _ (un.frzs b ob _ q)
              rw [e] at e1; cases e1
              exact .inl e2
      refine ⟨rfl, ⟨fun b o e => ?_, fun b o e => ?_⟩, os, bare⟩
      · rcases old b o e with z | ⟨t, ht, rfl, more, z⟩
        · exact .inl z
        · have e2 := hT.at_ t ht
          rw [e] at e2
          cases e2
          obtain ⟨_, _, _, _, _, _, _, _, hd⟩ := hT.tc t ht
          exact .inr (.inl ⟨((PySem.W.codeHd_of_K kin hd).tab (hT.at_ t ht)).isCodeTable, rfl, #[], more, rfl, by rw [Array.empty_append]; exact z⟩)
      · rcases old b o e with z | ⟨_, _, _, more, z⟩
        · exact ⟨_, z⟩
        · exact ⟨_, z⟩
theorem law_callT {k : Nat} {fa : Addr} {fd : FuncData} {x : Str}
    (kin : K.In s.heap) (ng : s.heap.Ns mainGlobals mg) (nb : s.heap.Ns builtinsNs mb) (hbb : ∀ x : Str, x ≠ "__name__" → mb x = bootBuiltins x) (nol : s.heap.NoLimit) (hg : s.gens = #[])
    (hT : TabsIn K mg s.heap ts) (hbm : ∃ (bm : Addr) (ob : Obj), mg "__builtins__" = some (.ref bm) ∧ bm ≠ builtinsNs ∧ s.heap.get? bm = some ob ∧ ob.cls = .type "module" ∧ ob.dict = some builtinsNs ∧ ob.data = .plain)
    (ha : s.heap.get? a = some { cls := .type "list", data := .seq vs.toArray }) (hi : IntsAre vs is) (hl : is.length ≤ 63) (hbits : ∀ n ∈ is, Builtin.Int.intBits n ≤ 1048576) (hr : Room k callerA)
    (F : ∀ base : Heap, K.In base → base.Ns mainGlobals mg → (∀ t ∈ ts, TabB base mg t.2.1 t.2.2) → FnOkG P w K mg base CX0 k fa fd [x] (spLawT K ts)) (hbi : ∀ (s : Shared) (u : Value), BindsTo s fd ⟨[u], []⟩ [(x, u)]) :
    codeAny (model P w) callerA (.call (.ref fa) ⟨[.ref a], []⟩) (fun r s' => r = .ok (.ret (.bool true)) ∧ OldK s.heap s'.heap ∧ s'.os = s.os ∧ AllBare s'.gens) s := by
  have rv := vals_ints hi
  have hsz := hi.length
  have h63 : is.length ≤ sizeLine := Nat.le_trans hl (by decide)
  have aT : a ∉ ts.map (·.2.2) := fun z => by
    obtain ⟨t, ht, e⟩ := List.mem_map.mp z
    have := hT.at_ t ht
    rw [e, ha] at this
    cases this
  have okT : ∀ {H : Hp}, HOk P w H s.heap → (∀ b, H b = none ∨ b = a) → HOk P w (tabH ts H) s.heap := fun {H} h hA b u z => by
    unfold tabH at z
    split at z
    · rename_i hb
      cases z
      obtain ⟨t, ht, rfl⟩ := List.mem_map.mp hb
      exact hT.at_ t ht
    · rename_i hb
      rcases hA b with y | rfl
      · rw [y] at z; cases z
      · refine (h b u z).stay (fun c v _ e => e) (fun c e => ?_) fun c xs e => ?_
        · rcases hA c with y | rfl
          · rw [y] at e; cases e
          · show (if c ∈ ts.map (·.2.2) then some (HO.tbl #[]) else H c) = _
            rw [if_neg hb]; exact e
        · rcases hA c with y | rfl
          · rw [y] at e; cases e
          · show (if c ∈ ts.map (·.2.2) then some (HO.tbl #[]) else H c) = _
            rw [if_neg hb]; exact e
  cases hk : K.lookup a with
  | some o =>
    have e := kin a o hk
    rw [ha] at e
    cases e
    exact law_coreT (H := fun _ => none) kin ng nb hbb nol hg hT hbm ha hr F hbi (fun _ => .inl rfl) (.inr ⟨_, vs.toArray, _, hk, rfl, rfl, rfl, by rw [List.size_toArray, hsz]; exact h63, by simpa using rv⟩) hl hbits (okT (fun b u z => nomatch z) fun _ => .inl rfl) fun z => absurd rfl z
  | none =>
    refine law_coreT (H := fun b => if b = a then some (.frz { cls := .type "list", data := .seq vs.toArray } (.lst (is.map V.int))) else none) kin ng nb hbb nol hg hT hbm ha hr F hbi (fun b => ?_) ?_ hl hbits (okT (fun b u z => ?_) fun b => ?_) (fun _ => hk)
    · by_cases hb : b = a
      · exact .inr ⟨hb, _, _, if_pos hb⟩
      · exact .inl (if_neg hb)
    · refine .inl (.inr ⟨{ cls := .type "list", data := .seq vs.toArray }, ?_⟩)
      unfold tabH
      rw [if_neg aT]
      exact if_pos rfl
    · by_cases hb : b = a
      · subst hb
        cases (if_pos rfl).symm.trans z
        exact ⟨ha, by rw [List.length_map]; exact h63, vs, _, rv, ha⟩
      · exact nomatch (if_neg hb).symm.trans z
    · by_cases hb : b = a
      · exact .inr hb
      · exact .inl (if_neg hb)
end
def LawT (l : PySem.W.OpenLaw) (w : World) (K : PySem.W.Frag) (k : Nat) (x : Str) (mg : Str → Option Value) (fa : Addr) (h : Heap) : Prop :=
  ∃ (fd : FuncData) (ts : List (Str × Addr × Addr)), TabsIn K mg h ts ∧ (∀ (s : Shared) (u : Value), BindsTo s fd ⟨[u], []⟩ [(x, u)]) ∧ ∀ base : Heap, K.In base → base.Ns mainGlobals mg → (∀ t ∈ ts, TabB base mg t.2.1 t.2.2) → FnOkG l.prog w K mg base CX0 k fa fd [x] (spLawT K ts)
theorem walk_byT {l : PySem.W.OpenLaw} {k : Nat} {q : Program} {loose : List Str} {XP : (Str → Option Value) → Heap → Prop} {YP : World → Heap → Prop} {d : DefRec} {K : Params → PySem.W.Frag} {x : Str}
    (hn : l.most = some 63) (hdf : d.params.defaults = []) (hr : Room k callerA) (hY : ∀ (w : World) (h : Heap), YP w h → (K w.params).In h)
    (F : ∀ (w : World) (mg : Str → Option Value) (fa : Addr) (h : Heap), YP w h → (K w.params).In h → h.Ns mainGlobals mg → mg d.name = some (.ref fa) → LawT l w (K w.params) k x mg fa h) :
    PySem.W.WalkO q loose XP YP l.row.toRowW d [] (fun f vs => PySem.call f vs) := by
  refine Att.attach_callB hn hdf fun w _ s₁ mg _ fa _ _ _ _ a _ ns G Y _ _ _ hmg hobj hints hlen hbits hg => ?_
  have kin := hY w _ Y
  obtain ⟨fd, ts, hT, hb, hF⟩ := F w mg fa _ Y kin G.T.g hmg
  exact law_callT kin G.T.g G.T.b G.T.builtins G.T.nolimit hg hT G.T.bmain hobj hints hlen hbits hr hF hb
end DL
namespace DL
open PySem L2 PySem.Spec PyProof.Rows
theorem subE_ne {k j : Nat} {d : D} (h : j ≠ k) : subE k d (.mu j) = .mu j := by
  show (bif Nat.beq j k then En.da d else .mu j) = _
  rw [show Nat.beq j k = false from Bool.eq_false_iff.mpr fun z => h (Nat.eq_of_beq_eq_true z)]
  rfl
theorem isLstS_mk {s : S} {j : Nat} {fs : List (Str × En)} {k : Nat → List (Str × En) → Prop} (g : gm s.ms j = .ins .lst fs) (h : k j fs) : isLstS s (.mu j) k := by
  unfold isLstS
  simp only [g]
  exact h
theorem sm_mid : ∀ (a : List MO) (x y : MO) (b : List MO), sm (a ++ x :: b) a.length y = a ++ y :: b
  | [], _, _, _ => rfl
  | z :: a, x, y, b => congrArg (z :: ·) (sm_mid a x y b)
section
variable {X : Cx} {a b c e : Expr} {wa wb we : WE} {wt : WT} {wg : WG} {pos : Pos} {js : List Nat}
end
theorem mu1_mk {s : S} {k : Nat} {ds : List D} {P : Nat → List D → Prop} (g : gm s.ms k = .lst ds) (h : P k ds) : mu1 s (.mu k) P := by
  unfold mu1
  simp only [g]
  exact h
theorem gm_at0 {ms : List MO} {x : MO} {r : List MO} : gm (ms ++ x :: r) ms.length = x := by
  rw [gm_app, if_neg (Nat.lt_irrefl _), Nat.sub_self]; rfl
theorem gm_at1 {ms : List MO} {x y : MO} {r : List MO} : gm (ms ++ x :: y :: r) (ms.length + 1) = y := by
  rw [gm_app, if_neg (by omega), show ms.length + 1 - ms.length = 1 from by omega]; rfl
theorem clo_lim {ms : List MO} (h : Clo ms) (i : Nat) : limM ms.length (gm ms i) = gm ms i := by
  by_cases q : i < ms.length
  · have := gm_takM ms.length ms.length ms i
    rw [if_pos q, show takM ms.length ms.length ms = ms from h] at this
    exact this.symm
  · rw [gm_ge _ _ (by omega)]; rfl
theorem limF_sub {n k : Nat} {d : D} (hk : n ≤ k) : ∀ {fs : List (Str × En)}, limF n fs = fs → subF k d fs = fs
  | [], _ => rfl
  | (f, x) :: fs, h => by
    have h1 : (f, limE n x) :: limF n fs = (f, x) :: fs := h
    injection h1 with h2 h3
    show (f, subE k d x) :: subF k d fs = _
    rw [limF_sub hk h3]
    injection h2 with _ h2
    cases x with
    | no => rfl
    | da d => rfl
    | mu j =>
      have h2 : (bif Nat.blt j n then En.mu j else .no) = .mu j := h2
      cases q : Nat.blt j n with
      | false => rw [q] at h2; cases h2
      | true =>
        have : j < n := by simpa using q
        rw [subE_ne (by omega)]
theorem clo_sub {ms : List MO} (h : Clo ms) {k : Nat} {d : D} (hk : ms.length ≤ k) (i : Nat) : subM k d (gm ms i) = gm ms i := by
  have := clo_lim h i
  cases q : gm ms i with
  | ins C fs =>
    rw [q] at this
    have h2 : MO.ins C (limF ms.length fs) = .ins C fs := this
    injection h2 with _ h2
    show MO.ins C (subF k d fs) = _
    rw [limF_sub hk h2]
  | _ => rfl
theorem lc_pure {vs : List Nat} {wi : WI} {wg : WG} {wt : WT} {we : WE} {s : S} {Ks : S → En → Prop} (ds : List D) (flt : D → Bool) (g : D → D) (cl : Clo s.ms) (hw : ∀ K : S → List D → Prop, K s ds → wi s K) (hl : ds.length ≤ sizeLine)
    (ht : ∀ d ∈ ds, ∀ (acc : List D) (Kt : List MO → D → Prop) (Kf : List MO → Prop), (flt d = true → ∀ r, Kt (s.ms ++ .lst acc :: r) (g d)) → (flt d = false → ∀ r, Kf (s.ms ++ .lst acc :: r)) →
      wg (.da d) ⟨killL vs s.es, s.ms ++ [.lst acc], s.np⟩ fun s2 => wt s2 fun s3 c => (c = true → we s3 fun s4 x => daI x fun y => Kt s4.ms y) ∧ (c = false → Kf s3.ms))
    (h : Ks s (.da (.list ((ds.filter flt).map g)))) : dLc vs wi wg wt we s Ks := by
  have tk : ∀ r, takM s.ms.length s.ms.length (s.ms ++ r) = s.ms := fun r => cl.app
  refine hw _ ⟨fun i ms acc => ms = s.ms ∧ acc = ((ds.take i).filter flt).map g, ⟨rfl, rfl⟩, fun i d ms acc hd ⟨e1, e2⟩ _ => ?_, fun ms acc ⟨e1, e2⟩ _ => ?_⟩
  · subst e1
    have hi : i < ds.length := (List.getElem?_eq_some_iff.mp hd).1
    have tks : ds.take (i + 1) = ds.take i ++ [d] := by
      rw [List.take_add_one, hd]; rfl
    have al : acc.length < sizeLine := by
      have h1 : acc.length ≤ (ds.take i).length := by
        rw [e2, List.length_map]
        exact List.length_filter_le _ _
      have h2 := List.length_take_le i ds
      omega
    refine ht d (List.mem_of_getElem? hd) acc (fun ms y => acc.length < sizeLine ∧ gm ms s.ms.length = .lst acc ∧ (takM s.ms.length s.ms.length ms = s.ms ∧ acc ++ [y] = ((ds.take (i + 1)).filter flt).map g)) (fun ms => gm ms s.ms.length = .lst acc ∧ (takM s.ms.length s.ms.length ms = s.ms ∧ acc = ((ds.take (i + 1)).filter flt).map g)) (fun q r => ⟨al, gm_at0, tk _, ?_⟩) fun q r => ⟨gm_at0, tk _, ?_⟩
    · rw [tks, List.filter_append, List.map_append, ← e2]
      simp [q]
    · rw [tks, List.filter_append, List.map_append, ← e2]
      simp [q]
  · show Ks ⟨s.es, takM s.ms.length s.ms.length ms, s.np⟩ (.da (.list acc))
    rw [e1, show takM s.ms.length s.ms.length s.ms = s.ms from cl, e2, List.take_length]
    exact h
theorem sFrzV_mk {i k : Nat} {ds : List D} {w : WS} {s : S} {Dd : Dn} (h1 : gt s.es i = .mu k) (h2 : gm s.ms k = .lst ds) (h3 : s.np ≤ k) (h : w (frzS k ds s) Dd) : sFrzV i w s Dd := by
  unfold sFrzV
  rw [h1]
  unfold frzW
  simp only [h2]
  exact ⟨h3, h⟩
theorem hu65 {k : Nat} {A : Around} (hr : RoomG k A) : A.units + 65 < cLine := by
  have := hr.r.un
  omega
section
variable {X : Cx} {a b c e : Expr} {wa wb we : WE} {pos : Pos}
def dIndexDd (wa wb : WE) : WE := fun s Ks => wa s fun s1 x => (∃ ds, vw s1 x = some (.list ds)) ∧ wb s1 fun s2 y => daI y fun d => ∃ (ds : List D) (j : Nat) (z : D), vw s2 x = some (.list ds) ∧ SeqAt.shaped (.list ds) = true ∧ SeqAt.shaped d = true ∧ ds[j]? = some z ∧ PyData.eqv z d = true ∧
  (∀ (m : Nat) (z' : D), m < j → ds[m]? = some z' → PyData.eqv z' d = false) ∧ Ks s2 (.da (.int (j : Nat)))
theorem de_indexDd {apos cpos : Pos} (hu : X.A.units + 65 < cLine) (ho : DE X a wa) (hi : DE X b wb)
    (hbase : attributeBase a "index" X.env (eval a X.env) = eval a X.env := by rfl)
    (hfew : ((backTo cpos (starEach (b :: []) X.env)).all (fun x => !x.1) && (backToKw cpos (keywordEach [] X.env)).all (fun x => x.1.isSome)
      && decide ((b :: []).length + ([] : List Keyword).length + (if ([] : List Keyword).isEmpty then 0 else 1) < 30)) = true := by rfl)
    (hline : (apos.endLine == cpos.line) = true := by rfl) (hs : starEach (b :: []) X.env = (false, eval b X.env) :: starEach [] X.env := by rfl) (hplain : (backTo cpos (starEach [] X.env)).any (·.1) = false := by rfl) :
    DE X (.Call (.Attribute a "index" apos) [b] [] cpos) (dIndexDd wa wb) := by
  obtain ⟨ta, pa, qa⟩ := ho.ex
  obtain ⟨tr, pr, qr⟩ := (da_cons hi da_nil hs).ex
  refine ⟨_, pe_bm PySem.F.plainAttrs_list PySem.F.slot_list_index PySem.F.type_list_index (mt_indexD hu) pa pr hbase hfew hline hs hplain, fun b A own H σ s Ks Q R h k => ?_⟩
  show ta σ H fun x H1 => tyV X.K "list" x H1 ∧ tr σ H1 fun xs H2 => rIndexD X.K x xs H2 Q
  refine qa _ _ _ _ _ _ _ _ R h fun A1 o1 H1 v1 s1 x1 R1 U1 E1 h1 => ?_
  obtain ⟨⟨ds, hd⟩, h1⟩ := h1
  obtain ⟨p, us, rfl, l1, r1⟩ := vw_lst R1 E1 hd
  refine ⟨.inl ⟨rfl, _, l1⟩, ?_⟩
  refine qr _ _ _ _ _ _ (fun s2 xs => a1 xs fun y => daI y fun d => ∃ (ds : List D) (j : Nat) (z : D), vw s2 x1 = some (.list ds) ∧ SeqAt.shaped (.list ds) = true ∧ SeqAt.shaped d = true ∧ ds[j]? = some z ∧ PyData.eqv z d = true ∧
    (∀ (m : Nat) (z' : D), m < j → ds[m]? = some z' → PyData.eqv z' d = false) ∧ Ks s2 (.da (.int (j : Nat)))) _ R1 h1 fun A2 o2 H2 vs s2 xs R2 U2 E2 h2 => ?_
  obtain ⟨v, y, rfl, E3, h2⟩ := a1_inv E2 h2
  obtain ⟨d, rfl, ds2, j, z, hv, sl, sd, hj, he, hno, h2⟩ := daI_inv h2
  have hl := vw_dp R2 (E1.up U2) hv (SeqAt.canLay_of_shaped sl)
  exact ⟨p, v, d, ds2, j, z, rfl, rfl, hl, Rp.dp E3 (SeqAt.canLay_of_shaped sd), sl, sd, hj, he, hno, (k.up (U1.trans U2)).da R2 Up.refl (.int _) h2⟩
end
def rCountD (K : PySem.W.Frag) : V → List V → Hp → VK → Prop := fun x xs H Q => ∃ (a : Addr) (y : V) (d : PyData) (ds : List PyData), x = V.ref a ∧ xs = [y] ∧ Dp K H (V.ref a) (.list ds) ∧ Dp K H y d ∧
  SeqAt.shaped (.list ds) = true ∧ SeqAt.shaped d = true ∧ Q (.int ((ds.countP fun z => PyData.eqv z d : Nat) : Int)) H
section
variable {X : Cx} {a b c e : Expr} {wa wb we : WE} {pos : Pos}
theorem mt_countD (hu : X.A.units + 65 < cLine) : MtR X "list.count" (rCountD X.K) := by
  intro pins s σ H x xs v us Q I rx rxs h
  obtain ⟨a, y, d, ds, rfl, rfl, hl, hy, sl, sd, q⟩ := h
  cases rx
  cases rxs with
  | cons ry rt =>
    rename_i uy ut
    cases rt
    obtain ⟨bs, r1⟩ := Dp.reads I d y uy hy ry
    have hxs : PyData.canLayAll0 ds = true := SeqAt.canLay_of_shaped sl
    have hroom : X.A.units + 1 + min (PyData.depthAll ds) d.depth < cLine := room_in_shaped sd hu
    cases hl with
    | lst hs ha =>
      obtain ⟨its, rv, ⟨⟨cls, dd, data, sls⟩, n, ho, hc, hdn, hdt⟩, hlen⟩ := I.list hs
      simp only at hc hdt
      subst hc hdt
      obtain ⟨as, h4⟩ := Dp.readsAll I ds _ its ha rv
      have hmap : its.map (SeqAt.readOf s.heap) = ds := SeqAt.readsAll_map ds its as hxs h4
      refine call_meets PySem.F.slot_list_count ⟨_, ho, rfl⟩ PySem.F.entry_list_count (PySem.F.args_list_count_2 _ _)
        (SeqAt.list_countAt a its.toArray n dd sls uy (fun u => PyData.eqv (SeqAt.readOf s.heap u) d)) ⟨ho, SeqAt.items_eqAt (vs := its.toArray) (show ReadsAll s.heap its.toArray.toList ds as from h4) r1 hxs (SeqAt.canLay_of_shaped sd) hroom, ?_⟩
      have ec : its.toArray.toList.countP (fun u => PyData.eqv (SeqAt.readOf s.heap u) d) = ds.countP fun z => PyData.eqv z d := by
        rw [← hmap, List.countP_map]
        rfl
      rw [ec]
      exact ⟨.int ((ds.countP fun z => PyData.eqv z d : Nat) : Int), H, I.tok _, ⟨_, rfl⟩, q⟩
def dCountDd (wa wb : WE) : WE := fun s Ks => wa s fun s1 x => (∃ ds, vw s1 x = some (.list ds)) ∧ wb s1 fun s2 y => daI y fun d => ∃ (ds : List D), vw s2 x = some (.list ds) ∧ SeqAt.shaped (.list ds) = true ∧ SeqAt.shaped d = true ∧ Ks s2 (.da (.int ((ds.countP fun z => PyData.eqv z d : Nat) : Int)))
theorem de_countDd {apos cpos : Pos} (hu : X.A.units + 65 < cLine) (ho : DE X a wa) (hi : DE X b wb)
    (hbase : attributeBase a "count" X.env (eval a X.env) = eval a X.env := by rfl)
    (hfew : ((backTo cpos (starEach (b :: []) X.env)).all (fun x => !x.1) && (backToKw cpos (keywordEach [] X.env)).all (fun x => x.1.isSome)
      && decide ((b :: []).length + ([] : List Keyword).length + (if ([] : List Keyword).isEmpty then 0 else 1) < 30)) = true := by rfl)
    (hline : (apos.endLine == cpos.line) = true := by rfl) (hs : starEach (b :: []) X.env = (false, eval b X.env) :: starEach [] X.env := by rfl) (hplain : (backTo cpos (starEach [] X.env)).any (·.1) = false := by rfl) :
    DE X (.Call (.Attribute a "count" apos) [b] [] cpos) (dCountDd wa wb) := by
  obtain ⟨ta, pa, qa⟩ := ho.ex
  obtain ⟨tr, pr, qr⟩ := (da_cons hi da_nil hs).ex
  refine ⟨_, pe_bm PySem.F.plainAttrs_list PySem.F.slot_list_count PySem.F.type_list_count (mt_countD hu) pa pr hbase hfew hline hs hplain, fun b A own H σ s Ks Q R h k => ?_⟩
  show ta σ H fun x H1 => tyV X.K "list" x H1 ∧ tr σ H1 fun xs H2 => rCountD X.K x xs H2 Q
  refine qa _ _ _ _ _ _ _ _ R h fun A1 o1 H1 v1 s1 x1 R1 U1 E1 h1 => ?_
  obtain ⟨⟨ds, hd⟩, h1⟩ := h1
  obtain ⟨p, us, rfl, l1, r1⟩ := vw_lst R1 E1 hd
  refine ⟨.inl ⟨rfl, _, l1⟩, ?_⟩
  refine qr _ _ _ _ _ _ (fun s2 xs => a1 xs fun y => daI y fun d => ∃ (ds : List D), vw s2 x1 = some (.list ds) ∧ SeqAt.shaped (.list ds) = true ∧ SeqAt.shaped d = true ∧ Ks s2 (.da (.int ((ds.countP fun z => PyData.eqv z d : Nat) : Int)))) _ R1 h1 fun A2 o2 H2 vs s2 xs R2 U2 E2 h2 => ?_
  obtain ⟨v, y, rfl, E3, h2⟩ := a1_inv E2 h2
  obtain ⟨d, rfl, ds2, hv, sl, sd, h2⟩ := daI_inv h2
  have hl := vw_dp R2 (E1.up U2) hv (SeqAt.canLay_of_shaped sl)
  exact ⟨p, v, d, ds2, rfl, rfl, hl, Rp.dp E3 (SeqAt.canLay_of_shaped sd), sl, sd, (k.up (U1.trans U2)).da R2 Up.refl (.int _) h2⟩
end
end DL
namespace DL
open PySem L2 PySem.Spec PyProof.Rows
section
variable {prog : Program} {w : World} {A : Around} {E : Value → Shared → Prop} {s : Shared}
end
section
variable {P : Program} {w : World} {A : Around} {E : Value → Shared → Prop} {s : Shared}
end
section
variable {X : L2.Cx} {a : Expr} {wa : WE} {pos : Pos}
end
section
variable {prog : Program} {w : World} {A : Around} {E : Value → Shared → Prop} {s : Shared}
end
section
variable {X : L2.Cx} {e : Expr} {we : WE}
end
section
variable {X : L2.Cx} {a b : Expr} {wa wb : WE} {pos : Pos}
end
end DL
namespace DL
open PySem L2 PySem.Spec PyProof.Rows
section
variable {K : PySem.W.Frag} {b : Bd} {A A0 : Addr → Prop} {own : List (List Addr)} {H : Hp} {σ : L2.St} {s : S} {ks : List Nat}
end
section
variable {X : Cx} {e : Expr} {es : List Expr} {wr : WA}
end
section
variable {X : L2.Cx} {a : Expr} {wa : WE} {pos : Pos}
end
theorem Rel.base {K : PySem.W.Frag} {b : Bd} {A : Addr → Prop} {own : List (List Addr)} {H : Hp} {σ : L2.St} {s : S} (R : Rel K b A own H σ s) : Rel K ⟨H, own, A⟩ A own H σ ⟨s.es, s.ms, s.ms.length⟩ :=
  ⟨R.toOwn, R.len, R.sl, fun _ h => h, fun _ _ _ h => h, fun k _ h => .inl ⟨k, h⟩, List.take_of_length_le (by show own.length ≤ s.ms.length; rw [R.ol]; exact Nat.le_refl _), by show s.ms.length ≤ own.length; rw [R.ol]; exact Nat.le_refl _, fun _ h => .inl h, R.al⟩
section
variable {X : L2.Cx} {sts : List Stmt} {w : WS} {pos : Pos}
end
end DL
namespace DL
open PySem L2 PySem.Spec PyProof.Rows LamX NdefX
section
variable {X : L2.Cx} {a e o : Expr} {es : List Expr} {wa we : WE} {wr : WA}
end
section
variable {X : L2.Cx} {a e o : Expr} {es : List Expr} {wa we : WE} {wr : WA}
end
structure FunL (K : PySem.W.Frag) (x qual : Str) (st : Stmt) (f : Addr) (fd : FuncData) (c : Addr) : Prop where
  ex : ∃ (oc : Value) (od : Option Addr) (kV doc pm : Value) (an : Option Addr) (ct : Value) (osl : Array (Option Value)), fd = PySem.W.fnOf x qual (defArgs st) (defBody st) (defScope st) .none kV doc pm an (.ref c) ct ∧ K.lookup f = some ⟨oc, od, .func fd, osl⟩ ∧ PySem.W.codeIn K (.ref c) qual = true
section
variable {P : Program} {w : World} {K : PySem.W.Frag} {mg : Str → Option Value} {base : Heap}
theorem fun_okL {x qual : Str} {st : Stmt} {f c : Addr} {fd : FuncData} {N ps : List Str} {k : Nat} {sp : L2.Sp} (F : FunL K x qual st f fd c) (S : FnScope N ps (defScope st)) (len : ∀ vs H Q E, sp vs H Q E → vs.length = ps.length)
    (hb : ∀ (A : Around) (outer : List Env) (s : Shared) (H : Hp) (vs : List V) (Q : VK) (E : XK), RoomG k (A.deeper (PyProof.Rows.envOfC qual (defScope st) s.heap.objs.size f (.ref c))) → sp vs H Q E →
      ∃ t, PSs (cxOf CX0 P w K mg base N qual (defScope st) f (.ref c) A outer s H E).nox (defBody st) t ∧ t { nx := fun _ H' => Q .non H', rt := Q } (start N vs) H) : FnOkG P w K mg base CX0 (k + 1) f fd ps sp := by
  obtain ⟨oc, od, kV, doc, pm, an, ct, osl, rfl, lk, hcd⟩ := F.ex
  refine fn_byG lk hcd S len fun A outer s H vs Q E hr hg hs => ?_
  obtain ⟨t, h, q⟩ := hb A outer s H vs Q E ⟨hr, hg⟩ hs
  exact ⟨t, h.nox, q⟩
theorem fn_dataL {x qual : Str} {st : Stmt} {f c : Addr} {fd : FuncData} {N ps : List Str} {k : Nat} {sp : SpD} (F : FunL K x qual st f fd c) (Sc : FnScope N ps (defScope st)) (W : WS)
    (hb : ∀ (A : Around) (outer : List Env) (s : Shared) (H : Hp) (E : XK), RoomG k (A.deeper (PyProof.Rows.envOfC qual (defScope st) s.heap.objs.size f (.ref c))) → DSs (cxOf CX0 P w K mg base N qual (defScope st) f (.ref c) A outer s H E).nox (defBody st) W)
    (hsp : ∀ xs ms Ks, sp xs ms Ks → xs.length = ps.length → W ⟨xs ++ nos (N.length - ps.length), ms, ms.length⟩ (endT Ks)) : FnOkG P w K mg base CX0 (k + 1) f fd ps (spOf K ps.length sp) := by
  refine fun_okL F Sc (fun vs H Q E h => ?_) (fun A outer s H vs Q E hr h => ?_)
  · obtain ⟨_, _, _, _, _, hn, _⟩ := h
    exact hn
  · obtain ⟨Av, own, xs, ms, Ks, hn, he, ho, hs, k1⟩ := h
    obtain ⟨t, pt, qt⟩ := (hb A outer s H E hr).ex
    have hxl : xs.length = ps.length := he.len.symm.trans hn
    refine ⟨t, pt, ?_⟩
    have R : Rel K ⟨H, own, Av⟩ Av own H (start N vs) ⟨xs ++ nos (N.length - ps.length), ms, ms.length⟩ := by
      refine ⟨ho, ?_, fun i => ?_, fun a h => h, fun a o n h => h, fun k a h => .inl ⟨k, h⟩, ?_, ?_, fun a h => .inl h, ho.al⟩
      · show (vs.map some ++ List.replicate (N.length - vs.length) none).length = _
        simp [nos_length, hn, hxl]
      · show gt (xs ++ nos (N.length - ps.length)) i = .no ∨ ∃ v, (vs.map some ++ List.replicate (N.length - vs.length) none)[i]? = some (some v) ∧ _
        rw [hn]
        exact start_at N he _ i
      · show own.take ms.length = own
        rw [← ho.ol]; exact List.take_length
      · show ms.length ≤ own.length
        rw [ho.ol]; exact Nat.le_refl _
    have fin : ∀ (A' : Addr → Prop) (own' : List (List Addr)) (H' : Hp) (σ' : L2.St) (s' : S) (v : V) (x : En), Rel K ⟨H, own, Av⟩ A' own' H' σ' s' → ER K A' own' H' v x → Ks s'.ms x → Q v H' := by
      intro A' own' H' σ' s' v x R' ex hx
      have np : own.length = s'.np := R'.np
      have hpre : own'.take own.length = own := by rw [np]; exact R'.pre
      exact k1 A' own' H' v s'.ms x R'.toOwn hpre R'.ge R'.lim (fun a o n h => R'.fr a o n h) R'.fo ex hx
    exact qt _ _ _ _ _ _ (endT Ks) _ R (hsp xs ms Ks hs hxl) ⟨fun A' own' H' σ' s' R' _ h => fin A' own' H' σ' s' .non (.da .none) R' .non h, fun A' own' H' σ' s' v x R' _ ex h => fin A' own' H' σ' s' v x R' ex (onE_inv h).2, fun _ _ _ _ _ _ _ h => h.elim, fun _ _ _ _ _ _ _ h => h.elim⟩
theorem go_tabs : ∀ (ts : List (Str × Addr × Addr)) (j : Nat), go (ts.map (fun t : Str × Addr × Addr => [t.2.2])) j = match ts[j]? with | some t => [t.2.2] | none => []
  | [], _ => rfl
  | _ :: _, 0 => rfl
  | _ :: r, j + 1 => go_tabs r j
theorem gm_tabs : ∀ (ts : List (Str × Addr × Addr)) (j : Nat), gm (ts.map (fun t : Str × Addr × Addr => MO.tab t.1)) j = match ts[j]? with | some t => .tab t.1 | none => .gone
  | [], _ => rfl
  | _ :: _, 0 => rfl
  | _ :: r, j + 1 => gm_tabs r j
theorem fn_dataLD {x qual : Str} {st : Stmt} {f c : Addr} {fd : FuncData} {N ps : List Str} {k : Nat} {sp : SpD} (F : FunL K x qual st f fd c) (Sc : FnScope N ps (defScope st)) (W : WS)
    (hb : ∀ (A : Around) (outer : List Env) (s : Shared) (H : Hp) (E : XK), RoomG k (A.deeper (PyProof.Rows.envOfC qual (defScope st) s.heap.objs.size f (.ref c))) → DSs (cxOf CX0 P w K mg base N qual (defScope st) f (.ref c) A outer s H E).nox (defBody st) W)
    (hsp : ∀ xs ms Ks, sp xs ms Ks → xs.length = ps.length → W ⟨xs ++ nos (N.length - ps.length), ms, ms.length⟩ (endD Ks)) : FnOkG P w K mg base CX0 (k + 1) f fd ps (spOf K ps.length sp) := by
  refine fun_okL F Sc (fun vs H Q E h => ?_) (fun A outer s H vs Q E hr h => ?_)
  · obtain ⟨_, _, _, _, _, hn, _⟩ := h
    exact hn
  · obtain ⟨Av, own, xs, ms, Ks, hn, he, ho, hs, k1⟩ := h
    obtain ⟨t, pt, qt⟩ := (hb A outer s H E hr).ex
    have hxl : xs.length = ps.length := he.len.symm.trans hn
    refine ⟨t, pt, ?_⟩
    have R : Rel K ⟨H, own, Av⟩ Av own H (start N vs) ⟨xs ++ nos (N.length - ps.length), ms, ms.length⟩ := by
      refine ⟨ho, ?_, fun i => ?_, fun a h => h, fun a o n h => h, fun k a h => .inl ⟨k, h⟩, ?_, ?_, fun a h => .inl h, ho.al⟩
      · show (vs.map some ++ List.replicate (N.length - vs.length) none).length = _
        simp [nos_length, hn, hxl]
      · show gt (xs ++ nos (N.length - ps.length)) i = .no ∨ ∃ v, (vs.map some ++ List.replicate (N.length - vs.length) none)[i]? = some (some v) ∧ _
        rw [hn]
        exact start_at N he _ i
      · show own.take ms.length = own
        rw [← ho.ol]; exact List.take_length
      · show ms.length ≤ own.length
        rw [ho.ol]; exact Nat.le_refl _
    have fin : ∀ (A' : Addr → Prop) (own' : List (List Addr)) (H' : Hp) (σ' : L2.St) (s' : S) (v : V) (x : En), Rel K ⟨H, own, Av⟩ A' own' H' σ' s' → ER K A' own' H' v x → (match x with | .mu j => Ks s'.ms (.mu j) | .da d => Ks (takM s'.np s'.np s'.ms) (.da d) | .no => False) → Q v H' := by
      intro A' own' H' σ' s' v x R' ex hx
      have np : own.length = s'.np := R'.np
      have hpre : own'.take own.length = own := by rw [np]; exact R'.pre
      cases x with
      | no => exact hx.elim
      | mu j => exact k1 A' own' H' v s'.ms (.mu j) R'.toOwn hpre R'.ge R'.lim (fun a o n h => R'.fr a o n h) R'.fo ex hx
      | da d =>
        refine k1 A' (own'.take s'.np) H' v (takM s'.np s'.np s'.ms) (.da d) (R'.toOwn.take _) ?_ R'.ge R'.lim (fun a o n h => R'.fr a o n h) (fun k a h => ?_) ex hx
        · rw [np, List.take_take, Nat.min_self]; exact R'.pre
        · rw [go_take] at h
          split at h
          · exact R'.fo k a h
          · cases h
    exact qt _ _ _ _ _ _ (endD Ks) _ R (hsp xs ms Ks hs hxl) ⟨fun A' own' H' σ' s' R' _ h => fin A' own' H' σ' s' .non (.da .none) R' .non h, fun A' own' H' σ' s' v x R' _ ex h => fin A' own' H' σ' s' v x R' ex h, fun _ _ _ _ _ _ _ h => h.elim, fun _ _ _ _ _ _ _ h => h.elim⟩
theorem ok_dataLD {x : Str} {st : Stmt} {N ps : List Str} {k n n0 : Nat} {sp : SpD} (hF : ∃ f fd c P, At K mg x st ps f fd ∧ FunL K x x st f fd c ∧ TabC K x c P) (hTB : ∀ c P, TabC K x c P → TabB base mg c P) (Sc : FnScope N ps (defScope st)) (W : WS)
    (hb : ∀ (f c P0 : Addr) (A : Around) (outer : List Env) (s : Shared) (H : Hp) (E : XK), TabC K x c P0 → TabB base mg c P0 → RoomG k (A.deeper (PyProof.Rows.envOfC x (defScope st) s.heap.objs.size f (.ref c))) → DSs (cxOf CX0 P w K mg base N x (defScope st) f (.ref c) A outer s H E).nox (defBody st) W)
    (hsp : ∀ xs ms Ks, sp xs ms Ks → xs.length = n → W (st0 xs n0 ms ms.length) (endD Ks)) (hn : ps.length = n := by rfl) (hn0 : N.length - ps.length = n0 := by rfl) : Ok P w K mg base (k + 1) x st ps n sp := by
  obtain ⟨f, fd, c, P0, a, F, t⟩ := hF
  subst hn
  subst hn0
  exact ⟨f, fd, a, fn_dataLD F Sc W (fun A outer s H E hr => hb f c P0 A outer s H E t (hTB c P0 t) hr) hsp⟩
theorem ok_lawT {x qual : Str} {st : Stmt} {f fB : Addr} {fd fdB : FuncData} {N : List Str} {k : Nat} {rest : List Stmt} {W : WS} {p1 p2 p3 p4 p5 : Pos} {n : Nat} {ts : List (Str × Addr × Addr)}
    (F : Fun K x qual st f fd) (Sc : FnScope N ["_law_script"] (defScope st))
    (hbd : defBody st = .Assign [.Name "_law_state" p1] (.Call (.Name "_law_begin" p2) [.Name "_law_script" p3] [] p4) p5 :: rest)
    (hN : N = ("_law_script" : Str) :: ("_law_state" : Str) :: N.drop 2) (hn : (N.drop 2).length = n)
    (hloc : Loc (defScope st) ("_law_state" : Str)) (hs0 : Vis (defScope st) ("_law_script" : Str))
    (hgl : (defScope st).names.lookup ("_law_begin" : Str) = some .globalImplicit)
    (GB : FnOk P w K mg base CX0 k fB fdB ["_law_script"] (spBeginH K)) (FB : PySem.W.keepIn K (.ref fB) = true) (bB : Binds K fdB ["_law_script"] []) (gB : mg "_law_begin" = some (.ref fB))
    (hT : ∀ t ∈ ts, TabC K t.1 t.2.1 t.2.2) (hnd : (ts.map (·.2.2)).Nodup)
    (hb : ∀ (cdv : Value) (A : Around) (outer : List Env) (s : Shared) (H : Hp) (E : XK), RoomG k (A.deeper (PyProof.Rows.envOfC qual (defScope st) s.heap.objs.size f cdv)) → DSs (cxOf CX0 P w K mg base N qual (defScope st) f cdv A outer s H E).nox rest W)
    (hW : W ⟨.no :: .mu ts.length :: nos n, ts.map (fun t => MO.tab t.1) ++ [.rnd fuel0], ts.length⟩ endLaw) : FnOkG P w K mg base CX0 (k + 1) f fd ["_law_script"] (spLawT K ts) := by
  refine fun_okG F Sc (fun vs H Q E h => ?_) (fun cdv A outer s H vs Q E hr h => ?_)
  · obtain ⟨a, ns, rfl, _⟩ := h
    rfl
  · obtain ⟨a, ns, rfl, hS, hlen, _, hH, q⟩ := h
    obtain ⟨t, pt, qt⟩ := (hb cdv A outer s H E hr).ex
    have e0 : N[0]? = some ("_law_script" : Str) := by rw [hN]; rfl
    have e1 : N[1]? = some ("_law_state" : Str) := by rw [hN]; rfl
    rw [hbd]
    refine ⟨_, pss_cons (ps_set (i := 1) Sc.nd e1 hloc (pe_call GB hr.r hgl gB FB bB .nil pass0 (pa_cons (pe_var e0 hs0) pa_nil)) (hf := .inl rfl)) pt, ?_⟩
    have hst : L2.start N [V.ref a] = some (V.ref a) :: none :: List.replicate n none := by
      unfold L2.start
      rw [hN]
      simp [List.replicate_succ, hn]
    rw [hst]
    refine ⟨.ref a, rfl, a, ns, rfl, hS, fun H1 ad c cs hx ha hc na nc hac l1 l2 => ?_⟩
    have tl : (ts.map fun t : Str × Addr × Addr => [t.2.2]).length = ts.length := List.length_map _
    have tm : (ts.map fun t : Str × Addr × Addr => MO.tab t.1).length = ts.length := List.length_map _
    have gol : ∀ j, go (ts.map (fun t : Str × Addr × Addr => [t.2.2])) j = match ts[j]? with | some t => [t.2.2] | none => [] := go_tabs ts
    have gml : ∀ j, gm (ts.map (fun t : Str × Addr × Addr => MO.tab t.1)) j = match ts[j]? with | some t => .tab t.1 | none => .gone := gm_tabs ts
    have goA : ∀ j, go (ts.map (fun t : Str × Addr × Addr => [t.2.2]) ++ [[ad, c]]) j = if j < ts.length then go (ts.map fun t : Str × Addr × Addr => [t.2.2]) j else go [[ad, c]] (j - ts.length) := fun j => by rw [go_app, tl]
    have isT : ∀ {j b}, j < ts.length → b ∈ go (ts.map fun t : Str × Addr × Addr => [t.2.2]) j → b ∈ ts.map (·.2.2) ∧ (ts.map (·.2.2))[j]? = some b := fun {j b} hj hb => by
      rw [gol, List.getElem?_eq_getElem hj] at hb
      have e := List.mem_singleton.mp hb
      exact ⟨by rw [e]; exact List.mem_map.mpr ⟨ts[j], List.getElem_mem hj, rfl⟩, by rw [List.getElem?_map, List.getElem?_eq_getElem hj, e]; rfl⟩
    have hHb : ∀ b, b ∈ ts.map (·.2.2) → H b = some (.tbl #[]) := fun b hb => by
      obtain ⟨t, ht, rfl⟩ := List.mem_map.mp hb
      exact hH t ht
    have nT : ∀ b, b = ad ∨ b = c → b ∉ ts.map (·.2.2) := fun b hb z => by
      have := hHb b z
      rcases hb with rfl | rfl
      · rw [na] at this; cases this
      · rw [nc] at this; cases this
    have last : ∀ {j b}, ¬ j < ts.length → b ∈ go [[ad, c]] (j - ts.length) → j = ts.length ∧ (b = ad ∨ b = c) := fun {j b} hj hb => by
      match q : j - ts.length, hb with
      | 0, hb =>
        refine ⟨by omega, ?_⟩
        rcases List.mem_cons.mp hb with rfl | hb
        · exact .inl rfl
        · exact .inr (List.mem_singleton.mp hb)
      | k + 1, hb => cases hb
    refine qt ⟨H, ts.map (fun t => [t.2.2]), fun b => b ∈ ts.map (·.2.2)⟩ (fun b => b ∈ ts.map (·.2.2) ∨ b = ad ∨ b = c) (ts.map (fun t => [t.2.2]) ++ [[ad, c]]) H1 _ ⟨.no :: .mu ts.length :: nos n, ts.map (fun t => MO.tab t.1) ++ [.rnd fuel0], ts.length⟩ endLaw _
      ⟨⟨by simp, fun j => ?_, fun j j' b h1 h2 => ?_, fun j => ?_, fun j b hb => ?_, fun b hb => ?_⟩, ?_, fun i => ?_, fun b hb => .inl hb, fun b o _ h => hx b o h, fun j b hb => ?_, ?_, ?_, fun b hb => ?_, fun b hb => by show H b ≠ none; rw [hHb b hb]; intro z; cases z⟩ hW ?_
    · rw [goA, gm_app, tm]
      by_cases hj : j < ts.length
      · rw [if_pos hj, if_pos hj, gol, gml, List.getElem?_eq_getElem hj]
        have ht := hT ts[j] (List.getElem_mem hj)
        refine ⟨ts[j].2.2, ts[j].2.1, rfl, ht, #[], hx _ _ (hH ts[j] (List.getElem_mem hj)), ?_, fun pos cv e => ?_⟩
        · trivial
        · cases e
      · rw [if_neg hj, if_neg hj]
        match j - ts.length with
        | 0 => exact ⟨ad, c, cs, 0, rfl, ha, hc, l1, l2, by omega, by decide⟩
        | k + 1 => trivial
    · rw [goA] at h1 h2
      by_cases hj : j < ts.length
      · rw [if_pos hj] at h1
        by_cases hj' : j' < ts.length
        · rw [if_pos hj'] at h2
          have a1 := (isT hj h1).2
          have a2 := (isT hj' h2).2
          exact (List.getElem?_inj (by rw [List.length_map]; exact hj) hnd).mp (a1.trans a2.symm)
        · rw [if_neg hj'] at h2
          exact (nT b (last hj' h2).2 (isT hj h1).1).elim
      · rw [if_neg hj] at h1
        by_cases hj' : j' < ts.length
        · rw [if_pos hj'] at h2
          exact (nT b (last hj h1).2 (isT hj' h2).1).elim
        · rw [if_neg hj'] at h2
          rw [(last hj h1).1, (last hj' h2).1]
    · rw [goA]
      split
      · rw [gol]
        split
        · simp
        · exact List.nodup_nil
      · match j - ts.length with
        | 0 => exact List.nodup_cons.mpr ⟨by simpa using hac, by simp⟩
        | k + 1 => exact List.nodup_nil
    · rw [goA] at hb
      split at hb
      · rename_i hj
        exact .inl (isT hj hb).1
      · rename_i hj
        exact .inr (last hj hb).2
    · rcases hb with hb | rfl | rfl
      · rw [hx _ _ (hHb b hb)]; intro z; cases z
      · rw [ha]; intro z; cases z
      · rw [hc]; intro z; cases z
    · show (((some (V.ref a) :: none :: List.replicate n none).set 1 (some (V.ref ad))).length = _)
      simp [nos_length]
    · match i with
      | 0 => exact .inl rfl
      | 1 => exact .inr ⟨.ref ad, rfl, ad, [c], by rw [goA, if_neg (Nat.lt_irrefl _), Nat.sub_self]; rfl, rfl⟩
      | i + 2 => exact .inl (gt_nos n i)
    · rw [goA] at hb
      split at hb
      · exact .inl ⟨j, hb⟩
      · rename_i hj
        rcases (last hj hb).2 with rfl | rfl
        · exact .inr na
        · exact .inr nc
    · show (ts.map (fun t : Str × Addr × Addr => [t.2.2]) ++ [[ad, c]]).take ts.length = _
      rw [List.take_append_of_le_length (by rw [tl]; exact Nat.le_refl _), List.take_of_length_le (by rw [tl]; exact Nat.le_refl _)]
    · show ts.length ≤ _
      rw [List.length_append, tl]; omega
    · rcases hb with hb | rfl | rfl
      · exact .inl hb
      · exact .inr na
      · exact .inr nc
    · refine ⟨fun A' own' H' σ' s' R' _ h => h.elim, fun A' own' H' σ' s' v x R' _ ex h => ?_, fun _ _ _ _ _ _ _ h => h.elim, fun _ _ _ _ _ _ _ h => h.elim⟩
      cases (show x = .da (.bool true) from h)
      cases ex
      exact q H'
end
section
variable {X : Cx}
end
section
variable {X : Cx} {a : Expr} {wa : WE}
end
end DL
namespace DL
open PySem L2 PySem.Spec PyProof.Rows
theorem free_ok {sl sc : Scope} (h : (sl.names.all fun y => !decide (y.2 = NameKind.free) || decide (sc.names.lookup y.1 = some .cell) || decide (sc.names.lookup y.1 = some .free)) = true) : ∀ y ∈ sl.names, y.2 = .free → sc.names.lookup y.1 = some .cell ∨ sc.names.lookup y.1 = some .free := by
  intro y hy e
  have := List.all_eq_true.mp h y hy
  simp only [Bool.or_eq_true, Bool.not_eq_true', decide_eq_false_iff_not, decide_eq_true_eq] at this
  rcases this with (z | z) | z
  · exact absurd e z
  · exact .inl z
  · exact .inr z
end DL
namespace DL
open PySem L2 PySem.Spec PyProof.Rows
section
variable {X : L2.Cx} {sts : List Stmt} {w : WS} {pos : Pos}
end
end DL
namespace DL
open PySem L2 PySem.Spec PyProof.Rows LamX NdefX
section
variable {X : L2.Cx} {a : Expr} {wa wb : WE}
end
end DL
namespace DL
open PySem L2 PySem.Spec PyProof.Rows
section
variable {X : L2.Cx} {a c e : Expr} {wa wc we : WE} {pos : Pos}
end
section
variable {K : PySem.W.Frag} {A A' : Addr → Prop} {own own' : List (List Addr)} {H H' : Hp} {b : Bd} {σ : L2.St} {s : S}
end
section
variable {X : Cx} {e : Expr} {we : WE}
end
end DL
namespace DL
open PySem L2 PySem.Spec PyProof.Rows
theorem sm_sm2 : ∀ (l : List MO) (i : Nat) (x y : MO), sm (sm l i x) i y = sm l i y
  | [], _, _, _ => rfl
  | _ :: _, 0, _, _ => rfl
  | a :: r, i + 1, x, y => by
    show a :: sm (sm r i x) i y = a :: sm r i y
    rw [sm_sm2 r i x y]
theorem sm_gm : ∀ (l : List MO) (i : Nat), sm l i (gm l i) = l
  | [], _ => rfl
  | _ :: _, 0 => rfl
  | a :: r, i + 1 => by
    show a :: sm r i (gm r i) = _
    rw [sm_gm r i]
theorem Rel.lastLst {K : PySem.W.Frag} {b : Bd} {A1 A2 : Addr → Prop} {o1 o2 : List (List Addr)} {H1 H2 : Hp} {σ : L2.St} {es : List En} {ms1 ms : List MO} {np : Nat} {acc : List PyData} {D : Addr}
    (R1 : Rel K b A1 o1 H1 σ ⟨es, ms1, np⟩) (R2 : Rel K b A2 o2 H2 σ ⟨es, ms ++ [.lst acc], np⟩) (U2 : Up A1 o1 H1 A2 o2 H2) (ml : ms.length = ms1.length) (g2 : go o2 ms1.length = [D]) :
    ∃ (A'' : Addr → Prop) (own'' : List (List Addr)), Rel K b A'' own'' H2 σ ⟨es, takM ms1.length ms1.length ms, np⟩ ∧ Up A1 o1 H1 A'' own'' H2 ∧ Rp K A'' H2 (.ref D) (.list acc) := by
  have hnp : np ≤ ms1.length := by
    have := R1.npl
    have e := R1.ol
    have e' : o1.length = ms1.length := e
    have e2 : np ≤ o1.length := this
    omega
  have hol1 : o1.length = ms1.length := R1.ol
  have g3 : gm (ms ++ [.lst acc]) ms1.length = .lst acc := by rw [gm_app, ml, if_neg (Nat.lt_irrefl _), Nat.sub_self]; rfl
  have mm := R2.mr ms1.length
  rw [show gm (⟨es, ms ++ [.lst acc], np⟩ : S).ms ms1.length = .lst acc from g3] at mm
  obtain ⟨p, us, e1, e2, e3⟩ := mm
  rw [g2] at e1
  cases e1
  have kp : Kp A2 H2 (fun a => A2 a ∧ a ≠ D) H2 := fun a u n q => ⟨q, fun z => n z.1⟩
  have u1 : Up A1 o1 H1 (fun a => A2 a ∧ a ≠ D) (o2.take ms1.length) H2 := ⟨U2.kp.trans kp, fun k a r e => by
    have hk : k < o1.length := Nat.lt_of_not_le fun z => by rw [go_ge _ _ z] at e; cases e
    rw [go_take, if_pos (by omega)]
    exact U2.ow _ _ _ e⟩
  have hol : o2.length = ms1.length + 1 := by
    have := R2.ol
    rw [show (⟨es, ms ++ [.lst acc], np⟩ : S).ms = ms ++ [.lst acc] from rfl, List.length_append, ml] at this
    exact this
  have ne : ∀ k a, k < ms1.length → a ∈ go o2 k → a ≠ D := fun k a hk h z => by
    subst z
    have := R2.dj k ms1.length a h (by rw [g2]; simp)
    omega
  have up2 : Up A2 (o2.take ms1.length) H2 (fun a => A2 a ∧ a ≠ D) (o2.take ms1.length) H2 := ⟨kp, fun _ _ _ e => e⟩
  refine ⟨fun a => A2 a ∧ a ≠ D, o2.take ms1.length, ⟨⟨?_, fun j => ?_, fun i j a h1 h2 => ?_, fun i => ?_, fun i a h1 => ?_, fun a h => R2.al a h.1⟩, R1.len, fun j => (R1.sl j).imp id fun ⟨v, e, q⟩ => ⟨v, e, q.up u1⟩, fun a h => ⟨R2.ge a h, fun z => ?_⟩, R2.fr, fun i a h1 => ?_, ?_, ?_, fun a h => R2.lim a h.1, R2.a0⟩, u1, .lst ⟨e2, fun z => z.2 rfl⟩ (RpL.mono kp e3)⟩
  · show (o2.take ms1.length).length = (takM ms1.length ms1.length ms).length
    rw [List.length_take, takM_length]; omega
  · show MR K _ (o2.take ms1.length) H2 (go (o2.take ms1.length) j) (gm (takM ms1.length ms1.length ms) j)
    rw [go_take, gm_takM]
    by_cases q : j < ms1.length
    · rw [if_pos q, if_pos q]
      have mj := R2.mr j
      rw [show gm (⟨es, ms ++ [.lst acc], np⟩ : S).ms j = gm ms j from by show gm (ms ++ [.lst acc]) j = _; rw [gm_app, ml, if_pos q]] at mj
      exact mj.lim.up up2 fun a o _ e => e
    · rw [if_neg q, if_neg q]; trivial
  · rw [go_take] at h1 h2
    split at h1
    · split at h2
      · exact R2.dj i j a h1 h2
      · cases h2
    · cases h1
  · rw [go_take]
    split
    · exact R2.ld i
    · exact List.nodup_nil
  · rw [go_take] at h1
    split at h1
    · rename_i hi'
      exact ⟨R2.oa i a h1, ne i a hi' h1⟩
    · cases h1
  · subst z
    exact R2.a0 a h (by
      rcases R2.fo ms1.length a (by rw [g2]; simp) with ⟨j, q⟩ | q
      · rw [← R2.pre, go_take] at q
        split at q
        · rename_i hj'
          have := R2.dj _ _ a q (by rw [g2]; simp)
          have : (⟨es, ms ++ [.lst acc], np⟩ : S).np = np := rfl
          omega
        · cases q
      · exact q)
  · rw [go_take] at h1
    split at h1
    · exact R2.fo i a h1
    · cases h1
  · show (o2.take ms1.length).take np = b.own0
    rw [List.take_take, show min np ms1.length = np by omega]; exact R2.pre
  · show np ≤ (o2.take ms1.length).length
    rw [List.length_take]; omega
theorem sm_appL : ∀ (l r : List MO) (i : Nat) (y : MO), i < l.length → sm (l ++ r) i y = sm l i y ++ r
  | [], _, _, _, h => by simp at h
  | _ :: _, _, 0, _, _ => rfl
  | a :: l, r, i + 1, y, h => congrArg (a :: ·) (sm_appL l r i y (by simpa using h))
section
variable {X : L2.Cx} {tg elt e : Expr} {we0 we : WE} {wg : WG} {wt : WT} {js : List Nat} {pos : Pos}
end
end DL
set_option exponentiation.threshold 9000
namespace DL
open PySem L2 PySem.Spec PyProof.Rows
theorem FnOkG.imp {P : Program} {w : World} {K : PySem.W.Frag} {mg : Str → Option Value} {base : Heap} {CX : CXT} {k : Nat} {f : Addr} {fd : FuncData} {ps : List Str} {sp sp' : Sp} (F : FnOkG P w K mg base CX k f fd ps sp)
    (h : ∀ vs H Q E, sp' vs H Q E → sp vs H Q E) : FnOkG P w K mg base CX k f fd ps sp' :=
  ⟨fun vs H Q E q => F.len vs H Q E (h _ _ _ _ q), fun A outer s H args us vs Q E hr hg he hb hv hs => F.run A outer s H args us vs Q E hr hg he hb hv (h _ _ _ _ hs)⟩
section
variable {X : L2.Cx} {e : Expr} {we : WE}
end
section
variable {X : L2.Cx} {e : Expr} {es : List Expr} {pos : Pos}
end
section
variable {P : Program} {w : World} {K : PySem.W.Frag} {mg : Str → Option Value} {base : Heap}
end
end DL
namespace PySem.W
open PySem PySem.SeqAt PyProof.Rows PySem.Calls
section
variable {prog : Program} {w : World} {A : Around} {E : Value → Shared → Prop} {s : Shared}
end
end PySem.W
namespace DL
open PySem L2 PySem.Spec PyProof.Rows
section
variable {X : Cx} {a : Expr} {wa : WE} {pos : Pos}
end
end DL
namespace DL
open PySem L2 PySem.Spec PyProof.Rows PySem.Froz
section
variable {P : Program} {w : World} {A : Around} {E : Value → Shared → Prop} {s : Shared}
structure TxR (P : Program) (w : World) (h : Heap) (a : Addr) (l : List Str) : Prop where
  ex : ∃ D : SD, h.get? a = some (sObj "set" D) ∧ PySem.Froz.TxOk P w D l ∧ Ris D.2.2.place.toList ∧ (w.params.followText "set-order" = true ∨ D.2.2.led = true)
theorem TxR.at {h h' : Heap} {a : Addr} {l : List Str} (R : TxR P w h a l) (k : ∀ o, h.get? a = some o → h'.get? a = some o) : TxR P w h' a l := by
  obtain ⟨D, h1, h2⟩ := R.ex
  exact ⟨D, k _ h1, h2⟩
end
section
variable {X : L2.Cx}
end
end DL
namespace DL
open PySem L2 PySem.Spec PyProof.Rows
section
variable {X : L2.Cx} {a : Expr} {wa : WE} {pos : Pos}
end
section
variable {X : L2.Cx} {tg elt e : Expr} {we0 we : WE} {wg : WG} {wt : WT} {js : List Nat} {pos : Pos}
end
end DL
namespace DL
open PySem L2 PySem.Spec PyProof.Rows
section
variable {P : Program} {w : World} {K : PySem.W.Frag} {mg : Str → Option Value} {base : Heap}
end
end DL
namespace L2
open PySem PySem.Spec PyProof.Rows
theorem Vals.pick {xs : List V} {us : List Value} (r : Vals xs us) : ∀ is : List Nat, Vals (is.filterMap (xs[·]?)) (is.filterMap (us[·]?))
  | [] => .nil
  | i :: is => by
    cases e : xs[i]? with
    | none =>
      rw [List.filterMap_cons_none (f := (xs[·]?)) e, List.filterMap_cons_none (f := (us[·]?)) (r.none_of e)]
      exact Vals.pick r is
    | some x =>
      obtain ⟨u, h1, h2⟩ := r.get e
      rw [List.filterMap_cons_some (f := (xs[·]?)) e, List.filterMap_cons_some (f := (us[·]?)) h1]
      exact .cons h2 (Vals.pick r is)
end L2
namespace DL
open PySem L2 PySem.Spec PyProof.Rows
theorem RpL.pick {K : PySem.W.Frag} {A : Addr → Prop} {H : Hp} {xs : List V} {ds : List D} (r : RpL K A H xs ds) : ∀ is : List Nat, RpL K A H (is.filterMap (xs[·]?)) (is.filterMap (ds[·]?))
  | [] => .nil
  | i :: is => by
    cases e : ds[i]? with
    | none =>
      have e2 : xs[i]? = none := by
        have := List.getElem?_eq_none_iff.mp e
        exact List.getElem?_eq_none_iff.mpr (by rw [r.length]; exact this)
      rw [List.filterMap_cons_none (f := (ds[·]?)) e, List.filterMap_cons_none (f := (xs[·]?)) e2]
      exact RpL.pick r is
    | some x =>
      obtain ⟨u, h1, h2⟩ := r.get e
      rw [List.filterMap_cons_some (f := (ds[·]?)) e, List.filterMap_cons_some (f := (xs[·]?)) h1]
      exact .cons h2 (RpL.pick r is)
section
variable {X : L2.Cx} {a e ek : Expr} {wa we : WE} {pos p3 : Pos}
variable {c : Expr} {wc : WE}
end
end DL
namespace DL
open PySem L2 PySem.Spec PyProof.Rows
abbrev WEx := S → (S → En → Prop) → (S → Str → Prop) → Prop
abbrev WSx := S → Dn → (S → Str → Prop) → Prop
def CN (K : PySem.W.Frag) (c : Str) (C : Addr) : Prop := PySem.W.nsIn K mainGlobals c = some (some (.ref C))
def MtX (K : PySem.W.Frag) (b : Bd) (A : Addr → Prop) (H : Hp) (Kx : S → Str → Prop) (W : WX) : Prop := ∀ (A' : Addr → Prop) (own' : List (List Addr)) (H' : Hp) (σ' : L2.St) (s' : S) (c : Str) (C : Addr), Rel K b A' own' H' σ' s' → Kp A H A' H' → CN K c C → Kx s' c → W (.ref C) none σ' H'
theorem MtX.up {K : PySem.W.Frag} {b : Bd} {A A' : Addr → Prop} {H H' : Hp} {Kx : S → Str → Prop} {W : WX} (p : MtX K b A H Kx W) (u : Kp A H A' H') : MtX K b A' H' Kx W := fun _ _ _ _ _ _ _ r q => p _ _ _ _ _ _ _ r (u.trans q)
structure DEx (X : Cx) (W : WX) (e : Expr) (w : WEx) : Prop where
  ex : ∃ te, PE X e te ∧ ∀ (b : Bd) (A : Addr → Prop) (own : List (List Addr)) (H : Hp) (σ : L2.St) (s : S) (Ks : S → En → Prop) (Kx : S → Str → Prop) (Q : VK), Rel X.K b A own H σ s → w s Ks Kx → PostE X.K b A own H σ Ks Q → MtX X.K b A H Kx W → te σ H Q
structure DSx (X : Cx) (W : WX) (st : Stmt) (w : WSx) : Prop where
  ex : ∃ t, PS X st t ∧ ∀ (b : Bd) (A : Addr → Prop) (own : List (List Addr)) (H : Hp) (σ : L2.St) (s : S) (D : Dn) (Kx : S → Str → Prop) (E : Ends), Rel X.K b A own H σ s → w s D Kx → Mt X.K b A H D E → MtX X.K b A H Kx W → t E σ H
structure DSsx (X : Cx) (W : WX) (st : List Stmt) (w : WSx) : Prop where
  ex : ∃ t, PSs X st t ∧ ∀ (b : Bd) (A : Addr → Prop) (own : List (List Addr)) (H : Hp) (σ : L2.St) (s : S) (D : Dn) (Kx : S → Str → Prop) (E : Ends), Rel X.K b A own H σ s → w s D Kx → Mt X.K b A H D E → MtX X.K b A H Kx W → t E σ H
def xE (w : WE) : WEx := fun s Ks _ => w s Ks
def xS (w : WS) : WSx := fun s D _ => w s D
section
variable {X : Cx} {W : WX} {e a c : Expr} {es : List Expr} {we wa : WE} {wr : WA} {vx ux : WEx} {st : Stmt} {sts sts2 : List Stmt} {w : WS} {v u : WSx} {wt : WT} {wg : WG} {pos : Pos}
theorem DE.x (h : DE X e we) : DEx X W e (xE we) := by
  obtain ⟨t, p, q⟩ := h.ex
  exact ⟨t, p, fun b A own H σ s Ks Kx Q R h k _ => q _ _ _ _ _ _ _ _ R h k⟩
theorem DS.x (h : DS X st w) : DSx X W st (xS w) := by
  obtain ⟨t, p, q⟩ := h.ex
  exact ⟨t, p, fun b A own H σ s D Kx E R h m _ => q _ _ _ _ _ _ _ _ R h m⟩
theorem DSs.x (h : DSs X sts w) : DSsx X W sts (xS w) := by
  obtain ⟨t, p, q⟩ := h.ex
  exact ⟨t, p, fun b A own H σ s D Kx E R h m _ => q _ _ _ _ _ _ _ _ R h m⟩
def sSeqX (v u : WSx) : WSx := fun s D Kx => v s { D with nx := fun s1 => u s1 D Kx } Kx
theorem dsx_cons (h1 : DSx X W st v) (h2 : DSsx X W sts u) : DSsx X W (st :: sts) (sSeqX v u) := by
  obtain ⟨t1, p1, q1⟩ := h1.ex
  obtain ⟨t2, p2, q2⟩ := h2.ex
  refine ⟨_, pss_cons p1 p2, fun b A own H σ s D Kx E R h m mx => ?_⟩
  show t1 { E with nx := t2 E } σ H
  exact q1 _ _ _ _ _ _ _ _ _ R h ⟨fun A' o' H' σ' s' R' k h' => q2 _ _ _ _ _ _ _ _ _ R' h' (m.up k) (mx.up k), m.rt, m.bk, m.ct⟩ mx
theorem dsx_one (h1 : DSx X W st v) : DSsx X W [st] v := by
  obtain ⟨t1, p1, q1⟩ := h1.ex
  exact ⟨_, pss_one p1, q1⟩
def sIfX (wt : WT) (v u : WSx) : WSx := fun s D Kx => wt s fun s1 c => (c = true → v s1 D Kx) ∧ (c = false → u s1 D Kx)
theorem dsx_if (hc : DT X c wt) (ha : DSsx X W sts v) (hb : DSsx X W sts2 u) : DSx X W (.If c sts sts2 pos) (sIfX wt v u) := by
  obtain ⟨tc, pc, qc⟩ := hc.ex
  obtain ⟨ta, pa, qa⟩ := ha.ex
  obtain ⟨tb, pb, qb⟩ := hb.ex
  refine ⟨_, ps_if pc pa pb, fun b A own H σ s D Kx E R h m mx => ?_⟩
  show tc σ H fun b H1 => if b = true then ta E σ H1 else tb E σ H1
  refine qc _ _ _ _ _ _ _ _ R h fun A1 o1 H1 s1 c R1 U1 h1 => ?_
  cases c with
  | true => rw [if_pos rfl]; exact qa _ _ _ _ _ _ _ _ _ R1 (h1.1 rfl) (m.up U1.kp) (mx.up U1.kp)
  | false => rw [if_neg (by decide)]; exact qb _ _ _ _ _ _ _ _ _ R1 (h1.2 rfl) (m.up U1.kp) (mx.up U1.kp)
def sExpX (v : WEx) : WSx := fun s D Kx => v s (fun s1 _ => D.nx s1) Kx
theorem dsx_exp (he : DEx X W e vx) (hs : swapsWith e none pos.line X.env = pure false := by rfl) : DSx X W (.Expr e pos) (sExpX vx) := by
  obtain ⟨te, pe, qe⟩ := he.ex
  exact ⟨_, ps_expr pe hs, fun b A own H σ s D Kx E R h m mx => qe _ _ _ _ _ _ _ _ _ R h (fun A1 o1 H1 v1 s1 x1 R1 U1 E1 h1 => m.nx _ _ _ _ _ R1 U1.kp h1) mx⟩
def sAsgX (v : WEx) (wg : WG) : WSx := fun s D Kx => v s (fun s1 x => wg x s1 D.nx) Kx
theorem dsx_set {i : Nat} {x : Str} {pos' : Pos} (hN : X.N.Nodup) (hi : X.N[i]? = some x) (hx : Loc X.env.scope x) (he : DEx X W e vx) (hs : swapsWith e (some (.Name x pos')) pos.line X.env = pure false := by rfl) (hf : X.fn x = true ∨ X.env.scope.names.lookup x = some .local := by first | exact .inl rfl | exact .inr rfl | assumption) :
    DSx X W (.Assign [.Name x pos'] e pos) (sAsgX vx (gN i)) := by
  obtain ⟨te, pe, qe⟩ := he.ex
  refine ⟨_, ps_set hN hi hx pe hs hf, fun b A own H σ s D Kx E R h m mx => ?_⟩
  show te σ H fun x H1 => gName i x σ H1 E.nx
  refine qe _ _ _ _ _ _ _ _ _ R h (fun A1 o1 H1 v1 s1 x1 R1 U1 E1 h1 => ?_) mx
  exact gN_run (X := X) i _ _ _ _ _ _ _ _ _ _ R1 E1 h1 fun A2 o2 H2 σ2 s2 R2 U2 _ h2 => m.nx _ _ _ _ _ R2 (U1.trans U2).kp h2
structure ExcA (K : PySem.W.Frag) (mg : Str → Option Value) (x : Str) : Prop where
  ex : ∃ C, mg x = some (.ref C) ∧ CN K x C ∧ PySem.W.excIn K C [.type "ValueError", .type "Exception", .type "BaseException", .type "object"] "ValueError.__new__" = true ∧ PySem.W.keepIn K (.ref C) = true ∧
    PySem.W.subIn K (.ref C) (.type "BaseException") = some true ∧ PySem.W.typeIn K (.ref C) = some (.type "type")
def sRaise (x : Str) : WSx := fun s _ Kx => Kx s x
theorem dsx_raise {x m : Str} {j : Nat} {p p2 pos2 : Pos} (hc : X.calm = true) (tk : Takes X W) (F : ExcA X.K X.mg x) (hg : Gl X x) (hdb : (x == ("__debug__" : Str)) = false := by decide) :
    DSx X W (.Raise (some (.Call (.Name x p) [.Constant (.str m) j p2] [] pos2)) none pos) (sRaise x) := by
  obtain ⟨C, h1, h2, h3, h4, h5, h6⟩ := F.ex
  exact ⟨_, ps_raise hc tk (pmk_own PySem.F.excBase_ValueError h3 h1 h4 (raises_own h5 h6) hg hdb), fun b A own H σ s D Kx E R h m mx => mx _ _ _ _ _ _ _ R Kp.refl h2 h⟩
end
abbrev SpX := List En → List MO → (List MO → En → Prop) → (List MO → Str → Prop) → Prop
def spOfX (K : PySem.W.Frag) (n : Nat) (sp : SpX) : Sp := fun vs H Q E => ∃ (A : Addr → Prop) (own : List (List Addr)) (xs : List En) (ms : List MO) (Ks : List MO → En → Prop) (Kx : List MO → Str → Prop), vs.length = n ∧ ERL K A own H vs xs ∧ Own K A own H ms ∧ sp xs ms Ks Kx ∧
  (∀ (A' : Addr → Prop) (own' : List (List Addr)) (H' : Hp) (v : V) (ms' : List MO) (x : En), Own K A' own' H' ms' → own'.take own.length = own → (∀ a, A a → A' a) → (∀ a, A' a → A a ∨ H a = none) → (∀ a o, (∀ k, a ∉ go own k) → H a = some o → H' a = some o) →
    (∀ k a, a ∈ go own' k → (∃ j, a ∈ go own j) ∨ H a = none) → ER K A' own' H' v x → Ks ms' x → Q v H') ∧
  (∀ (A' : Addr → Prop) (own' : List (List Addr)) (H' : Hp) (ms' : List MO) (c : Str) (C : Addr), Own K A' own' H' ms' → own'.take own.length = own → (∀ a, A a → A' a) → (∀ a, A' a → A a ∨ H a = none) → (∀ a o, (∀ k, a ∉ go own k) → H a = some o → H' a = some o) →
    (∀ k a, a ∈ go own' k → (∃ j, a ∈ go own j) ∨ H a = none) → CN K c C → Kx ms' c → E (.ref C) none H')
theorem rel_after {K : PySem.W.Frag} {b : Bd} {A A' : Addr → Prop} {own own' : List (List Addr)} {H H' : Hp} {σ : L2.St} {s : S} {ms' : List MO} (R : Rel K b A own H σ s) (O : Own K A' own' H' ms') (ot : own'.take own.length = own) (ge : ∀ a, A a → A' a)
    (li : ∀ a, A' a → A a ∨ H a = none) (fr : ∀ a o, (∀ k, a ∉ go own k) → H a = some o → H' a = some o) (fo : ∀ k a, a ∈ go own' k → (∃ j, a ∈ go own j) ∨ H a = none) :
    Rel K b A' own' H' σ ⟨s.es, ms', s.np⟩ ∧ Up A own H A' own' H' := by
  have notOwn : ∀ a, ¬ A a → ∀ j, a ∉ go own j := fun a n j hj => n (R.oa j a hj)
  have u : Up A own H A' own' H' := ⟨fun a o n q => ⟨fr a o (notOwn a n) q, fun z => by
      rcases li a z with z | z
      · exact n z
      · rw [z] at q; cases q⟩, fun k a r q => by
      rw [← ot, go_take] at q
      split at q
      · exact q
      · cases q⟩
  refine ⟨⟨O, R.len, fun i => (R.sl i).imp id fun ⟨v, q, r⟩ => ⟨v, q, r.up u⟩, fun a q => ge a (R.ge a q), fun a o n q => ?_, fun i a h1 => ?_, ?_, ?_, fun a q => ?_, R.a0⟩, u⟩
  · refine fr a o (fun i hi => ?_) (R.fr a o n q)
    rcases R.fo _ a hi with ⟨j, z⟩ | z
    · exact n j z
    · rw [z] at q; cases q
  · rcases fo i a h1 with ⟨j, z⟩ | z
    · exact R.fo j a z
    · exact .inr (R.fresh0 z)
  · have := R.pre
    rw [← ot, List.take_take, Nat.min_eq_left R.npl] at this
    exact this
  · have := congrArg List.length ot
    rw [List.length_take] at this
    have := R.npl
    show s.np ≤ _
    omega
  · rcases li a q with z | z
    · exact R.lim a z
    · exact .inr (R.fresh0 z)
def CallTX (sp : SpX) : S → List En → (S → En → Prop) → (S → Str → Prop) → Prop := fun s xs Ks Kx => sp xs s.ms (fun ms' r => Ks ⟨s.es, ms', s.np⟩ r) fun ms' c => Kx ⟨s.es, ms', s.np⟩ c
theorem callTX_run {K : PySem.W.Frag} {sp : SpX} {n : Nat} {b : Bd} {A : Addr → Prop} {own : List (List Addr)} {H : Hp} {σ : L2.St} {s : S} {vs : List V} {xs : List En} {Ks : S → En → Prop} {Kx : S → Str → Prop} {Q : VK} {W : WX}
    (hn : vs.length = n) (R : Rel K b A own H σ s) (e : ERL K A own H vs xs) (h : CallTX sp s xs Ks Kx) (k : PostE K b A own H σ Ks Q) (mx : MtX K b A H Kx W) : spOfX K n sp vs H Q (L2.WE W σ) := by
  refine ⟨A, own, xs, s.ms, _, _, hn, e, R.toOwn, h, fun A' own' H' v ms' x O ot ge li fr fo ex hk => ?_, fun A' own' H' ms' c C O ot ge li fr fo hc hk => ?_⟩
  · obtain ⟨R', u⟩ := rel_after R O ot ge li fr fo
    exact k A' own' H' v ⟨s.es, ms', s.np⟩ x R' u ex hk
  · obtain ⟨R', u⟩ := rel_after R O ot ge li fr fo
    exact mx A' own' H' σ ⟨s.es, ms', s.np⟩ c C R' u.kp hc hk
structure OkMX (P : Program) (w : World) (K : PySem.W.Frag) (mg : Str → Option Value) (base : Heap) (k : Nat) (c m q : Str) (st : Stmt) (ps : List Str) (n : Nat) (sp : SpX) : Prop where
  ex : ∃ C f fd, AtM K c m q st ps C f fd ∧ FnOkG P w K mg base (L2.CX P w) k f fd ps (spOfX K n sp)
section
variable {X : L2.Cx} {CX : CXT} {k : Nat} {f C : Addr} {fd : FuncData} {ps : List Str} {sp : L2.Sp} {E : L2.St → XK} {x m : Str} {p pos apos : Pos} {e o : Expr} {es : List Expr} {ta : TE} {t : TA}
theorem run_fnXG {pins : List (Addr × Obj)} {σ : L2.St} {H : Hp} {s : Shared} {Q : VK} {us : List Value} {vs : List V} (F : FnOkG X.prog X.w X.K X.mg X.base CX k f fd ps sp) (hr : RoomG k X.A) (hb : Binds X.K fd ps []) (hx : PassesAt CX X σ (E σ))
    (I : Inv X pins σ H s) (r : Vals vs us) (h : sp vs H Q (E σ)) : wpAny (model X.prog X.w) X.A (PySem.call (.ref f) us) (EP X pins σ Q) X.xe s := by
  have hl : us.length = ps.length := by rw [← r.length]; exact F.len _ _ _ _ h
  have b := hb s us I.kIn (by rw [List.append_nil]; exact hl)
  rw [List.append_nil] at b
  refine wpAny_call (codeAny_mono (F.run X.A X.stack s H ⟨us, []⟩ us vs Q (E σ) hr.r hr.g I.env0 b r h) fun r s' hq => ?_)
  cases r with
  | error e => exact hx pins H s e s' I hq
  | ok fl =>
    cases fl with
    | ret u => exact I.after hq
    | next => exact False.elim hq
    | brk => exact False.elim hq
    | cont => exact False.elim hq
def tMethS (C : Addr) (m : Str) (sp : Sp) (E : L2.St → XK) (to : TE) (t : TA) : TE := fun σ H Q => to σ H fun x H1 => ∃ a dx fs, x = .ref a ∧ H1 a = some (.ins C dx fs) ∧ fs.lookup m = none ∧ t σ H1 fun vs H2 => sp (x :: vs) H2 Q (E σ)
theorem pe_methX {pl : Sem Bool} (he : PE X o ta) (c : Cls X.K C) (hm : Meth X.K C m f) (F : FnOkG X.prog X.w X.K X.mg X.base CX k f fd ps sp) (hr : RoomG k X.A) (hb : Binds X.K fd ps []) (hx : ∀ σ, PassesAt CX X σ (E σ)) (ha : PA X (e :: es) t)
    (hst : starEach (e :: es) X.env = (false, eval e X.env) :: starEach es X.env := by rfl) (hpl : (backTo pos (starEach es X.env)).any (·.1) = false := by rfl)
    (ht : eval (.Call (.Attribute o m apos) (e :: es) [] pos) X.env = (do
      let ov ← eval o X.env
      standAt apos.atName
      let (f, first) ← holding [ov] (getMethod ov m pl)
      callWith pos f first (backTo pos (starEach (e :: es) X.env)) (backToKw pos (keywordEach [] X.env))) := by rfl) :
    PE X (.Call (.Attribute o m apos) (e :: es) [] pos) (tMethS C m sp E ta t) := by
  refine ⟨fun pins s σ H Q I h => ?_⟩
  refine PySem.W.methodCall_KW (pl := pl) (thn (he.run pins s σ H _ I h) fun u s1 ⟨x, H1, I1, rx, a, dx, fs, ex, ea, l, q⟩ => ?_) ht
  subst ex
  obtain rfl : u = Value.ref a := rx
  refine getmeth_ok I1 ea c hm l ?_
  refine PySem.W.callWith_K (first := [.ref a]) (h₀ := X.base) I.ok.mod.kin hm.kp (thn (ha.run pos pins s1 σ H1 _ I1 q) fun us s2 ⟨vs, H2, I2, r, q2⟩ => ⟨I2.kIn, ?_⟩) hst hpl
  exact run_fnXG (us := .ref a :: us) (vs := .ref a :: vs) F hr hb (hx σ) I2 (.cons rfl r) q2
theorem pe_methX0 {pl : Sem Bool} (he : PE X o ta) (c : Cls X.K C) (hm : Meth X.K C m f) (F : FnOkG X.prog X.w X.K X.mg X.base CX k f fd ps sp) (hr : RoomG k X.A) (hb : Binds X.K fd ps []) (hx : ∀ σ, PassesAt CX X σ (E σ))
    (ht : eval (.Call (.Attribute o m apos) [] [] pos) X.env = (do
      let ov ← eval o X.env
      standAt apos.atName
      let (f, first) ← holding [ov] (getMethod ov m pl)
      callWith pos f first (backTo pos (starEach [] X.env)) (backToKw pos (keywordEach [] X.env))) := by rfl) :
    PE X (.Call (.Attribute o m apos) [] [] pos) (tMethS C m sp E ta tNil) := by
  refine ⟨fun pins s σ H Q I h => ?_⟩
  refine PySem.W.methodCall_KW (pl := pl) (thn (he.run pins s σ H _ I h) fun u s1 ⟨x, H1, I1, rx, a, dx, fs, ex, ea, l, q⟩ => ?_) ht
  subst ex
  obtain rfl : u = Value.ref a := rx
  refine getmeth_ok I1 ea c hm l ?_
  exact PySem.W.callWith_K0 (first := [.ref a]) I1.kIn hm.kp (run_fnXG (us := [.ref a]) (vs := [.ref a]) F hr hb (hx σ) I1 (.cons rfl .nil) q)
end
section
variable {X : Cx} {W : WX} {e o : Expr} {es : List Expr} {we : WE} {wr : WA}
def dMethX (c m : Str) (sp : SpX) (wo : WE) (wr : WA) : WEx := fun s Ks Kx => wo s fun s1 x => fldW [c] s1 x fun _ _ fs => getT fs m = none ∧ wr s1 fun s2 xs => CallTX sp s2 (x :: xs) Ks Kx
theorem dex_meth {k : Nat} {st : Stmt} {ps : List Str} {sp : SpX} {c m q : Str} {apos pos : Pos} {n : Nat} (tk : Takes X W) (O : OkMX X.prog X.w X.K X.mg X.base k c m q st ps (n + 1) sp) (hr : RoomG k X.A) {pl : Sem Bool} (ho : DE X o we)
    (ha : DAn X (e :: es) n wr) (hst : starEach (e :: es) X.env = (false, eval e X.env) :: starEach es X.env := by rfl) (hpl : (backTo pos (starEach es X.env)).any (·.1) = false := by rfl)
    (ht : eval (.Call (.Attribute o m apos) (e :: es) [] pos) X.env = (do
      let ov ← eval o X.env
      standAt apos.atName
      let (f, first) ← holding [ov] (getMethod ov m pl)
      callWith pos f first (backTo pos (starEach (e :: es) X.env)) (backToKw pos (keywordEach [] X.env))) := by rfl) :
    DEx X W (.Call (.Attribute o m apos) (e :: es) [] pos) (dMethX c m sp we wr) := by
  obtain ⟨C, f, fd, a, F⟩ := O.ex
  obtain ⟨to, po, qo⟩ := ho.ex
  obtain ⟨ta, pa, qa⟩ := ha.ex
  refine ⟨_, pe_methX po a.cl a.me F hr a.b (passAt tk) pa hst hpl ht, fun b A own H σ s Ks Kx Q R h kk mx => ?_⟩
  show to σ H fun x H1 => ∃ a dx fs, x = .ref a ∧ H1 a = some (.ins C dx fs) ∧ fs.lookup m = none ∧ ta σ H1 fun vs H2 => spOfX X.K (n + 1) sp (x :: vs) H2 Q (L2.WE W σ)
  refine qo _ _ _ _ _ _ _ _ R h fun A1 o1 H1 v1 s1 x1 R1 U1 E1 h1 => ?_
  obtain ⟨j, c', fs, rfl, g, hc, hl, h1⟩ := h1
  cases List.mem_singleton.mp hc
  obtain ⟨p, C', dx, ws, rfl, n', hp, r, _⟩ := obj_at R1 E1 g
  rw [a.n] at n'
  cases n'
  refine ⟨p, dx, ws, rfl, hp, r.lookN ((getT_lookup fs).trans hl), ?_⟩
  refine qa _ _ _ _ _ _ _ _ R1 h1 fun A2 o2 H2 vs s2 xs R2 U2 E2 h2 => ?_
  exact callTX_run (xs := .mu j :: xs) (congrArg (· + 1) (E2.len.trans h2.1)) R2 ⟨E1.up U2, E2⟩ h2.2 (kk.up (U1.trans U2)) (mx.up (U1.trans U2).kp)
theorem dex_meth0 {k : Nat} {st : Stmt} {ps : List Str} {sp : SpX} {c m q : Str} {apos pos : Pos} (tk : Takes X W) (O : OkMX X.prog X.w X.K X.mg X.base k c m q st ps 1 sp) (hr : RoomG k X.A) {pl : Sem Bool} (ho : DE X o we)
    (ht : eval (.Call (.Attribute o m apos) [] [] pos) X.env = (do
      let ov ← eval o X.env
      standAt apos.atName
      let (f, first) ← holding [ov] (getMethod ov m pl)
      callWith pos f first (backTo pos (starEach [] X.env)) (backToKw pos (keywordEach [] X.env))) := by rfl) :
    DEx X W (.Call (.Attribute o m apos) [] [] pos) (dMethX c m sp we aNil) := by
  obtain ⟨C, f, fd, a, F⟩ := O.ex
  obtain ⟨to, po, qo⟩ := ho.ex
  refine ⟨_, pe_methX0 po a.cl a.me F hr a.b (passAt tk) ht, fun b A own H σ s Ks Kx Q R h kk mx => ?_⟩
  show to σ H fun x H1 => ∃ a dx fs, x = .ref a ∧ H1 a = some (.ins C dx fs) ∧ fs.lookup m = none ∧ spOfX X.K 1 sp [x] H1 Q (L2.WE W σ)
  refine qo _ _ _ _ _ _ _ _ R h fun A1 o1 H1 v1 s1 x1 R1 U1 E1 h1 => ?_
  obtain ⟨j, c', fs, rfl, g, hc, hl, h1⟩ := h1
  cases List.mem_singleton.mp hc
  obtain ⟨p, C', dx, ws, rfl, n', hp, r, _⟩ := obj_at R1 E1 g
  rw [a.n] at n'
  cases n'
  exact ⟨p, dx, ws, rfl, hp, r.lookN ((getT_lookup fs).trans hl), callTX_run (xs := [.mu j]) rfl R1 ⟨E1, trivial⟩ h1 (kk.up U1) (mx.up U1.kp)⟩
end
section
variable {X : Cx} {pins : List (Addr × Obj)} {σ : L2.St} {H : Hp} {s : Shared}
theorem exV_ok {P : Program} {w : World} {H : Hp} {h : Heap} {a : Addr} {cls : Value} {oe : Obj} {vs : Array Value} (e : h.get? a = some oe) (z1 : oe.cls = cls) (z2 : oe.dict = none) (d : oe.data = .fields vs) : ObjOk P w H h a (ExV cls a) :=
  ⟨⟨oe, vs, e, z1, z2, d⟩, ⟨oe, e⟩, fun _ _ ⟨o, v, q, r⟩ k => ⟨o, v, k o q, r⟩⟩
theorem _root_.L2.Inv.track {a : Addr} {oe : Obj} {vs : Array Value} {cls : Value} (I : Inv X pins σ H s) (e : s.heap.get? a = some oe) (z1 : oe.cls = cls) (z2 : oe.dict = none) (d : oe.data = .fields vs) (na : H a = none) (nL : a ≠ X.env.locals)
    (np : ∀ p ∈ X.pn ++ pins, p.1 ≠ a) (n0 : X.s_0.heap.get? a = none) : Inv X pins σ (upd H a (ExV cls a)) s := by
  refine ⟨I.ok, I.os, I.bare, ⟨I.base.keep, I.base.slot, fun b o q n hx => ?_, I.base.there, fun b xs q => ?_, fun b o u q => ?_, fun b ps q => ?_⟩, I.loc, I.cell, ?_, fun x c q => ?_, fun p hp => ?_, fun b u q => ?_, I.len⟩
  · rw [upd_ne (fun z => by rw [z, n0] at q; cases q)]
    exact I.base.free b o q n hx
  · have h := I.base.tups b xs q
    rw [upd_ne (ne_of_none h na)]
    exact h
  · have h := I.base.frzs b o u q
    rw [upd_ne (ne_of_none h na)]
    exact h
  · obtain ⟨m, h⟩ := I.base.tbls b ps q
    exact ⟨m, by rw [upd_ne (ne_of_none h na)]; exact h⟩
  · rw [upd_ne (fun z => nL z.symm)]
    exact I.free
  · rw [upd_ne (fun z => ?_)]
    · exact I.freeC x c q
    · obtain ⟨v, o, ho, hd⟩ := I.cell x c q
      rw [z, e] at ho
      cases ho
      rw [d] at hd
      cases hd
  · obtain ⟨q1, q2, q3⟩ := I.pin p hp
    refine ⟨q1, ?_, q3⟩
    rw [upd_ne (np p hp)]
    exact q2
  · by_cases hb : b = a
    · subst hb
      rw [upd_same] at q
      cases q
      exact exV_ok e z1 z2 d
    · rw [upd_ne hb] at q
      exact (I.hok b u q).stay (fun c v _ h => h) (fun c h => by rw [upd_ne (ne_of_none h na)]; exact h) fun c xs h => by rw [upd_ne (ne_of_none h na)]; exact h
end
def wAsT (K : PySem.W.Frag) (c : Value) (i : Nat) (ts : Addr → Value → Option Addr → TS) (Wout : WX) (D : Ends) : WX := fun cls d σ H =>
  ∃ b, PySem.W.exmOne K cls c = some b ∧ (b = true → d = none ∧ ∀ a, H a = none → ts a cls d { nx := fun σ' H' => H' a = none → D.nx (σ'.set i none) (upd H' a (ExV cls a)), rt := fun v H' => H' a = none → D.rt v (upd H' a (ExV cls a)), bk := fun σ' H' => H' a = none → D.bk (σ'.set i none) (upd H' a (ExV cls a)), ct := fun σ' H' => H' a = none → D.ct (σ'.set i none) (upd H' a (ExV cls a)) } (σ.set i (some (.ref a))) H) ∧
    (b = false → Wout cls d σ H)
section
variable {X : Cx} {x n : Str} {c : Value} {i : Nat} {body suite : List Stmt} {b₀ : Stmt} {np pos pos' : Pos} {tb : WX → TS} {ts : Addr → Value → Option Addr → TS} {Wout : WX}
theorem ps_try_asT (hex : X.ex = []) (hs : X.stack = X.env :: X.outer) (hf : X.env.frame = some X.env.locals) (hN : X.N.Nodup) (hi : X.N[i]? = some n) (hln : X.env.kindOf n = some .local) (hc : Names X x c) (tk : Takes X Wout)
    (hb : ∀ (W : WX) (pn : List (Addr × Obj)) (xe : Value → Shared → Prop), Takes (X.tr pn xe) W → PassesOwn (model X.prog X.w) X.A X.env xe → PSs (X.tr pn xe) body (tb W))
    (hsu : ∀ (a : Addr) (oe : Obj) (cls : Value) (d : Option Addr) (pn : List (Addr × Obj)), Zc cls d oe → (∃ vs, oe.data = .fields vs) → PSs (X.suite a ((a, oe) :: pn)) (b₀ :: suite) (ts a cls d)) :
    PS X (.Try body [.ExceptHandler (some (.Name x np)) (some n) (b₀ :: suite) pos'] [] [] pos) (fun D σ H => tb (wAsT X.K c i ts Wout D) D σ H) := by
  refine ⟨fun pins s σ H D I h => ?_⟩
  have ok := I.ok
  have hfr : X.A.frames = some (X.env :: X.outer) := by rw [ok.frames, hs]
  have hloc : Loc X.env.scope n := .inl hln
  refine wpAny_Try_except ?_
  refine wpAny_mono ((hb (wAsT X.K c i ts Wout D) (X.pn ++ pins) (fun e s₁ => wpAny (model X.prog X.w) X.A (noteFrame e X.env) (fun _ s₂ => wpAny (model X.prog X.w) X.A (setFlight e none) (fun _ s₃ =>
    wpAny (model X.prog X.w) X.A (handleBy e X.env [.ExceptHandler (some (.Name x np)) (some n) (b₀ :: suite) pos']) (SP X pins D) X.xe s₃) X.xe s₂) X.xe s₁) (fun u s' xx => ?_) PassesOwn.looking).run [] s σ H D (I.toTry _) h) (fun f s1 hsp => ?_) (fun e s1 he => he)
  ·
    obtain ⟨a, B, sI, pins', σ', H', cls, d, rfl, J', nb, up, sky, na, os, ag, b, hb1, hyes, hno⟩ := xx
    have J : Inv X pins σ' H' sI := J'.ofTry ok
    have sky' : Sky B (X.env :: X.outer) a (Zc cls d) X.env.locals s'.heap := by rw [← hs]; exact sky
    show wpAny (model X.prog X.w) X.A (noteFrame (.ref a) X.env) _ _ _
    refine Sky.land Zc.steady hfr hf sky' fun h3 fl3 up3 => ?_
    have J3 : Inv X pins σ' H' { s' with heap := h3 } := J.landed nb fl3.1 (up.trans up3) os ag
    obtain ⟨oe3, vs3, he3, hz3, hd3⟩ := fl3.there
    have notFr : ∀ {h : Heap} {o : Obj} {vs : Array Value}, h.FunFrames B (X.env :: X.outer) → h.get? a = some o → o.data = .fields vs → a ∉ frs (X.env :: X.outer) := fun {h o vs} ff e dd hm => by
      obtain ⟨_, o', e', hnf⟩ := ff.mem hm
      rw [e] at e'; cases e'
      exact hnf _ dd
    have nfr := notFr fl3.2.2.1 he3 hd3
    have nL : a ≠ X.env.locals := fun z => nfr (List.mem_filterMap.mpr ⟨X.env, List.mem_cons_self, by rw [hf, z]⟩)
    have nF : a ∉ X.fs := fun hm => by
      obtain ⟨e, he, q⟩ := List.mem_filterMap.mp hm
      exact nfr (List.mem_filterMap.mpr ⟨e, List.mem_cons_of_mem _ he, q⟩)
    have S3 := J3.suite he3 hd3 na nL nF
    refine wpAny_handleBy_cons (codeAny_handlers_test ?_) (by intro q; cases q)
    have LT : PySem.W.Looks (model X.prog X.w) h3 (typeOf (.ref a)) cls := fun A Q E s k q => wpAny_typeOf_ref (k _ _ he3) (by rw [hz3.1]; exact q)
    have LM := PySem.W.exm_one (M := model X.prog X.w) (J3.kIn) LT hb1
    have test : ∀ {Q : Value → Shared → Prop} {E : Value → Shared → Prop}, Q c { s' with heap := h3 } → wpAny (model X.prog X.w) (X.A.mark (some (.ref a))) (eval (.Name x np) X.env) Q E { s' with heap := h3 } := fun {Q E} q => by
      obtain ⟨hg, hdbg, hm | ⟨hm, hv, hnn⟩⟩ := hc
      · exact ld_glob (X := X.suite a ((a, oe3) :: (X.pn ++ pins))) S3 hg hm q hdbg
      · exact ld_blt (X := X.suite a ((a, oe3) :: (X.pn ++ pins))) S3 hg hm hv q hnn hdbg
    refine test (LM.here ?_)
    cases b with
    | true =>
      obtain ⟨hd0, hyes⟩ := hyes rfl
      subst hd0
      obtain ⟨_, k2, _, _⟩ := id fl3
      have sIa : sI.heap.get? a = none := by
        cases q : sI.heap.get? a with
        | none => rfl
        | some o =>
          have z := nb a o q (by rw [hs]; exact nfr)
          rw [k2] at z
          cases z
      have npin : ∀ p ∈ X.pn ++ pins, p.1 ≠ a := fun p hp z => by
        have e := (J.pin p hp).1
        rw [z, sIa] at e
        cases e
      have n0 : X.s_0.heap.get? a = none := by
        cases q : X.s_0.heap.get? a with
        | none => rfl
        | some o =>
          obtain ⟨o', e⟩ := J.base.there a o q (by rw [hex]; exact fun z => nomatch z)
          rw [sIa] at e
          cases e
      refine codeAny_handlers_suite_as ?_
      refine HandSPX.lands_againZ fl3 fun h4 fl4 up4 => ?_
      have J4 : Inv X pins σ' H' { s' with heap := h4 } := J.landed nb fl4.1 ((up.trans up3).trans up4) os ag
      obtain ⟨oe4, vs4, he4, hz4, hd4⟩ := fl4.there
      have S4 := J4.suite he4 hd4 na nL nF
      refine store_ok (X := X.suite a ((a, oe4) :: (X.pn ++ pins))) (v := .ref a) S4 hN hi hloc rfl (fun s5 S5 => ?_) (.inr hln)
      refine wpAny_mono ((hsu a oe4 cls none (X.pn ++ pins) hz4 ⟨_, hd4⟩).run [] s5 _ H' _ S5 (hyes a na)) (fun f s6 hsp => ?_) (fun _ _ z => False.elim z)
      have end_ : ∀ {σ6 : L2.St} {H6 : Hp} {Q : Shared → Prop}, Inv (X.suite a ((a, oe4) :: (X.pn ++ pins))) [] σ6 H6 s6 → (H6 a = none → ∀ s7, Inv X pins (σ6.set i none) (upd H6 a (ExV cls a)) s7 → Q s7) →
          wpAny (model X.prog X.w) X.A (do bindName X.env n .none; unbindBehindTheSuite X.env n pos') (fun _ s7 => Q s7) X.xe s6 := fun {σ6 H6 Q} S6 hq => by
        obtain ⟨p1, p2, p3, p4, p5⟩ := S6.pin (a, oe4) (by rw [List.append_nil]; exact List.mem_cons_self)
        exact gone_ok (Inv.track (S6.unsuite ok) p1 hz4.1 hz4.2 hd4 p2 p3 npin n0) hN hi hln (hq p2)
      cases f with
      | next =>
        obtain ⟨σ6, H6, S6, q6⟩ := hsp
        exact end_ S6 fun n6 s7 J7 => ⟨_, _, J7, q6 n6⟩
      | brk =>
        obtain ⟨σ6, H6, S6, q6⟩ := hsp
        exact end_ S6 fun n6 s7 J7 => ⟨_, _, J7, q6 n6⟩
      | cont =>
        obtain ⟨σ6, H6, S6, q6⟩ := hsp
        exact end_ S6 fun n6 s7 J7 => ⟨_, _, J7, q6 n6⟩
      | ret u =>
        obtain ⟨v6, σ6, H6, S6, r6, q6⟩ := hsp
        exact end_ S6 fun n6 s7 J7 => ⟨_, _, _, J7, r6, q6 n6⟩
    | false =>
      show wpAny _ X.A (handleBy (.ref a) X.env []) _ _ _
      refine wpAny_handleBy_nil ?_
      obtain ⟨k1, k2, k3, oe, vs, T, oT, ts', he, hz, hd, h1, hr⟩ := id fl3
      unfold PySem.passOn
      refine wpAny_bind (wpAny_field he hd h1 ?_)
      rw [if_neg (show ¬ ((Value.ref T == Value.none) = true) from by simp)]
      have fin : wpAny (model X.prog X.w) X.A (setFlight (.ref a) X.env.frame) (fun _ s4 => wpAny (model X.prog X.w) X.A (throw (.ref a) : Sem Flow) (SP X pins D) X.xe s4) X.xe { s' with heap := h3 } := by
        rw [hf]
        refine HandSPX.setFlight_upZ fl3 fun h4 hh4 up4 => wpAny_throw (tk _ _ ?_)
        exact ⟨a, B, sI, pins, σ', H', cls, d, rfl, J, nb, (up.trans up3).trans up4, .inr (.inr (by rw [hs]; exact hh4)), na, os, ag, hno rfl⟩
      first
        | exact wpAny_bind (wpAny_pure (wpAny_bind fin))
        | exact wpAny_bind fin
  · cases f with
    | next =>
      obtain ⟨σ', H', J', q⟩ := hsp
      exact wpAny_execs_nil ⟨σ', H', J'.ofTry ok, q⟩
    | brk =>
      obtain ⟨σ', H', J', q⟩ := hsp
      exact ⟨σ', H', J'.ofTry ok, q⟩
    | cont =>
      obtain ⟨σ', H', J', q⟩ := hsp
      exact ⟨σ', H', J'.ofTry ok, q⟩
    | ret u =>
      obtain ⟨v, σ', H', J', r, q⟩ := hsp
      exact ⟨v, σ', H', J'.ofTry ok, r, q⟩
end
end DL
namespace DL
open PySem L2 PySem.Spec PyProof.Rows
def canSx (K : PySem.W.Frag) (W : WX) (w : WSx) : TS := fun E σ H => ∃ (b : Bd) (A : Addr → Prop) (own : List (List Addr)) (s : S) (D : Dn) (Kx : S → Str → Prop), Rel K b A own H σ s ∧ w s D Kx ∧ Mt K b A H D E ∧ MtX K b A H Kx W
theorem DSsx.can {X : Cx} {W : WX} {sts : List Stmt} {w : WSx} (h : DSsx X W sts w) : PSs X sts (canSx X.K W w) := by
  obtain ⟨t, p, q⟩ := h.ex
  exact ⟨fun pins s σ H D I ⟨b, A, own, s', Dd, Kx, R, hw, m, mx⟩ => p.run pins s σ H D I (q _ _ _ _ _ _ _ _ _ R hw m mx)⟩
theorem Rel.unset {K : PySem.W.Frag} {b : Bd} {A : Addr → Prop} {own : List (List Addr)} {H : Hp} {σ : L2.St} {s : S} (r : Rel K b A own H σ s) (i : Nat) : Rel K b A own H (σ.set i none) { s with es := st s.es i .no } := by
  refine r.slots (es' := st s.es i .no) (by rw [List.length_set, st_length]; exact r.len) fun j => ?_
  rw [gt_st]
  by_cases e : i = j ∧ i < s.es.length
  · rw [if_pos e]; exact .inl rfl
  · rw [if_neg e]
    rcases r.sl j with q | ⟨v, e', q⟩
    · exact .inl q
    · by_cases ij : i = j
      · subst ij
        have : ¬ i < s.es.length := fun z => e ⟨rfl, z⟩
        rw [List.getElem?_eq_none (by rw [r.len]; omega)] at e'
        cases e'
      · exact .inr ⟨v, by rw [List.getElem?_set_ne ij]; exact e', q⟩
def sTryAs (i j : Nat) (cs : List Str) (v : WSx) : WS := fun s D => v s D fun s1 c => c ∈ cs ∧ Nat.blt i s1.es.length = true ∧ D.nx ⟨st (st s1.es j (.mu s1.ms.length)) i .no, s1.ms ++ [.ins (.exc c) []], s1.np⟩
structure ExmT (K : PySem.W.Frag) (mg : Str → Option Value) (x : Str) (cs : List Str) : Prop where
  ex : ∃ cv, mg x = some cv ∧ ∀ c ∈ cs, ∀ C, CN K c C → PySem.W.exmOne K (.ref C) cv = some true
section
variable {X : Cx} {body : List Stmt} {i j : Nat} {cs : List Str} {v : WSx} {xc n y : Str} {np py pn pa pos pos' : Pos}
theorem ds_try (hex : X.ex = []) (hs : X.stack = X.env :: X.outer) (hf : X.env.frame = some X.env.locals) (hN : X.N.Nodup) (hi : X.N[i]? = some n) (hj : X.N[j]? = some y) (hij : i ≠ j) (hln : X.env.kindOf n = some .local) (hly : Loc X.env.scope y) (hvn : Vis X.env.scope n)
    (F : ExmT X.K X.mg xc cs) (hg : Gl X xc) (hb : ∀ (W : WX) (pq : List (Addr × Obj)) (xe : Value → Shared → Prop), Takes (X.tr pq xe) W → PassesOwn (model X.prog X.w) X.A X.env xe → DSsx (X.tr pq xe) W body v)
    (hfy : X.fn y = true ∨ X.env.scope.names.lookup y = some .local := by first | exact .inl rfl | exact .inr rfl | assumption)
    (hdb : (xc == ("__debug__" : Str)) = false := by decide) (hdn : (n == ("__debug__" : Str)) = false := by decide) (hdc : (n == ("__classdict__" : Str)) = false := by decide) (hsw : swapsWith (.Name n pn) (some (.Name y py)) pa.line X.env = pure false := by rfl) :
    DS X (.Try body [.ExceptHandler (some (.Name xc np)) (some n) [.Assign [.Name y py] (.Name n pn) pa] pos'] [] [] pos) (sTryAs i j cs v) := by
  obtain ⟨cv, hm, hx⟩ := F.ex
  refine ⟨_, ps_try_asT (Wout := fun _ _ _ _ => False) (tb := fun W => canSx X.K W v) (ts := fun _ _ _ => tAsg (tVar i) (gName j)) hex hs hf hN hi hln ⟨hg, hdb, .inl hm⟩ takes0 (fun W pq xe tk po => (hb W pq xe tk po).can)
    (fun a oe cls d pq _ _ => pss_one (ps_set (X := X.suite a ((a, oe) :: pq)) hN hj hly (pe_var (X := X.suite a ((a, oe) :: pq)) hi hvn hdn hdc) hsw hfy)), fun b A own H σ s D E R h m => ?_⟩
  refine ⟨b, A, own, s, D, _, R, h, m, fun A' own' H' σ' s' c C R' kp hcn hk => ⟨true, hx c hk.1 C hcn, fun _ => ⟨rfl, fun a na => ?_⟩, fun z => nomatch z⟩⟩
  obtain ⟨hcs, hlt, hk⟩ := hk
  have hlt : i < s'.es.length := by simpa using hlt
  show ∃ v, (σ'.set i (some (V.ref a)))[i]? = some (some v) ∧ (H' a = none → E.nx (((σ'.set i (some (V.ref a))).set j (some v)).set i none) (upd H' a (ExV (.ref C) a)))
  refine ⟨.ref a, by rw [List.getElem?_set_self (by rw [R'.len]; exact hlt)], fun _ => ?_⟩
  obtain ⟨R1, U1, g1⟩ := R'.newMu (o := ExV (.ref C) a) na (.ins (.exc c) []) fun A2 o2 u => ⟨a, [], [], rfl, ⟨rfl, C, hcn, upd_same⟩, trivial⟩
  have R2 := (R1.slot (i := j) (v := .ref a) (x := .mu s'.ms.length) ⟨a, [], g1, rfl⟩).unset i
  have e : ((σ'.set i (some (V.ref a))).set j (some (V.ref a))).set i none = (σ'.set j (some (V.ref a))).set i none := by
    rw [List.set_comm _ _ hij, List.set_set]
  rw [e]
  exact m.nx _ _ _ _ _ R2 (kp.trans U1.kp) hk
end
def rIsx (K : PySem.W.Frag) : List V → Hp → VK → Prop := fun xs H Q => ∃ (a D : Addr) (c : V) (cv : Value) (b : Bool), xs = [.ref a, c] ∧ H a = some (ExV (.ref D) a) ∧ ExcC K D ∧ ClsV c cv ∧ PySem.W.kitOne K (.ref D) cv = some b ∧ Q (.bl b) H
def rIsxT (K : PySem.W.Frag) : List V → Hp → VK → Prop := fun xs H Q => ∃ (a D tp : Addr) (cs : List V) (us : List Value) (b : Bool), xs = [.ref a, .ref tp] ∧ H a = some (ExV (.ref D) a) ∧ H tp = some (.tup cs) ∧ ExcC K D ∧ Paired ClsV cs us ∧ PySem.W.kitAny K (.ref D) us = some b ∧ Q (.bl b) H
section
variable {X : Cx} {pins : List (Addr × Obj)} {σ : L2.St} {H : Hp} {s : Shared}
theorem inst_of {a D : Addr} (I : Inv X pins σ H s) (e : H a = some (ExV (.ref D) a)) : ∃ oe, PySem.W.InstAt s.heap a oe D none := by
  obtain ⟨⟨oe, vs, h1, h2, h3, h4⟩, _⟩ := (show ObjOk X.prog X.w H s.heap a (ExV (.ref D) a) from I.hok a _ e)
  refine ⟨oe, ?_⟩
  obtain ⟨oc, od, oda, osl⟩ := oe
  dsimp only at h2 h3 h4
  subst h2 h3 h4
  exact ⟨h1, rfl, rfl, trivial⟩
theorem call_isx : CallR X (.builtin "isinstance") (rIsx X.K) := by
  intro pins s σ H xs us Q I r h
  obtain ⟨a, D, c, cv, b, rfl, e, C, hc, hk, q⟩ := h
  obtain ⟨u1, u2, rfl, r1, r2⟩ := vals2 r
  cases (show u1 = Value.ref a from r1)
  have e2 := hc.eq r2
  subst e2
  obtain ⟨oe, J⟩ := inst_of I e
  exact PySem.W.kia_one (PySem.W.handS_kitx_exc C.hg C.hk C.hs C.hd C.ha C.hn C.ht C.hm) I.kIn J hk (fun z => nomatch z) fun tk => ⟨.bl b, H, I.tok tk, rfl, q⟩
theorem call_isxT : CallR X (.builtin "isinstance") (rIsxT X.K) := by
  intro pins s σ H xs us Q I r h
  obtain ⟨a, D, tp, cs, ws, b, rfl, e, hT, C, k, hk, q⟩ := h
  obtain ⟨u1, u2, rfl, r1, r2⟩ := vals2 r
  cases (show u1 = Value.ref a from r1)
  cases (show u2 = Value.ref tp from r2)
  obtain ⟨oe, J⟩ := inst_of I e
  obtain ⟨_, its, rv, o, h1, h2, n, h3⟩ := (show ObjOk X.prog X.w H s.heap tp (.tup cs) from I.hok tp _ hT)
  have e3 := ClsV.all k rv
  subst e3
  obtain ⟨oc, od, dt, sl⟩ := o
  simp only at h2 h3
  subst h2 h3
  exact PySem.W.kia_tup (PySem.W.handS_kitx_exc C.hg C.hk C.hs C.hd C.ha C.hn C.ht C.hm) I.kIn J h1 hk (fun z => nomatch z) fun tk => ⟨.bl b, H, I.tok tk, rfl, q⟩
end
structure IsxT (K : PySem.W.Frag) (mg : Str → Option Value) (x : Str) (fs : List (Str × Bool)) : Prop where
  ex : ∃ cv c, (c = V.ty "ValueError" ∧ cv = .type "ValueError" ∧ x = Str.ofString "ValueError" ∧ mg x = none ∨ ∃ C, c = V.ref C ∧ cv = .ref C ∧ mg x = some (.ref C)) ∧ ∀ p ∈ fs, ∀ D, CN K p.1 D → ExcC K D ∧ PySem.W.kitOne K (.ref D) cv = some p.2
structure IsxsT (K : PySem.W.Frag) (mg : Str → Option Value) (xs : List Str) (fs : List (Str × Bool)) : Prop where
  ex : ∃ Cs : List Addr, xs.map mg = Cs.map (fun C => some (.ref C)) ∧ ∀ p ∈ fs, ∀ D, CN K p.1 D → ExcC K D ∧ PySem.W.kitAny K (.ref D) (Cs.map .ref) = some p.2
def dIsx (fs : List (Str × Bool)) (wa : WE) : WE := fun s Ks => wa s fun s1 x => ∃ j c es r, x = .mu j ∧ gm s1.ms j = .ins (.exc c) es ∧ (c, r) ∈ fs ∧ Ks s1 (.da (.bool r))
section
variable {X : Cx} {a e : Expr} {wa : WE} {pos : Pos}
theorem exc_at {K : PySem.W.Frag} {b : Bd} {A : Addr → Prop} {own : List (List Addr)} {H : Hp} {σ : L2.St} {s : S} (R : Rel K b A own H σ s) {v : V} {j : Nat} {c : Str} {es : List (Str × En)} (E : ER K A own H v (.mu j)) (g : gm s.ms j = .ins (.exc c) es) :
    ∃ p C, v = .ref p ∧ CN K c C ∧ H p = some (ExV (.ref C) p) := by
  have m := R.mr j
  rw [g] at m
  obtain ⟨p, r, ws, e1, ⟨e0, C, h1, h2⟩, _⟩ := m
  obtain ⟨p', r', e4, rfl⟩ := E
  rw [e1] at e4
  cases e4
  exact ⟨p, C, rfl, h1, h2⟩
theorem de_isx {x : Str} {fs : List (Str × Bool)} {p p2 : Pos} (F : IsxT X.K X.mg x fs) (hg : Gl X "isinstance") (hm : X.mg "isinstance" = none) (hgx : Gl X x) (ha : DE X a wa) (hdx : (x == ("__debug__" : Str)) = false := by decide)
    (he : starEach (a :: [.Name x p2]) X.env = (false, eval a X.env) :: starEach [.Name x p2] X.env := by rfl) (hpl : (backTo pos (starEach [.Name x p2] X.env)).any (·.1) = false := by rfl) : DE X (.Call (.Name "isinstance" p) [a, .Name x p2] [] pos) (dIsx fs wa) := by
  obtain ⟨cv, c, hc, hF⟩ := F.ex
  obtain ⟨ta, pa, qa⟩ := ha.ex
  have cl : ClsV c cv := by
    rcases hc with ⟨rfl, rfl, _⟩ | ⟨C, rfl, rfl, _⟩
    · exact .ty _
    · exact .own _
  have px : PE X (.Name x p2) (tC c) := by
    rcases hc with ⟨rfl, rfl, rfl, hmx⟩ | ⟨C, rfl, rfl, hmx⟩
    · exact pe_bltn hgx hmx (show bootBuiltins (Str.ofString "ValueError") = some (.type "ValueError") by rfl) (show RelV (.ty "ValueError") (.type "ValueError") from rfl)
    · exact pe_glob hgx hmx (show RelV (.ref C) (.ref C) from rfl) hdx
  refine ⟨_, pe_callB call_isx hg hm (show bootBuiltins "isinstance" = some (.builtin "isinstance") by rfl) (pa_cons pa (pa_cons px pa_nil) he) (he := he) (hpl := hpl), fun b A own H σ s Ks Q R h k => ?_⟩
  show ta σ H fun v H1 => rIsx X.K [v, c] H1 Q
  refine qa _ _ _ _ _ _ _ _ R h fun A1 o1 H1 v1 s1 x1 R1 U1 E1 h1 => ?_
  obtain ⟨j, cc, es, r, rfl, g, hcr, h1⟩ := h1
  obtain ⟨q, C, rfl, hcn, hq⟩ := exc_at R1 E1 g
  obtain ⟨hC, hk⟩ := hF _ hcr C hcn
  exact ⟨q, C, c, cv, r, rfl, hq, hC, cl, hk, k _ _ _ _ _ (.da (.bool r)) R1 U1 (.bl r) h1⟩
def rdIsNx : S → En → En → (S → En → Prop) → Prop := fun s x y Ks => match x, y with
  | .mu j, .da .none => (∃ c es, gm s.ms j = .ins (.exc c) es) ∧ Ks s (.da (.bool false))
  | x, y => rdIsN false s x y Ks
theorem opd_isNx {K : PySem.W.Frag} : OpD K (fun x y H Q => y = .non ∧ Q (.bl (decide (x = .non))) H) rdIsNx := by
  intro b A own H σ s vx vy x y Ks Q R ex ey h k
  cases x with
  | mu j =>
    cases y with
    | da d =>
      cases d with
      | none =>
        obtain ⟨⟨c, es, g⟩, h⟩ := h
        obtain ⟨p, C, rfl, _, _⟩ := exc_at R ex g
        cases ey
        refine ⟨rfl, ?_⟩
        rw [show decide (V.ref p = V.non) = false from rfl]
        exact k _ _ _ _ _ (.da (.bool false)) R Up.refl (.bl false) h
      | _ => exact h.elim
    | _ => exact h.elim
  | da d => exact opd_isN _ _ _ _ _ _ _ _ _ _ _ _ R ex ey h k
  | no => exact opd_isN _ _ _ _ _ _ _ _ _ _ _ _ R ex ey h k
theorem dt_isNx {b : Expr} {wb : WE} (ha : DE X a wa) (hb : DE X b wb) : DT X (.Compare a [.Is] [b] pos) (tT (d2 rdIsNx wa wb)) := dt_cmp op_isN opd_isNx ha hb (nomark _)
end
end DL
namespace DL
open PySem L2 PySem.Spec PyProof.Rows
section
variable {X : Cx} {a e : Expr} {wa : WE} {pos : Pos} {es : List Expr} {xs : List Str}
theorem paired_refs : ∀ l : List Addr, Paired ClsV (l.map V.ref) (l.map Value.ref)
  | [] => .nil
  | C :: r => .cons (.own C) (paired_refs r)
structure DCls (X : Cx) (es : List Expr) (xs : List Str) : Prop where
  ex : ∀ Cs : List Addr, xs.map X.mg = Cs.map (fun C => some (.ref C)) → PA X es (fun σ H Q => Q (Cs.map V.ref) H)
theorem dcls_nil : DCls X [] [] := ⟨fun Cs h => by
  cases Cs with
  | nil => exact pa_nil
  | cons _ _ => cases h⟩
theorem dcls_cons {x : Str} {p : Pos} (hg : Gl X x) (t : DCls X es xs) (hd : (x == ("__debug__" : Str)) = false := by decide) (hs : starEach (.Name x p :: es) X.env = (false, eval (.Name x p) X.env) :: starEach es X.env := by rfl) : DCls X (.Name x p :: es) (x :: xs) := ⟨fun Cs h => by
  cases Cs with
  | nil => cases h
  | cons C Cs =>
    obtain ⟨h1, h2⟩ := List.cons.inj h
    exact pa_cons (pe_glob hg h1 (show RelV (.ref C) (.ref C) from rfl) hd) (t.ex Cs h2) hs⟩
theorem de_isxs {fs : List (Str × Bool)} {p p2 : Pos} {x1} (F : IsxsT X.K X.mg xs fs) (hg : Gl X "isinstance") (hm : X.mg "isinstance" = none) (hc : DCls X es xs) (ha : DE X a wa) (hl : xs.length ≤ 50 := by decide)
    (he : starEach (a :: [.Tuple es x1 p2]) X.env = (false, eval a X.env) :: starEach [.Tuple es x1 p2] X.env := by rfl) (he2 : starEach (.Tuple es x1 p2 :: []) X.env = (false, eval (.Tuple es x1 p2) X.env) :: starEach [] X.env := by rfl) (hpl : (backTo pos (starEach [.Tuple es x1 p2] X.env)).any (·.1) = false := by rfl) :
    DE X (.Call (.Name "isinstance" p) [a, .Tuple es x1 p2] [] pos) (dIsx fs wa) := by
  obtain ⟨Cs, hC, hF⟩ := F.ex
  obtain ⟨ta, pa, qa⟩ := ha.ex
  have px : PE X (.Tuple es x1 p2) _ := pe_tup (hc.ex Cs hC)
  have lC : (Cs.map V.ref).length ≤ sizeLine := by
    have := congrArg List.length hC
    rw [List.length_map, List.length_map] at this
    rw [List.length_map, ← this, sizeLine_eq]
    omega
  refine ⟨_, pe_callB call_isxT hg hm (show bootBuiltins "isinstance" = some (.builtin "isinstance") by rfl) (pa_cons pa (pa_cons px pa_nil he2) he) (he := he) (hpl := hpl), fun b A own H σ s Ks Q R h k => ?_⟩
  show ta σ H fun v H1 => (Cs.map V.ref).length ≤ sizeLine ∧ ∀ p, H1 p = none → rIsxT X.K [v, .ref p] (upd H1 p (.tup (Cs.map V.ref))) Q
  refine qa _ _ _ _ _ _ _ _ R h fun A1 o1 H1 v1 s1 x1 R1 U1 E1 h1 => ⟨lC, fun p hp => ?_⟩
  obtain ⟨j, cc, es, r, rfl, g, hcr, h1⟩ := h1
  obtain ⟨R2, U2⟩ := R1.new (o := .tup (Cs.map V.ref)) hp
  obtain ⟨q, C, rfl, hcn, hq⟩ := exc_at R2 (E1.up U2) g
  obtain ⟨hD, hk⟩ := hF _ hcr C hcn
  refine ⟨q, C, p, Cs.map V.ref, Cs.map .ref, r, rfl, hq, upd_same, hD, ?_, hk, k _ _ _ _ _ (.da (.bool r)) R2 (U1.trans U2) (.bl r) h1⟩
  exact paired_refs Cs
end
section
variable {P : Program} {w : World} {K : PySem.W.Frag} {mg : Str → Option Value} {base : Heap}
theorem fn_dataX {x qual : Str} {st : Stmt} {f : Addr} {fd : FuncData} {N ps : List Str} {k : Nat} {sp : SpX} (F : Fun K x qual st f fd) (Sc : FnScope N ps (defScope st)) (v : WSx)
    (hb : ∀ (cdv : Value) (A : Around) (outer : List Env) (s : Shared) (H : Hp) (E : XK), RoomG k (A.deeper (PyProof.Rows.envOfC qual (defScope st) s.heap.objs.size f cdv)) → Takes (cxOf (L2.CX P w) P w K mg base N qual (defScope st) f cdv A outer s H E) (fun cls d _ H => E cls d H) →
      DSsx (cxOf (L2.CX P w) P w K mg base N qual (defScope st) f cdv A outer s H E) (fun cls d _ H => E cls d H) (defBody st) v)
    (hsp : ∀ xs ms Ks Kx, sp xs ms Ks Kx → xs.length = ps.length → v ⟨xs ++ nos (N.length - ps.length), ms, ms.length⟩ (endT Ks) (fun s c => Kx s.ms c)) : FnOkG P w K mg base (L2.CX P w) (k + 1) f fd ps (spOfX K ps.length sp) := by
  obtain ⟨oc, od, kV, doc, pm, an, cdv, ct, osl, rfl, lk, hcd⟩ := F.ex
  refine fn_byG lk hcd Sc (fun vs H Q E h => ?_) fun A outer s H vs Q E hr hg h => ?_
  · obtain ⟨_, _, _, _, _, _, hn, _⟩ := h
    exact hn
  · obtain ⟨Av, own, xs, ms, Ks, Kx, hn, he, ho, hs, k1, k2⟩ := h
    obtain ⟨t, pt, qt⟩ := (hb cdv A outer s H E ⟨hr, hg⟩ (takes_of rfl rfl rfl rfl)).ex
    have hxl : xs.length = ps.length := he.len.symm.trans hn
    have hN : ps.length ≤ N.length := by
      have := congrArg List.length Sc.pre
      rw [List.length_take] at this
      omega
    refine ⟨t, pt, ?_⟩
    have R : Rel K ⟨H, own, Av⟩ Av own H (L2.start N vs) ⟨xs ++ nos (N.length - ps.length), ms, ms.length⟩ := by
      refine ⟨ho, ?_, fun i => ?_, fun a h => h, fun a o n h => h, fun k a h => .inl ⟨k, h⟩, ?_, ?_, fun a h => .inl h, ho.al⟩
      · show (vs.map some ++ List.replicate (N.length - vs.length) none).length = _
        simp [nos_length, hn, hxl]
      · show gt (xs ++ nos (N.length - ps.length)) i = .no ∨ ∃ v, (vs.map some ++ List.replicate (N.length - vs.length) none)[i]? = some (some v) ∧ _
        rw [hn]
        exact start_at N he _ i
      · show own.take ms.length = own
        rw [← ho.ol]; exact List.take_length
      · show ms.length ≤ own.length
        rw [ho.ol]; exact Nat.le_refl _
    have fin : ∀ (A' : Addr → Prop) (own' : List (List Addr)) (H' : Hp) (σ' : L2.St) (s' : S) (v : V) (x : En), Rel K ⟨H, own, Av⟩ A' own' H' σ' s' → ER K A' own' H' v x → Ks s'.ms x → Q v H' := by
      intro A' own' H' σ' s' v x R' ex hx
      have np : own.length = s'.np := R'.np
      have hpre : own'.take own.length = own := by rw [np]; exact R'.pre
      exact k1 A' own' H' v s'.ms x R'.toOwn hpre R'.ge R'.lim (fun a o n h => R'.fr a o n h) R'.fo ex hx
    refine qt _ _ _ _ _ _ (endT Ks) _ _ R (hsp xs ms Ks Kx hs hxl) ⟨fun A' own' H' σ' s' R' _ h => fin A' own' H' σ' s' .non (.da .none) R' .non h, fun A' own' H' σ' s' v x R' _ ex h => fin A' own' H' σ' s' v x R' ex (onE_inv h).2, fun _ _ _ _ _ _ _ h => h.elim, fun _ _ _ _ _ _ _ h => h.elim⟩ fun A' own' H' σ' s' c C R' _ hc hk => ?_
    have np : own.length = s'.np := R'.np
    have hpre : own'.take own.length = own := by rw [np]; exact R'.pre
    exact k2 A' own' H' s'.ms c C R'.toOwn hpre R'.ge R'.lim (fun a o n h => R'.fr a o n h) R'.fo hc hk
theorem ok_dataMX {c m q : Str} {st : Stmt} {N ps : List Str} {k n n0 : Nat} {sp : SpX} (hF : ∃ C f fd, AtM K c m q st ps C f fd) (Sc : FnScope N ps (defScope st)) (v : WSx)
    (hb : ∀ (f : Addr) (cdv : Value) (A : Around) (outer : List Env) (s : Shared) (H : Hp) (E : XK), RoomG k (A.deeper (PyProof.Rows.envOfC q (defScope st) s.heap.objs.size f cdv)) → Takes (cxOf (L2.CX P w) P w K mg base N q (defScope st) f cdv A outer s H E) (fun cls d _ H => E cls d H) →
      DSsx (cxOf (L2.CX P w) P w K mg base N q (defScope st) f cdv A outer s H E) (fun cls d _ H => E cls d H) (defBody st) v)
    (hsp : ∀ xs ms Ks Kx, sp xs ms Ks Kx → xs.length = n → v (st0 xs n0 ms ms.length) (endT Ks) (fun s c => Kx s.ms c)) (hn : ps.length = n := by rfl) (hn0 : N.length - ps.length = n0 := by rfl) : OkMX P w K mg base (k + 1) c m q st ps n sp := by
  obtain ⟨C, f, fd, a⟩ := hF
  subst hn
  subst hn0
  exact ⟨C, f, fd, a, fn_dataX a.F Sc v (hb f) hsp⟩
end
end DL
namespace DL.KW
open PySem PySem.Calls PyProof.Rows PySem.W DL.KJ
section
variable {prog : Program} {w : World} {A : Around} {E : Value → Shared → Prop} {s : Shared} {T : String} {r d : Addr} {n : Nat} {P : Nat → Value → Prop} {OK : Heap → Prop}
theorem collect_src {R : List Value → Shared → Prop} (K : KdlSrc prog w T r d n P OK) (hh : A.handled = none) (hok : OK s.heap) (hn : n ≤ sizeLine)
    (h : ∀ (h' : Heap) (tk : Nat) (acc : Array Value), (∀ b o, s.heap.get? b = some o → h'.get? b = some o) → s.heap.objs.size < h'.objs.size → ItemsOf P acc n → R acc.toList { s with heap := h', toks := tk }) :
    wpAny (model prog w) A (collect (.ref r)) R E s := by
  obtain ⟨hr, hd⟩ := K.there _ hok
  unfold collect
  refine wpAny_bind (wpAny_runValue (codeAny_builtin PySem.F.entry_proto_collect ?_))
  rw [Around.under_plainId PySem.F.plain_proto_collect _]
  show wpAny _ A.in1 (newList [] >>= fun l => again (.builtin "list.__iadd__" ⟨[l, .ref r], []⟩)) _ _ s
  refine wpAny_bind (wpAny_newObj_type ?_)
  refine wpAny_pure ⟨plainId_quiet PySem.F.plain_list_iadd _, codeAny_builtin PySem.F.entry_list_iadd ?_⟩
  rw [Around.under_plainId PySem.F.plain_list_iadd _]
  have hS₁ : (s.heap.push { cls := .type "list", data := .seq ([] : List Value).toArray }).get? s.heap.objs.size = some { cls := .type "list", data := .seq #[] } := Heap.get?_push_size _ rfl
  show wpAny _ A.in1 (Builtin.List.listExtendWith (.ref s.heap.objs.size) (.ref r) (.ref s.heap.objs.size)) _ _ _
  have key := kdl_extend (A := A) (s := { s with heap := s.heap.push { cls := .type "list", data := .seq ([] : List Value).toArray } })
    (R := fun (q : Result) (s' : Shared) => ∃ (h' : Heap) (tk : Nat) (acc' : Array Value) (c' : Nat), q = .ok (.ret (.ref s.heap.objs.size)) ∧ s' = { s with heap := h', toks := tk } ∧
      (∀ b o, s.heap.get? b = some o → h'.get? b = some o) ∧ h'.get? s.heap.objs.size = some { cls := .type "list", dict := none, data := .seq acc' c', slots := #[] } ∧ ItemsOf P acc' n)
    K hh (K.keep _ _ hok fun b _ o e => Heap.get?_push_of_some _ e) s.heap.objs.size (Nat.ne_of_gt hr) (Nat.ne_of_gt hd) (.ref s.heap.objs.size) 0 hS₁
    (fun h' tk acc' c' hk hS' hacc => ⟨h', tk, acc', c', rfl, rfl, fun b o e => hk b o (Nat.ne_of_lt (Heap.lt_size e)) (Heap.get?_push_of_some _ e), hS', hacc⟩) hn
  refine wpAny_mono key (fun fin s' x => ?_) fun e s' x => ?_
  · cases fin with
    | done f =>
      obtain ⟨h', tk, acc', c', e, rfl, hk, hS', hacc⟩ := x
      cases e
      show wpAny _ A (load s.heap.objs.size >>= _) _ _ _
      refine wpAny_bind (wpAny_load hS' ?_)
      refine wpAny_pure ?_
      show R acc'.toList _
      exact h h' tk acc' hk (Heap.lt_size hS') hacc
    | again c₁ =>
      refine ⟨x.1, codeAny_mono x.2 fun q s₂ y => ?_⟩
      obtain ⟨h', tk, acc', c', rfl, rfl, hk, hS', hacc⟩ := y
      show wpAny _ A (load s.heap.objs.size >>= _) _ _ _
      refine wpAny_bind (wpAny_load hS' ?_)
      refine wpAny_pure ?_
      show R acc'.toList _
      exact h h' tk acc' hk (Heap.lt_size hS') hacc
  · obtain ⟨_, _, _, _, e', _⟩ := x
    cases e'
theorem sorted_of_sortV {kw : List (Str × Value)} {Q : Value → Shared → Prop} (K : KdlSrc prog w T r d n P OK) (hh : A.handled = none) (hok : OK s.heap) (hn : n ≤ sizeLine) (ha1 : argsOk "sorted" ⟨[.ref r], kw⟩) (ha2 : ∀ x, argsOk "list.sort" ⟨[.ref x], kw⟩)
    (body : ∀ (E' : Value → Shared → Prop) (h' : Heap) (tk : Nat) (vs : List Value), (∀ b o, s.heap.get? b = some o → h'.get? b = some o) → s.heap.objs.size < h'.objs.size → vs.length = n → (∀ j v, vs[j]? = some v → P j v) →
      wpAny (model prog w) A.in1.in1 (Builtin.«list.sort» ⟨[.ref h'.objs.size], kw⟩) (fun f s' => f = .done (.ret .none) ∧ Q (.ref h'.objs.size) s') E' { s with heap := h'.push (seqObj "list" vs.toArray 0), toks := tk }) :
    wpAny (model prog w) A (call (.builtin "sorted") [.ref r] kw) Q E s := by
  refine call_function_entry_kw kind_sorted plain_sorted entry_sorted ha1 ?_
  unfold Builtin.«sorted»
  refine wpAny_bind (m := checkCount "sorted" 1 1 _) (wpAny_pure ?_)
  refine wpAny_bind (collect_src (A := A.in1) K hh hok hn fun h' tk acc hk hlt hacc => ?_)
  have hl : acc.toList.length = n := by rw [Array.length_toList]; exact hacc.1
  refine wpAny_bind (wpAny_newList ?_ (by rw [hl]; exact hn))
  have hob : (h'.push (seqObj "list" acc.toList.toArray 0)).get? h'.objs.size = some (seqObj "list" acc.toList.toArray 0) := Heap.get?_push_size _ rfl
  show wpAny _ _ _ _ _ { s with heap := h'.push (seqObj "list" acc.toList.toArray 0), toks := tk }
  refine wpAny_bind (wpAny_holding (wpAny_call_entry_kw slot_list_sort ⟨_, hob, rfl⟩ entry_list_sort ?body (ha2 _)))
  case body =>
    show wpAny (model prog w) A.in1.in1 (Builtin.«list.sort» ⟨[.ref h'.objs.size], kw⟩) _ _ _
    refine wpAny_mono (body _ h' tk acc.toList hk hlt hl fun j v e => hacc.2 j v (by rw [← Array.getElem?_toList]; exact e)) (fun f s' hf => ?_) fun _ _ e => e
    obtain ⟨rfl, hq⟩ := hf
    exact ⟨_, rfl, wpAny_pure ⟨_, rfl, hq⟩⟩
end
end DL.KW
namespace DL
open PySem L2 PySem.Spec PyProof.Rows LamX NdefX ClX
theorem vals_pt : ∀ (xs : List V) (us : List Value), xs.length = us.length → (∀ (i : Nat) (x : V) (u : Value), xs[i]? = some x → us[i]? = some u → RelV x u) → Vals xs us
  | [], [], _, _ => .nil
  | x :: xs, u :: us, hl, h => .cons (h 0 x u rfl rfl) (vals_pt xs us (by simpa using hl) fun i x u e1 e2 => h (i + 1) x u e1 e2)
  | [], _ :: _, hl, _ => by simp at hl
  | _ :: _, [], hl, _ => by simp at hl
abbrev viewO (d : Addr) : Obj := { cls := .type "dict_values", data := .fields #[.ref d] }
section
variable {X : L2.Cx}
theorem sortV_run {k n : Nat} {mk : Addr → LF} {wb : WE} {N fr : List Str} {x : Str} {js : List Nat} (S : ∀ c', NScope N [x] fr (mk c').scope) (hn : N.length = 1 + fr.length + n)
    (hb : ∀ c' pm ctv u, bindArgs (PySem.W.kla_fn "<lambda>" (mk c').qual (mk c').params (mk c').body (mk c').scope (mk c').cl pm (.ref (mk c').c) ctv) ⟨[u], []⟩ = pure [(x, u)]) (hr : RoomG (k + 1) X.A.in1.in1) (hu : X.A.units + 64 < cLine)
    (cp : ∀ c', X.Ok → Caps X (mk c').cl fr js) (hcalm : X.calm = true)
    (hbody : ∀ (f c' : Addr) (A : Around) (outer : List Env) (s : Shared) (H : Hp) (E : XK), RoomG k (A.deeper (envF (mk c').nf f s.heap.objs.size)) → DE (ncx CX0 X.prog X.w X.K X.mg X.base N (mk c').nf f A outer s H E) (mk c').body wb)
    (pins : List (Addr × Obj)) (s : Shared) (σ : L2.St) (H : Hp) (r d : Addr) (kvs : List (Key × V)) (zs : List V) (ws : List Value) (Q : VK) (I0 : Inv X ((r, viewO d) :: pins) σ H s) (hd : H d = some (.dK kvs)) (rz : Vals zs ws)
    (h : ∃ (key : D → D) (f c' : Addr) (kz : List D), zs = [.ref f] ∧ kz.length = kvs.length ∧ canSort kz ∧
      KeyRun (spLm X.K f (mk c') wb key n (js.map (slotAt σ))) (kvs.map (·.2)) [] H fun us H' => DpAll X.K H' us kz ∧ ∀ p, H' p = none → Q (.ref p) (upd H' p (.lst (sortV (kvs.map (·.2)) kz)))) :
    wpAny (model X.prog X.w) X.A (PySem.call (.builtin "sorted") [.ref r] ([Str.ofString "key"].zip ws)) (EP X pins σ Q) X.xe s := by
  obtain ⟨key, f, c', kz, rfl, hlen0, hc, hrun⟩ := h
  obtain ⟨w1, rfl, e1⟩ := vals1 rz
  obtain rfl : w1 = Value.ref f := e1
  have view : s.heap.IsValuesView r d := ⟨_, pin_at I0, rfl, rfl⟩
  have I : Inv X pins σ H s := unpin I0
  obtain ⟨hz0, hsys, vkv, rel, dof⟩ := dk_of I.hok hd
  obtain ⟨ep, dat⟩ := dof.dictAt
  have lkv : kvs.length = vkv.length := KV.length rel
  obtain ⟨its, hits⟩ : ∃ v, v = kvs.map (·.2) := ⟨_, rfl⟩
  rw [← hits] at hrun
  have hli : its.length = kvs.length := by rw [hits, List.length_map]
  have hlen : kz.length = its.length := by omega
  have hz : vkv.length ≤ sizeLine := by rw [← lkv]; exact hz0
  refine KW.sorted_of_sortV (PySem.W.kdl_values (knd := mixKind X.prog X.w) (kvs := vkv) (ep := ep)) (I.ok.hd hcalm) ⟨view, dat⟩ hz (ksk_s1 _ _) (fun _ => ksk_l1 _ _) fun E' h1 tk uits hk1 hlt1 hlu hP => ?_
  have rv : Vals its uits := by
    refine vals_pt _ _ (by omega) fun i x u ex eu => ?_
    obtain ⟨kk, hkk⟩ := hP i u eu
    obtain ⟨x', h1', h2'⟩ := KV.at' rel hkk
    rw [hits, List.getElem?_map, h1'] at ex
    cases ex
    exact h2'
  have hlv := rv.length
  obtain ⟨h2, hh2⟩ : ∃ h2, h2 = h1.push (seqObj "list" uits.toArray 0) := ⟨_, rfl⟩
  have hob : h2.get? h1.objs.size = some (seqObj "list" uits.toArray 0) := by rw [hh2]; exact Heap.get?_push_size _ rfl
  have hsz : h2.objs.size = h1.objs.size + 1 := by rw [hh2]; exact Heap.size_push _ _
  have k2 : ∀ b o, s.heap.get? b = some o → h2.get? b = some o := fun b o e => by rw [hh2]; exact Heap.get?_push_of_some _ (hk1 b o e)
  rw [← hh2]
  rw [show Builtin.«list.sort» ⟨[.ref h1.objs.size], [Str.ofString "key"].zip [Value.ref f]⟩ = PyProof.Rows.ksk_tree h1.objs.size (.ref f) false from ksk_t1 _ _]
  have size1 : s.heap.objs.size ≤ h1.objs.size := Nat.le_of_lt hlt1
  have size3 : s.heap.objs.size ≤ h2.objs.size + 1 := by omega
  refine KJ.tree (b := false) (vs := uits) (kz := kz) (f := .ref f) (s := { s with heap := h2, toks := tk }) (n := 0)
    (J := fun i s1 ks => ∃ (H1 : Hp) (us1 : List V), Inv X pins σ H1 s1 ∧ FpOk X pins H1 h1.objs.size ∧ FpOk X pins H1 (h2.objs.size + 1) ∧ Vals us1 ks ∧ us1.length = i ∧ KeyRun (spLm X.K f (mk c') wb key n (js.map (slotAt σ))) (its.drop i) us1 H1 fun us H' => DpAll X.K H' us kz ∧ ∀ p, H' p = none → Q (.ref p) (upd H' p (.lst (sortV its kz))))
    hob (by rw [hlen, hlv]) (by omega) hc.1 hc.2.1 (fun d hd => ?_) ?_ (fun i s1 ks hJ => ?_) (fun i v hv s1 ks e e1 hJ g3 g1 => ?_) (fun s1 ks hJ => ?_) fun s1 ks hJ h' tk' out c kh hg ko => ⟨rfl, ?_⟩
  · have := depth_le_all hd
    have := hc.2.2.2
    show X.A.units + 2 + d.depth < cLine
    omega
  · exact ⟨H, [], I.kept (t' := tk) fun b o q => PySem.W.sortingHeap_old (Nat.ne_of_lt (Nat.lt_of_lt_of_le (Heap.lt_size q) size1)) (k2 b o q), I.fpOk size1 (I.hok.fresh size1), I.fpOk size3 (I.hok.fresh size3), .nil, rfl, hrun⟩
  · obtain ⟨H1, us1, _, _, _, rr, hl1, _⟩ := hJ
    rw [← rr.length]; exact hl1
  · obtain ⟨H1, us1, I1, f1, f3, rr, hl1, hk⟩ := hJ
    have hi : i < its.length := by rw [hlv]; exact (List.getElem?_eq_some_iff.mp hv).1
    have hx : its[i]? = some its[i] := List.getElem?_eq_getElem hi
    obtain ⟨v', hv', rx⟩ := rv.get hx
    rw [hv] at hv'
    obtain rfl := Option.some.inj hv'
    rw [List.drop_eq_getElem_cons hi] at hk
    have I2 : Inv X ((h2.objs.size + 1, seqObj "list" ks.toArray e) :: (h1.objs.size, seqObj "list" #[] e1) :: pins) σ H1 s1 := I1.pins_of fun p hp => by
      rcases List.mem_cons.mp hp with rfl | hp
      · exact ⟨g3, f3.1, f3.2.1, f3.2.2.1, fun v z => by cases z⟩
      · rcases List.mem_cons.mp hp with rfl | hp
        · exact ⟨g1, f1.1, f1.2.1, f1.2.2.1, fun v z => by cases z⟩
        · exact I1.pin p (List.mem_append_right _ hp)
    refine wpAny_call (codeAny_mono (lm_run (S c') hn (fun pm ctv => hb c' pm ctv v) hr I1.env0.in1.in1 (cells_of I1 (cp c' I1.ok)) rx (hbody f c') hk) fun rr2 s2 hq => ?_)
    cases rr2 with
    | error er => exact False.elim hq
    | ok fl =>
      cases fl with
      | next => exact False.elim hq
      | brk => exact False.elim hq
      | cont => exact False.elim hq
      | ret u =>
        obtain ⟨vu, H2, I3, ru, hk2⟩ := I2.after hq
        have p3 := I3.pin (h2.objs.size + 1, seqObj "list" ks.toArray e) (List.mem_append_right _ (.head _))
        have p1 := I3.pin (h1.objs.size, seqObj "list" #[] e1) (List.mem_append_right _ (.tail _ (.head _)))
        refine ⟨p3.1, p1.1, fun h' hsb => ?_⟩
        have I4 : Inv X pins σ H2 s2 := I3.pins_of fun p hp => I3.pin p (List.mem_append_right _ (.tail _ (.tail _ hp)))
        have F3 := FpOk.other f3 p3.2.1
        refine ⟨H2, us1 ++ [vu], I4.turned (it := h2.objs.size + 1) (t' := s2.toks) (fun b o hb q => (hsb.2 b hb).trans q) F3.1 F3.2.1 F3.2.2.2.1 F3.2.2.2.2.1 F3.2.2.2.2.2, FpOk.other f1 p1.2.1, F3, rr.append (.cons ru .nil), by rw [List.length_append, hl1]; rfl, hk2⟩
  · obtain ⟨H1, us1, I1, f1, f3, rr, hl1, hk⟩ := hJ
    rw [← hlv, List.drop_length] at hk
    obtain ⟨hd, _⟩ := hk
    obtain ⟨as, hr2⟩ := Dp.readsAll I1 _ _ ks hd rr
    exact reads_each hr2
  · obtain ⟨H1, us1, I1, f1, f3, rr, hl1, hk⟩ := hJ
    rw [← hlv, List.drop_length] at hk
    obtain ⟨hd, q⟩ := hk
    have I2 : Inv X pins σ H1 { s1 with heap := h', toks := tk' } := Inv.turned2 I1 kh f1 f3
    have hzl : (its.zip kz).map (·.2) = kz := List.map_snd_zip (by omega)
    have eo := PySem.W.keyedOut_each (R := fun (u : Value) (z : V × D) => RelV z.1 u) (bs := its.zip kz) (·.2) (by rw [hzl]; exact ko) (each_zip2 rv hlen)
    have hol : (sortV its kz).length ≤ sizeLine := by
      unfold sortV
      rw [List.length_map, List.length_mergeSort, List.length_zip]
      omega
    exact ⟨.ref _, upd H1 h1.objs.size (.lst (sortV its kz)), I2.take (t' := tk') (h' := h') (fun b ob _ e => e) f1 ⟨hol, out, c, vals_each eo, hg⟩, rfl, q _ f1.1⟩
def rSortV (K : PySem.W.Frag) (mk : Addr → LF) (wb : WE) (n : Nat) (js : List Nat) : L2.St → Addr → List (Key × V) → List V → Hp → VK → Prop := fun σ d kvs zs H Q => H d = some (.dK kvs) ∧ ∃ (key : D → D) (f c' : Addr) (kz : List D), zs = [.ref f] ∧ kz.length = kvs.length ∧ canSort kz ∧
  KeyRun (spLm K f (mk c') wb key n (js.map (slotAt σ))) (kvs.map (·.2)) [] H fun us H' => DpAll K H' us kz ∧ ∀ p, H' p = none → Q (.ref p) (upd H' p (.lst (sortV (kvs.map (·.2)) kz)))
theorem pe_sortVals {k n : Nat} {mk : Addr → LF} {wb : WE} {N fr : List Str} {x : Str} {js : List Nat} {e : Expr} {te : TE} {tk : TA} {kws : List Keyword} {p apos cpos pos : Pos} (S : ∀ c', NScope N [x] fr (mk c').scope) (hn : N.length = 1 + fr.length + n)
    (hb : ∀ c' pm ctv u, bindArgs (PySem.W.kla_fn "<lambda>" (mk c').qual (mk c').params (mk c').body (mk c').scope (mk c').cl pm (.ref (mk c').c) ctv) ⟨[u], []⟩ = pure [(x, u)]) (hr : RoomG (k + 1) X.A.in1.in1) (hu : X.A.units + 64 < cLine)
    (cp : ∀ c', X.Ok → Caps X (mk c').cl fr js) (hcalm : X.calm = true)
    (hbody : ∀ (f c' : Addr) (A : Around) (outer : List Env) (s : Shared) (H : Hp) (E : XK), RoomG k (A.deeper (envF (mk c').nf f s.heap.objs.size)) → DE (ncx CX0 X.prog X.w X.K X.mg X.base N (mk c').nf f A outer s H E) (mk c').body wb)
    (hg : Gl X "sorted") (hm : X.mg "sorted" = none) (he : PE X e te) (hk : PK X kws tk)
    (hbase : attributeBase e "values" X.env (eval e X.env) = eval e X.env := by rfl) (hline : (apos.endLine == cpos.line) = true := by rfl)
    (hs : backTo pos (starEach [.Call (.Attribute e "values" apos) [] [] cpos] X.env) = (false, eval (.Call (.Attribute e "values" apos) [] [] cpos) X.env) :: backTo pos (starEach [] X.env) := by rfl) (hpl : (backTo pos (starEach [.Call (.Attribute e "values" apos) [] [] cpos] X.env)).any (·.1) = false := by rfl)
    (hall : (backToKw pos (keywordEach kws X.env)).all (·.1.isSome) = true := by rfl) (hnone : (backToKw pos (keywordEach kws X.env)).any (·.1.isNone) = false := by rfl) (hks : (backToKw pos (keywordEach kws X.env)).filterMap (·.1) = [Str.ofString "key"] := by rfl) :
    PE X (.Call (.Name "sorted" p) [.Call (.Attribute e "values" apos) [] [] cpos] kws pos) (fun σ H Q => te σ H fun v H1 => ∃ d kvs, v = .ref d ∧ H1 d = some (.dK kvs) ∧ tk σ H1 fun zs H2 => rSortV X.K mk wb n js σ d kvs zs H2 Q) := by
  refine ⟨fun pins s σ H Q I h => wpAny_Call_Name_kw (ld_blt I hg hm (u := .builtin "sorted") (by decide +kernel) ?_)⟩
  refine PyProof.Rows.callWith_kw ?_ hs hpl hall hnone
  rw [hks, hs]
  refine Calls.spliced_cons ?_
  refine wpAny_Call_method (T := "dict") (id := "dict.values") hbase rfl hline F.plainAttrs_dict F.slot_dict_values F.type_dict_values (thn (he.run pins s σ H _ I h) fun u s1 ⟨x, H1, I1, rx, d, kvs, ex, hd, q⟩ => ?_)
  subst ex
  obtain rfl : u = Value.ref d := rx
  obtain ⟨hz, hs0, vs, kv, hdo⟩ := I1.hok d _ hd
  have hob : (s1.heap.push (viewO d)).get? s1.heap.objs.size = some (viewO d) := Heap.get?_push_size _ rfl
  have fp := I1.fpOk (Nat.le_refl _) (I1.hok.fresh (Nat.le_refl _))
  have I2 : Inv X pins σ H1 { s1 with heap := s1.heap.push (viewO d) } := I1.kept (t' := s1.toks) fun b ob q => Heap.get?_push_of_some _ q
  have I3 : Inv X ((s1.heap.objs.size, viewO d) :: pins) σ H1 { s1 with heap := s1.heap.push (viewO d) } := I2.pins_of fun p hp => by
    rcases List.mem_cons.mp hp with rfl | hp
    · exact ⟨hob, fp.1, fp.2.1, fp.2.2.1, fun v z => by cases z⟩
    · exact I2.pin p (List.mem_append_right _ hp)
  refine ⟨hdo.typeIs, hdo.mapOf.noDict, ?_⟩
  show wpAny _ _ (callWith cpos (.builtin "dict.values") [.ref d] [] []) _ X.xe s1
  refine method_meetsIn F.slot_dict_values F.entry_dict_values rfl (PySem.evalArgs_none ⟨rfl, hdo.typeIs, F.args_dict_values_1 _, _, meets_dict_values (mixKind X.prog X.w) d hs0, ⟨vs, hdo⟩, ?_⟩)
  refine Calls.spliced_nil ?_
  refine thn (hk.run pos _ _ σ H1 _ I3 q) fun ws s2 ⟨zs, H2, I4, r2, hd2, q2⟩ => ?_
  exact sortV_run S hn hb hr hu cp hcalm hbody pins s2 σ H2 s1.heap.objs.size d kvs zs ws Q I4 hd2 r2 q2
end
section
variable {X : L2.Cx} {a : Expr} {wa wb : WE}
abbrev valsD (kvs : List (Key × D)) : List D := kvs.map (·.2)
def dSortLmV (q : Str) (n : Nat) (js : List Nat) (wb wa : WE) : WE := fun s Ks => wa s fun s1 x => mu2 s1 x fun _ kvs => ∃ (key : D → D) (j : Nat), gm s1.ms j = .tab q ∧ (∀ d ∈ valsD kvs, wb ⟨.da d :: (js.map (fun j => capE (gt s1.es j)) ++ nos n), [], 0⟩ fun _ r => r = .da (key d)) ∧ canSort ((valsD kvs).map key) ∧ Ks s1 (.da (.list (sortKD key (valsD kvs))))
theorem de_sortLmV {k n : Nat} {q x : Str} {N fr : List Str} (js : List Nat) {params : Arguments} {body : Expr} {scope : Scope} {p lp apos cpos pos pk : Pos} {c P : Addr} (hC : TabC X.K q c P) (hTB : TabB X.base X.mg c P) (hcd : X.env.code = .ref c) (hq : X.env.qual = q ++ ".<locals>.")
    (Sc : NScope N [x] fr scope) (hn : N.length = 1 + fr.length + n) (hb : ∀ c' pm ctv u, bindArgs (PySem.W.kla_fn "<lambda>" (q ++ ".<locals>." ++ "<lambda>") params body scope (cloFrom X.env.cells scope.names []) pm (.ref c') ctv) ⟨[u], []⟩ = pure [(x, u)])
    (hfree : ∀ y ∈ scope.names, y.2 = .free → X.env.scope.names.lookup y.1 = some .cell ∨ X.env.scope.names.lookup y.1 = some .free) (hfr : ∀ y ∈ fr, (y, NameKind.free) ∈ scope.names) (hjs : js.map (fun j => X.N[j]?) = fr.map some)
    (hcalm : X.calm = true) (hr : RoomG (k + 2) X.A) (hg : Gl X "sorted") (hm : X.mg "sorted" = none) (ha : DE X a wa)
    (hbody : ∀ (f c' : Addr) (A : Around) (outer : List Env) (s : Shared) (H : Hp) (E : XK), RoomG k (A.deeper (envF (LF.nf ⟨q ++ ".<locals>." ++ "<lambda>", params, body, scope, cloFrom X.env.cells scope.names [], c'⟩) f s.heap.objs.size)) → DE (ncx CX0 X.prog X.w X.K X.mg X.base N (LF.nf ⟨q ++ ".<locals>." ++ "<lambda>", params, body, scope, cloFrom X.env.cells scope.names [], c'⟩) f A outer s H E) body wb)
    (hdef : defaultsOf params X.env = ([], []) := by rfl) (hbase : attributeBase a "values" X.env (eval a X.env) = eval a X.env := by rfl) (hline : (apos.endLine == cpos.line) = true := by rfl)
    (hs : backTo pos (starEach [.Call (.Attribute a "values" apos) [] [] cpos] X.env) = (false, eval (.Call (.Attribute a "values" apos) [] [] cpos) X.env) :: backTo pos (starEach [] X.env) := by rfl) (hpl : (backTo pos (starEach [.Call (.Attribute a "values" apos) [] [] cpos] X.env)).any (·.1) = false := by rfl)
    (hall : (backToKw pos (keywordEach [⟨some "key", .Lambda params body scope lp, pk⟩] X.env)).all (·.1.isSome) = true := by rfl) (hnone : (backToKw pos (keywordEach [⟨some "key", .Lambda params body scope lp, pk⟩] X.env)).any (·.1.isNone) = false := by rfl) (hks : (backToKw pos (keywordEach [⟨some "key", .Lambda params body scope lp, pk⟩] X.env)).filterMap (·.1) = [Str.ofString "key"] := by rfl) :
    DE X (.Call (.Name "sorted" p) [.Call (.Attribute a "values" apos) [] [] cpos] [⟨some "key", .Lambda params body scope lp, pk⟩] pos) (dSortLmV q n js wb wa) := by
  obtain ⟨te, pe, qe⟩ := ha.ex
  have hr2 : RoomG (k + 1) X.A.in1.in1 := ⟨⟨hr.r.hd, by have := hr.r.dp; show X.A.depth + 3 * (k + 1) + 5 < _; omega, by have := hr.r.un; show X.A.units + 1 + 1 + 16 * (k + 1) + 200 < _; omega⟩, hr.g⟩
  have hf0 : X.Ok → ∀ y ∈ scope.names, y.2 = .free → ∃ c, X.env.cells.lookup y.1 = some c := fun ok y hy e => (hfree y hy e).elim (fun z => ok.has _ (.inl z)) fun z => ok.has _ (.inr z)
  have pl := pe_lm (params := params) (body := body) (scope := scope) (pos := lp) hTB hcd hdef hf0
  rw [hq] at pl
  refine ⟨_, pe_sortVals (mk := fun c' => ⟨q ++ ".<locals>." ++ "<lambda>", params, body, scope, cloFrom X.env.cells scope.names [], c'⟩) (fun _ => Sc) hn hb hr2 (by have := hr.r.un; omega) (fun c' ok => Caps.made ok hfree hfr hjs) hcalm hbody hg hm pe (pk_cons pl pk_nil) hbase hline hs hpl hall hnone hks, fun b A own H σ s Ks Q R h kk => ?_⟩
  refine qe b A own H σ s (fun s1 x => mu2 s1 x fun _ kvs => ∃ (key : D → D) (j : Nat), gm s1.ms j = .tab q ∧ (∀ d ∈ valsD kvs, wb ⟨.da d :: (js.map (fun j => capE (gt s1.es j)) ++ nos n), [], 0⟩ fun _ r => r = .da (key d)) ∧ canSort ((valsD kvs).map key) ∧ Ks s1 (.da (.list (sortKD key (valsD kvs))))) _ R h fun A1 o1 H1 v s1 x R1 U1 E1 h1 => ?_
  obtain ⟨i, kvs, rfl, g, key, j, gj, hk, hc, h⟩ := mu2_inv h1
  obtain ⟨d, vs, rfl, e2, e3, e4, _⟩ := mud_at R1 E1 g
  have m := R1.mr j
  rw [gj] at m
  obtain ⟨P', c', ej, hC', ps, hP, ht, ha⟩ := m
  obtain ⟨rfl, rfl⟩ := hC.inj hC'
  refine ⟨d, vs, rfl, e2, ps, hP, ⟨ht, fun p cv e => let ⟨c0, e0, e2, _⟩ := ha p cv e; ⟨c0, e0, e2⟩⟩, fun f cc ps' H2 hx hP2 hT2 hnew hf hcc => ?_⟩
  have nPf : P ≠ f := fun z => by rw [← z, hP2] at hf; cases hf
  have hx2 : ∀ b o, b ≠ P → H1 b = some o → upd H2 f (LmO f ⟨q ++ ".<locals>." ++ "<lambda>", params, body, scope, cloFrom X.env.cells scope.names [], cc⟩) b = some o := fun b o n e => by
    have e2 := hx b o n e
    rw [upd_ne (ne_of_none e2 hf)]; exact e2
  obtain ⟨R2, U2⟩ := R1.chg (H' := upd H2 f (LmO f ⟨q ++ ".<locals>." ++ "<lambda>", params, body, scope, cloFrom X.env.cells scope.names [], cc⟩)) j (.tab q) (fun a o n e => hx2 a o (fun z => n (by rw [ej, z]; simp)) e) (fun a h => by
    rw [ej] at h
    cases List.mem_singleton.mp h
    rw [upd_ne nPf, hP2]; intro z; cases z) (fun u => by
    refine ⟨P, c, ej, hC, ps', by rw [upd_ne nPf]; exact hP2, hT2.1, fun p cv e => ?_⟩
    obtain ⟨c0, e0, e2⟩ := hT2.2 p cv e
    refine ⟨c0, e0, by rw [upd_ne (ne_of_none e2 hf)]; exact e2, ?_⟩
    obtain ⟨c1, e3, e4⟩ := hnew p cv e
    obtain rfl : c0 = c1 := by rw [e0] at e3; cases e3; rfl
    rcases e4 with z | z
    · exact fun y => R1.al _ y z
    · obtain ⟨c2, e5, _, e6⟩ := ha p cv z
      obtain rfl : c0 = c2 := by rw [e0] at e5; cases e5; rfl
      exact e6) (gm_lt (by rw [gj]; intro z; cases z))
  have es : ({ s1 with ms := sm s1.ms j (.tab q) } : S) = s1 := by
    have := sm_same s1.ms j (gm_lt (by rw [gj]; intro z; cases z))
    rw [gj] at this
    rw [this]
  rw [es] at R2
  show rSortV X.K _ wb n js σ d vs [.ref f] _ Q
  have nd : d ≠ P := fun z => by rw [z, hP] at e2; cases e2
  have r2 : RpL X.K _ _ (vs.map (·.2)) (valsD kvs) := RKV.vals (RKV.up U2.kp e3)
  obtain ⟨zs, z1, z2, hz⟩ := rpl_zip r2
  refine ⟨hx2 _ _ nd e2, key, f, cc, (zs.map (·.2)).map key, rfl, by rw [List.length_map, List.length_map, ← List.length_map (f := fun z : V × D => z.1), z1, List.length_map], by rw [z2]; exact hc, ?_⟩
  rw [← z1]
  rw [← z2] at hk hc
  refine keyRunL _ _ [] [] A1 o1 _ R2 upd_same (by rw [upd_ne (ne_of_none hcc hf)]; exact hcc) (by rw [z1, z2]; exact r2) .nil hk fun H3 us' R3 U3 r3 => ⟨r3.dp (by rw [List.nil_append]; exact hc.2.2.1), fun q' hq' => ?_⟩
  rw [sortV_pairs]
  rw [← z2, sortKD_pairs] at h
  refine new_lst R3 ((kk.up (U1.trans U2)).up U3) ?_ hq' h
  exact rpl_map fun z hm => Rp.mono U3.kp (hz z ((List.mergeSort_perm _ _).mem_iff.mp hm))
def dSortLmVM (q : Str) (n : Nat) (js : List Nat) (wb wa : WE) : WE := fun s Ks => wa s fun s1 x => mu2 s1 x fun _ kvs => ∃ (key : D → D) (j : Nat), gm s1.ms j = .tab q ∧ (∀ d ∈ valsD kvs, wb ⟨.da d :: (js.map (fun j => capE (gt s1.es j)) ++ nos n), [], 0⟩ fun _ r => r = .da (key d)) ∧ canSort ((valsD kvs).map key) ∧ Ks (s1.aM (.lst (sortKD key (valsD kvs)))) (.mu s1.ms.length)
theorem de_sortLmVM {k n : Nat} {q x : Str} {N fr : List Str} (js : List Nat) {params : Arguments} {body : Expr} {scope : Scope} {p lp apos cpos pos pk : Pos} {c P : Addr} (hC : TabC X.K q c P) (hTB : TabB X.base X.mg c P) (hcd : X.env.code = .ref c) (hq : X.env.qual = q ++ ".<locals>.")
    (Sc : NScope N [x] fr scope) (hn : N.length = 1 + fr.length + n) (hb : ∀ c' pm ctv u, bindArgs (PySem.W.kla_fn "<lambda>" (q ++ ".<locals>." ++ "<lambda>") params body scope (cloFrom X.env.cells scope.names []) pm (.ref c') ctv) ⟨[u], []⟩ = pure [(x, u)])
    (hfree : ∀ y ∈ scope.names, y.2 = .free → X.env.scope.names.lookup y.1 = some .cell ∨ X.env.scope.names.lookup y.1 = some .free) (hfr : ∀ y ∈ fr, (y, NameKind.free) ∈ scope.names) (hjs : js.map (fun j => X.N[j]?) = fr.map some)
    (hcalm : X.calm = true) (hr : RoomG (k + 2) X.A) (hg : Gl X "sorted") (hm : X.mg "sorted" = none) (ha : DE X a wa)
    (hbody : ∀ (f c' : Addr) (A : Around) (outer : List Env) (s : Shared) (H : Hp) (E : XK), RoomG k (A.deeper (envF (LF.nf ⟨q ++ ".<locals>." ++ "<lambda>", params, body, scope, cloFrom X.env.cells scope.names [], c'⟩) f s.heap.objs.size)) → DE (ncx CX0 X.prog X.w X.K X.mg X.base N (LF.nf ⟨q ++ ".<locals>." ++ "<lambda>", params, body, scope, cloFrom X.env.cells scope.names [], c'⟩) f A outer s H E) body wb)
    (hdef : defaultsOf params X.env = ([], []) := by rfl) (hbase : attributeBase a "values" X.env (eval a X.env) = eval a X.env := by rfl) (hline : (apos.endLine == cpos.line) = true := by rfl)
    (hs : backTo pos (starEach [.Call (.Attribute a "values" apos) [] [] cpos] X.env) = (false, eval (.Call (.Attribute a "values" apos) [] [] cpos) X.env) :: backTo pos (starEach [] X.env) := by rfl) (hpl : (backTo pos (starEach [.Call (.Attribute a "values" apos) [] [] cpos] X.env)).any (·.1) = false := by rfl)
    (hall : (backToKw pos (keywordEach [⟨some "key", .Lambda params body scope lp, pk⟩] X.env)).all (·.1.isSome) = true := by rfl) (hnone : (backToKw pos (keywordEach [⟨some "key", .Lambda params body scope lp, pk⟩] X.env)).any (·.1.isNone) = false := by rfl) (hks : (backToKw pos (keywordEach [⟨some "key", .Lambda params body scope lp, pk⟩] X.env)).filterMap (·.1) = [Str.ofString "key"] := by rfl) :
    DE X (.Call (.Name "sorted" p) [.Call (.Attribute a "values" apos) [] [] cpos] [⟨some "key", .Lambda params body scope lp, pk⟩] pos) (dSortLmVM q n js wb wa) := by
  obtain ⟨te, pe, qe⟩ := ha.ex
  have hr2 : RoomG (k + 1) X.A.in1.in1 := ⟨⟨hr.r.hd, by have := hr.r.dp; show X.A.depth + 3 * (k + 1) + 5 < _; omega, by have := hr.r.un; show X.A.units + 1 + 1 + 16 * (k + 1) + 200 < _; omega⟩, hr.g⟩
  have hf0 : X.Ok → ∀ y ∈ scope.names, y.2 = .free → ∃ c, X.env.cells.lookup y.1 = some c := fun ok y hy e => (hfree y hy e).elim (fun z => ok.has _ (.inl z)) fun z => ok.has _ (.inr z)
  have pl := pe_lm (params := params) (body := body) (scope := scope) (pos := lp) hTB hcd hdef hf0
  rw [hq] at pl
  refine ⟨_, pe_sortVals (mk := fun c' => ⟨q ++ ".<locals>." ++ "<lambda>", params, body, scope, cloFrom X.env.cells scope.names [], c'⟩) (fun _ => Sc) hn hb hr2 (by have := hr.r.un; omega) (fun c' ok => Caps.made ok hfree hfr hjs) hcalm hbody hg hm pe (pk_cons pl pk_nil) hbase hline hs hpl hall hnone hks, fun b A own H σ s Ks Q R h kk => ?_⟩
  refine qe b A own H σ s (fun s1 x => mu2 s1 x fun _ kvs => ∃ (key : D → D) (j : Nat), gm s1.ms j = .tab q ∧ (∀ d ∈ valsD kvs, wb ⟨.da d :: (js.map (fun j => capE (gt s1.es j)) ++ nos n), [], 0⟩ fun _ r => r = .da (key d)) ∧ canSort ((valsD kvs).map key) ∧ Ks (s1.aM (.lst (sortKD key (valsD kvs)))) (.mu s1.ms.length)) _ R h fun A1 o1 H1 v s1 x R1 U1 E1 h1 => ?_
  obtain ⟨i, kvs, rfl, g, key, j, gj, hk, hc, h⟩ := mu2_inv h1
  obtain ⟨d, vs, rfl, e2, e3, e4, _⟩ := mud_at R1 E1 g
  have m := R1.mr j
  rw [gj] at m
  obtain ⟨P', c', ej, hC', ps, hP, ht, ha⟩ := m
  obtain ⟨rfl, rfl⟩ := hC.inj hC'
  refine ⟨d, vs, rfl, e2, ps, hP, ⟨ht, fun p cv e => let ⟨c0, e0, e2, _⟩ := ha p cv e; ⟨c0, e0, e2⟩⟩, fun f cc ps' H2 hx hP2 hT2 hnew hf hcc => ?_⟩
  have nPf : P ≠ f := fun z => by rw [← z, hP2] at hf; cases hf
  have hx2 : ∀ b o, b ≠ P → H1 b = some o → upd H2 f (LmO f ⟨q ++ ".<locals>." ++ "<lambda>", params, body, scope, cloFrom X.env.cells scope.names [], cc⟩) b = some o := fun b o n e => by
    have e2 := hx b o n e
    rw [upd_ne (ne_of_none e2 hf)]; exact e2
  obtain ⟨R2, U2⟩ := R1.chg (H' := upd H2 f (LmO f ⟨q ++ ".<locals>." ++ "<lambda>", params, body, scope, cloFrom X.env.cells scope.names [], cc⟩)) j (.tab q) (fun a o n e => hx2 a o (fun z => n (by rw [ej, z]; simp)) e) (fun a h => by
    rw [ej] at h
    cases List.mem_singleton.mp h
    rw [upd_ne nPf, hP2]; intro z; cases z) (fun u => by
    refine ⟨P, c, ej, hC, ps', by rw [upd_ne nPf]; exact hP2, hT2.1, fun p cv e => ?_⟩
    obtain ⟨c0, e0, e2⟩ := hT2.2 p cv e
    refine ⟨c0, e0, by rw [upd_ne (ne_of_none e2 hf)]; exact e2, ?_⟩
    obtain ⟨c1, e3, e4⟩ := hnew p cv e
    obtain rfl : c0 = c1 := by rw [e0] at e3; cases e3; rfl
    rcases e4 with z | z
    · exact fun y => R1.al _ y z
    · obtain ⟨c2, e5, _, e6⟩ := ha p cv z
      obtain rfl : c0 = c2 := by rw [e0] at e5; cases e5; rfl
      exact e6) (gm_lt (by rw [gj]; intro z; cases z))
  have es : ({ s1 with ms := sm s1.ms j (.tab q) } : S) = s1 := by
    have := sm_same s1.ms j (gm_lt (by rw [gj]; intro z; cases z))
    rw [gj] at this
    rw [this]
  rw [es] at R2
  show rSortV X.K _ wb n js σ d vs [.ref f] _ Q
  have nd : d ≠ P := fun z => by rw [z, hP] at e2; cases e2
  have r2 : RpL X.K _ _ (vs.map (·.2)) (valsD kvs) := RKV.vals (RKV.up U2.kp e3)
  obtain ⟨zs, z1, z2, hz⟩ := rpl_zip r2
  refine ⟨hx2 _ _ nd e2, key, f, cc, (zs.map (·.2)).map key, rfl, by rw [List.length_map, List.length_map, ← List.length_map (f := fun z : V × D => z.1), z1, List.length_map], by rw [z2]; exact hc, ?_⟩
  rw [← z1]
  rw [← z2] at hk hc
  refine keyRunL _ _ [] [] A1 o1 _ R2 upd_same (by rw [upd_ne (ne_of_none hcc hf)]; exact hcc) (by rw [z1, z2]; exact r2) .nil hk fun H3 us' R3 U3 r3 => ⟨r3.dp (by rw [List.nil_append]; exact hc.2.2.1), fun q' hq' => ?_⟩
  rw [sortV_pairs]
  rw [← z2, sortKD_pairs] at h
  refine new_mu R3 ((kk.up (U1.trans U2)).up U3) ?_ hq' h
  exact rpl_map fun z hm => Rp.mono U3.kp (hz z ((List.mergeSort_perm _ _).mem_iff.mp hm))
end
section
variable {P : Program} {w : World} {K : PySem.W.Frag} {mg : Str → Option Value} {base : Heap}
theorem ok_dataML {c m q : Str} {st : Stmt} {N ps : List Str} {k n n0 : Nat} {sp : SpD} (hF : ∃ C f fd cc P, AtM K c m q st ps C f fd ∧ FunL K m q st f fd cc ∧ TabC K q cc P) (hTB : ∀ c P, TabC K q c P → TabB base mg c P) (Sc : FnScope N ps (defScope st)) (W : WS)
    (hb : ∀ (f c P0 : Addr) (A : Around) (outer : List Env) (s : Shared) (H : Hp) (E : XK), TabC K q c P0 → TabB base mg c P0 → RoomG k (A.deeper (PyProof.Rows.envOfC q (defScope st) s.heap.objs.size f (.ref c))) → DSs (cxOf CX0 P w K mg base N q (defScope st) f (.ref c) A outer s H E).nox (defBody st) W)
    (hsp : ∀ xs ms Ks, sp xs ms Ks → xs.length = n → W (st0 xs n0 ms ms.length) (endT Ks)) (hn : ps.length = n := by rfl) (hn0 : N.length - ps.length = n0 := by rfl) : OkM P w K mg base (k + 1) c m q st ps n sp := by
  obtain ⟨C, f, fd, cc, P0, a, F, t⟩ := hF
  subst hn
  subst hn0
  exact ⟨C, f, fd, a, fn_dataL F Sc W (fun A outer s H E hr => hb f cc P0 A outer s H E t (hTB cc P0 t) hr) hsp⟩
end
section
variable {X : L2.Cx} {a : Expr} {st : Stmt} {sts : List Stmt}
def dAlt (w1 w2 : WE) : WE := fun s Ks => w1 s Ks ∨ w2 s Ks
theorem de_alt {w1 w2 : WE} (h1 : DE X a w1) (h2 : DE X a w2) : DE X a (dAlt w1 w2) := by
  obtain ⟨t1, p1, q1⟩ := h1.ex
  obtain ⟨t2, p2, q2⟩ := h2.ex
  exact ⟨fun σ H Q => t1 σ H Q ∨ t2 σ H Q, ⟨fun pins s σ H Q I h => h.elim (p1.run pins s σ H Q I) (p2.run pins s σ H Q I)⟩, fun b A own H σ s Ks Q R h k => Or.imp (fun h => q1 b A own H σ s Ks Q R h k) (fun h => q2 b A own H σ s Ks Q R h k) h⟩
end
section
variable {X : L2.Cx} {a : Expr} {wa : WE}
def cDictD : S → List En → (S → En → Prop) → Prop := fun s xs Ks => a1 xs fun x => mu2 s x fun _ kvs => Ks (s.aM (.dct kvs)) (.mu s.ms.length)
theorem cd_dictD {K : PySem.W.Frag} : CallD K (fun xs H Q => ∃ (a : Addr) (kvs : List (Key × V)), xs = [.ref a] ∧ Rd H a (.dK kvs) ∧ ∀ p, H p = none → Q (.ref p) (upd H p (.dK kvs))) cDictD := by
  intro b A own H σ s vs xs Ks Q R E h k
  obtain ⟨v, x, rfl, e1, h⟩ := a1_inv E h
  obtain ⟨j, kvs, rfl, g, h⟩ := mu2_inv h
  obtain ⟨d, ws, rfl, e2, e3, e4, _⟩ := mud_at R e1 g
  refine ⟨d, ws, rfl, .inl e2, fun p hp => ?_⟩
  obtain ⟨R1, U1, g1⟩ := R.newMu (o := .dK ws) hp (.dct kvs) fun A' own' u => ⟨p, _, rfl, upd_same, e3.up u.kp⟩
  exact k _ _ _ _ _ (.mu s.ms.length) R1 U1 ⟨p, [], g1, rfl⟩ h
theorem de_dictD {p : Pos} (hg : Gl X "dict") (hm : X.mg "dict" = none) (ha : DE X a wa) (he : starEach (a :: []) X.env = (false, eval a X.env) :: starEach [] X.env := by rfl) : DE X (.Call (.Name "dict" p) [a] [] pos) (dCall cDictD (aCons wa aNil)) :=
  de_callTy call_dictD cd_dictD hg hm (by decide +kernel) (da_cons ha da_nil he) (he := he)
theorem rke_dropLast {K : PySem.W.Frag} {A : Addr → Prop} {own : List (List Addr)} {H : Hp} : ∀ {ws : List (Str × V)} {fs : List (Str × En)}, RKE K A own H ws fs → RKE K A own H ws.dropLast fs.dropLast
  | [], [], _ => trivial
  | [_], [_], _ => trivial
  | _ :: w2 :: ws, _ :: f2 :: fs, ⟨e, h, t⟩ => ⟨e, h, rke_dropLast (ws := w2 :: ws) (fs := f2 :: fs) t⟩
  | [], _ :: _, h => h.elim
  | _ :: _, [], h => h.elim
  | [_], _ :: _ :: _, ⟨_, _, t⟩ => t.elim
  | _ :: _ :: _, [_], ⟨_, _, t⟩ => t.elim
def dPopS (wa : WE) : WE := fun s Ks => wa s fun s1 x => isLstS s1 x fun j fs => ∃ f, fs[fs.length - 1]? = some f ∧ Ks (s1.sM j (.ins .lst fs.dropLast)) f.2
theorem de_popS {apos cpos : Pos} (ho : DE X a wa) (hbase : attributeBase a "pop" X.env (eval a X.env) = eval a X.env := by rfl) (hline : (apos.endLine == cpos.line) = true := by rfl) :
    DE X (.Call (.Attribute a "pop" apos) [] [] cpos) (dPopS wa) := by
  obtain ⟨ta, pa, qa⟩ := ho.ex
  refine ⟨_, pe_bm0 PySem.F.plainAttrs_list PySem.F.slot_list_pop PySem.F.type_list_pop mt_pop pa hbase hline, fun b A own H σ s Ks Q R h k => ?_⟩
  show ta σ H fun x H1 => tyV X.K "list" x H1 ∧ rPop x [] H1 Q
  refine qa _ _ _ _ _ _ _ _ R h fun A1 o1 H1 v1 s1 x1 R1 U1 E1 h1 => ?_
  obtain ⟨j, fs, rfl, g, f, hf, h1⟩ := isLstS_inv h1
  obtain ⟨p, ws, rfl, e2, e3, up⟩ := ins_at R1 E1 g
  obtain ⟨w, hw, ew⟩ := e3.get hf
  obtain ⟨R2, U2⟩ := up _ _ (rke_dropLast e3)
  rw [List.map_dropLast] at R2 U2
  exact ⟨.inl ⟨rfl, _, .inl (.inl e2)⟩, p, _, w.2, rfl, rfl, e2, by rw [List.length_map, e3.len, List.getElem?_map, hw]; rfl, k _ _ _ _ _ f.2 R2 (U1.trans U2) (ew.up U2) h1⟩
end
section
variable {X : L2.Cx} {a b : Expr} {wa wb : WE} {pos : Pos}
def rNil (K : PySem.W.Frag) : R2 := fun x y H Q => ∃ l xs m, x = .ref l ∧ y = .ref m ∧ SqL K H l xs ∧ SqL K H m [] ∧ Q (.bl xs.isEmpty) H
theorem op_nil (hu : X.A.units + 64 < cLine) : OpR X (compareOp .Eq) (rNil X.K) := by
  intro pins s σ H x y v u Q I rx ry h
  obtain ⟨l, xs, m, rfl, rfl, hl, hm, q⟩ := h
  cases rx
  cases ry
  obtain ⟨i1, r1, p1, _⟩ := I.list hl
  obtain ⟨i2, r2, p2, _⟩ := I.list hm
  cases r2
  have hu1 : X.A.units < cLine := by omega
  have key : SeqAt.RcAt X.A s (.ref l) (.ref m) xs.isEmpty := by
    cases r1 with
    | nil => exact SeqAt.RcAt.lists (e := fun _ => true) p1.isList p2.isList rfl hu1 fun j h1 _ => absurd h1 (by simp)
    | cons _ _ => exact SeqAt.RcAt.lists_lengths p1.isList p2.isList (by simp) hu1
  exact key X.prog X.w _ _ ⟨.bl _, H, I, rfl, q⟩
def rdNilS : S → En → En → (S → En → Prop) → Prop := fun s x y Ks => isLstS s x fun _ fs => vw s y = some (.list []) ∧ Ks s (.da (.bool fs.isEmpty))
theorem opd_nilS {K : PySem.W.Frag} : OpD K (rNil K) rdNilS := by
  intro b A own H σ s vx vy x y Ks Q R ex ey h k
  obtain ⟨j, fs, rfl, g, hy, h⟩ := isLstS_inv h
  obtain ⟨p, ws, rfl, e2, e3, _⟩ := ins_at R ex g
  obtain ⟨l, us, rfl, e4, e5⟩ := vw_lst R ey hy
  cases e5
  refine ⟨p, _, l, rfl, rfl, .inl (.inl e2), e4, ?_⟩
  rw [show (ws.map (·.2)).isEmpty = fs.isEmpty from by
    have := e3.len
    cases ws <;> cases fs <;> simp_all]
  exact k.da R Up.refl (.bl _) h
def dNilS : WE → WE → WE := d2 rdNilS
theorem dt_nilS (hu : X.A.units + 64 < cLine) (ha : DE X a wa) (hb : DE X b wb) : DT X (.Compare a [.Eq] [b] pos) (tT (dNilS wa wb)) := dt_cmp (op_nil hu) opd_nilS ha hb (nomark _)
end
section
variable {X : L2.Cx} {a b : Expr} {wa wb : WE} {pos : Pos}
def rDk0 (neg : Bool) : R2 := fun x y H Q => ∃ l kvs m, x = .ref l ∧ y = .ref m ∧ H l = some (.dK kvs) ∧ H m = some (.dK []) ∧ Q (.bl (xr neg kvs.isEmpty)) H
theorem op_eqDk0 (hu : X.A.units + 64 < cLine) : OpR X (compareOp .Eq) (rDk0 false) := by
  intro pins s σ H x y v u Q I rx ry h
  obtain ⟨l, kvs, m, rfl, rfl, hl, hm, q⟩ := h
  cases rx
  cases ry
  obtain ⟨_, hs1, v1, r1, d1⟩ := dk_of I.hok hl
  obtain ⟨_, hs2, v2, r2, d2⟩ := dk_of I.hok hm
  have l1 := KV.length r1
  have l2 := KV.length r2
  refine PySem.W.keq_eq (knd := mixKind X.prog X.w) (r := true) hs1 hs2 d1 d2 (by omega) (fun e => ?_) ?_
  · have : v1 = [] := List.length_eq_zero_iff.mp (by rw [e, ← l2]; rfl)
    rw [this]; exact .nil
  · rw [← l1, ← l2]
    have e : (kvs.length == ([] : List (Key × V)).length && true) = xr false kvs.isEmpty := by cases kvs <;> rfl
    rw [e]
    exact ⟨.bl _, H, I, rfl, q⟩
theorem op_neDk0 (hu : X.A.units + 64 < cLine) : OpR X (compareOp .NotEq) (rDk0 true) := by
  intro pins s σ H x y v u Q I rx ry h
  obtain ⟨l, kvs, m, rfl, rfl, hl, hm, q⟩ := h
  cases rx
  cases ry
  obtain ⟨_, hs1, v1, r1, d1⟩ := dk_of I.hok hl
  obtain ⟨_, hs2, v2, r2, d2⟩ := dk_of I.hok hm
  have l1 := KV.length r1
  have l2 := KV.length r2
  refine PySem.W.keq_ne (knd := mixKind X.prog X.w) (r := true) hs1 hs2 d1 d2 (by omega) (fun e => ?_) ?_
  · have : v1 = [] := List.length_eq_zero_iff.mp (by rw [e, ← l2]; rfl)
    rw [this]; exact .nil
  · rw [← l1, ← l2]
    have e : (!(kvs.length == ([] : List (Key × V)).length && true)) = xr true kvs.isEmpty := by cases kvs <;> rfl
    rw [e]
    exact ⟨.bl _, H, I, rfl, q⟩
def rdDk0 (neg : Bool) : S → En → En → (S → En → Prop) → Prop := fun s x y Ks => mu2 s x fun _ kvs => mu2 s y fun _ es => es = [] ∧ Ks s (.da (.bool (xr neg kvs.isEmpty)))
theorem opd_dk0 {K : PySem.W.Frag} {neg : Bool} : OpD K (rDk0 neg) (rdDk0 neg) := by
  intro b A own H σ s vx vy x y Ks Q R ex ey h k
  obtain ⟨i, kvs, rfl, g, h⟩ := mu2_inv h
  obtain ⟨j, es, rfl, g2, rfl, h⟩ := mu2_inv h
  obtain ⟨d, ws, rfl, e2, e3, _⟩ := mud_at R ex g
  obtain ⟨d', ws', rfl, f2, f3, _⟩ := mud_at R ey g2
  have hw : ws' = [] := List.length_eq_zero_iff.mp (f3.len)
  subst hw
  refine ⟨d, ws, d', rfl, rfl, e2, f2, ?_⟩
  rw [show ws.isEmpty = kvs.isEmpty from by
    have := e3.len
    cases ws <;> cases kvs <;> simp_all]
  exact k.da R Up.refl (.bl _) h
def dDk0 (neg : Bool) : WE → WE → WE := d2 (rdDk0 neg)
theorem dt_eqDk0 (hu : X.A.units + 64 < cLine) (ha : DE X a wa) (hb : DE X b wb) : DT X (.Compare a [.Eq] [b] pos) (tT (dDk0 false wa wb)) := dt_cmp (op_eqDk0 hu) opd_dk0 ha hb (nomark _)
theorem dt_neDk0 (hu : X.A.units + 64 < cLine) (ha : DE X a wa) (hb : DE X b wb) : DT X (.Compare a [.NotEq] [b] pos) (tT (dDk0 true wa wb)) := dt_cmp (op_neDk0 hu) opd_dk0 ha hb (nomark _)
end
section
def fzF (kvs : List (Key × D)) : List (Str × En) := kvs.map fun z => (Str.empty, .da z.2)
theorem er_key {K : PySem.W.Frag} {A : Addr → Prop} {own : List (List Addr)} {H : Hp} {k : Key} : ER K A own H (kV k) (.da (kD k)) := by
  cases k with
  | inl i => exact Rp.int i
  | inr x => exact Rp.str x
theorem rke_fz {K : PySem.W.Frag} {A : Addr → Prop} {own : List (List Addr)} {H : Hp} : ∀ {ws : List (Key × V)} {kvs : List (Key × D)}, RKV K A H ws kvs → RKE K A own H (ws.map fun z => (Str.empty, z.2)) (fzF kvs)
  | [], [], _ => trivial
  | _ :: _, _ :: _, ⟨_, r, t⟩ => ⟨rfl, r, rke_fz t⟩
  | [], _ :: _, h => h.elim
  | _ :: _, [], h => h.elim
theorem rkv_fz {K : PySem.W.Frag} {A : Addr → Prop} {own : List (List Addr)} {H : Hp} : ∀ {ws : List (Key × V)} {kvs : List (Key × D)} {ws3 : List (Str × V)}, RKE K A own H ws3 (fzF kvs) → ws.map (·.1) = kvs.map (·.1) → ws.map (·.2) = ws3.map (·.2) → RKV K A H ws kvs
  | [], [], _, _, _, _ => trivial
  | w :: ws, z :: kvs, q :: ws3, ⟨_, r, t⟩, h1, h2 => by
    have a := (List.cons.inj h1)
    have b := (List.cons.inj h2)
    refine ⟨a.1, ?_, rkv_fz t a.2 b.2⟩
    show Rp K A H w.2 z.2
    rw [show w.2 = q.2 from b.1]
    exact r
  | _ :: _, _ :: _, [], h, _, _ => h.elim
  | [], _ :: _, _, _, h, _ => by simp at h
  | _ :: _, [], _, _, h, _ => by simp at h
variable {X : L2.Cx} {tg elt e : Expr} {we0 we : WE} {wg : WG} {wt : WT} {js : List Nat} {pos : Pos}
def lkK (s : S) (j : Nat) (kvs : List (Key × D)) (o : Obj) (us : List (Key × V)) : List MO := sm s.ms j (.ins (.fzk o us) (fzF kvs))
def lcKt (vs : List Nat) (wg : WG) (wt : WT) (we : WE) (s : S) (M : List MO) (kvs : List (Key × D)) (I : Nat → List D → Prop) : Prop :=
  ∀ i q acc, kvs[i]? = some q → I i acc → wg (.da (kD q.1)) ⟨killL vs s.es, M ++ [.lst acc], s.np⟩ fun s2 => wt s2 fun s3 c =>
    (c = true → we s3 fun s4 x => daI x fun y => acc.length < sizeLine ∧ gm s4.ms s.ms.length = .lst acc ∧ takM s.ms.length s.ms.length s4.ms = M ∧ I (i + 1) (acc ++ [y])) ∧
    (c = false → gm s3.ms s.ms.length = .lst acc ∧ takM s.ms.length s.ms.length s3.ms = M ∧ I (i + 1) acc)
def dLcK (vs : List Nat) (wd : WE) (wg : WG) (wt : WT) (we : WE) : WE := fun s Ks => ∃ (j : Nat) (kvs : List (Key × D)) (I : Nat → List D → Prop), gm s.ms j = .dct kvs ∧ I 0 [] ∧
  (∀ (o : Obj) (us : List (Key × V)), us.map (·.1) = kvs.map (·.1) → Clo (lkK s j kvs o us) → wd ⟨s.es, lkK s j kvs o us, s.np⟩ (fun s1 x => x = .mu j ∧ s1 = ⟨s.es, lkK s j kvs o us, s.np⟩) ∧ lcKt vs wg wt we s (lkK s j kvs o us) kvs I) ∧
  (∀ acc, I kvs.length acc → Ks s (.da (.list acc)))
theorem lcK_run {vs : List Nat} (hj : ∀ j ∈ js, j ∈ vs) {te : TE}
    (qe : ∀ (b : Bd) (A : Addr → Prop) (own : List (List Addr)) (H : Hp) (σ : L2.St) (s : S) (Ks : S → En → Prop) (Q : VK), Rel X.K b A own H σ s → we0 s Ks → PostE X.K b A own H σ Ks Q → te σ H Q)
    (b : Bd) (A : Addr → Prop) (own : List (List Addr)) (H : Hp) (σ : L2.St) (s : S) (Ks : S → En → Prop) (Q : VK) (R : Rel X.K b A own H σ s) (h : dLcK vs we0 wg wt we s Ks) (k : PostE X.K b A own H σ Ks Q) :
    tLockE (tLc (iKeys te) (canG X.K js wg) (canT X.K wt) (canE X.K we) vs) σ H Q := by
  obtain ⟨j, kvs, I, g, h0, hs, hd⟩ := h
  have m := R.mr j
  rw [g] at m
  obtain ⟨p, ws, e1, e2, e3⟩ := m
  have kw : ws.map (·.1) = kvs.map (·.1) := RKV.keys e3
  have jl : j < s.ms.length := gm_lt' g (fun z => nomatch z)
  have pA : A p := R.oa j p (by rw [e1]; simp)
  refine ⟨p, _, e2, trivial, fun od => ?_⟩
  obtain ⟨R1, U1⟩ := R.chg (H' := upd H p (.frz od (.dK ws))) j (.ins (.fzk od ws) (fzF kvs)) (fun a o n h => by
    rw [upd_ne]; exact h
    intro z; subst z; exact n (by rw [e1]; simp)) (fun a h => by
    rw [e1] at h
    cases List.mem_singleton.mp h
    rw [upd_same]; intro z; cases z) (fun u => by rw [e1]; exact ⟨p, [], ws.map fun z => (Str.empty, z.2), rfl, ⟨rfl, by rw [List.map_map]; rfl, upd_same⟩, rke_fz (RKV.up u.kp e3)⟩) jl
  replace R1 : Rel X.K b A own (upd H p (.frz od (.dK ws))) σ ⟨s.es, lkK s j kvs od ws, s.np⟩ := R1
  have clo := R1.clo
  obtain ⟨hw, hs⟩ := hs od ws kw clo
  have ml : (lkK s j kvs od ws).length = s.ms.length := sm_length _ _ _
  have tk : takM s.ms.length s.ms.length (lkK s j kvs od ws) = lkK s j kvs od ws := by
    have := clo
    unfold Clo at this
    rw [ml] at this
    exact this
  have gM : gm (lkK s j kvs od ws) j = .ins (.fzk od ws) (fzF kvs) := gm_sm_self jl
  generalize hM : lkK s j kvs od ws = M at *
  generalize hH1 : upd H p (.frz od (.dK ws)) = H1 at *
  show te σ H1 fun x H1 => ∃ d o, x = .ref d ∧ ((∃ kvs, H1 d = some (.frz o (.dK kvs)) ∧ _) ∨ _)
  refine qe _ _ _ _ _ _ _ _ R1 hw fun A1 o1 H2 v1 s1 x1 R2 U2 E1 h1 => ?_
  obtain ⟨rfl, rfl⟩ := h1
  obtain ⟨p', r', e5, rfl⟩ := E1
  have e6 := U2.ow _ _ _ e1
  rw [e6] at e5
  cases e5
  have lk : ∀ (A3 : Addr → Prop) (o3 : List (List Addr)) (H3 : Hp) (σ3 : L2.St) (s3 : S), Rel X.K b A3 o3 H3 σ3 s3 → gm s3.ms j = .ins (.fzk od ws) (fzF kvs) → (∀ k a r, go own k = a :: r → go o3 k = a :: r) → H3 p = some (.frz od (.dK ws)) ∧ RKV X.K A3 H3 ws kvs := by
    intro A3 o3 H3 σ3 s3 R3 g3 ow
    have m3 := R3.mr j
    rw [g3] at m3
    obtain ⟨p3, r3, ws3, f1, ⟨rfl, f0, f2⟩, f3⟩ := m3
    rw [ow _ _ _ e1] at f1
    cases f1
    exact ⟨f2, rkv_fz f3 kw f0⟩
  obtain ⟨hp2, rk2⟩ := lk _ _ _ _ _ R2 gM (fun k a r q => U2.ow _ _ _ q)
  refine ⟨p, od, rfl, .inl ⟨ws, hp2, ?_⟩⟩
  intro D hD
  obtain ⟨R0, U0, g0⟩ := R2.newMu (o := .lst []) hD (.lst []) fun A' own' u => ⟨D, [], rfl, upd_same, .nil⟩
  have fl : ws.length = kvs.length := RKV.len e3
  refine ⟨fun i n H3 => n = kvs.length - i ∧ i ≤ kvs.length ∧ ∃ (A2 : Addr → Prop) (o2 : List (List Addr)) (acc : List PyData), Rel X.K b A2 o2 H3 σ ⟨s.es, M ++ [.lst acc], s.np⟩ ∧ Up A1 o1 H2 A2 o2 H3 ∧ go o2 s.ms.length = [D] ∧ I i acc,
    ⟨_, rfl, Nat.zero_le _, _, _, [], R0, U0, by rw [← ml]; exact g0, h0⟩, ?_⟩
  rintro i n H3 ⟨rfl, hi, A2, o2, acc, R3, U3, g2, hI⟩
  have owA : ∀ k a r, go own k = a :: r → go o2 k = a :: r := fun k a r q => U3.ow _ _ _ (U2.ow _ _ _ q)
  have gMa : gm (M ++ [.lst acc]) j = .ins (.fzk od ws) (fzF kvs) := by rw [gm_app, if_pos (by rw [ml]; exact jl)]; exact gM
  obtain ⟨hp3, rk3⟩ := lk _ _ _ _ _ R3 gMa owA
  have npm : s.np ≤ s.ms.length := by
    rw [← R.ol]
    exact R.npl
  by_cases hlt : i < kvs.length
  · refine .inr ⟨⟨hp3, by rw [fl]; exact hlt⟩, fun H' => ∃ (A3 : Addr → Prop) (o3 : List (List Addr)) (acc3 : List PyData), Rel X.K b A3 o3 H' σ ⟨s.es, M ++ [.lst acc3], s.np⟩ ∧ Up A1 o1 H2 A3 o3 H' ∧ go o3 s.ms.length = [D] ∧ I (i + 1) acc3,
      fun H' ⟨A3, o3, acc3, r3, u3, g3, i3⟩ => ⟨kvs.length - (i + 1), by omega, rfl, hlt, A3, o3, acc3, r3, u3, g3, i3⟩, fun x H4 hx => ?_⟩
    obtain ⟨rfl, kx, vx, hkx, rfl⟩ := hx
    have ek : kx = kvs[i].1 := by
      have e := congrArg (fun l : List Key => l[i]?) kw
      simp only [List.getElem?_map, hkx, List.getElem?_eq_getElem hlt, Option.map_some] at e
      exact Option.some.inj e
    subst ek
    have ev : ER X.K A2 o2 H4 (kV kvs[i].1) (.da (kD kvs[i].1)) := er_key
    have R3w := R3.wiped vs
    have back : ∀ (A5 : Addr → Prop) (o5 : List (List Addr)) (H5 : Hp) (σ4 : L2.St) (s5 : S) (acc5 : List PyData), Rel X.K b A5 o5 H5 σ4 s5 → Up A2 o2 H4 A5 o5 H5 → gm s5.ms s.ms.length = .lst acc5 → takM s.ms.length s.ms.length s5.ms = M →
        Rel X.K b A5 (o5.take (s.ms.length + 1)) H5 σ ⟨s.es, M ++ [.lst acc5], s.np⟩ ∧ Up A1 o1 H2 A5 (o5.take (s.ms.length + 1)) H5 ∧ go (o5.take (s.ms.length + 1)) s.ms.length = [D] := by
      intro A5 o5 H5 σ4 s5 acc5 R5 U5 g5 t5
      have npe : s5.np = s.np := R5.np.symm.trans R.np
      have go5 : go o5 s.ms.length = [D] := U5.ow _ _ _ g2
      have l1 : o1.length = s.ms.length := R2.ol.trans ml
      have u : Up A1 o1 H2 A5 (o5.take (s.ms.length + 1)) H5 := ⟨U3.kp.trans U5.kp, fun k a r e => by
        have hk : k < o1.length := Nat.lt_of_not_le fun z => by rw [go_ge _ _ z] at e; cases e
        rw [go_take, if_pos (by omega)]
        exact U5.ow _ _ _ (U3.ow _ _ _ e)⟩
      have hml : s.ms.length < s5.ms.length := gm_lt (by rw [g5]; intro z; cases z)
      refine ⟨?_, u, by rw [go_take, if_pos (by omega)]; exact go5⟩
      have := R5.back (σ := σ) (es := s.es) (by rw [npe]; exact npm) g5 R.len fun j => (R2.sl j).imp id fun ⟨v, e, q⟩ => ⟨v, e, q.up u⟩
      rw [npe, t5] at this
      exact this
    refine ⟨b, A2, o2, ⟨killL vs s.es, M ++ [.lst acc], s.np⟩, (.da (kD kvs[i].1)), _, R3w, ev, hs i _ acc (List.getElem?_eq_getElem hlt) hI, fun A4 o4 H5 σ2 s2 R4 U4 S4 h4 => ⟨wipe_sto S4 hj, b, A4, o4, s2, _, R4, h4, fun A5 o5 H6 s3 c R5 U5 h5 => ?_⟩⟩
    cases c with
    | false =>
      rw [if_neg (by decide)]
      obtain ⟨g5, t5, i5⟩ := h5.2 rfl
      obtain ⟨r, u, g⟩ := back A5 o5 H6 σ2 s3 acc R5 (U4.trans U5) g5 t5
      exact ⟨_, _, _, r, u, g, i5⟩
    | true =>
      rw [if_pos rfl]
      refine ⟨b, A5, o5, s3, _, R5, h5.1 rfl, fun A6 o6 H7 v s4 x R6 U6 E6 h6 => ?_⟩
      obtain ⟨y, rfl, hl, g6, t6, i6⟩ := daI_inv h6
      have go6 : go o6 s.ms.length = [D] := ((U4.trans U5).trans U6).ow _ _ _ g2
      obtain ⟨p, us, ep, f2, f3, _, up⟩ := mu_at R6 (v := .ref D) ⟨D, [], go6, rfl⟩ g6
      cases ep
      obtain ⟨R7, U7⟩ := up _ _ (f3.append (.cons (show Rp X.K A6 H7 v y from E6) .nil))
      refine ⟨us, f2, by rw [f3.length]; exact hl, ?_⟩
      have hml : s.ms.length < s4.ms.length := gm_lt (by rw [g6]; intro z; cases z)
      obtain ⟨r, u, g⟩ := back A6 o6 _ σ2 _ (acc ++ [y]) R7 (((U4.trans U5).trans U6).trans U7) (by show gm (sm s4.ms s.ms.length _) s.ms.length = _; rw [gm_sm, if_pos ⟨rfl, hml⟩]) (by
        show takM _ _ (sm s4.ms s.ms.length _) = _
        rw [takM_sm _ _ _ _ _ (Nat.le_refl _)]
        exact t6)
      exact ⟨_, _, _, r, u, g, i6⟩
  · have e : i = kvs.length := by omega
    subst e
    refine .inl ⟨⟨hp3, by rw [fl]; exact Nat.le_refl _⟩, hp3, ?_⟩
    obtain ⟨R4, U4⟩ := R3.chg (H' := upd H3 p (.dK ws)) j (.dct kvs) (fun a o n h => by
      rw [upd_ne]; exact h
      intro z; subst z; exact n (by rw [owA _ _ _ e1]; simp)) (fun a h => by
      rw [owA _ _ _ e1] at h
      cases List.mem_singleton.mp h
      rw [upd_same]; intro z; cases z) (fun u => by rw [owA _ _ _ e1]; exact ⟨p, ws, rfl, upd_same, RKV.up u.kp rk3⟩) (by
      show j < (M ++ [MO.lst acc]).length
      rw [List.length_append, ml]; omega)
    have eM : sm (M ++ [MO.lst acc]) j (.dct kvs) = s.ms ++ [.lst acc] := by
      rw [sm_appL _ _ _ _ (by rw [ml]; exact jl), ← hM]
      unfold lkK
      rw [sm_sm2, ← g, sm_gm]
    replace R4 : Rel X.K b A2 o2 (upd H3 p (.dK ws)) σ ⟨s.es, sm (M ++ [MO.lst acc]) j (.dct kvs), s.np⟩ := R4
    rw [eM] at R4
    have UU : Up A own H A2 o2 (upd H3 p (.dK ws)) := ((U1.trans U2).trans U3).trans U4
    obtain ⟨A5, o5, R5, U5, rp⟩ := Rel.lastLst R R4 UU rfl g2
    have tk0 : takM s.ms.length s.ms.length s.ms = s.ms := R.clo
    rw [tk0] at R5
    exact k.da R5 U5 rp (hd acc hI)
theorem de_lcK {ifs : List Expr} {scope : Scope} (own : List (Str × Nat)) (hc : X.calm = true) (hN : X.N.Nodup) (hi : DE X e we0) (ok : BlkOk X.N X.env.scope scope own) (hj : ∀ j ∈ js, j ∈ own.map (·.2))
    (hg : ∀ (s : Shared) (H : Hp) (C : Addr) (cl : List (Str × Addr)) (fp : List Addr), DG (X.blk s H scope (compEnvC scope cl C X.env) fp) tg js wg) (ht : ∀ (s : Shared) (H : Hp) (C : Addr) (cl : List (Str × Addr)) (fp : List Addr), DTs (X.blk s H scope (compEnvC scope cl C X.env) fp) ifs wt)
    (he : ∀ (s : Shared) (H : Hp) (C : Addr) (cl : List (Str × Addr)) (fp : List Addr), DE (X.blk s H scope (compEnvC scope cl C X.env) fp) elt we) (hs : ∀ x, foldedSetIterable e X.env x = pure x := by intro _; rfl) :
    DE X (.ListComp elt [⟨tg, e, ifs, 0⟩] scope pos) (dLcK (own.map (·.2)) we0 wg wt we) := by
  obtain ⟨te, pe, qe⟩ := hi.ex
  exact ⟨_, pe_lock (pe_lc (g := canG X.K js wg) (tt := canT X.K wt) (te := canE X.K we) hc hN (pi_keys pe) ok (fun s H C cl fp => (hg s H C cl fp).can) (fun s H C cl fp => (ht s H C cl fp).can) (fun s H C cl fp => (he s H C cl fp).can) hs), fun b A own' H σ s Ks Q R h k => lcK_run hj qe b A own' H σ s Ks Q R h k⟩
end
section
variable {X : L2.Cx} {a c : Expr} {wa wc : WE} {pos : Pos}
def dGetK (wd wk : WE) : WE := fun s Ks => wd s fun s1 o => wk s1 fun s2 i => dky i fun key => ∃ (j : Nat) (od : Obj) (us : List (Key × V)) (kvs : List (Key × D)) (d : D), o = .mu j ∧ gm s2.ms j = .ins (.fzk od us) (fzF kvs) ∧ us.map (·.1) = kvs.map (·.1) ∧ findD kvs key = some d ∧ Ks s2 (.da d)
theorem de_dgetK (hu : X.A.units + 1 < cLine) (ho : DE X a wa) (hi : DE X c wc) (hs : NoSl c := by exact fun _ _ => rfl) : DE X (.Subscript a c pos) (dGetK wa wc) := by
  obtain ⟨ta, pa, qa⟩ := ho.ex
  obtain ⟨tb, pb, qb⟩ := hi.ex
  refine ⟨_, pe_dget hu pa pb hs, fun b A own H σ s Ks Q R h k => ?_⟩
  show ta σ H fun x H1 => tb σ H1 fun y H2 => ∃ a v, x = .ref a ∧ DGet H2 a y (some v) ∧ Q v H2
  refine qa _ _ _ _ _ _ _ _ R h fun A1 o1 H1 v1 s1 x1 R1 U1 E1 h1 => ?_
  refine qb _ _ _ _ _ _ _ _ R1 h1 fun A2 o2 H2 v2 s2 x2 R2 U2 E2 h2 => ?_
  obtain ⟨key, rfl, j, od, us, kvs, d, rfl, g, ku, hf, h2⟩ := dky_inv E2 h2
  have m := R2.mr j
  rw [g] at m
  obtain ⟨p, r, ws3, f1, ⟨rfl, f0, f2⟩, f3⟩ := m
  obtain ⟨p', r', e4, rfl⟩ := E1.up U2
  rw [f1] at e4
  cases e4
  rcases RKV.find (k := key) (rkv_fz f3 ku f0) with ⟨q, _⟩ | ⟨d', v, q1, q2, q3⟩
  · rw [hf] at q; cases q
  · rw [hf] at q1
    cases q1
    exact ⟨p, v, rfl, .inl ⟨us, key, .inr ⟨_, f2⟩, rfl, q2.symm⟩, k.da R2 (U1.trans U2) q3 h2⟩
end
end DL
namespace DL
open PySem L2 PySem.Spec PyProof.Rows
section
variable {X : L2.Cx} {tg elt e : Expr} {we0 we : WE} {wg : WG} {wt : WT} {js : List Nat} {pos : Pos}
theorem ds_setLcK {i : Nat} {y : Str} {py spos : Pos} {ifs : List Expr} {scope : Scope} (own : List (Str × Nat)) (hc : X.calm = true) (hN : X.N.Nodup) (hy : X.N[i]? = some y) (hyl : X.env.scope.names.lookup y = some .local)
    (hsw : swapsWith (.ListComp elt [⟨tg, e, ifs, 0⟩] scope pos) (some (.Name y py)) spos.line X.env = pure true) (hi : DE X e we0) (ok : BlkOk X.N X.env.scope scope own) (hj : ∀ j ∈ js, j ∈ own.map (·.2))
    (hg : ∀ (s : Shared) (H : Hp) (C : Addr) (cl : List (Str × Addr)) (fp : List Addr), DG (X.blk s H scope (compEnvC scope cl C X.env) fp) tg js wg) (ht : ∀ (s : Shared) (H : Hp) (C : Addr) (cl : List (Str × Addr)) (fp : List Addr), DTs (X.blk s H scope (compEnvC scope cl C X.env) fp) ifs wt)
    (he : ∀ (s : Shared) (H : Hp) (C : Addr) (cl : List (Str × Addr)) (fp : List Addr), DE (X.blk s H scope (compEnvC scope cl C X.env) fp) elt we) (hs : ∀ x, foldedSetIterable e X.env x = pure x := by intro _; rfl) :
    DS X (.Assign [.Name y py] (.ListComp elt [⟨tg, e, ifs, 0⟩] scope pos) spos) (sAsg (dLcK (own.map (·.2)) we0 wg wt we) (gN i)) := by
  obtain ⟨te, pe, qe⟩ := hi.ex
  refine ⟨_, ps_lock (ps_setLc (g := canG X.K js wg) (tt := canT X.K wt) (te := canE X.K we) hc hN hy hyl hsw (pi_keys pe) ok (fun s H C cl fp => (hg s H C cl fp).can) (fun s H C cl fp => (ht s H C cl fp).can) (fun s H C cl fp => (he s H C cl fp).can) hs), fun b A own' H σ s D E R h m => ?_⟩
  have r := asg_run (te := tLockE (tLc (iKeys te) (canG X.K js wg) (canT X.K wt) (canE X.K we) (own.map (·.2)))) (g := gName i) (fun b A own' H σ s Ks Q R h k => lcK_run hj qe b A own' H σ s Ks Q R h k) (gN_run i) b A own' H σ s D E R h m
  exact r
end
end DL
namespace DL
open PySem L2 PySem.Spec PyProof.Rows
structure CFn (K : PySem.W.Frag) (mg : Str → Option Value) (c m : Str) : Prop where
  ex : ∃ C f : Addr, PySem.W.nsIn K mainGlobals c = some (some (.ref C)) ∧ mg c = some (.ref C) ∧ PySem.W.findIn K (.ref C) m = some (some (.ref f)) ∧ ClX.CRead K C (.type "type") ∧ PySem.W.findCls K (.ref C) (.type "type") m = some (.val (.ref f)) ∧ PySem.W.keepIn K (.ref f) = true
section
variable {X : L2.Cx} {CX : CXT} {k : Nat} {f C : Addr} {fd : FuncData} {ps : List Str} {ds : List Value} {dvs : List V} {sp : Sp} {x m : Str} {E : XK} {e : Expr} {es : List Expr} {t : TA} {p apos pos : Pos} {pl : Sem Bool}
theorem pe_cfun (F : FnOkG X.prog X.w X.K X.mg X.base CX k f fd ps sp) (hr : Room k X.A) (hgd : X.A.guards = some []) (hg : Gl X x) (hm : X.mg x = some (.ref C)) (rd : ClX.CRead X.K C (.type "type")) (hc : PySem.W.findCls X.K (.ref C) (.type "type") m = some (.val (.ref f))) (hk : PySem.W.keepIn X.K (.ref f) = true) (hb : Binds X.K fd ps ds) (hd : Vals dvs ds) (hx : Passes CX X E)
    (ha : PA X (e :: es) t) (hdb : (x == ("__debug__" : Str)) = false := by decide) (he : starEach (e :: es) X.env = (false, eval e X.env) :: starEach es X.env := by rfl) (hpl : (backTo pos (starEach es X.env)).any (·.1) = false := by rfl)
    (ht : eval (.Call (.Attribute (.Name x p) m apos) (e :: es) [] pos) X.env = (do
      let ov ← eval (.Name x p) X.env
      standAt apos.atName
      let (f, first) ← holding [ov] (getMethod ov m pl)
      callWith pos f first (backTo pos (starEach (e :: es) X.env)) (backToKw pos (keywordEach [] X.env))) := by rfl) :
    PE X (.Call (.Attribute (.Name x p) m apos) (e :: es) [] pos) (tCall sp dvs E t) := by
  refine ⟨fun pins s σ H Q I h => PySem.W.methodCall_KW (pl := pl) (ld_glob I hg hm ?_ hdb) ht⟩
  refine PySem.W.method_cls I.kIn rd.ga (PySem.W.cls_value I.kIn rd.rd hc (handed_of (show RelV (.ref f) (.ref f) from rfl)) ?_)
  refine PySem.W.callWith_K (h₀ := X.base) I.ok.mod.kin hk (thn (ha.run pos pins _ σ H _ (I.tok _) h) fun us s1 ⟨vs, H1, I1, r, q⟩ => ⟨I1.kIn, ?_⟩) he hpl
  have r2 : Vals (vs ++ dvs) (us ++ ds) := r.append hd
  have hl : (us ++ ds).length = ps.length := by rw [← r2.length]; exact F.len _ _ _ _ q
  refine wpAny_call (codeAny_mono (F.run X.A X.stack s1 H1 ⟨us, []⟩ (us ++ ds) (vs ++ dvs) Q E hr hgd I1.env0 (hb s1 us I1.kIn hl) r2 q) fun r s' hq => ?_)
  match r, hq with
  | .error e, hq => exact hx pins σ H1 s1 e s' I1 hq
  | .ok (.ret u), hq => exact I1.after hq
end
section
variable {X : L2.Cx} {e : Expr} {es : List Expr} {wr : WA}
theorem de_cinit {k : Nat} {st : Stmt} {ps : List Str} {sp : SpD} {c q : Str} {p apos pos : Pos} {n : Nat} {pl : Sem Bool} (O : OkI X.prog X.w X.K X.mg X.base k c q st ps n sp) (hr : RoomG k X.A) (hg : Gl X c) (hc : CFn X.K X.mg c "__init__")
    (ha : DAn X (e :: es) n wr) (hdb : (c == ("__debug__" : Str)) = false := by decide) (he : starEach (e :: es) X.env = (false, eval e X.env) :: starEach es X.env := by rfl) (hpl : (backTo pos (starEach es X.env)).any (·.1) = false := by rfl)
    (ht : eval (.Call (.Attribute (.Name c p) "__init__" apos) (e :: es) [] pos) X.env = (do
      let ov ← eval (.Name c p) X.env
      standAt apos.atName
      let (f, first) ← holding [ov] (getMethod ov "__init__" pl)
      callWith pos f first (backTo pos (starEach (e :: es) X.env)) (backToKw pos (keywordEach [] X.env))) := by rfl) :
    DE X (.Call (.Attribute (.Name c p) "__init__" apos) (e :: es) [] pos) (dCall (CallT sp) wr) := by
  obtain ⟨C, f, fd, a, F⟩ := O.ex
  obtain ⟨C', f', n', g', i', rd, fc, kp⟩ := hc.ex
  rw [a.n] at n'
  cases n'
  rw [a.mke.init] at i'
  cases i'
  obtain ⟨ta, pa, qa⟩ := ha.ex
  refine ⟨_, pe_cfun F hr.r hr.g hg a.g rd fc kp a.b .nil (pass0 (X := X)) pa hdb he hpl ht, fun b A own H σ s Ks Q R h kk => ?_⟩
  show ta σ H fun vs H1 => spOf X.K n sp (vs ++ []) H1 Q E0
  refine qa _ _ _ _ _ _ _ _ R h fun A1 o1 H1 vs s1 xs R1 U1 E1 h1 => ?_
  rw [List.append_nil]
  exact callT_run (E1.len.trans h1.1) R1 E1 h1.2 (kk.up U1)
end
section
variable {X : L2.Cx} {a b : Expr} {wa wb : WE} {pos : Pos}
theorem de_eqDk0 (hu : X.A.units + 64 < cLine) (ha : DE X a wa) (hb : DE X b wb) : DE X (.Compare a [.Eq] [b] pos) (dDk0 false wa wb) := de_cmp (op_eqDk0 hu) opd_dk0 ha hb (nomark _)
end
section
variable {X : L2.Cx} {a : Expr} {wa : WE} {pos : Pos}
def cLenS : S → List En → (S → En → Prop) → Prop := fun s xs Ks => a1 xs fun o => isLstS s o fun _ fs => Ks s (.da (.int (fs.length : Int)))
theorem cd_lenS {K : PySem.W.Frag} : CallD K (fun xs H Q => ∃ x n, xs = [x] ∧ LenV K x H n ∧ Q (.int n) H) cLenS := by
  intro b A own H σ s vs xs Ks Q R E h k
  obtain ⟨v, x, rfl, e1, h⟩ := a1_inv E h
  obtain ⟨j, fs, rfl, g, h⟩ := isLstS_inv h
  obtain ⟨p, ws, rfl, e2, e3, _⟩ := ins_at R e1 g
  exact ⟨_, _, rfl, .inl ⟨_, .inl (.inl e2), by rw [List.length_map, e3.len]⟩, k.da R Up.refl (.int _) h⟩
theorem de_lenS {p : Pos} (hg : Gl X "len") (hm : X.mg "len" = none) (ha : DE X a wa) (he : starEach (a :: []) X.env = (false, eval a X.env) :: starEach [] X.env := by rfl) : DE X (.Call (.Name "len" p) [a] [] pos) (dCall cLenS (aCons wa aNil)) := de_callB call_len cd_lenS hg hm PySem.boot_len (da_cons ha da_nil he) (he := he)
end
end DL
set_option exponentiation.threshold 9000
namespace K69
open PySem L2 PySem.Spec PyProof.Rows DL
def topS (i : Nat) : Stmt := PySem.Challenge.pw_strengthbond_k69_deeds_undone.main.body.getD i (.Pass ⟨0, 0, 0, 0⟩)
abbrev s_SaidDeed_init : Stmt := inClass (topS 2) 0
abbrev s_SaidDeed_take_back : Stmt := inClass (topS 2) 1
abbrev s_UnsaidDeed_init : Stmt := inClass (topS 3) 0
abbrev s_UnsaidDeed_take_back : Stmt := inClass (topS 3) 1
abbrev s_RetoldDeed_init : Stmt := inClass (topS 4) 0
abbrev s_RetoldDeed_take_back : Stmt := inClass (topS 4) 1
abbrev s_Book_init : Stmt := inClass (topS 15) 0
abbrev s_Book_ask_number : Stmt := inClass (topS 15) 1
abbrev s_Book_ask_new : Stmt := inClass (topS 15) 2
abbrev s_Book_heap : Stmt := inClass (topS 15) 3
abbrev s_Book_note : Stmt := inClass (topS 15) 4
abbrev s_Book_say : Stmt := inClass (topS 15) 5
abbrev s_Book_unsay : Stmt := inClass (topS 15) 6
abbrev s_Book_retell : Stmt := inClass (topS 15) 7
abbrev s_Book_undo : Stmt := inClass (topS 15) 8
abbrev s_begin : Stmt := topS 17
abbrev s_take : Stmt := topS 18
abbrev s_names : Stmt := topS 20
abbrev s_world : Stmt := topS 21
abbrev s_some : Stmt := topS 22
abbrev s_laid : Stmt := topS 23
abbrev s_measured : Stmt := topS 24
abbrev s_of_cask : Stmt := topS 25
abbrev s_deed : Stmt := topS 26
abbrev s_page : Stmt := topS 27
abbrev s_begun : Stmt := topS 28
abbrev s_heap_of : Stmt := topS 29
abbrev s_due_word : Stmt := topS 30
abbrev s_kept_on : Stmt := topS 31
abbrev s_tried : Stmt := topS 32
abbrev s_class : Stmt := topS 33
abbrev s_deed_right : Stmt := topS 34
abbrev s_next : Stmt := topS 35
abbrev s_long_right : Stmt := topS 36
abbrev s_law : Stmt := topS 37
theorem sc_SaidDeed_init : FnScope ["self", "number"] ["self", "number"] (defScope s_SaidDeed_init) := ⟨rfl, rfl, rfl, by decide +kernel, rfl, by decide +kernel, by decide +kernel⟩
theorem sc_SaidDeed_take_back : FnScope ["self", "pages"] ["self", "pages"] (defScope s_SaidDeed_take_back) := ⟨rfl, rfl, rfl, by decide +kernel, rfl, by decide +kernel, by decide +kernel⟩
theorem sc_UnsaidDeed_init : FnScope ["self", "page"] ["self", "page"] (defScope s_UnsaidDeed_init) := ⟨rfl, rfl, rfl, by decide +kernel, rfl, by decide +kernel, by decide +kernel⟩
theorem sc_UnsaidDeed_take_back : FnScope ["self", "pages"] ["self", "pages"] (defScope s_UnsaidDeed_take_back) := ⟨rfl, rfl, rfl, by decide +kernel, rfl, by decide +kernel, by decide +kernel⟩
theorem sc_RetoldDeed_init : FnScope ["self", "page", "later"] ["self", "page", "later"] (defScope s_RetoldDeed_init) := ⟨rfl, rfl, rfl, by decide +kernel, rfl, by decide +kernel, by decide +kernel⟩
theorem sc_RetoldDeed_take_back : FnScope ["self", "pages"] ["self", "pages"] (defScope s_RetoldDeed_take_back) := ⟨rfl, rfl, rfl, by decide +kernel, rfl, by decide +kernel, by decide +kernel⟩
theorem sc_Book_init : FnScope ["self", "terms"] ["self", "terms"] (defScope s_Book_init) := ⟨rfl, rfl, rfl, by decide +kernel, rfl, by decide +kernel, by decide +kernel⟩
theorem sc_Book_ask_number : FnScope ["self", "number"] ["self", "number"] (defScope s_Book_ask_number) := ⟨rfl, rfl, rfl, by decide +kernel, rfl, by decide +kernel, by decide +kernel⟩
theorem sc_Book_ask_new : FnScope ["self", "number"] ["self", "number"] (defScope s_Book_ask_new) := ⟨rfl, rfl, rfl, by decide +kernel, rfl, by decide +kernel, by decide +kernel⟩
theorem sc_Book_heap : FnScope ["self"] ["self"] (defScope s_Book_heap) := ⟨rfl, rfl, rfl, by decide +kernel, rfl, by decide +kernel, by decide +kernel⟩
theorem sc_Book_note : FnScope ["self"] ["self"] (defScope s_Book_note) := ⟨rfl, rfl, rfl, by decide +kernel, rfl, by decide +kernel, by decide +kernel⟩
theorem sc_Book_say : FnScope ["self", "page"] ["self", "page"] (defScope s_Book_say) := ⟨rfl, rfl, rfl, by decide +kernel, rfl, by decide +kernel, by decide +kernel⟩
theorem sc_Book_unsay : FnScope ["self", "number"] ["self", "number"] (defScope s_Book_unsay) := ⟨rfl, rfl, rfl, by decide +kernel, rfl, by decide +kernel, by decide +kernel⟩
theorem sc_Book_retell : FnScope ["self", "number", "page"] ["self", "number", "page"] (defScope s_Book_retell) := ⟨rfl, rfl, rfl, by decide +kernel, rfl, by decide +kernel, by decide +kernel⟩
theorem sc_Book_undo : FnScope ["self", "deed"] ["self"] (defScope s_Book_undo) := ⟨rfl, rfl, rfl, by decide +kernel, rfl, by decide +kernel, by decide +kernel⟩
theorem sc_begin : FnScope ["_law_script", "_law_cells"] ["_law_script"] (defScope s_begin) := ⟨rfl, rfl, rfl, by decide +kernel, rfl, by decide +kernel, by decide +kernel⟩
theorem sc_take : FnScope ["_law_state", "_law_many", "_law_turn", "_law_place", "_law_cell", "_law_digit", "_law_mixed"] ["_law_state", "_law_many"] (defScope s_take) := ⟨rfl, rfl, rfl, by decide +kernel, rfl, by decide +kernel, by decide +kernel⟩
theorem sc_names : FnScope ["_law_state", "_law_many", "_law_letters", "_law_found", "_law_k", "_law_word", "_law_turn"] ["_law_state", "_law_many"] (defScope s_names) := ⟨rfl, rfl, rfl, by decide +kernel, rfl, by decide +kernel, by decide +kernel⟩
theorem sc_world : FnScope ["_law_state", "_law_world_here", "_law_rates", "_law_day", "_law_k", "_law_drying"] ["_law_state"] (defScope s_world) := ⟨rfl, rfl, rfl, by decide +kernel, rfl, by decide +kernel, by decide +kernel⟩
theorem sc_some : FnScope ["_law_state", "_law_things"] ["_law_state", "_law_things"] (defScope s_some) := ⟨rfl, rfl, rfl, by decide +kernel, rfl, by decide +kernel, by decide +kernel⟩
theorem sc_laid : FnScope ["_law_state", "_law_world_here", "_law_cask", "_law_rest", "_law_house", "_law_strong", "_law_bulk"] ["_law_state", "_law_world_here"] (defScope s_laid) := ⟨rfl, rfl, rfl, by decide +kernel, rfl, by decide +kernel, by decide +kernel⟩
theorem sc_measured : FnScope ["_law_state", "_law_world_here", "_law_cask", "_law_bulk", "_law_pure"] ["_law_state", "_law_world_here", "_law_cask"] (defScope s_measured) := ⟨rfl, rfl, rfl, by decide +kernel, rfl, by decide +kernel, by decide +kernel⟩
theorem sc_of_cask : FnScope ["_law_state", "_law_world_here", "_law_pick", "_law_cask", "_law_house", "_law_some_here", "_law_bulk", "_law_near", "_law_other", "_law_pure", "_law_one"] ["_law_state", "_law_world_here", "_law_pick", "_law_cask"] (defScope s_of_cask) := ⟨rfl, rfl, rfl, by decide +kernel, rfl, by decide +kernel, by decide +kernel⟩
theorem sc_deed : FnScope ["_law_state", "_law_world_here", "_law_pick", "_law_house", "_law_number", "_law_cask", "_law_bulk", "_law_pure"] ["_law_state", "_law_world_here"] (defScope s_deed) := ⟨rfl, rfl, rfl, by decide +kernel, rfl, by decide +kernel, by decide +kernel⟩
theorem sc_page : FnScope ["_law_state", "_law_world_here", "_law_day", "_law_house", "_law_deed_here"] ["_law_state", "_law_world_here"] (defScope s_page) := ⟨rfl, rfl, rfl, by decide +kernel, rfl, by decide +kernel, by decide +kernel⟩
theorem sc_begun : FnScope ["_law_terms", "_law_own"] ["_law_terms"] (defScope s_begun) := ⟨rfl, rfl, rfl, by decide +kernel, rfl, by decide +kernel, by decide +kernel⟩
theorem sc_heap_of : FnScope ["_law_pages", "_law_number"] ["_law_pages"] (defScope s_heap_of) := ⟨rfl, rfl, rfl, by decide +kernel, rfl, by decide +kernel, by decide +kernel⟩
theorem sc_due_word : FnScope ["_law_kept", "_law_deed_here", "_law_word", "_law_number"] ["_law_kept", "_law_deed_here"] (defScope s_due_word) := ⟨rfl, rfl, rfl, by decide +kernel, rfl, by decide +kernel, by decide +kernel⟩
theorem sc_kept_on : FnScope ["_law_kept", "_law_deed_here"] ["_law_kept", "_law_deed_here"] (defScope s_kept_on) := ⟨rfl, rfl, rfl, by decide +kernel, rfl, by decide +kernel, by decide +kernel⟩
theorem sc_tried : FnScope ["_law_book", "_law_deed_here", "_law_caught", "_law_found", "error"] ["_law_book", "_law_deed_here"] (defScope s_tried) := ⟨rfl, rfl, rfl, by decide +kernel, rfl, by decide +kernel, by decide +kernel⟩
theorem sc_class : FnScope ["_law_caught", "_law_fits"] ["_law_caught"] (defScope s_class) := ⟨rfl, rfl, rfl, by decide +kernel, rfl, by decide +kernel, by decide +kernel⟩
theorem sc_deed_right : FnScope ["_law_kept", "_law_deed_here", "_law_due", "_law_told"] ["_law_kept", "_law_deed_here"] (defScope s_deed_right) := ⟨rfl, rfl, rfl, by decide +kernel, rfl, by decide +kernel, by decide +kernel⟩
theorem sc_next : FnScope ["_law_state", "_law_world_here", "_law_kept", "_law_pick", "_law_numbers", "_law_full", "_law_page_here", "_law_number", "_law_same_here"] ["_law_state", "_law_world_here", "_law_kept"] (defScope s_next) := ⟨rfl, rfl, rfl, by decide +kernel, rfl, by decide +kernel, by decide +kernel⟩
theorem sc_long_right : FnScope ["_law_state", "_law_world_here", "_law_kept", "_law_many", "_law_turn", "_law_page_here", "_law_numbers", "_law_deed_here", "_law_number"] ["_law_state", "_law_world_here"] (defScope s_long_right) := ⟨rfl, rfl, rfl, by decide +kernel, rfl, by decide +kernel, by decide +kernel⟩
theorem sc_law : FnScope ["_law_script", "_law_state", "_law_world_here", "_law_kept", "_law_turn", "_law_left", "_law_page_here"] ["_law_script"] (defScope s_law) := ⟨rfl, rfl, rfl, by decide +kernel, rfl, by decide +kernel, by decide +kernel⟩
structure Tx (K : PySem.W.Frag) (mg : Str → Option Value) : Prop where
  d_SaidDeed_init : ∃ C f fd, AtI K mg "SaidDeed" "SaidDeed.__init__" s_SaidDeed_init ["self", "number"] C f fd
  d_SaidDeed_take_back : ∃ C f fd, AtM K "SaidDeed" "take_back" "SaidDeed.take_back" s_SaidDeed_take_back ["self", "pages"] C f fd
  d_UnsaidDeed_init : ∃ C f fd, AtI K mg "UnsaidDeed" "UnsaidDeed.__init__" s_UnsaidDeed_init ["self", "page"] C f fd
  d_UnsaidDeed_take_back : ∃ C f fd, AtM K "UnsaidDeed" "take_back" "UnsaidDeed.take_back" s_UnsaidDeed_take_back ["self", "pages"] C f fd
  d_RetoldDeed_init : ∃ C f fd, AtI K mg "RetoldDeed" "RetoldDeed.__init__" s_RetoldDeed_init ["self", "page", "later"] C f fd
  d_RetoldDeed_take_back : ∃ C f fd, AtM K "RetoldDeed" "take_back" "RetoldDeed.take_back" s_RetoldDeed_take_back ["self", "pages"] C f fd
  d_Book_init : ∃ C f fd, AtI K mg "Book" "Book.__init__" s_Book_init ["self", "terms"] C f fd
  d_Book_ask_number : ∃ C f fd, AtM K "Book" "ask_number" "Book.ask_number" s_Book_ask_number ["self", "number"] C f fd
  d_Book_ask_new : ∃ C f fd, AtM K "Book" "ask_new" "Book.ask_new" s_Book_ask_new ["self", "number"] C f fd
  d_Book_heap : ∃ C f fd c P, AtM K "Book" "heap" "Book.heap" s_Book_heap ["self"] C f fd ∧ FunL K "heap" "Book.heap" s_Book_heap f fd c ∧ TabC K "Book.heap" c P
  d_Book_note : ∃ C f fd, AtM K "Book" "note" "Book.note" s_Book_note ["self"] C f fd
  d_Book_say : ∃ C f fd, AtM K "Book" "say" "Book.say" s_Book_say ["self", "page"] C f fd
  d_Book_unsay : ∃ C f fd, AtM K "Book" "unsay" "Book.unsay" s_Book_unsay ["self", "number"] C f fd
  d_Book_retell : ∃ C f fd, AtM K "Book" "retell" "Book.retell" s_Book_retell ["self", "number", "page"] C f fd
  d_Book_undo : ∃ C f fd, AtM K "Book" "undo" "Book.undo" s_Book_undo ["self"] C f fd
  d_begin : ∃ f fd, At K mg "_law_begin" s_begin ["_law_script"] f fd
  d_take : ∃ f fd, At K mg "_law_take" s_take ["_law_state", "_law_many"] f fd
  d_names : ∃ f fd, At K mg "_law_names" s_names ["_law_state", "_law_many"] f fd
  d_world : ∃ f fd, At K mg "_law_world" s_world ["_law_state"] f fd
  d_some : ∃ f fd, At K mg "_law_some" s_some ["_law_state", "_law_things"] f fd
  d_laid : ∃ f fd, At K mg "_law_laid" s_laid ["_law_state", "_law_world_here"] f fd
  d_measured : ∃ f fd, At K mg "_law_measured" s_measured ["_law_state", "_law_world_here", "_law_cask"] f fd
  d_of_cask : ∃ f fd, At K mg "_law_of_cask" s_of_cask ["_law_state", "_law_world_here", "_law_pick", "_law_cask"] f fd
  d_deed : ∃ f fd, At K mg "_law_deed" s_deed ["_law_state", "_law_world_here"] f fd
  d_page : ∃ f fd, At K mg "_law_page" s_page ["_law_state", "_law_world_here"] f fd
  d_begun : ∃ f fd, At K mg "_law_begun" s_begun ["_law_terms"] f fd
  d_heap_of : ∃ f fd c P, At K mg "_law_heap_of" s_heap_of ["_law_pages"] f fd ∧ FunL K "_law_heap_of" "_law_heap_of" s_heap_of f fd c ∧ TabC K "_law_heap_of" c P
  d_due_word : ∃ f fd, At K mg "_law_due_word" s_due_word ["_law_kept", "_law_deed_here"] f fd
  d_kept_on : ∃ f fd, At K mg "_law_kept_on" s_kept_on ["_law_kept", "_law_deed_here"] f fd
  d_tried : ∃ f fd, At K mg "_law_tried" s_tried ["_law_book", "_law_deed_here"] f fd
  d_class : ∃ f fd, At K mg "_law_class" s_class ["_law_caught"] f fd
  d_deed_right : ∃ f fd, At K mg "_law_deed_right" s_deed_right ["_law_kept", "_law_deed_here"] f fd
  d_next : ∃ f fd, At K mg "_law_next" s_next ["_law_state", "_law_world_here", "_law_kept"] f fd
  d_long_right : ∃ f fd, At K mg "_law_long_right" s_long_right ["_law_state", "_law_world_here"] f fd
  f_Book_pages : DL.FOk K ["Book"] "pages"
  f_Book_past : DL.FOk K ["Book"] "past"
  f_Book_states : DL.FOk K ["Book"] "states"
  f_Book_terms : DL.FOk K ["Book"] "terms"
  f_RetoldDeed_later : DL.FOk K ["RetoldDeed"] "later"
  f_RetoldDeed_number : DL.FOk K ["RetoldDeed"] "number"
  f_RetoldDeed_page : DL.FOk K ["RetoldDeed"] "page"
  f_SaidDeed_number : DL.FOk K ["SaidDeed", "UnsaidDeed", "RetoldDeed"] "number"
  f_UnsaidDeed_number : DL.FOk K ["UnsaidDeed", "RetoldDeed"] "number"
  f_UnsaidDeed_page : DL.FOk K ["UnsaidDeed", "RetoldDeed"] "page"
  k_SaidDeed : DL.CFn K mg "SaidDeed" "__init__"
  k_UnsaidDeed : DL.CFn K mg "UnsaidDeed" "__init__"
  b_ValueError : mg "ValueError" = none
  b_dict : mg "dict" = none
  b_divmod : mg "divmod" = none
  b_int : mg "int" = none
  b_isinstance : mg "isinstance" = none
  b_len : mg "len" = none
  b_list : mg "list" = none
  b_max : mg "max" = none
  b_min : mg "min" = none
  b_range : mg "range" = none
  b_sorted : mg "sorted" = none
  x_NoDeed : ExcA K mg "NoDeed"
  x_NoPage : ExcA K mg "NoPage"
  x_Twice : ExcA K mg "Twice"
  m_BondError : ExmT K mg "BondError" ["NoDeed", "NoPage", "Twice"]
  i_Twice : IsxT K mg "Twice" [("NoDeed", false), ("NoPage", false), ("Twice", true)]
  i_NoPage : IsxT K mg "NoPage" [("NoDeed", false), ("NoPage", true), ("Twice", false)]
  i_NoDeed : IsxT K mg "NoDeed" [("NoDeed", true), ("NoPage", false), ("Twice", false)]
  i_NoCask : IsxT K mg "NoCask" [("NoDeed", false), ("NoPage", false), ("Twice", false)]
  i_Unfit : IsxT K mg "Unfit" [("NoDeed", false), ("NoPage", false), ("Twice", false)]
  i_ValueError : IsxT K mg "ValueError" [("NoDeed", true), ("NoPage", true), ("Twice", true)]
  i_BadText_BadRow : IsxsT K mg ["BadText", "BadRow"] [("NoDeed", false), ("NoPage", false), ("Twice", false)]
structure TbX (K : PySem.W.Frag) (mg : Str → Option Value) (base : Heap) : Prop where
  t_Book_heap : ∀ c P, TabC K "Book.heap" c P → LamX.TabB base mg c P
  t_heap_of : ∀ c P, TabC K "_law_heap_of" c P → LamX.TabB base mg c P
def sOk (x : Str) : Prop := okS false (.str x) = true
def wOk (w : Str) : Prop := w.cps.all (· < 0x110000) = true
theorem abc_at {t : Int} (h0 : 0 ≤ t) (h1 : t < 26) : L2.atI (Str.ofString "abcdefghijklmnopqrstuvwxyz").cps.toList t = some (97 + t.toNat) := by
  obtain ⟨j, rfl⟩ : ∃ j : Nat, t = (j : Int) := ⟨t.toNat, by omega⟩
  have key : ∀ j : Fin 26, L2.atI (Str.ofString "abcdefghijklmnopqrstuvwxyz").cps.toList (j.val : Int) = some (97 + ((j.val : Int)).toNat) := by decide +kernel
  exact key ⟨j, by omega⟩
theorem wOk.snoc {w : Str} {c : Nat} (h : wOk w) (hc : c < 0x110000) : wOk (w ++ ⟨#[c]⟩) := by
  show (w.cps ++ #[c]).all _ = true
  rw [Array.all_append]
  unfold wOk at h
  rw [h]
  simp [hc]
theorem sz {n : Nat} (h : n < 1000) : n < sizeLine := Nat.lt_of_lt_of_le h (by decide)
theorem fit_str {x : Str} (h : sOk x) : fitD [.str x] := by
  refine ⟨?_, by simp [PyData.depthAll, PyData.depth]⟩
  rw [PyData.canLayAll0, PyData.canLayAll0, Bool.and_true]
  exact okS_lay h
theorem fit_strs : ∀ {F : List Str}, (∀ x ∈ F, sOk x) → fitD (F.map .str)
  | [], _ => ⟨rfl, by simp [PyData.depthAll]⟩
  | x :: F, h => by
    obtain ⟨h1, h2⟩ := fit_strs (F := F) fun y hy => h y (by simp [hy])
    refine ⟨?_, ?_⟩
    · rw [List.map_cons, PyData.canLayAll0, h1, Bool.and_true]
      exact okS_lay (h x (by simp))
    · rw [List.map_cons, PyData.depthAll]
      simp only [PyData.depth]
      omega
theorem can_strs {l : List Str} (h : ∀ x ∈ l, sOk x) : canSort (l.map .str) := by
  refine ⟨fun d hd d' hd' => ?_, .inr fun d hd => ?_, fit_strs h⟩
  · obtain ⟨x, _, rfl⟩ := List.mem_map.mp hd
    obtain ⟨y, _, rfl⟩ := List.mem_map.mp hd'
    rfl
  · obtain ⟨x, _, rfl⟩ := List.mem_map.mp hd
    exact ⟨(by intro z; cases z), (by intro xs z; cases z)⟩
theorem putD_len (kvs : List (Key × D)) (k : Key) (v : D) : (putD kvs k v).length ≤ kvs.length + 1 := by
  unfold putD
  split
  · rw [List.length_map]; omega
  · rw [List.length_append]; exact Nat.le_refl _
theorem putD_keys {kvs : List (Key × D)} {k : Key} {v : D} (nd : (kvs.map (·.1)).Nodup) : ((putD kvs k v).map (·.1)).Nodup := by
  unfold putD
  split
  · rw [List.map_map]
    refine (congrArg List.Nodup (List.map_congr_left fun z _ => ?_)).mp nd
    show z.1 = (if z.1 = k then (z.1, v) else z).1
    split <;> rfl
  · rename_i h
    rw [List.map_append]
    refine List.nodup_append.mpr ⟨nd, by simp, fun a ha b hb e => ?_⟩
    have hb : b = k := by simpa using hb
    obtain ⟨z, hz, q⟩ := List.mem_map.mp ha
    exact h (List.any_eq_true.mpr ⟨z, hz, decide_eq_true (by rw [q, e, hb])⟩)
theorem kD_inj {a b : Key} (h : kD a = kD b) : a = b := by
  cases a <;> cases b <;> simp [kD] at h <;> rw [h]
def strLe (a b : Str) : Bool := PySem.W.dataLe false id (PyData.str a) (PyData.str b)
def setT (l : List Str) : List (Key × D) := l.foldl (fun acc x => putD acc (.inr x) (.bool true)) []
theorem setT_snoc {l : List Str} {x : Str} : setT (l ++ [x]) = putD (setT l) (.inr x) (.bool true) := by
  unfold setT
  rw [List.foldl_append]
  rfl
theorem setT_nodup (l : List Str) : ((setT l).map (·.1)).Nodup := by
  have : ∀ (l : List Str) (acc : List (Key × D)), (acc.map (·.1)).Nodup → ((l.foldl (fun acc x => putD acc (.inr x) (.bool true)) acc).map (·.1)).Nodup := by
    intro l
    induction l with
    | nil => intro acc h; exact h
    | cons x l ih => intro acc h; exact ih _ (putD_keys h)
  exact this l [] List.nodup_nil
theorem setT_keys (l : List Str) : ∃ m : List Str, (setT l).map (fun z => kD z.1) = m.map PyData.str ∧ ∀ x ∈ m, x ∈ l := by
  have key : ∀ (l : List Str) (acc : List (Key × D)) (m : List Str), acc.map (fun z => kD z.1) = m.map PyData.str → ∃ m' : List Str, (l.foldl (fun acc x => putD acc (.inr x) (.bool true)) acc).map (fun z => kD z.1) = m'.map PyData.str ∧ ∀ x ∈ m', x ∈ m ∨ x ∈ l := by
    intro l
    induction l with
    | nil => intro acc m h; exact ⟨m, h, fun x hx => .inl hx⟩
    | cons y l ih =>
      intro acc m h
      have : ∃ m2 : List Str, (putD acc (.inr y) (.bool true)).map (fun z => kD z.1) = m2.map PyData.str ∧ ∀ x ∈ m2, x ∈ m ∨ x = y := by
        unfold putD
        split
        · refine ⟨m, ?_, fun x hx => .inl hx⟩
          rw [List.map_map, ← h]
          refine List.map_congr_left fun z _ => ?_
          show kD (if z.1 = .inr y then (z.1, PyData.bool true) else z).1 = kD z.1
          split <;> rfl
        · refine ⟨m ++ [y], by rw [List.map_append, List.map_append, h]; rfl, fun x hx => ?_⟩
          rcases List.mem_append.mp hx with hx | hx
          · exact .inl hx
          · exact .inr (List.mem_singleton.mp hx)
      obtain ⟨m2, h2, h3⟩ := this
      obtain ⟨m3, h4, h5⟩ := ih _ m2 h2
      refine ⟨m3, h4, fun x hx => ?_⟩
      rcases h5 x hx with hx | hx
      · rcases h3 x hx with hx | hx
        · exact .inl hx
        · exact .inr (by rw [hx]; exact List.mem_cons_self ..)
      · exact .inr (List.mem_cons_of_mem _ hx)
  obtain ⟨m, h1, h2⟩ := key l [] [] rfl
  exact ⟨m, h1, fun x hx => (h2 x hx).elim (fun z => by cases z) id⟩
theorem sortD_strs (l : List Str) : ∃ m : List Str, sortD (l.map .str) = m.map .str ∧ m.Perm l := by
  have h := PySem.W.sort_maps (fun x : Str => PyData.str x) (r := fun a b => PySem.W.dataLe false id (.str a) (.str b)) (s := PySem.W.dataLe false id) (l := l) fun a _ b _ => rfl
  exact ⟨_, h.symm, List.mergeSort_perm _ _⟩
theorem sOk_w {w : Str} (h : wOk w) : sOk w := by
  unfold sOk okS
  rw [PyData.canLay0]
  exact h
theorem glue_fold : ∀ (l : List Str) (acc : Array Nat), acc.all (· < 0x110000) = true → (∀ y ∈ l, wOk y ∧ y.length = 1) → (l.foldl (fun acc p => acc ++ (Str.ofString "").cps ++ p.cps) acc).all (· < 0x110000) = true ∧ (l.foldl (fun acc p => acc ++ (Str.ofString "").cps ++ p.cps) acc).size = acc.size + l.length
  | [], acc, h, _ => ⟨h, rfl⟩
  | y :: l, acc, h, hy => by
    obtain ⟨y1, y2⟩ := hy y (by simp)
    have e : acc ++ (Str.ofString "").cps ++ y.cps = acc ++ y.cps := by
      rw [show (Str.ofString "").cps = #[] by decide +kernel, Array.append_empty]
    rw [List.foldl_cons, e]
    have y2 : y.cps.size = 1 := y2
    obtain ⟨h1, h2⟩ := glue_fold l (acc ++ y.cps) (by rw [Array.all_append, h]; exact y1) fun z hz => hy z (by simp [hz])
    refine ⟨h1, ?_⟩
    rw [h2, Array.size_append, y2, List.length_cons]
    omega
theorem join_ok {ys : List Str} (h : ∀ y ∈ ys, wOk y ∧ y.length = 1) : wOk (Txt.join (Str.ofString "") ys) ∧ (Txt.join (Str.ofString "") ys).length = ys.length := by
  cases ys with
  | nil => exact ⟨by unfold wOk; decide +kernel, by decide +kernel⟩
  | cons y l =>
    obtain ⟨y1, y2⟩ := h y (by simp)
    obtain ⟨h1, h2⟩ := glue_fold l y.cps y1 fun z hz => h z (by simp [hz])
    refine ⟨h1, h2.trans ?_⟩
    have y2 : y.cps.size = 1 := y2
    rw [y2, List.length_cons]
    omega
structure NmOk (l : List Str) : Prop where
  ok : ∀ x ∈ l, sOk x
  len : l.length ≤ 12
  nd : l.Nodup
  srt : l.Pairwise fun a b => strLe a b = true
theorem sortD_strs2 (l : List Str) : ∃ m : List Str, sortD (l.map .str) = m.map .str ∧ m.Perm l ∧ m.Pairwise fun a b => strLe a b = true := by
  have h := PySem.W.sort_maps (fun x : Str => PyData.str x) (r := fun a b => PySem.W.dataLe false id (.str a) (.str b)) (s := PySem.W.dataLe false id) (l := l) fun a _ b _ => rfl
  have T := PySem.W.sortLe_total (listOrd itemOrd) false fun z : Str => PySem.W.keyToks (PyData.str z)
  exact ⟨_, h.symm, List.mergeSort_perm _ _, PySem.W.sort_pairwise T _⟩
theorem nodup_keysT {l m : List Str} (h : (setT l).map (fun z => kD z.1) = m.map PyData.str) : m.Nodup := by
  have h1 := setT_nodup l
  have h2 : ((setT l).map fun z => kD z.1).Nodup := List.pairwise_map.mpr ((List.pairwise_map.mp h1).imp fun h e => h (kD_inj e))
  rw [h] at h2
  exact (List.pairwise_map.mp h2).imp fun h e => h (by rw [e])
theorem putD_pos {kvs : List (Key × D)} {k : Key} {v : D} : 0 < (putD kvs k v).length := by
  unfold putD
  split
  · rename_i h
    cases kvs with
    | nil => cases h
    | cons z l => simp
  · simp
theorem at_get {α : Type} {l : List α} {f : α → D} {t : Int} (h0 : 0 ≤ t) (h1 : t < l.length) : ∃ r ∈ l, L2.atI (l.map f) t = some (f r) := by
  obtain ⟨j, rfl⟩ : ∃ j : Nat, t = (j : Int) := ⟨t.toNat, by omega⟩
  have hj : j < l.length := by omega
  refine ⟨l[j], List.getElem_mem hj, ?_⟩
  unfold L2.atI L2.ixN
  rw [if_pos h0, if_pos (by rw [List.length_map]; exact h1)]
  show (l.map f)[((j : Nat) : Int).toNat]? = _
  rw [Int.toNat_natCast, List.getElem?_map, List.getElem?_eq_getElem hj]
  rfl
theorem seqU {a u : WS} {s : S} {D : Dn} (h : ∀ v, v = u → sSeq a v s D) : sSeq a u s D := h u rfl
theorem wsU {v : WS} {s : S} {D : Dn} (h : ∀ E, E = D → v s E) : v s D := h D rfl
structure Ok2 (k : Nat) (d : D) : Prop where
  ok : okS true d = true
  dp : d.depth ≤ k
theorem Ok2.mono {k k' : Nat} {d : D} (h : Ok2 k d) (hk : k ≤ k') : Ok2 k' d := ⟨h.ok, Nat.le_trans h.dp hk⟩
theorem Ok2.int {k : Nat} {i : Int} : Ok2 (k + 1) (.int i) := ⟨by simp [okS], by simp [PyData.depth]⟩
theorem Ok2.non {k : Nat} : Ok2 (k + 1) .none := ⟨by simp [okS], by simp [PyData.depth]⟩
theorem Ok2.str {k : Nat} {x : Str} (h : sOk x) : Ok2 (k + 1) (.str x) := ⟨by unfold sOk at h; rw [okS] at h ⊢; exact h, by simp [PyData.depth]⟩
theorem Ok2.tup {k : Nat} {ds : List D} (h : ∀ d ∈ ds, Ok2 k d) (hl : ds.length ≤ 1000) : Ok2 (k + 1) (.tuple ds) := ⟨by
  rw [okS, Bool.and_eq_true]
  exact ⟨okSs_of fun d hd => (h d hd).ok, decide_eq_true (Nat.le_trans hl (by decide))⟩, by
  have : PyData.depthAll ds ≤ k := depth_of fun d hd => (h d hd).dp
  rw [PyData.depth]
  omega⟩
theorem Ok2.lst {k : Nat} {ds : List D} (h : ∀ d ∈ ds, Ok2 k d) (hl : ds.length ≤ 1000) : Ok2 (k + 1) (.list ds) := ⟨by
  rw [okS, Bool.and_eq_true]
  exact ⟨okSs_of fun d hd => (h d hd).ok, decide_eq_true (Nat.le_trans hl (by decide))⟩, by
  have : PyData.depthAll ds ≤ k := depth_of fun d hd => (h d hd).dp
  rw [PyData.depth]
  omega⟩
theorem Ok2.map {α : Type} {k : Nat} {f : α → D} {l : List α} (h : ∀ x ∈ l, Ok2 k (f x)) (hl : l.length ≤ 1000) : Ok2 (k + 1) (.list (l.map f)) := .lst (fun d hd => by
  obtain ⟨x, hx, rfl⟩ := List.mem_map.mp hd
  exact h x hx) (by rw [List.length_map]; exact hl)
theorem allC {P : D → Prop} {a : D} {r : List D} (h1 : P a) (h2 : ∀ d ∈ r, P d) : ∀ d ∈ a :: r, P d := fun d hd => by
  rcases List.mem_cons.mp hd with rfl | hd
  · exact h1
  · exact h2 d hd
theorem allN {P : D → Prop} : ∀ d ∈ ([] : List D), P d := fun d hd => by cases hd
theorem or_if {c1 c2 : Bool} {A B : Prop} (a : A) (b : c1 = false → c2 = false → B) : (c1 = true → ((true = true → A) ∧ (true = false → B))) ∧ (c1 = false → ((c2 = true → A) ∧ (c2 = false → B))) :=
  ⟨fun _ => tt a, fun h => ⟨fun _ => a, fun z => b h z⟩⟩
theorem and_if {c1 c2 : Bool} {A B : Prop} (a : c1 = true → c2 = true → A) (b : B) : (c1 = true → ((c2 = true → A) ∧ (c2 = false → B))) ∧ (c1 = false → ((false = true → A) ∧ (false = false → B))) :=
  ⟨fun h => ⟨fun z => a h z, fun _ => b⟩, fun _ => ff b⟩
theorem sh_strs {l : List Str} (h : ∀ x ∈ l, sOk x) (hl : l.length ≤ 1000) : SeqAt.shaped (.list (l.map .str)) = true := by
  have k : Ok2 2 (.list (l.map .str)) := .map (fun x hx => .str (h x hx)) hl
  exact shaped_of k.ok (Nat.le_trans k.dp (by decide))
theorem sh_nil : SeqAt.shaped (.list []) = true := sh_strs (l := []) (fun _ h => by cases h) (by decide)
inductive Deed
  | lay (c l : Str) (b p : Int)
  | draw (c : Str) (b : Int)
  | back (n : Int)
  | pour (c o : Str) (b : Int)
  | water (c : Str) (b : Int)
  | sample (c : Str) (b : Int)
  | gauge (c : Str) (b p : Int)
  | come (c : Str) (b p : Int)
  | send (c h : Str)
  | fin
def dD : Deed → D
  | .lay c l b p => .tuple [.str "lay", .str c, .str l, .int b, .int p]
  | .draw c b => .tuple [.str "draw", .str c, .int b]
  | .back n => .tuple [.str "back", .int n]
  | .pour c o b => .tuple [.str "pour", .str c, .str o, .int b]
  | .water c b => .tuple [.str "water", .str c, .int b]
  | .sample c b => .tuple [.str "sample", .str c, .int b]
  | .gauge c b p => .tuple [.str "gauge", .str c, .int b, .int p]
  | .come c b p => .tuple [.str "come", .str c, .int b, .int p]
  | .send c h => .tuple [.str "send", .str c, .str h]
  | .fin => .tuple [.str "end"]
structure Page where
  day : Int
  num : Int
  house : Str
  deed : Deed
def pgD (p : Page) : D := .tuple [.int p.day, .int p.num, .str p.house, dD p.deed]
theorem at_mem {ds : List D} {t : Int} (h0 : 0 ≤ t) (h1 : t < ds.length) : ∃ d ∈ ds, L2.atI ds t = some d := by
  obtain ⟨r, h2, h3⟩ := at_get (l := ds) (f := id) h0 h1
  rw [List.map_id] at h3
  exact ⟨r, h2, h3⟩
theorem mu2_mk {s : S} {k : Nat} {kvs : List (Key × D)} {P : Nat → List (Key × D) → Prop} (g : gm s.ms k = .dct kvs) (h : P k kvs) : mu2 s (.mu k) P := by
  unfold mu2
  dsimp only
  rw [g]
  exact h
theorem insT_mk {s : S} {j : Nat} {fs : List (Str × En)} {P : List (Str × En) → Prop} (g : gm s.ms j = .ins .tup fs) (h : P fs) : insAt s (.mu j) P := by
  unfold insAt
  dsimp only
  rw [g]
  exact h
theorem dvl_d {ms : List MO} {j : Nat} {kvs : List (Key × D)} {key : Key} (g : gm ms j = .dct kvs) : dvl ms j key = some ((findD kvs key).map En.da) := by
  unfold dvl
  rw [g]
theorem vw_l {s : S} {k : Nat} {ds : List D} (g : gm s.ms k = .lst ds) : vw s (.mu k) = some (.list ds) := by
  unfold vw
  dsimp only
  rw [g]
theorem isLstS_mk {s : S} {j : Nat} {fs : List (Str × En)} {P : Nat → List (Str × En) → Prop} (g : gm s.ms j = .ins .lst fs) (h : P j fs) : isLstS s (.mu j) P := by
  unfold isLstS
  dsimp only
  rw [g]
  exact h
def kyD : D → D | .tuple (a :: b :: _) => .tuple [a, b] | d => d
def pgK (ps : List Page) : List (Key × D) := ps.map fun p => (.inl p.num, pgD p)
def heapL (ps : List Page) : List D := sortKD kyD (ps.map pgD)
theorem can_ky (ps : List Page) : canSort ((ps.map pgD).map kyD) := by
  have e : (ps.map pgD).map kyD = ps.map fun p => PyData.tuple [.int p.day, .int p.num] := by rw [List.map_map]; rfl
  rw [e]
  refine ⟨fun d hd d' hd' => ?_, .inl fun d hd => ?_, ?_, ?_⟩
  · obtain ⟨x, _, rfl⟩ := List.mem_map.mp hd
    obtain ⟨y, _, rfl⟩ := List.mem_map.mp hd'
    simp [PySem.W.alike, PySem.W.alikeAll]
  · obtain ⟨x, _, rfl⟩ := List.mem_map.mp hd
    exact ⟨_, _, rfl⟩
  · clear e
    induction ps with
    | nil => rfl
    | cons p ps ih => simp_all [PyData.canLayAll0, PyData.canLay0]
  · clear e
    induction ps with
    | nil => simp [PyData.depthAll]
    | cons p ps ih =>
      simp only [List.map_cons, PyData.depthAll, PyData.depth]
      omega
theorem putD_new {kvs : List (Key × D)} {k : Key} {d : D} (h : (findD kvs k).isSome = false) : putD kvs k d = kvs ++ [(k, d)] := by
  have e : (kvs.any fun kv => decide (kv.1 = k)) = false := by
    unfold findD at h
    rw [Option.isSome_map] at h
    rw [List.any_eq_false]
    intro x hx
    have := List.find?_eq_none.mp (Option.isSome_eq_false_iff.mp h |> Option.isNone_iff_eq_none.mp) x hx
    exact this
  unfold putD
  rw [e]
  exact if_neg Bool.false_ne_true
theorem pgK_put {ps : List Page} {p : Page} (h : (findD (pgK ps) (.inl p.num)).isSome = false) : putD (pgK ps) (.inl p.num) (pgD p) = pgK (ps ++ [p]) := by
  rw [putD_new h]
  unfold pgK
  rw [List.map_append]
  rfl
theorem pgK_len {ps : List Page} : (pgK ps).length = ps.length := by unfold pgK; rw [List.length_map]
structure BkP where
  t : D
  kvs : List (Key × D)
  fs : List (Str × En)
  ds : List D
def bkF (p : Nat) (t : D) : List (Str × En) := [("terms", .da t), ("pages", .mu (p + 1)), ("past", .mu (p + 2)), ("states", .mu (p + 3))]
def bkC (p : Nat) (B : BkP) : List MO := [.ins (.obj "Book") (bkF p B.t), .dct B.kvs, .ins .lst B.fs, .lst B.ds]
def bkMs (pre : List MO) (B : BkP) (tl : List MO) : List MO := pre ++ (bkC pre.length B ++ tl)
theorem gm_pre (pre r : List MO) (i : Nat) : gm (pre ++ r) (pre.length + i) = gm r i := by
  induction pre with
  | nil => rw [List.nil_append, List.length_nil, Nat.zero_add]
  | cons x l ih => rw [List.cons_append, List.length_cons, show l.length + 1 + i = (l.length + i) + 1 by omega]; exact ih
theorem sm_pre (pre r : List MO) (i : Nat) (m : MO) : sm (pre ++ r) (pre.length + i) m = pre ++ sm r i m := by
  induction pre with
  | nil => rw [List.nil_append, List.length_nil, Nat.zero_add, List.nil_append]
  | cons x l ih => rw [List.cons_append, List.length_cons, show l.length + 1 + i = (l.length + i) + 1 by omega, List.cons_append]; exact congrArg (x :: ·) ih
theorem gm_low {pre r : List MO} : ∀ {i : Nat}, i < pre.length → gm (pre ++ r) i = gm pre i := by
  induction pre with
  | nil => intro i h; simp at h
  | cons x l ih =>
    intro i h
    cases i with
    | zero => rfl
    | succ i => exact ih (i := i) (by simpa using h)
theorem gmA {pre r r2 : List MO} {x : MO} : gm ((pre ++ x :: r) ++ r2) pre.length = x := by
  rw [List.append_assoc]
  exact gm_pre pre _ 0
theorem smA {pre r r2 : List MO} {x y : MO} : sm ((pre ++ x :: r) ++ r2) pre.length y = pre ++ (y :: (r ++ r2)) := by
  rw [List.append_assoc]
  exact sm_pre pre _ 0 y
section
variable {pre : List MO} {B : BkP} {tl : List MO}
theorem b_0 : gm (bkMs pre B tl) pre.length = .ins (.obj "Book") (bkF pre.length B.t) := gm_pre pre _ 0
theorem b_1 : gm (bkMs pre B tl) (pre.length + 1) = .dct B.kvs := gm_pre pre _ 1
theorem b_2 : gm (bkMs pre B tl) (pre.length + 2) = .ins .lst B.fs := gm_pre pre _ 2
theorem b_3 : gm (bkMs pre B tl) (pre.length + 3) = .lst B.ds := gm_pre pre _ 3
theorem c_1 (l : List (Key × D)) : sm (bkMs pre B tl) (pre.length + 1) (.dct l) = bkMs pre { B with kvs := l } tl := sm_pre pre _ 1 _
theorem c_2 (l : List (Str × En)) : sm (bkMs pre B tl) (pre.length + 2) (.ins .lst l) = bkMs pre { B with fs := l } tl := sm_pre pre _ 2 _
theorem c_3 (l : List D) : sm (bkMs pre B tl) (pre.length + 3) (.lst l) = bkMs pre { B with ds := l } tl := sm_pre pre _ 3 _
theorem b_app (m : MO) : bkMs pre B tl ++ [m] = bkMs pre B (tl ++ [m]) := by
  unfold bkMs
  rw [List.append_assoc, List.append_assoc]
end
theorem pgK_find {ps : List Page} (nd : (ps.map (·.num)).Nodup) {p : Page} (hp : p ∈ ps) : findD (pgK ps) (.inl p.num) = some (pgD p) := by
  unfold findD pgK
  induction ps with
  | nil => cases hp
  | cons q ps ih =>
    rw [List.map_cons] at nd
    obtain ⟨n1, n2⟩ := List.nodup_cons.mp nd
    rw [List.map_cons, List.find?_cons]
    rcases List.mem_cons.mp hp with rfl | hp
    · rw [decide_eq_true rfl]
      rfl
    · have ne : ¬ (Sum.inl q.num : Key) = .inl p.num := fun z => n1 (List.mem_map.mpr ⟨p, hp, (Sum.inl.inj z).symm⟩)
      rw [decide_eq_false (show ¬ ((Sum.inl q.num, pgD q) : Key × D).1 = .inl p.num from ne)]
      exact ih n2 hp
theorem pgK_has {ps : List Page} {n : Int} : (findD (pgK ps) (.inl n)).isSome = decide (n ∈ ps.map (·.num)) := by
  unfold findD pgK
  rw [Option.isSome_map]
  induction ps with
  | nil => rfl
  | cons q ps ih =>
    rw [List.map_cons, List.find?_cons, List.map_cons]
    by_cases e : q.num = n
    · rw [decide_eq_true (show ((Sum.inl q.num, pgD q) : Key × D).1 = .inl n from congrArg Sum.inl e), e]
      simp
    · rw [decide_eq_false (show ¬ ((Sum.inl q.num, pgD q) : Key × D).1 = .inl n from fun z => e (Sum.inl.inj z)), ih]
      exact decide_eq_decide.mpr ⟨fun h => List.mem_cons_of_mem _ h, fun h => (List.mem_cons.mp h).elim (fun z => absurd z.symm e) id⟩
theorem gm_appX {ms r : List MO} {j : Nat} {x : MO} (h : gm ms j = x) (hx : x ≠ .gone) : gm (ms ++ r) j = x := (gm_app_lt (gm_lt' h hx)).trans h
structure BC where
  nm : Str
  pl : Str
  bk : Int
  st : Int
structure BW where
  hs : List Str
  cs : List Str
  ls : List Str
  turn : Nat
  day : Int
  unit : Int
  rts : List (Int × Int)
  lim : Int × Int
  most : Int
  num : Option Int
  ck : List BC
  way : List (Str × Str)
  dr : List (Str × Int)
def stL (l : List Str) : D := .list (l.map .str)
def prD (p : Int × Int) : D := .tuple [.int p.1, .int p.2]
def tmB (rts : List (Int × Int)) (lim : Int × Int) (most : Int) : D := .tuple [.list (rts.map prD), .tuple [.int lim.1, .int lim.2], .int most]
def numF : Option Int → List (Str × En)
  | none => []
  | some n => [("number", .da (.int n))]
def wF (q : Nat) (W : BW) : List (Str × En) := ("houses", .da (stL W.hs)) :: ("turn", .da (.int (W.turn : Int))) :: ("day", .da (.int W.day)) :: ("casks", .da (stL W.cs)) :: ("lots", .da (stL W.ls)) :: ("unit", .da (.int W.unit)) :: ("terms", .da (tmB W.rts W.lim W.most)) :: ("place", .mu (q + 6)) :: ("way", .mu (q + 7)) :: ("bulk", .mu (q + 8)) :: ("strong", .mu (q + 9)) :: ("draws", .mu (q + 10)) :: numF W.num
def plK (c : BC) : Key × D := (.inr c.nm, .str c.pl)
def bkK (c : BC) : Key × D := (.inr c.nm, .int c.bk)
def stK (c : BC) : Key × D := (.inr c.nm, .int c.st)
def wyK (p : Str × Str) : Key × D := (.inr p.1, .str p.2)
def drD (p : Str × Int) : D := .tuple [.str p.1, .int p.2]
def gF (q : Nat) : List (Str × En) := [("place", .mu (q + 6)), ("way", .mu (q + 7)), ("bulk", .mu (q + 8)), ("strong", .mu (q + 9)), ("draws", .mu (q + 10))]
def bR (q : Nat) (W : BW) (tl : List MO) : List MO := .ins .dct (wF q W) :: .gone :: .ins .dct (gF q) :: .dct (W.ck.map plK) :: .dct (W.way.map wyK) :: .dct (W.ck.map bkK) :: .dct (W.ck.map stK) :: .lst (W.dr.map drD) :: tl
def bW (L : List MO) (W : BW) (tl : List MO) : List MO := L ++ bR L.length W tl
section
variable {tb0 tb1 : MO} {n : Nat} {L : List MO} {W : BW} {tl : List MO}
theorem w_0 : gm (tb0 :: tb1 :: .rnd n :: bW L W tl) (L.length + 3) = .ins .dct (wF L.length W) := gm_pre L _ 0
theorem w_place : gm (tb0 :: tb1 :: .rnd n :: bW L W tl) (L.length + 6) = .dct (W.ck.map plK) := gm_pre L _ 3
theorem w_way : gm (tb0 :: tb1 :: .rnd n :: bW L W tl) (L.length + 7) = .dct (W.way.map wyK) := gm_pre L _ 4
theorem w_bulk : gm (tb0 :: tb1 :: .rnd n :: bW L W tl) (L.length + 8) = .dct (W.ck.map bkK) := gm_pre L _ 5
theorem w_strong : gm (tb0 :: tb1 :: .rnd n :: bW L W tl) (L.length + 9) = .dct (W.ck.map stK) := gm_pre L _ 6
theorem w_draws : gm (tb0 :: tb1 :: .rnd n :: bW L W tl) (L.length + 10) = .lst (W.dr.map drD) := gm_pre L _ 7
theorem wd {f : Str} {y : En} (h : getT (wF L.length W) f = some y) : dvl (tb0 :: tb1 :: .rnd n :: bW L W tl) (L.length + 3) (.inr f) = some (some y) := by
  unfold dvl
  rw [w_0]
  exact congrArg some h
theorem wd_houses : dvl (tb0 :: tb1 :: .rnd n :: bW L W tl) (L.length + 3) (.inr "houses") = some (some (.da (stL W.hs))) := wd rfl
theorem wd_turn : dvl (tb0 :: tb1 :: .rnd n :: bW L W tl) (L.length + 3) (.inr "turn") = some (some (.da (.int (W.turn : Int)))) := wd rfl
theorem wd_day : dvl (tb0 :: tb1 :: .rnd n :: bW L W tl) (L.length + 3) (.inr "day") = some (some (.da (.int W.day))) := wd rfl
theorem wd_casks : dvl (tb0 :: tb1 :: .rnd n :: bW L W tl) (L.length + 3) (.inr "casks") = some (some (.da (stL W.cs))) := wd rfl
theorem wd_lots : dvl (tb0 :: tb1 :: .rnd n :: bW L W tl) (L.length + 3) (.inr "lots") = some (some (.da (stL W.ls))) := wd rfl
theorem wd_unit : dvl (tb0 :: tb1 :: .rnd n :: bW L W tl) (L.length + 3) (.inr "unit") = some (some (.da (.int W.unit))) := wd rfl
theorem wd_terms : dvl (tb0 :: tb1 :: .rnd n :: bW L W tl) (L.length + 3) (.inr "terms") = some (some (.da (tmB W.rts W.lim W.most))) := wd rfl
theorem wd_place : dvl (tb0 :: tb1 :: .rnd n :: bW L W tl) (L.length + 3) (.inr "place") = some (some (.mu (L.length + 6))) := wd rfl
theorem wd_way : dvl (tb0 :: tb1 :: .rnd n :: bW L W tl) (L.length + 3) (.inr "way") = some (some (.mu (L.length + 7))) := wd rfl
theorem wd_bulk : dvl (tb0 :: tb1 :: .rnd n :: bW L W tl) (L.length + 3) (.inr "bulk") = some (some (.mu (L.length + 8))) := wd rfl
theorem wd_strong : dvl (tb0 :: tb1 :: .rnd n :: bW L W tl) (L.length + 3) (.inr "strong") = some (some (.mu (L.length + 9))) := wd rfl
theorem wd_draws : dvl (tb0 :: tb1 :: .rnd n :: bW L W tl) (L.length + 3) (.inr "draws") = some (some (.mu (L.length + 10))) := wd rfl
theorem wd_number {k : Int} (h : W.num = some k) : dvl (tb0 :: tb1 :: .rnd n :: bW L W tl) (L.length + 3) (.inr "number") = some (some (.da (.int k))) := wd (by unfold wF; rw [h]; rfl)
theorem wsm (k : Nat) (m : MO) : sm (tb0 :: tb1 :: .rnd n :: bW L W tl) (L.length + (3 + k)) m = tb0 :: tb1 :: .rnd n :: (L ++ sm (bR L.length W tl) k m) := by
  rw [show L.length + (3 + k) = L.length + k + 3 by omega]
  exact congrArg (fun z => tb0 :: tb1 :: .rnd n :: z) (sm_pre L _ k m)
theorem ws_turn (k : Nat) : sm (tb0 :: tb1 :: .rnd n :: bW L W tl) (L.length + 3) (.ins .dct (putT (wF L.length W) "turn" (.da (.int (k : Int))))) = tb0 :: tb1 :: .rnd n :: bW L { W with turn := k } tl := by
  refine (wsm 0 _).trans ?_
  unfold bW bR wF
  cases W.num <;> rfl
theorem ws_day (k : Int) : sm (tb0 :: tb1 :: .rnd n :: bW L W tl) (L.length + 3) (.ins .dct (putT (wF L.length W) "day" (.da (.int k)))) = tb0 :: tb1 :: .rnd n :: bW L { W with day := k } tl := by
  refine (wsm 0 _).trans ?_
  unfold bW bR wF
  cases W.num <;> rfl
theorem ws_number (k : Int) : sm (tb0 :: tb1 :: .rnd n :: bW L W tl) (L.length + 3) (.ins .dct (putT (wF L.length W) "number" (.da (.int k)))) = tb0 :: tb1 :: .rnd n :: bW L { W with num := some k } tl := by
  refine (wsm 0 _).trans ?_
  unfold bW bR wF
  cases W.num <;> rfl
theorem wF_len : (wF L.length W).length ≤ 13 := by
  unfold wF
  cases W.num <;> simp [numF]
end
def fC (l : List BC) (x : Str) : Option BC := l.find? fun c => decide (c.nm = x)
def uC (l : List BC) (x : Str) (f : BC → BC) : List BC := l.map fun c => if c.nm = x then f c else c
theorem fC_find {l : List BC} {x : Str} (g : BC → D) : findD (l.map fun c => (.inr c.nm, g c)) (.inr x) = (fC l x).map g := by
  unfold findD fC
  induction l with
  | nil => rfl
  | cons c l ih =>
    rw [List.map_cons, List.find?_cons, List.find?_cons]
    by_cases h : c.nm = x
    · rw [decide_eq_true (show (Sum.inr c.nm : Key) = .inr x from congrArg Sum.inr h), decide_eq_true h]
      rfl
    · rw [decide_eq_false (show ¬ (Sum.inr c.nm : Key) = .inr x from fun z => h (Sum.inr.inj z)), decide_eq_false h]
      exact ih
theorem fC_some {l : List BC} {x : Str} {c : BC} (h : fC l x = some c) : c ∈ l ∧ c.nm = x := ⟨List.mem_of_find?_eq_some h, of_decide_eq_true (List.find?_some (p := fun c : BC => decide (c.nm = x)) h)⟩
theorem fC_none {l : List BC} {x : Str} (h : fC l x = none) : x ∉ l.map (·.nm) := fun z => by
  obtain ⟨c, hc, e⟩ := List.mem_map.mp z
  have := List.find?_eq_none.mp h c hc
  exact this (decide_eq_true e)
theorem fC_mem {l : List BC} {x : Str} (h : x ∈ l.map (·.nm)) : ∃ c, fC l x = some c := by
  cases e : fC l x with
  | none => exact absurd h (fC_none e)
  | some c => exact ⟨c, rfl⟩
theorem uC_put {l : List BC} {x : Str} {c : BC} (h : fC l x = some c) (g : BC → D) (f : BC → BC) (d : D) (hn : ∀ c, (f c).nm = c.nm) (hg : ∀ c, c.nm = x → g (f c) = d) : putD (l.map fun c => (.inr c.nm, g c)) (.inr x) d = (uC l x f).map fun c => (.inr c.nm, g c) := by
  have e : ((l.map fun c => ((.inr c.nm : Key), g c)).any fun kv => decide (kv.1 = .inr x)) = true := by
    obtain ⟨h1, h2⟩ := fC_some h
    exact List.any_eq_true.mpr ⟨_, List.mem_map.mpr ⟨c, h1, rfl⟩, decide_eq_true (congrArg Sum.inr h2)⟩
  unfold putD uC
  rw [if_pos e, List.map_map, List.map_map]
  refine List.map_congr_left fun c _ => ?_
  show (if (Sum.inr c.nm : Key) = .inr x then _ else _) = _
  by_cases q : c.nm = x
  · rw [if_pos (congrArg Sum.inr q)]
    show _ = (_, g (if c.nm = x then f c else c))
    rw [if_pos q, hg c q]
    show _ = ((Sum.inr (if c.nm = x then f c else c).nm : Key), _)
    rw [if_pos q, hn]
  · rw [if_neg fun z => q (Sum.inr.inj z)]
    show _ = ((Sum.inr (if c.nm = x then f c else c).nm : Key), g (if c.nm = x then f c else c))
    rw [if_neg q]
theorem uC_same {l : List BC} {x : Str} (g : BC → D) (f : BC → BC) (hn : ∀ c, (f c).nm = c.nm) (hg : ∀ c, g (f c) = g c) : ((uC l x f).map fun c => ((.inr c.nm : Key), g c)) = l.map fun c => (.inr c.nm, g c) := by
  unfold uC
  rw [List.map_map]
  refine List.map_congr_left fun c _ => ?_
  show ((Sum.inr (if c.nm = x then f c else c).nm : Key), g (if c.nm = x then f c else c)) = _
  by_cases q : c.nm = x
  · rw [if_pos q, hn, hg]
  · rw [if_neg q]
theorem uC_names {l : List BC} {x : Str} {f : BC → BC} (hn : ∀ c, (f c).nm = c.nm) : (uC l x f).map (·.nm) = l.map (·.nm) := by
  unfold uC
  rw [List.map_map]
  refine List.map_congr_left fun c _ => ?_
  show (if c.nm = x then f c else c).nm = _
  by_cases q : c.nm = x
  · rw [if_pos q, hn]
  · rw [if_neg q]
theorem uC_mem {l : List BC} {x : Str} {f : BC → BC} {c : BC} (h : c ∈ uC l x f) : c ∈ l ∨ ∃ c' ∈ l, c'.nm = x ∧ c = f c' := by
  unfold uC at h
  obtain ⟨c', h1, rfl⟩ := List.mem_map.mp h
  by_cases q : c'.nm = x
  · rw [if_pos q]
    exact .inr ⟨c', h1, q, rfl⟩
  · rw [if_neg q]
    exact .inl h1
theorem uC_find {l : List BC} {x y : Str} {f : BC → BC} (hn : ∀ c, (f c).nm = c.nm) {c : BC} (h : fC l y = some c) : fC (uC l x f) y = some (if c.nm = x then f c else c) := by
  unfold fC uC at *
  induction l with
  | nil => cases h
  | cons a l ih =>
    rw [List.map_cons]
    rw [List.find?_cons] at h ⊢
    have e : (if a.nm = x then f a else a).nm = a.nm := by
      by_cases q : a.nm = x
      · rw [if_pos q, hn]
      · rw [if_neg q]
    rw [e]
    by_cases q : a.nm = y
    · rw [decide_eq_true q] at h ⊢
      cases h
      rfl
    · rw [decide_eq_false q] at h ⊢
      exact ih h
theorem new_put {l : List BC} {x : Str} (h : fC l x = none) (g : BC → D) (d : D) (c : BC) (hn : c.nm = x) (hg : g c = d) : putD (l.map fun c => (.inr c.nm, g c)) (.inr x) d = (l ++ [c]).map fun c => (.inr c.nm, g c) := by
  have e : (findD (l.map fun c => ((.inr c.nm : Key), g c)) (.inr x)).isSome = false := by rw [fC_find, h]; rfl
  rw [putD_new e, List.map_append, List.map_cons, List.map_nil, hn, hg]
def fW (l : List (Str × Str)) (x : Str) : Option Str := (l.find? fun p => decide (p.1 = x)).map (·.2)
theorem fW_find {l : List (Str × Str)} {x : Str} : findD (l.map wyK) (.inr x) = (fW l x).map .str := by
  unfold findD fW
  induction l with
  | nil => rfl
  | cons c l ih =>
    rw [List.map_cons, List.find?_cons, List.find?_cons]
    show Option.map _ (match decide ((Sum.inr c.1 : Key) = .inr x) with | true => _ | false => _) = _
    by_cases h : c.1 = x
    · rw [decide_eq_true (show (Sum.inr c.1 : Key) = .inr x from congrArg Sum.inr h), decide_eq_true h]
      rfl
    · rw [decide_eq_false (show ¬ (Sum.inr c.1 : Key) = .inr x from fun z => h (Sum.inr.inj z)), decide_eq_false h]
      exact ih
theorem fW_mem {l : List (Str × Str)} {x : Str} (h : x ∈ l.map (·.1)) : ∃ f, fW l x = some f ∧ (x, f) ∈ l := by
  unfold fW
  induction l with
  | nil => cases h
  | cons c l ih =>
    rw [List.find?_cons]
    by_cases q : c.1 = x
    · rw [decide_eq_true q]
      exact ⟨c.2, rfl, by rw [← q]; exact List.mem_cons_self ..⟩
    · rw [decide_eq_false q]
      have h' : x ∈ l.map (·.1) := by
        rw [List.map_cons] at h
        rcases List.mem_cons.mp h with h | h
        · exact absurd h.symm q
        · exact h
      obtain ⟨f, h1, h2⟩ := ih h'
      exact ⟨f, h1, List.mem_cons_of_mem _ h2⟩
def pW (l : List (Str × Str)) (x f : Str) : List (Str × Str) := if (l.any fun p => decide (p.1 = x)) = true then l.map (fun p => if p.1 = x then (p.1, f) else p) else l ++ [(x, f)]
theorem pW_put {l : List (Str × Str)} {x f : Str} : putD (l.map wyK) (.inr x) (.str f) = (pW l x f).map wyK := by
  have e : ((l.map wyK).any fun kv => decide (kv.1 = .inr x)) = l.any fun p => decide (p.1 = x) := by
    rw [List.any_map]
    refine congrArg (fun g => l.any g) (funext fun p => ?_)
    show decide ((Sum.inr p.1 : Key) = .inr x) = _
    exact decide_eq_decide.mpr ⟨fun z => Sum.inr.inj z, fun z => congrArg Sum.inr z⟩
  unfold putD pW
  rw [e]
  by_cases q : (l.any fun p => decide (p.1 = x)) = true
  · rw [if_pos q, if_pos q, List.map_map, List.map_map]
    refine List.map_congr_left fun p _ => ?_
    show (if (Sum.inr p.1 : Key) = .inr x then _ else _) = wyK (if p.1 = x then _ else _)
    by_cases z : p.1 = x
    · rw [if_pos (congrArg Sum.inr z), if_pos z]
      rfl
    · rw [if_neg fun y => z (Sum.inr.inj y), if_neg z]
  · rw [if_neg q, if_neg q, List.map_append]
    rfl
theorem pW_names {l : List (Str × Str)} {x f : Str} (nd : (l.map (·.1)).Nodup) : ((pW l x f).map (·.1)).Nodup := by
  unfold pW
  by_cases q : (l.any fun p => decide (p.1 = x)) = true
  · rw [if_pos q, List.map_map]
    rw [show l.map ((fun p : Str × Str => p.1) ∘ fun p => if p.1 = x then (p.1, f) else p) = l.map (·.1) from List.map_congr_left fun p _ => by
      show (if p.1 = x then (p.1, f) else p).1 = p.1
      by_cases z : p.1 = x
      · rw [if_pos z]
      · rw [if_neg z]]
    exact nd
  · rw [if_neg q, List.map_append]
    refine List.nodup_append.mpr ⟨nd, by simp, fun a ha b hb e => ?_⟩
    have hb : b = x := by simpa using hb
    subst hb
    subst e
    obtain ⟨p, hp, e⟩ := List.mem_map.mp ha
    exact q (List.any_eq_true.mpr ⟨p, hp, decide_eq_true e⟩)
theorem pW_mem {l : List (Str × Str)} {x f : Str} {p : Str × Str} (h : p ∈ pW l x f) : p ∈ l ∨ p = (x, f) := by
  unfold pW at h
  by_cases q : (l.any fun p => decide (p.1 = x)) = true
  · rw [if_pos q] at h
    obtain ⟨z, hz, rfl⟩ := List.mem_map.mp h
    by_cases y : z.1 = x
    · rw [if_pos y, y]
      exact .inr rfl
    · rw [if_neg y]
      exact .inl hz
  · rw [if_neg q] at h
    rcases List.mem_append.mp h with h | h
    · exact .inl h
    · exact .inr (List.mem_singleton.mp h)
def dW (l : List (Str × Str)) (x : Str) : List (Str × Str) := l.filter fun p => decide (p.1 ≠ x)
theorem dW_drop {l : List (Str × Str)} {x : Str} : dropD (l.map wyK) (.inr x) = (dW l x).map wyK := by
  unfold dropD dW
  induction l with
  | nil => rfl
  | cons p l ih =>
    rw [List.map_cons, List.filter_cons, List.filter_cons]
    have e : decide ((wyK p).1 ≠ .inr x) = decide (p.1 ≠ x) := decide_eq_decide.mpr ⟨fun z y => z (congrArg Sum.inr y), fun z y => z (Sum.inr.inj y)⟩
    rw [e, ih]
    by_cases q : decide (p.1 ≠ x) = true
    · rw [if_pos q, if_pos q]
      rfl
    · rw [if_neg q, if_neg q]
theorem nodup_sub {l : List (Str × Str)} {x : Str} (nd : (l.map (·.1)).Nodup) : ((dW l x).map (·.1)).Nodup := by
  unfold dW
  induction l with
  | nil => exact nd
  | cons p l ih =>
    rw [List.map_cons] at nd
    obtain ⟨n1, n2⟩ := List.nodup_cons.mp nd
    rw [List.filter_cons]
    split
    · rw [List.map_cons]
      refine List.nodup_cons.mpr ⟨fun z => n1 ?_, ih n2⟩
      obtain ⟨q, hq, e⟩ := List.mem_map.mp z
      exact List.mem_map.mpr ⟨q, (List.mem_filter.mp hq).1, e⟩
    · exact ih n2
def NmN (l : List Str) : Prop := NmOk l ∧ ∀ x ∈ l, x ≠ Str.empty
structure TmB (rts : List (Int × Int)) (lim : Int × Int) (most : Int) : Prop where
  len : rts.length ≤ 8
  hd : ∃ v r, rts = (0, v) :: r
  srt : (rts.map (·.1)).Pairwise (· < ·)
  rb : ∀ r ∈ rts, 0 ≤ r.2 ∧ r.2 ≤ 10 ^ 20
  db : ∀ r ∈ rts, r.1 < 1000
  o0 : 0 ≤ lim.1
  o1 : lim.1 < 40
  u0 : 0 < lim.2
  u1 : lim.2 ≤ 20000
  m0 : 0 ≤ most
  m1 : most < 10 ^ 25
structure WOk (W : BW) (B : Int) : Prop where
  hn : NmN W.hs
  h0 : 0 < W.hs.length
  cn : NmN W.cs
  c0 : 0 < W.cs.length
  ln : NmN W.ls
  l0 : 0 < W.ls.length
  u0 : 0 ≤ W.unit
  u1 : W.unit ≤ 10 ^ 24
  tm : TmB W.rts W.lim W.most
  b0 : 10 ^ 26 ≤ B
  ckn : (W.ck.map (·.nm)).Nodup
  ckc : ∀ c ∈ W.ck, c.nm ∈ W.cs ∧ c.pl ∈ W.hs ∧ 0 ≤ c.bk ∧ c.bk + 1 ≤ B ∧ 0 ≤ c.st ∧ c.st ≤ 10000
  wyn : (W.way.map (·.1)).Nodup
  wyc : ∀ p ∈ W.way, p.1 ∈ W.ck.map (·.nm) ∧ p.2 ∈ W.hs
  dr : ∀ p ∈ W.dr, p.1 ∈ W.hs ∧ 0 ≤ p.2 ∧ p.2 < 10 ^ 25
def dOkB (W : BW) (B : Int) : Deed → Prop
  | .lay c l b p => c ∈ W.cs ∧ l ∈ W.ls ∧ 0 ≤ b ∧ b ≤ 10 ^ 26 ∧ 0 ≤ p ∧ p ≤ 10000 * b
  | .draw c b | .water c b | .sample c b => c ∈ W.cs ∧ 0 ≤ b ∧ b ≤ B
  | .pour c o b => c ∈ W.cs ∧ o ∈ W.cs ∧ 0 ≤ b ∧ b ≤ B
  | .gauge c b p | .come c b p => c ∈ W.cs ∧ 0 ≤ b ∧ b ≤ B ∧ 0 ≤ p ∧ p ≤ 10000 * b
  | .back n => 0 ≤ n ∧ n < 10 ^ 25
  | .send c h => c ∈ W.cs ∧ h ∈ W.hs
  | .fin => True
theorem nodup_le : ∀ {l m : List Str}, l.Nodup → (∀ x ∈ l, x ∈ m) → l.length ≤ m.length
  | [], _, _, _ => Nat.zero_le _
  | x :: l, m, nd, h => by
    obtain ⟨n1, n2⟩ := List.nodup_cons.mp nd
    have hm := h x (List.mem_cons_self ..)
    have a := nodup_le (l := l) (m := m.erase x) n2 fun y hy => (List.mem_erase_of_ne fun e => n1 (by rw [← e]; exact hy)).mpr (h y (List.mem_cons_of_mem _ hy))
    have b := List.length_erase_of_mem hm
    have c := List.length_pos_of_mem hm
    rw [List.length_cons]
    omega
theorem WOk.ckl {W : BW} {B : Int} (H : WOk W B) : W.ck.length ≤ 12 := by
  have := nodup_le H.ckn (m := W.cs) fun x hx => by
    obtain ⟨c, hc, rfl⟩ := List.mem_map.mp hx
    exact (H.ckc c hc).1
  rw [List.length_map] at this
  exact Nat.le_trans this H.cn.1.len
theorem WOk.wyl {W : BW} {B : Int} (H : WOk W B) : W.way.length ≤ 12 := by
  have := nodup_le H.wyn (m := W.ck.map (·.nm)) fun x hx => by
    obtain ⟨c, hc, rfl⟩ := List.mem_map.mp hx
    exact (H.wyc c hc).1
  rw [List.length_map, List.length_map] at this
  exact Nat.le_trans this H.ckl
theorem WOk.up {W : BW} {B : Int} (H : WOk W B) : WOk W (2 * B) := by
  have := H.b0
  exact ⟨H.hn, H.h0, H.cn, H.c0, H.ln, H.l0, H.u0, H.u1, H.tm, by omega, H.ckn, fun c hc => ⟨(H.ckc c hc).1, (H.ckc c hc).2.1, (H.ckc c hc).2.2.1, by have := (H.ckc c hc).2.2.2.1; omega, (H.ckc c hc).2.2.2.2⟩, H.wyn, H.wyc, H.dr⟩
theorem gi_bulk {tb0 tb1 : MO} {n : Nat} {L : List MO} {W : BW} {tl : List MO} {c : Str} {k : BC} (h : fC W.ck c = some k) : dvl (tb0 :: tb1 :: .rnd n :: bW L W tl) (L.length + 8) (.inr c) = some (some (.da (.int k.bk))) := by
  rw [dvl_d w_bulk]
  exact congrArg (fun z => some (Option.map En.da z)) ((fC_find fun c => PyData.int c.bk).trans (congrArg (Option.map _) h))
theorem gi_strong {tb0 tb1 : MO} {n : Nat} {L : List MO} {W : BW} {tl : List MO} {c : Str} {k : BC} (h : fC W.ck c = some k) : dvl (tb0 :: tb1 :: .rnd n :: bW L W tl) (L.length + 9) (.inr c) = some (some (.da (.int k.st))) := by
  rw [dvl_d w_strong]
  exact congrArg (fun z => some (Option.map En.da z)) ((fC_find fun c => PyData.int c.st).trans (congrArg (Option.map _) h))
theorem gi_place {tb0 tb1 : MO} {n : Nat} {L : List MO} {W : BW} {tl : List MO} {c : Str} {k : BC} (h : fC W.ck c = some k) : dvl (tb0 :: tb1 :: .rnd n :: bW L W tl) (L.length + 6) (.inr c) = some (some (.da (.str k.pl))) := by
  rw [dvl_d w_place]
  exact congrArg (fun z => some (Option.map En.da z)) ((fC_find fun c => PyData.str c.pl).trans (congrArg (Option.map _) h))
theorem bsubS_app (k : Nat) (d : D) : ∀ (a b : List MO), subS k d (a ++ b) = subS k d a ++ subS k d b
  | [], b => rfl
  | x :: a, b => congrArg (subM k d x :: ·) (bsubS_app k d a b)
theorem bgm_ext : ∀ {a b : List MO}, a.length = b.length → (∀ i, gm a i = gm b i) → a = b
  | [], [], _, _ => rfl
  | x :: a, y :: b, h, g => by
    have h0 : x = y := g 0
    rw [h0, bgm_ext (a := a) (b := b) (by simpa using h) fun i => g (i + 1)]
  | [], _ :: _, h, _ => by cases h
  | _ :: _, [], h, _ => by cases h
theorem bsubS_clo {pre : List MO} (cl : Clo pre) {k : Nat} {d : D} (hk : pre.length ≤ k) : subS k d pre = pre :=
  bgm_ext (subS_length k d pre) fun i => by rw [gm_subS, clo_sub cl hk]
theorem frz_rates {tb0 tb1 : MO} {n q k np : Nat} {L : List MO} {F : List (Str × En)} {ds : List D} {es : List En} (cl : Clo (tb0 :: tb1 :: .rnd n :: L)) (hF : ∀ k d, subM k d (.ins .dct F) = .ins .dct F) (hk : k = L.length + 4) :
    frzS k ds ⟨es, tb0 :: tb1 :: .rnd q :: (L ++ [.ins .dct F, .lst ds]), np⟩ = ⟨subL k (.list ds) es, tb0 :: tb1 :: .rnd q :: (L ++ [.ins .dct F, .gone]), np⟩ := by
  have e : subS k (.list ds) (tb0 :: tb1 :: .rnd n :: L) = tb0 :: tb1 :: .rnd n :: L := bsubS_clo cl (by rw [hk]; simp only [List.length_cons]; omega)
  have e2 : subS k (.list ds) (tb0 :: tb1 :: .rnd q :: L) = tb0 :: tb1 :: .rnd q :: L := by
    simp only [subS, List.cons.injEq] at e ⊢
    exact ⟨e.1, e.2.1, rfl, e.2.2.2⟩
  have e3 : subS k (.list ds) (tb0 :: tb1 :: .rnd q :: (L ++ [.ins .dct F, .lst ds])) = (tb0 :: tb1 :: .rnd q :: L) ++ [.ins .dct F, .lst ds] := by
    rw [show tb0 :: tb1 :: .rnd q :: (L ++ [MO.ins .dct F, .lst ds]) = (tb0 :: tb1 :: .rnd q :: L) ++ [.ins .dct F, .lst ds] from rfl, bsubS_app, e2]
    show _ ++ [subM k _ (.ins .dct F), .lst ds] = _
    rw [hF]
  unfold frzS
  dsimp only
  rw [e3]
  refine congrArg (fun z => S.mk _ z _) ?_
  rw [hk, show L.length + 4 = (tb0 :: tb1 :: MO.rnd q :: L).length + 1 from rfl, sm_pre]
  rfl
structure RtB (i : Nat) (d : Int) (rs : List (Int × Int)) : Prop where
  len : rs.length = i
  hd : 0 < i → ∃ v r, rs = (0, v) :: r
  d0 : i = 0 → d = 0
  dn : 0 ≤ d
  srt : (rs.map (·.1)).Pairwise (· < ·)
  rb : ∀ r ∈ rs, 0 ≤ r.2 ∧ r.2 ≤ 10 ^ 20
  db : ∀ r ∈ rs, r.1 < d
  dm : d ≤ 61 * i
theorem RtB.nil : RtB 0 0 [] := ⟨rfl, fun h => absurd h (by decide), fun _ => rfl, by decide, .nil, fun r hr => (by cases hr), fun r hr => (by cases hr), by decide⟩
theorem RtB.next {i : Nat} {d v g : Int} {rs : List (Int × Int)} (R : RtB i d rs) (v0 : 0 ≤ v) (v1 : v ≤ 10 ^ 20) (g0 : 0 ≤ g) (g1 : g < 61) : RtB (i + 1) (d + 1 + g) (rs ++ [(d, v)]) := by
  have dn := R.dn
  have dm := R.dm
  refine ⟨by rw [List.length_append, R.len]; rfl, fun _ => ?_, fun h => absurd h (Nat.succ_ne_zero i), by omega, ?_, fun r hr => ?_, fun r hr => ?_, ?_⟩
  · rcases Nat.eq_zero_or_pos i with h | h
    · have e : rs = [] := List.length_eq_zero_iff.mp (R.len.trans h)
      rw [e, R.d0 h]
      exact ⟨v, [], rfl⟩
    · obtain ⟨v', r, e⟩ := R.hd h
      exact ⟨v', r ++ [(d, v)], by rw [e]; rfl⟩
  · rw [List.map_append]
    refine List.pairwise_append.mpr ⟨R.srt, by simp, fun a ha b hb => ?_⟩
    obtain ⟨r, hr, rfl⟩ := List.mem_map.mp ha
    cases List.mem_singleton.mp hb
    exact R.db r hr
  · rcases List.mem_append.mp hr with hr | hr
    · exact R.rb r hr
    · cases List.mem_singleton.mp hr
      exact ⟨v0, v1⟩
  · rcases List.mem_append.mp hr with hr | hr
    · have := R.db r hr
      omega
    · cases List.mem_singleton.mp hr
      show d < d + 1 + g
      omega
  · show d + 1 + g ≤ 61 * ((i + 1 : Nat) : Int)
    omega
def f3F (hs : List Str) : List (Str × En) := [("houses", .da (stL hs)), ("turn", .da (.int 0)), ("day", .da (.int 0))]
def f4F (hs cs : List Str) : List (Str × En) := [("houses", .da (stL hs)), ("turn", .da (.int 0)), ("day", .da (.int 0)), ("casks", .da (stL cs))]
def f5F (hs cs ls : List Str) : List (Str × En) := [("houses", .da (stL hs)), ("turn", .da (.int 0)), ("day", .da (.int 0)), ("casks", .da (stL cs)), ("lots", .da (stL ls))]
def f6F (hs cs ls : List Str) (u : Int) : List (Str × En) := [("houses", .da (stL hs)), ("turn", .da (.int 0)), ("day", .da (.int 0)), ("casks", .da (stL cs)), ("lots", .da (stL ls)), ("unit", .da (.int u))]
def f7F (hs cs ls : List Str) (u : Int) (tm : D) : List (Str × En) := [("houses", .da (stL hs)), ("turn", .da (.int 0)), ("day", .da (.int 0)), ("casks", .da (stL cs)), ("lots", .da (stL ls)), ("unit", .da (.int u)), ("terms", .da tm)]
theorem bsubE_self {k : Nat} {d : D} : subE k d (.mu k) = .da d := by
  show (bif Nat.beq k k then En.da d else .mu k) = _
  rw [Nat.beq_refl]
  rfl
theorem bsubE_ne {k j : Nat} {d : D} (h : j ≠ k) : subE k d (.mu j) = .mu j := by
  show (bif Nat.beq j k then En.da d else .mu j) = _
  cases q : Nat.beq j k with
  | false => rfl
  | true => exact absurd (Nat.eq_of_beq_eq_true q) h
theorem disp5 {es : List En} {ms : List MO} {np : Nat} {Ks : S → En → Prop} (h : Ks ⟨es, ms ++ [.ins .dct [("place", .mu (ms.length + 1)), ("way", .mu (ms.length + 2)), ("bulk", .mu (ms.length + 3)), ("strong", .mu (ms.length + 4)), ("draws", .mu (ms.length + 5))], .dct [], .dct [], .dct [], .dct [], .lst []], np⟩ (.mu ms.length)) :
    dDisp [Str.ofString "place", Str.ofString "way", Str.ofString "bulk", Str.ofString "strong", Str.ofString "draws"] (aCons dNewD (aCons dNewD (aCons dNewD (aCons dNewD (aCons (dLstM aNil) aNil))))) ⟨es, ms, np⟩ Ks := by
  simp only [dDisp, aCons, aNil, dNewD, dLstM, S.aM, allD, onO, List.append_assoc, List.cons_append, List.nil_append, List.length_append, List.length_cons, List.length_nil, Nat.zero_add, Nat.add_zero, Nat.reduceAdd]
  refine ⟨gm_at0, ?_⟩
  show Ks ⟨es, sm (ms ++ _ :: _) ms.length _, np⟩ _
  rw [sm_mid]
  exact h
theorem f7_merge {q : Nat} {hs cs ls : List Str} {u : Int} {rts : List (Int × Int)} {lim : Int × Int} {most : Int} : mergeT (f7F hs cs ls u (tmB rts lim most)) (gF q) = wF q ⟨hs, cs, ls, 0, 0, u, rts, lim, most, none, [], [], []⟩ := rfl
theorem bW_app {L : List MO} {W : BW} {tl r : List MO} : bW L W tl ++ r = bW L W (tl ++ r) := by
  unfold bW
  rw [List.append_assoc]
  rfl
def isNew (ck : List BC) : D → Bool
  | .str x => (fC ck x).isNone
  | _ => false
theorem new_list {ck : List BC} {l : List Str} : (((l.map PyData.str).filter (isNew ck)).map fun d => d) = (l.filter fun x => (fC ck x).isNone).map .str := by
  rw [List.map_id', List.filter_map]
  rfl
theorem WOk.ckNew {W : BW} {B : Int} (H : WOk W B) {c h : Str} {b s : Int} (hf : fC W.ck c = none) (hc : c ∈ W.cs) (hh : h ∈ W.hs) (b0 : 0 ≤ b) (b1 : b + 1 ≤ 2 * B) (s0 : 0 ≤ s) (s1 : s ≤ 10000) : WOk { W with ck := W.ck ++ [⟨c, h, b, s⟩] } (2 * B) := by
  have U := H.up
  refine ⟨U.hn, U.h0, U.cn, U.c0, U.ln, U.l0, U.u0, U.u1, U.tm, U.b0, ?_, fun k hk => ?_, U.wyn, fun p hp => ?_, U.dr⟩
  · rw [List.map_append]
    refine List.nodup_append.mpr ⟨H.ckn, by simp, fun a ha b hb e => ?_⟩
    have hb : b = c := by simpa using hb
    subst hb
    subst e
    exact fC_none hf ha
  · rcases List.mem_append.mp hk with hk | hk
    · exact U.ckc k hk
    · rw [List.mem_singleton.mp hk]
      exact ⟨hc, hh, b0, b1, s0, s1⟩
  · obtain ⟨h1, h2⟩ := U.wyc p hp
    exact ⟨by rw [List.map_append]; exact List.mem_append_left _ h1, h2⟩
def bG (q : Nat) (W : BW) (P Bk St : List (Key × D)) (tl : List MO) : List MO := .ins .dct (wF q W) :: .gone :: .ins .dct (gF q) :: .dct P :: .dct (W.way.map wyK) :: .dct Bk :: .dct St :: .lst (W.dr.map drD) :: tl
section
variable {tb0 tb1 : MO} {n : Nat} {L : List MO} {W : BW} {tl : List MO} {P Bk St : List (Key × D)}
theorem vd {f : Str} {y : En} (h : getT (wF L.length W) f = some y) : dvl (tb0 :: tb1 :: .rnd n :: (L ++ bG L.length W P Bk St tl)) (L.length + 3) (.inr f) = some (some y) := by
  unfold dvl
  rw [show gm (tb0 :: tb1 :: .rnd n :: (L ++ bG L.length W P Bk St tl)) (L.length + 3) = .ins .dct (wF L.length W) from gm_pre L _ 0]
  exact congrArg some h
theorem vd_bulk : dvl (tb0 :: tb1 :: .rnd n :: (L ++ bG L.length W P Bk St tl)) (L.length + 3) (.inr "bulk") = some (some (.mu (L.length + 8))) := vd rfl
theorem vd_strong : dvl (tb0 :: tb1 :: .rnd n :: (L ++ bG L.length W P Bk St tl)) (L.length + 3) (.inr "strong") = some (some (.mu (L.length + 9))) := vd rfl
theorem v_bulk : gm (tb0 :: tb1 :: .rnd n :: (L ++ bG L.length W P Bk St tl)) (L.length + 8) = .dct Bk := gm_pre L _ 5
theorem v_strong : gm (tb0 :: tb1 :: .rnd n :: (L ++ bG L.length W P Bk St tl)) (L.length + 9) = .dct St := gm_pre L _ 6
theorem sv_place {X : List (Key × D)} : sm (tb0 :: tb1 :: .rnd n :: bW L W tl) (L.length + 6) (.dct X) = tb0 :: tb1 :: .rnd n :: (L ++ bG L.length W X (W.ck.map bkK) (W.ck.map stK) tl) := wsm 3 _
theorem sv_bulk {X : List (Key × D)} : sm (tb0 :: tb1 :: .rnd n :: (L ++ bG L.length W P Bk St tl)) (L.length + 8) (.dct X) = tb0 :: tb1 :: .rnd n :: (L ++ bG L.length W P X St tl) := congrArg (fun z => tb0 :: tb1 :: MO.rnd n :: z) (sm_pre L _ 5 _)
theorem sv_strong {X : List (Key × D)} : sm (tb0 :: tb1 :: .rnd n :: (L ++ bG L.length W P Bk St tl)) (L.length + 9) (.dct X) = tb0 :: tb1 :: .rnd n :: (L ++ bG L.length W P Bk X tl) := congrArg (fun z => tb0 :: tb1 :: MO.rnd n :: z) (sm_pre L _ 6 _)
end
section
variable {tb0 tb1 : MO} {n : Nat} {L : List MO} {W : BW} {tl : List MO}
theorem ws_bulk {c : Str} {k : BC} {b : Int} (hf : fC W.ck c = some k) : sm (tb0 :: tb1 :: .rnd n :: bW L W tl) (L.length + 8) (.dct (putD (W.ck.map bkK) (.inr c) (.int b))) = tb0 :: tb1 :: .rnd n :: bW L { W with ck := uC W.ck c fun k => { k with bk := b } } tl := by
  refine (wsm 5 _).trans ?_
  rw [show W.ck.map bkK = W.ck.map (fun c => (.inr c.nm, PyData.int c.bk)) from rfl, uC_put hf (fun c => PyData.int c.bk) (fun k => { k with bk := b }) (.int b) (fun _ => rfl) fun _ _ => rfl]
  unfold bW bR
  dsimp only
  rw [show (uC W.ck c fun k => { k with bk := b }).map plK = W.ck.map plK from uC_same (fun c => PyData.str c.pl) _ (fun _ => rfl) fun _ => rfl, show (uC W.ck c fun k => { k with bk := b }).map stK = W.ck.map stK from uC_same (fun c => PyData.int c.st) _ (fun _ => rfl) fun _ => rfl]
  rfl
theorem ws_place {c h : Str} {k : BC} (hf : fC W.ck c = some k) : sm (tb0 :: tb1 :: .rnd n :: bW L W tl) (L.length + 6) (.dct (putD (W.ck.map plK) (.inr c) (.str h))) = tb0 :: tb1 :: .rnd n :: bW L { W with ck := uC W.ck c fun k => { k with pl := h } } tl := by
  refine (wsm 3 _).trans ?_
  rw [show W.ck.map plK = W.ck.map (fun c => (.inr c.nm, PyData.str c.pl)) from rfl, uC_put hf (fun c => PyData.str c.pl) (fun k => { k with pl := h }) (.str h) (fun _ => rfl) fun _ _ => rfl]
  unfold bW bR
  dsimp only
  rw [show (uC W.ck c fun k => { k with pl := h }).map bkK = W.ck.map bkK from uC_same (fun c => PyData.int c.bk) _ (fun _ => rfl) fun _ => rfl, show (uC W.ck c fun k => { k with pl := h }).map stK = W.ck.map stK from uC_same (fun c => PyData.int c.st) _ (fun _ => rfl) fun _ => rfl]
  rfl
theorem ws_way {c h : Str} : sm (tb0 :: tb1 :: .rnd n :: bW L W tl) (L.length + 7) (.dct (putD (W.way.map wyK) (.inr c) (.str h))) = tb0 :: tb1 :: .rnd n :: bW L { W with way := pW W.way c h } tl := by
  rw [pW_put]
  exact wsm 4 _
theorem ws_wayD {c : Str} : sm (tb0 :: tb1 :: .rnd n :: bW L W tl) (L.length + 7) (.dct (dropD (W.way.map wyK) (.inr c))) = tb0 :: tb1 :: .rnd n :: bW L { W with way := dW W.way c } tl := by
  rw [dW_drop]
  exact wsm 4 _
theorem ws_draws {p : Str × Int} : sm (tb0 :: tb1 :: .rnd n :: bW L W tl) (L.length + 10) (.lst (W.dr.map drD ++ [drD p])) = tb0 :: tb1 :: .rnd n :: bW L { W with dr := W.dr ++ [p] } tl := by
  rw [show W.dr.map drD ++ [drD p] = (W.dr ++ [p]).map drD by rw [List.map_append]; rfl]
  exact wsm 7 _
theorem gi_way {c : Str} : dvl (tb0 :: tb1 :: .rnd n :: bW L W tl) (L.length + 7) (.inr c) = some ((fW W.way c).map fun f => .da (.str f)) := by
  rw [dvl_d w_way, fW_find, Option.map_map]
  rfl
end
theorem WOk.to {W : BW} {B B' : Int} (H : WOk W B) (h : B ≤ B') : WOk W B' :=
  ⟨H.hn, H.h0, H.cn, H.c0, H.ln, H.l0, H.u0, H.u1, H.tm, Int.le_trans H.b0 h, H.ckn, fun c hc => ⟨(H.ckc c hc).1, (H.ckc c hc).2.1, (H.ckc c hc).2.2.1, Int.le_trans (H.ckc c hc).2.2.2.1 h, (H.ckc c hc).2.2.2.2⟩, H.wyn, H.wyc, H.dr⟩
theorem WOk.ckUpd {W : BW} {B B' : Int} (H : WOk W B) (hB : B ≤ B') {c : Str} {f : BC → BC} (hn : ∀ k, (f k).nm = k.nm) (hf : ∀ k ∈ W.ck, k.nm = c → (f k).pl ∈ W.hs ∧ 0 ≤ (f k).bk ∧ (f k).bk + 1 ≤ B' ∧ 0 ≤ (f k).st ∧ (f k).st ≤ 10000) : WOk { W with ck := uC W.ck c f } B' := by
  have U := H.to hB
  refine ⟨U.hn, U.h0, U.cn, U.c0, U.ln, U.l0, U.u0, U.u1, U.tm, U.b0, ?_, fun k hk => ?_, U.wyn, fun p hp => ?_, U.dr⟩
  · show ((uC W.ck c f).map (·.nm)).Nodup
    rw [uC_names hn]
    exact H.ckn
  · rcases uC_mem hk with hk | ⟨k', hk', e, rfl⟩
    · exact U.ckc k hk
    · refine ⟨?_, hf k' hk' e⟩
      rw [hn]
      exact (U.ckc k' hk').1
  · show p.1 ∈ (uC W.ck c f).map (·.nm) ∧ _
    rw [uC_names hn]
    exact U.wyc p hp
theorem WOk.wyPut {W : BW} {B : Int} (H : WOk W B) {c h : Str} (hc : c ∈ W.ck.map (·.nm)) (hh : h ∈ W.hs) : WOk { W with way := pW W.way c h } B :=
  ⟨H.hn, H.h0, H.cn, H.c0, H.ln, H.l0, H.u0, H.u1, H.tm, H.b0, H.ckn, H.ckc, pW_names H.wyn, fun p hp => (pW_mem hp).elim (H.wyc p) fun e => by rw [e]; exact ⟨hc, hh⟩, H.dr⟩
theorem WOk.wyDrop {W : BW} {B : Int} (H : WOk W B) {c : Str} : WOk { W with way := dW W.way c } B :=
  ⟨H.hn, H.h0, H.cn, H.c0, H.ln, H.l0, H.u0, H.u1, H.tm, H.b0, H.ckn, H.ckc, nodup_sub H.wyn, fun p hp => H.wyc p (List.mem_filter.mp hp).1, H.dr⟩
theorem WOk.drPut {W : BW} {B : Int} (H : WOk W B) {h : Str} {x : Int} (hh : h ∈ W.hs) (x0 : 0 ≤ x) (x1 : x < 10 ^ 25) : WOk { W with dr := W.dr ++ [(h, x)] } B :=
  ⟨H.hn, H.h0, H.cn, H.c0, H.ln, H.l0, H.u0, H.u1, H.tm, H.b0, H.ckn, H.ckc, H.wyn, H.wyc, fun p hp => (List.mem_append.mp hp).elim (H.dr p) fun e => by rw [List.mem_singleton.mp e]; exact ⟨hh, x0, x1⟩⟩
theorem pW_self {l : List (Str × Str)} {x f : Str} : fW (pW l x f) x = some f := by
  unfold pW fW
  by_cases q : (l.any fun p => decide (p.1 = x)) = true
  · rw [if_pos q]
    induction l with
    | nil => cases q
    | cons p l ih =>
      rw [List.map_cons, List.find?_cons]
      by_cases z : p.1 = x
      · rw [if_pos z, z]
        rw [decide_eq_true (show ((x, f) : Str × Str).1 = x from rfl)]
        rfl
      · rw [if_neg z, decide_eq_false z]
        refine ih ?_
        rw [List.any_cons, decide_eq_false z, Bool.false_or] at q
        exact q
  · rw [if_neg q, List.find?_append, List.find?_eq_none.mpr fun p hp z => q (List.any_eq_true.mpr ⟨p, hp, z⟩)]
    rw [Option.none_or, List.find?_cons, decide_eq_true (show ((x, f) : Str × Str).1 = x from rfl)]
    rfl
def bLk (q : Nat) (W : BW) (o : Obj) (us : List (Key × V)) (tl : List MO) : List MO := .ins .dct (wF q W) :: .gone :: .ins .dct (gF q) :: .ins (.fzk o us) (fzF (W.ck.map plK)) :: .dct (W.way.map wyK) :: .dct (W.ck.map bkK) :: .dct (W.ck.map stK) :: .lst (W.dr.map drD) :: tl
section
variable {tb0 tb1 : MO} {n : Nat} {L : List MO} {W : BW} {tl r : List MO} {o : Obj} {us : List (Key × V)}
theorem bLk_app : (L ++ bLk L.length W o us tl) ++ r = L ++ bLk L.length W o us (tl ++ r) := by
  rw [List.append_assoc]
  rfl
theorem lk_place : dvl (tb0 :: tb1 :: .rnd n :: (L ++ bLk L.length W o us tl)) (L.length + 3) (.inr "place") = some (some (.mu (L.length + 6))) := by
  unfold dvl
  rw [show gm (tb0 :: tb1 :: .rnd n :: (L ++ bLk L.length W o us tl)) (L.length + 3) = .ins .dct (wF L.length W) from gm_pre L _ 0]
  rfl
theorem lk_way : dvl (tb0 :: tb1 :: .rnd n :: (L ++ bLk L.length W o us tl)) (L.length + 3) (.inr "way") = some (some (.mu (L.length + 7))) := by
  unfold dvl
  rw [show gm (tb0 :: tb1 :: .rnd n :: (L ++ bLk L.length W o us tl)) (L.length + 3) = .ins .dct (wF L.length W) from gm_pre L _ 0]
  rfl
theorem lk_gm : gm (tb0 :: tb1 :: .rnd n :: (L ++ bLk L.length W o us tl)) (L.length + 6) = .ins (.fzk o us) (fzF (W.ck.map plK)) := gm_pre L _ 3
theorem lk_wy {c : Str} : dvl (tb0 :: tb1 :: .rnd n :: (L ++ bLk L.length W o us tl)) (L.length + 7) (.inr c) = some ((fW W.way c).map fun f => .da (.str f)) := by
  rw [dvl_d (show gm (tb0 :: tb1 :: .rnd n :: (L ++ bLk L.length W o us tl)) (L.length + 7) = .dct (W.way.map wyK) from gm_pre L _ 4), fW_find, Option.map_map]
  rfl
end
theorem sh_str {x : Str} (h : sOk x) : SeqAt.shaped (.str x) = true := by
  have k : Ok2 2 (.str x) := .str h
  exact shaped_of k.ok (Nat.le_trans k.dp (by decide))
theorem fC_nodup {l : List BC} (nd : (l.map (·.nm)).Nodup) {c : BC} (hc : c ∈ l) : fC l c.nm = some c := by
  unfold fC
  induction l with
  | nil => cases hc
  | cons a l ih =>
    rw [List.map_cons] at nd
    obtain ⟨n1, n2⟩ := List.nodup_cons.mp nd
    rw [List.find?_cons]
    rcases List.mem_cons.mp hc with rfl | hc
    · rw [decide_eq_true rfl]
    · rw [decide_eq_false fun z => n1 (List.mem_map.mpr ⟨c, hc, z.symm⟩)]
      exact ih n2 hc
theorem limF_wF {q len : Nat} {W : BW} (h : q + 10 < len) : limF len (wF q W) = wF q W := by
  have b : ∀ i, i ≤ 10 → limE len (.mu (q + i)) = .mu (q + i) := fun i hi => by
    show (bif Nat.blt (q + i) len then En.mu (q + i) else .no) = _
    rw [(by unfold Nat.blt; exact Nat.ble_eq_true_of_le (by omega) : Nat.blt (q + i) len = true)]
    rfl
  unfold wF
  simp only [limF, b 6 (by decide), b 7 (by decide), b 8 (by decide), b 9 (by decide), b 10 (by decide)]
  cases W.num <;> rfl
theorem limF_gF {q len : Nat} (h : q + 10 < len) : limF len (gF q) = gF q := by
  have b : ∀ i, i ≤ 10 → limE len (.mu (q + i)) = .mu (q + i) := fun i hi => by
    show (bif Nat.blt (q + i) len then En.mu (q + i) else .no) = _
    rw [(by unfold Nat.blt; exact Nat.ble_eq_true_of_le (by omega) : Nat.blt (q + i) len = true)]
    rfl
  unfold gF
  simp only [limF, b 6 (by decide), b 7 (by decide), b 8 (by decide), b 9 (by decide), b 10 (by decide)]
theorem clo_gen {P P' tl : List MO} {q : Nat} {W W' : BW} (hl : P'.length = P.length) (hq : q + 3 = P.length) (hp : ∀ (len i : Nat), limM len (gm P i) = gm P i → limM len (gm P' i) = gm P' i) (cl : Clo (P ++ bR q W tl)) : Clo (P' ++ bR q W' tl) := by
  have hL : (P' ++ bR q W' tl).length = (P ++ bR q W tl).length := by
    rw [List.length_append, List.length_append, hl]
    rfl
  have hlen : (P ++ bR q W tl).length = P.length + (tl.length + 8) := by
    rw [List.length_append]
    rfl
  refine takM_id _ _ _ (Nat.le_refl _) fun k => ?_
  have c := clo_lim cl k
  rw [hL]
  rw [gm_app] at c ⊢
  rw [hl]
  by_cases h : k < P.length
  · rw [if_pos h] at c ⊢
    exact hp _ _ c
  · rw [if_neg h] at c ⊢
    generalize k - P.length = j at *
    rcases j with _ | _ | _ | _ | _ | _ | _ | _ | j
    · show MO.ins .dct (limF _ (wF q W')) = _
      rw [limF_wF (by omega)]
      rfl
    · rfl
    · show MO.ins .dct (limF _ (gF q)) = _
      rw [limF_gF (by omega)]
      rfl
    · rfl
    · rfl
    · rfl
    · rfl
    · rfl
    · exact c
theorem clo_bW {tb0 tb1 : MO} {n m : Nat} {L : List MO} {W W' : BW} {tl : List MO} (cl : Clo (tb0 :: tb1 :: .rnd n :: bW L W tl)) : Clo (tb0 :: tb1 :: .rnd m :: bW L W' tl) :=
  clo_gen (P := tb0 :: tb1 :: MO.rnd n :: L) (P' := tb0 :: tb1 :: MO.rnd m :: L) rfl rfl (fun len i h => by rcases i with _ | _ | _ | i <;> first | exact h | rfl) cl
theorem cut_bW {tb0 tb1 : MO} {n m : Nat} {L : List MO} {W W' : BW} {tl r : List MO} (cl : Clo (tb0 :: tb1 :: .rnd n :: bW L W tl)) : takM ((bW L W tl).length + 3) ((bW L W tl).length + 3) (tb0 :: tb1 :: .rnd m :: bW L W' (tl ++ r)) = tb0 :: tb1 :: .rnd m :: bW L W' tl := by
  rw [← bW_app]
  have e := (clo_bW (m := m) (W' := W') cl).app (r := r)
  have hl : (tb0 :: tb1 :: MO.rnd m :: bW L W' tl).length = (bW L W tl).length + 3 := by
    unfold bW
    simp only [List.length_cons, List.length_append, bR]
  rw [hl] at e
  exact e
theorem gm_new {tb0 tb1 : MO} {n : Nat} {L : List MO} {W : BW} {tl r : List MO} {x : MO} : gm (tb0 :: tb1 :: .rnd n :: bW L W (tl ++ x :: r)) ((bW L W tl).length + 3) = x := by
  rw [← bW_app]
  exact gm_at0 (ms := tb0 :: tb1 :: MO.rnd n :: bW L W tl)
theorem ws_same {tb0 tb1 : MO} {n : Nat} {L : List MO} {W : BW} {tl : List MO} : sm (tb0 :: tb1 :: .rnd n :: bW L W tl) (L.length + 10) (.lst (W.dr.map drD)) = tb0 :: tb1 :: .rnd n :: bW L W tl := wsm 7 _
theorem Ok2.drs {W : BW} {B : Int} (H : WOk W B) (hl : W.dr.length ≤ 1000) : Ok2 3 (.list (W.dr.map drD)) := .map (fun p hp => .tup (allC (.str (H.hn.1.ok _ (H.dr p hp).1)) (allC .int allN)) (Nat.le_of_ble_eq_true rfl)) hl
theorem keys_way {l : List (Str × Str)} : (l.map wyK).map (fun z => kD z.1) = (l.map (·.1)).map .str := by rw [List.map_map, List.map_map]; rfl
theorem keys_place {l : List BC} : (l.map plK).map (fun z => kD z.1) = (l.map (·.nm)).map .str := by rw [List.map_map, List.map_map]; rfl
theorem callV2 {sp : SpD} {t k np : Nat} {es : List En} {ms : List MO} {Ks : S → En → Prop} (h0 : k ≠ t) (h : allP [gm ms t, gm ms k] = true ∧ sp [.mu 0, .mu 1] [gm ms t, gm ms k] fun ms' r => allP ms' = true ∧ Ks (S.cM ⟨es, ms, np⟩ [t, k] ms') (bkE [t, k] ms.length r)) : CallV sp ⟨es, ms, np⟩ [.mu t, .mu k] Ks := by
  refine ⟨?_, ?_⟩
  · show [t, k].Nodup
    simp [Ne.symm h0]
  · have e : renL (muks [.mu t, .mu k]) [.mu t, .mu k] = some [.mu 0, .mu 1] := by
      have h1 : (t == k) = false := by simpa using Ne.symm h0
      simp [renL, renE, posOf, muks, h0, Ne.symm h0, h1]
    exact onO_mk e h
theorem WOk.turnTo {W : BW} {B : Int} (H : WOk W B) {t : Nat} {d : Int} {k : Option Int} : WOk { W with turn := t, day := d, num := k } B :=
  ⟨H.hn, H.h0, H.cn, H.c0, H.ln, H.l0, H.u0, H.u1, H.tm, H.b0, H.ckn, H.ckc, H.wyn, H.wyc, H.dr⟩
def numT (t : Nat) : Int := (t : Int) * 7919 % 10007 * (if t % 2 = 0 then 1 else 10 ^ 20)
theorem numT_b (t : Nat) : 0 ≤ numT t ∧ numT t < 10 ^ 25 := by
  unfold numT
  have h0 : 0 ≤ (t : Int) * 7919 % 10007 := Int.emod_nonneg _ (by decide)
  have h1 : (t : Int) * 7919 % 10007 < 10007 := Int.emod_lt_of_pos _ (by decide)
  split <;> omega
theorem numT_at (t : Nat) : L2.atI [PyData.int 1, .int (10 ^ Int.toNat 20)] ((t : Int) % 2) = some (.int (if t % 2 = 0 then 1 else 10 ^ 20)) := by
  have h20 : (10 : Int) ^ Int.toNat 20 = 10 ^ 20 := rfl
  rw [h20]
  rcases Nat.mod_two_eq_zero_or_one t with h | h
  · rw [h, show (t : Int) % 2 = 0 by omega]
    rfl
  · rw [h, show (t : Int) % 2 = 1 by omega]
    rfl
def pgLeB (a b : Page) : Bool := decide (a.day < b.day ∨ (a.day = b.day ∧ a.num ≤ b.num))
def hpP (ps : List Page) : List Page := ps.mergeSort pgLeB
theorem heapL_eq (ps : List Page) : heapL ps = (hpP ps).map pgD := by
  unfold heapL hpP sortKD
  refine (List.map_mergeSort fun a _ b _ => ?_).symm
  have := congrFun (congrFun (PySem.W.dataLe_ii (β := Page) (fun p => p.day) (fun p => p.num)) a) b
  exact this.symm
theorem hpP_perm (ps : List Page) : (hpP ps).Perm ps := List.mergeSort_perm _ _
def hD (h : List Page) : D := .list (h.map pgD)
inductive Rec
  | said (n : Int)
  | unsaid (p : Page)
  | retold (p l : Page)
def recO : Rec → MO
  | .said n => .ins (.obj "SaidDeed") [("number", .da (.int n))]
  | .unsaid p => .ins (.obj "UnsaidDeed") [("number", .da (.int p.num)), ("page", .da (pgD p))]
  | .retold p l => .ins (.obj "RetoldDeed") [("number", .da (.int p.num)), ("page", .da (pgD p)), ("later", .da (pgD l))]
theorem recO_ne (r : Rec) : recO r ≠ .gone := by cases r <;> (intro z; cases z)
def muS (l : List Nat) : List (Str × En) := l.map fun i => sq (.mu i)
structure FrB (ms ms' : List MO) (S : List Nat) : Prop where
  len : ms.length ≤ ms'.length
  eq : ∀ j, j < ms.length → j ∉ S → gm ms' j = gm ms j
theorem FrB.refl {ms : List MO} {S : List Nat} : FrB ms ms S := ⟨Nat.le_refl _, fun _ _ _ => rfl⟩
theorem FrB.app {ms r : List MO} {S : List Nat} : FrB ms (ms ++ r) S := ⟨by rw [List.length_append]; omega, fun j h _ => gm_app_lt h⟩
theorem FrB.set {ms : List MO} {S : List Nat} {i : Nat} {m : MO} (h : i ∈ S) : FrB ms (sm ms i m) S := ⟨by rw [sm_length]; exact Nat.le_refl _, fun j _ n => gm_sm_ne fun e => n (e ▸ h)⟩
theorem FrB.trans {a b c : List MO} {S : List Nat} (h : FrB a b S) (g : FrB b c S) : FrB a c S := ⟨Nat.le_trans h.len g.len, fun j l n => (g.eq j (Nat.lt_of_lt_of_le l h.len) n).trans (h.eq j l n)⟩
theorem FrB.mono {a b : List MO} {S S' : List Nat} (h : FrB a b S) (hs : ∀ i ∈ S, i ∈ S') : FrB a b S' := ⟨h.len, fun j l n => h.eq j l fun z => n (hs j z)⟩
theorem FrB.at {a b : List MO} {S : List Nat} (h : FrB a b S) {j : Nat} {x : MO} (g : gm a j = x) (hx : x ≠ .gone) (n : j ∉ S) : gm b j = x := (h.eq j (gm_lt' g hx) n).trans g
structure BkR (ms : List MO) (p : Nat) (t : D) (bp : List Page) (rs : List (Nat × Rec)) (st : List (List Page)) : Prop where
  g0 : gm ms p = .ins (.obj "Book") (bkF p t)
  g1 : gm ms (p + 1) = .dct (pgK bp)
  g2 : gm ms (p + 2) = .ins .lst (muS (rs.map (·.1)))
  g3 : gm ms (p + 3) = .lst (st.map hD)
  gr : ∀ r ∈ rs, gm ms r.1 = recO r.2
  nd : (bp.map (·.num)).Nodup
def kF (q kj : Nat) (t0 : D) : List (Str × En) := [("book", .mu (q + 3)), ("own", .mu (q + 1)), ("pages", .mu kj), ("past", .mu (q + 8)), ("states", .mu (q + 9)), ("terms", .da t0)]
structure KpR (ms : List MO) (q : Nat) (t0 : D) (kj : Nat) (kp : List Page) (ks : List (Nat × List Page)) (st : List (List Page)) : Prop where
  g0 : gm ms (q + 2) = .ins .dct (kF q kj t0)
  g8 : gm ms (q + 8) = .ins .lst (muS (ks.map (·.1)))
  g9 : gm ms (q + 9) = .lst (st.map hD)
  gk : gm ms kj = .dct (pgK kp)
  gs : ∀ r ∈ ks, gm ms r.1 = .dct (pgK r.2)
  lo : q + 7 ≤ kj
  ls : ∀ r ∈ ks, q + 7 ≤ r.1
  ne : kj ∉ ks.map (·.1)
  ns : (ks.map (·.1)).Nodup
  nd : (kp.map (·.num)).Nodup
theorem BkR.fr {ms ms' : List MO} {p : Nat} {t : D} {bp : List Page} {rs : List (Nat × Rec)} {st : List (List Page)} {S : List Nat} (h : BkR ms p t bp rs st) (f : FrB ms ms' S) (n0 : p ∉ S) (n1 : p + 1 ∉ S) (n2 : p + 2 ∉ S) (n3 : p + 3 ∉ S) (nr : ∀ r ∈ rs, r.1 ∉ S) : BkR ms' p t bp rs st :=
  ⟨f.at h.g0 (fun z => nomatch z) n0, f.at h.g1 (fun z => nomatch z) n1, f.at h.g2 (fun z => nomatch z) n2, f.at h.g3 (fun z => nomatch z) n3, fun r hr => f.at (h.gr r hr) (recO_ne _) (nr r hr), h.nd⟩
theorem KpR.fr {ms ms' : List MO} {q : Nat} {t0 : D} {kj : Nat} {kp : List Page} {ks : List (Nat × List Page)} {st : List (List Page)} {S : List Nat} (h : KpR ms q t0 kj kp ks st) (f : FrB ms ms' S) (n0 : q + 2 ∉ S) (n8 : q + 8 ∉ S) (n9 : q + 9 ∉ S) (nk : kj ∉ S) (ns : ∀ r ∈ ks, r.1 ∉ S) : KpR ms' q t0 kj kp ks st :=
  ⟨f.at h.g0 (fun z => nomatch z) n0, f.at h.g8 (fun z => nomatch z) n8, f.at h.g9 (fun z => nomatch z) n9, f.at h.gk (fun z => nomatch z) nk, fun r hr => f.at (h.gs r hr) (fun z => nomatch z) (ns r hr), h.lo, h.ls, h.ne, h.ns, h.nd⟩
theorem KpR.d {ms : List MO} {q : Nat} {t0 : D} {kj : Nat} {kp : List Page} {ks : List (Nat × List Page)} {st : List (List Page)} (h : KpR ms q t0 kj kp ks st) {f : Str} {y : En} (g : getT (kF q kj t0) f = some y) : dvl ms (q + 2) (.inr f) = some (some y) := by
  unfold dvl
  rw [h.g0]
  exact congrArg some g
theorem KpR.pages {ms : List MO} {q : Nat} {t0 : D} {kj : Nat} {kp : List Page} {ks : List (Nat × List Page)} {st : List (List Page)} (h : KpR ms q t0 kj kp ks st) : dvl ms (q + 2) (.inr "pages") = some (some (.mu kj)) := h.d rfl
theorem KpR.past {ms : List MO} {q : Nat} {t0 : D} {kj : Nat} {kp : List Page} {ks : List (Nat × List Page)} {st : List (List Page)} (h : KpR ms q t0 kj kp ks st) : dvl ms (q + 2) (.inr "past") = some (some (.mu (q + 8))) := h.d rfl
theorem KpR.states {ms : List MO} {q : Nat} {t0 : D} {kj : Nat} {kp : List Page} {ks : List (Nat × List Page)} {st : List (List Page)} (h : KpR ms q t0 kj kp ks st) : dvl ms (q + 2) (.inr "states") = some (some (.mu (q + 9))) := h.d rfl
theorem KpR.book {ms : List MO} {q : Nat} {t0 : D} {kj : Nat} {kp : List Page} {ks : List (Nat × List Page)} {st : List (List Page)} (h : KpR ms q t0 kj kp ks st) : dvl ms (q + 2) (.inr "book") = some (some (.mu (q + 3))) := h.d rfl
theorem gm_split : ∀ {ms : List MO} {p : Nat} {x : MO}, gm ms p = x → x ≠ .gone → ms = ms.take p ++ x :: ms.drop (p + 1)
  | [], _, _, h, hx => absurd h.symm hx
  | y :: r, 0, x, h, hx => by cases h; rfl
  | y :: r, p + 1, x, h, hx => congrArg (y :: ·) (gm_split (ms := r) (p := p) h hx)
theorem BkR.form {ms : List MO} {p : Nat} {t : D} {bp : List Page} {rs : List (Nat × Rec)} {st : List (List Page)} (h : BkR ms p t bp rs st) : ms = bkMs (ms.take p) ⟨t, pgK bp, muS (rs.map (·.1)), st.map hD⟩ (ms.drop (p + 4)) ∧ (ms.take p).length = p := by
  have l3 : p + 3 < ms.length := gm_lt' h.g3 (fun z => nomatch z)
  have hl : (ms.take p).length = p := by rw [List.length_take]; omega
  refine ⟨?_, hl⟩
  have dr : ∀ k x, gm ms (p + k) = x → x ≠ .gone → ms.drop (p + k) = x :: ms.drop (p + (k + 1)) := fun k x g hx => by
    have e := gm_split g hx
    have l : (ms.take (p + k)).length = p + k := by
      rw [List.length_take]
      have := gm_lt' g hx
      omega
    conv => lhs; rw [e]
    rw [List.drop_append_of_le_length (by omega), List.drop_of_length_le (by omega), List.nil_append]
    rfl
  unfold bkMs bkC
  rw [hl]
  conv => lhs; rw [← List.take_append_drop p ms]
  refine congrArg (ms.take p ++ ·) ?_
  rw [show ms.drop p = ms.drop (p + 0) from rfl, dr 0 _ h.g0 (fun z => nomatch z), dr 1 _ h.g1 (fun z => nomatch z), dr 2 _ h.g2 (fun z => nomatch z), dr 3 _ h.g3 (fun z => nomatch z)]
  rfl
theorem bk_frame {pre tl tl' : List MO} {B B' : BkP} : FrB (bkMs pre B tl) (bkMs pre B' (tl ++ tl')) [pre.length, pre.length + 1, pre.length + 2, pre.length + 3] := by
  have l0 : (bkMs pre B tl).length = pre.length + (4 + tl.length) := by
    unfold bkMs bkC
    simp only [List.length_append, List.length_cons, List.length_nil]
  refine ⟨by unfold bkMs bkC; simp only [List.length_append, List.length_cons, List.length_nil]; omega, fun j hj n => ?_⟩
  rw [l0] at hj
  simp only [List.mem_cons, List.not_mem_nil, or_false, not_or] at n
  by_cases h : j < pre.length
  · exact (gm_low h).trans (gm_low h).symm
  · obtain ⟨k, rfl⟩ : ∃ k, j = pre.length + (k + 4) := ⟨j - pre.length - 4, by omega⟩
    refine (gm_pre pre _ (k + 4)).trans ?_
    refine Eq.trans ?_ (gm_pre pre _ (k + 4)).symm
    show gm (tl ++ tl') k = gm tl k
    exact gm_app_lt (by omega)
theorem sk_say : sOk (Str.ofString "say") := by unfold sOk; decide +kernel
theorem sk_retell : sOk (Str.ofString "retell") := by unfold sOk; decide +kernel
theorem fit_say : fitD [.str (Str.ofString "say")] := fit_str sk_say
theorem fit_two : fitD [.str (Str.ofString "say"), .str (Str.ofString "retell")] := fit_strs (F := [Str.ofString "say", Str.ofString "retell"]) fun x hx => by
  rcases List.mem_cons.mp hx with rfl | hx
  · exact sk_say
  · rw [List.mem_singleton.mp hx]
    exact sk_retell
theorem ne_of_gm {ms : List MO} {i j : Nat} {x y : MO} (g : gm ms i = x) (h : gm ms j = y) (n : x ≠ y) : i ≠ j := fun e => n (by rw [← g, ← h, e])
theorem nd_snoc {l : List Page} {p : Page} (nd : (l.map (·.num)).Nodup) (h : p.num ∉ l.map (·.num)) : ((l ++ [p]).map (·.num)).Nodup := by
  rw [List.map_append]
  refine List.nodup_append.mpr ⟨nd, by simp, fun a ha b hb e => ?_⟩
  have hb : b = p.num := by simpa using hb
  exact h (by rw [← hb, ← e]; exact ha)
section
variable {ms : List MO} {q : Nat} {t0 : D} {kj : Nat} {kp : List Page} {ks : List (Nat × List Page)} {st : List (List Page)}
theorem KpR.k8 (K : KpR ms q t0 kj kp ks st) : kj ≠ q + 8 := ne_of_gm K.gk K.g8 (fun z => nomatch z)
theorem KpR.k9 (K : KpR ms q t0 kj kp ks st) : kj ≠ q + 9 := ne_of_gm K.gk K.g9 (fun z => nomatch z)
theorem KpR.s8 (K : KpR ms q t0 kj kp ks st) {r : Nat × List Page} (hr : r ∈ ks) : r.1 ≠ q + 8 := ne_of_gm (K.gs r hr) K.g8 (fun z => nomatch z)
theorem KpR.s9 (K : KpR ms q t0 kj kp ks st) {r : Nat × List Page} (hr : r ∈ ks) : r.1 ≠ q + 9 := ne_of_gm (K.gs r hr) K.g9 (fun z => nomatch z)
def pastM (ms : List MO) (q : Nat) (kp : List Page) (ks : List (Nat × List Page)) : List MO := sm (ms ++ [.dct (pgK kp)]) (q + 8) (.ins .lst (muS (ks.map (·.1)) ++ [sq (.mu ms.length)]))
theorem KpR.kept (K : KpR ms q t0 kj kp ks st) : FrB ms (pastM ms q kp ks) [q + 8] ∧ KpR (pastM ms q kp ks) q t0 kj kp (ks ++ [(ms.length, kp)]) st := by
  have F : FrB ms (pastM ms q kp ks) [q + 8] := FrB.app.trans (FrB.set (.head _))
  have l8 : q + 8 < ms.length := gm_lt' K.g8 (fun z => nomatch z)
  have lk : kj < ms.length := gm_lt' K.gk (fun z => nomatch z)
  have ls : ∀ r ∈ ks, r.1 < ms.length := fun r hr => gm_lt' (K.gs r hr) (fun z => nomatch z)
  have o1 : ∀ j : Nat, j ≠ q + 8 → j ∉ [q + 8] := fun j h z => h (List.mem_singleton.mp z)
  refine ⟨F, F.at K.g0 (fun z => nomatch z) (o1 _ (by omega)), ?_, F.at K.g9 (fun z => nomatch z) (o1 _ (by omega)), F.at K.gk (fun z => nomatch z) (o1 _ K.k8), fun r hr => ?_, K.lo, fun r hr => ?_, ?_, ?_, K.nd⟩
  · unfold pastM
    rw [gm_sm_self (by rw [List.length_append]; exact Nat.lt_add_right _ l8), List.map_append]
    unfold muS
    rw [List.map_append]
    rfl
  · rcases List.mem_append.mp hr with hr | hr
    · exact F.at (K.gs r hr) (fun z => nomatch z) (o1 _ (K.s8 hr))
    · rw [List.mem_singleton.mp hr]
      unfold pastM
      rw [gm_sm_ne (by show q + 8 ≠ ms.length; omega)]
      exact gm_at0
  · rcases List.mem_append.mp hr with hr | hr
    · exact K.ls r hr
    · rw [List.mem_singleton.mp hr]
      show q + 7 ≤ ms.length
      omega
  · rw [List.map_append]
    intro z
    rcases List.mem_append.mp z with z | z
    · exact K.ne z
    · have : kj = ms.length := by simpa using z
      omega
  · rw [List.map_append]
    refine List.nodup_append.mpr ⟨K.ns, by simp, fun a ha b hb e => ?_⟩
    obtain ⟨r, hr, rfl⟩ := List.mem_map.mp ha
    have := ls r hr
    have hb : b = ms.length := by simpa using hb
    omega
theorem KpR.to (K : KpR ms q t0 kj kp ks st) {kp' : List Page} (nd : (kp'.map (·.num)).Nodup) : FrB ms (sm ms kj (.dct (pgK kp'))) [kj] ∧ KpR (sm ms kj (.dct (pgK kp'))) q t0 kj kp' ks st := by
  have F : FrB ms (sm ms kj (.dct (pgK kp'))) [kj] := FrB.set (.head _)
  have lk : kj < ms.length := gm_lt' K.gk (fun z => nomatch z)
  have lo := K.lo
  have o1 : ∀ j : Nat, j ≠ kj → j ∉ [kj] := fun j h z => h (List.mem_singleton.mp z)
  exact ⟨F, F.at K.g0 (fun z => nomatch z) (o1 _ (by omega)), F.at K.g8 (fun z => nomatch z) (o1 _ (Ne.symm K.k8)), F.at K.g9 (fun z => nomatch z) (o1 _ (Ne.symm K.k9)), gm_sm_self lk, fun r hr => F.at (K.gs r hr) (fun z => nomatch z) (o1 _ fun e => K.ne (List.mem_map.mpr ⟨r, hr, e⟩)), K.lo, K.ls, K.ne, K.ns, nd⟩
theorem KpR.known (K : KpR ms q t0 kj kp ks st) (h : List Page) : FrB ms (sm ms (q + 9) (.lst (st.map hD ++ [hD h]))) [q + 9] ∧ KpR (sm ms (q + 9) (.lst (st.map hD ++ [hD h]))) q t0 kj kp ks (st ++ [h]) := by
  have F : FrB ms (sm ms (q + 9) (.lst (st.map hD ++ [hD h]))) [q + 9] := FrB.set (.head _)
  have l9 : q + 9 < ms.length := gm_lt' K.g9 (fun z => nomatch z)
  have o1 : ∀ j : Nat, j ≠ q + 9 → j ∉ [q + 9] := fun j h z => h (List.mem_singleton.mp z)
  exact ⟨F, F.at K.g0 (fun z => nomatch z) (o1 _ (by omega)), F.at K.g8 (fun z => nomatch z) (o1 _ (by omega)), (gm_sm_self l9).trans (by rw [List.map_append]; rfl), F.at K.gk (fun z => nomatch z) (o1 _ K.k9), fun r hr => F.at (K.gs r hr) (fun z => nomatch z) (o1 _ (K.s9 hr)), K.lo, K.ls, K.ne, K.ns, K.nd⟩
end
theorem recO_bk (r : Rec) {p : Nat} {t : D} : recO r ≠ .ins (.obj "Book") (bkF p t) := by
  cases r <;> (intro z; injection z with z1 z2; injection z1 with z1; exact absurd z1 (by decide))
theorem recO_lst (r : Rec) {fs : List (Str × En)} : recO r ≠ .ins .lst fs := by
  cases r <;> (intro z; injection z with z1 z2; cases z1)
section
variable {ms : List MO} {b : Nat} {t : D} {bp : List Page} {rs : List (Nat × Rec)} {st : List (List Page)}
theorem BkR.rn (R : BkR ms b t bp rs st) {r : Nat × Rec} (hr : r ∈ rs) : r.1 ∉ [b, b + 1, b + 2, b + 3] := fun z => by
  have g := R.gr r hr
  rcases List.mem_cons.mp z with e | z
  · exact ne_of_gm g R.g0 (recO_bk _) e
  rcases List.mem_cons.mp z with e | z
  · exact ne_of_gm g R.g1 (by cases r.2 <;> (intro z; cases z)) e
  rcases List.mem_cons.mp z with e | z
  · exact ne_of_gm g R.g2 (recO_lst _) e
  · exact ne_of_gm g R.g3 (by cases r.2 <;> (intro z; cases z)) (List.mem_singleton.mp z)
theorem BkR.more (R : BkR ms b t bp rs st) {bp' : List Page} {rec : Rec} {h : List Page} (nd : (bp'.map (·.num)).Nodup) :
    FrB ms (bkMs (ms.take b) ⟨t, pgK bp', muS (rs.map (·.1)) ++ [sq (.mu ms.length)], st.map hD ++ [hD h]⟩ (ms.drop (b + 4) ++ [recO rec])) [b, b + 1, b + 2, b + 3] ∧
    BkR (bkMs (ms.take b) ⟨t, pgK bp', muS (rs.map (·.1)) ++ [sq (.mu ms.length)], st.map hD ++ [hD h]⟩ (ms.drop (b + 4) ++ [recO rec])) b t bp' (rs ++ [(ms.length, rec)]) (st ++ [h]) := by
  obtain ⟨fm, fl⟩ := R.form
  have F := bk_frame (pre := ms.take b) (tl := ms.drop (b + 4)) (tl' := [recO rec]) (B := ⟨t, pgK bp, muS (rs.map (·.1)), st.map hD⟩) (B' := ⟨t, pgK bp', muS (rs.map (·.1)) ++ [sq (.mu ms.length)], st.map hD ++ [hD h]⟩)
  rw [← fm, fl] at F
  have x0 := b_0 (pre := ms.take b) (B := ⟨t, pgK bp', muS (rs.map (·.1)) ++ [sq (.mu ms.length)], st.map hD ++ [hD h]⟩) (tl := ms.drop (b + 4) ++ [recO rec])
  have x1 := b_1 (pre := ms.take b) (B := ⟨t, pgK bp', muS (rs.map (·.1)) ++ [sq (.mu ms.length)], st.map hD ++ [hD h]⟩) (tl := ms.drop (b + 4) ++ [recO rec])
  have x2 := b_2 (pre := ms.take b) (B := ⟨t, pgK bp', muS (rs.map (·.1)) ++ [sq (.mu ms.length)], st.map hD ++ [hD h]⟩) (tl := ms.drop (b + 4) ++ [recO rec])
  have x3 := b_3 (pre := ms.take b) (B := ⟨t, pgK bp', muS (rs.map (·.1)) ++ [sq (.mu ms.length)], st.map hD ++ [hD h]⟩) (tl := ms.drop (b + 4) ++ [recO rec])
  rw [fl] at x0 x1 x2 x3
  refine ⟨F, x0, x1, x2.trans ?_, x3.trans ?_, fun r hr => ?_, nd⟩
  · unfold muS
    rw [List.map_append, List.map_append]
    rfl
  · rw [List.map_append]
    rfl
  · rcases List.mem_append.mp hr with hr | hr
    · exact F.at (R.gr r hr) (recO_ne _) (R.rn hr)
    · rw [List.mem_singleton.mp hr]
      show gm _ ms.length = recO rec
      rw [← b_app]
      have el : (bkMs (ms.take b) ⟨t, pgK bp', muS (rs.map (·.1)) ++ [sq (.mu ms.length)], st.map hD ++ [hD h]⟩ (ms.drop (b + 4))).length = ms.length := by
        conv => rhs; rw [fm]
        unfold bkMs bkC
        simp only [List.length_append, List.length_cons, List.length_nil]
      have g := gm_at0 (ms := bkMs (ms.take b) ⟨t, pgK bp', muS (rs.map (·.1)) ++ [sq (.mu ms.length)], st.map hD ++ [hD h]⟩ (ms.drop (b + 4))) (x := recO rec) (r := [])
      rw [el] at g
      exact g
end
def pgOk (p : Page) : Prop := sOk p.house ∧ Ok2 2 (dD p.deed)
theorem pgOk.ok {p : Page} (h : pgOk p) : Ok2 6 (pgD p) := .tup (allC .int (allC .int (allC (.str h.1) (allC (h.2.mono (by decide)) allN)))) (Nat.le_of_ble_eq_true rfl)
theorem hp_ok {ps : List Page} (h : ∀ x ∈ ps, pgOk x) (hl : ps.length ≤ 900) : Ok2 7 (hD (hpP ps)) := .map (fun x hx => (h x ((hpP_perm ps).mem_iff.mp hx)).ok) (by rw [(hpP_perm ps).length_eq]; omega)
theorem Ok2.sh {k : Nat} {d : D} (h : Ok2 k d) (hk : k ≤ 20) : SeqAt.shaped d = true := shaped_of h.ok (Nat.le_trans h.dp (Nat.le_trans hk (by decide)))
theorem Ok2.refl {k : Nat} {d : D} (h : Ok2 k d) : PyData.eqv d d = true := SeqAt.eqv_refl _ (okS_lay h.ok)
theorem at_last {l : List (List Page)} {h : List Page} (e : l[l.length - 1]? = some h) : L2.atI (l.map hD) (-1) = some (hD h) := by
  have l0 : 0 < l.length := by
    cases l with
    | nil => cases e
    | cons _ _ => exact Nat.succ_pos _
  have e1 : L2.ixN l.length (-1) = some (l.length - 1) := by
    unfold L2.ixN
    rw [if_neg (by decide)]
    split
    · refine congrArg some ?_
      omega
    · omega
  unfold L2.atI
  rw [List.length_map, e1]
  show (l.map hD)[l.length - 1]? = _
  rw [List.getElem?_map, e]
  rfl
theorem recO_l (r : Rec) {ds : List D} : recO r ≠ .lst ds := by cases r <;> (intro z; cases z)
theorem recO_dct (r : Rec) {kvs : List (Key × D)} : recO r ≠ .dct kvs := by cases r <;> (intro z; cases z)
theorem KpR.bk {ms ms' : List MO} {q : Nat} {t0 : D} {kj : Nat} {kp : List Page} {ks : List (Nat × List Page)} {st : List (List Page)} (K : KpR ms q t0 kj kp ks st) (F : FrB ms ms' [q + 3, q + 3 + 1, q + 3 + 2, q + 3 + 3]) : KpR ms' q t0 kj kp ks st := by
  have lo := K.lo
  have off : ∀ x : Nat, x ≠ q + 3 → x ≠ q + 4 → x ≠ q + 5 → x ≠ q + 6 → x ∉ [q + 3, q + 3 + 1, q + 3 + 2, q + 3 + 3] := fun x a b c d z => by
    simp only [List.mem_cons, List.not_mem_nil, or_false] at z
    omega
  exact K.fr F (off _ (by omega) (by omega) (by omega) (by omega)) (off _ (by omega) (by omega) (by omega) (by omega)) (off _ (by omega) (by omega) (by omega) (by omega)) (off _ (by omega) (by omega) (by omega) (by omega)) fun r hr => by
    have := K.ls r hr
    exact off _ (by omega) (by omega) (by omega) (by omega)
theorem BkR.kp {ms ms' : List MO} {q : Nat} {t t0 : D} {kj : Nat} {bp kp : List Page} {rs : List (Nat × Rec)} {ks : List (Nat × List Page)} {st st' : List (List Page)} (R : BkR ms (q + 3) t bp rs st') (K : KpR ms q t0 kj kp ks st) (F : FrB ms ms' [q + 8, q + 9, kj]) : BkR ms' (q + 3) t bp rs st' := by
  have lo := K.lo
  have off : ∀ x : Nat, x ≠ q + 8 → x ≠ q + 9 → x ≠ kj → x ∉ [q + 8, q + 9, kj] := fun x a b c z => by
    simp only [List.mem_cons, List.not_mem_nil, or_false] at z
    omega
  exact R.fr F (off _ (by omega) (by omega) (by omega)) (off _ (by omega) (by omega) (by omega)) (off _ (by omega) (by omega) (by omega)) (off _ (by omega) (by omega) (by omega)) fun r hr => off _ (ne_of_gm (R.gr r hr) K.g8 (recO_lst _)) (ne_of_gm (R.gr r hr) K.g9 (recO_l _)) (ne_of_gm (R.gr r hr) K.gk (recO_dct _))
def begM (q : Nat) (rts : List (Int × Int)) (lim : Int × Int) (most : Int) : List MO := [.lst (rts.map prD), .ins .tup [sq (.mu q), sq (.da (.tuple [.int lim.1, .int lim.2])), sq (.da (.int most))], .ins .dct (kF q (q + 7) (tmB rts lim most)),
  .ins (.obj "Book") (bkF (q + 3) (tmB rts lim most)), .dct [], .ins .lst [], .lst [.list []], .dct [], .ins .lst [], .lst [.list []]]
theorem begM_ok (ms r : List MO) (rts : List (Int × Int)) (lim : Int × Int) (most : Int) : KpR (ms ++ begM ms.length rts lim most ++ r) ms.length (tmB rts lim most) (ms.length + 7) [] [] [[]] ∧ BkR (ms ++ begM ms.length rts lim most ++ r) (ms.length + 3) (tmB rts lim most) [] [] [[]] := by
  rw [List.append_assoc]
  exact ⟨⟨gm_pre ms _ 2, gm_pre ms _ 8, gm_pre ms _ 9, gm_pre ms _ 7, fun r hr => (by cases hr), Nat.le_refl _, fun r hr => (by cases hr), by simp, .nil, .nil⟩, ⟨gm_pre ms _ 3, gm_pre ms _ 4, gm_pre ms _ 5, gm_pre ms _ 6, fun r hr => (by cases hr), .nil⟩⟩
theorem pgOk_of {W : BW} {B B' : Int} {p : Page} (H : WOk W B) (hh : p.house ∈ W.hs) (hd : dOkB W B' p.deed) : pgOk p := by
  have lit : ∀ x : String, sOk (Str.ofString x) → ∀ k, Ok2 (k + 1) (.str (Str.ofString x)) := fun x h k => .str h
  have cs : ∀ c ∈ W.cs, ∀ k, Ok2 (k + 1) (.str c) := fun c h k => .str (H.cn.1.ok c h)
  have hs : ∀ c ∈ W.hs, ∀ k, Ok2 (k + 1) (.str c) := fun c h k => .str (H.hn.1.ok c h)
  have ls : ∀ c ∈ W.ls, ∀ k, Ok2 (k + 1) (.str c) := fun c h k => .str (H.ln.1.ok c h)
  have dd : Ok2 2 (dD p.deed) := by
    revert hd
    cases p.deed with
    | lay c l b q => exact fun h => .tup (allC (lit _ (by unfold sOk; decide +kernel) _) (allC (cs _ h.1 _) (allC (ls _ h.2.1 _) (allC .int (allC .int allN))))) (Nat.le_of_ble_eq_true rfl)
    | draw c b => exact fun h => .tup (allC (lit _ (by unfold sOk; decide +kernel) _) (allC (cs _ h.1 _) (allC .int allN))) (Nat.le_of_ble_eq_true rfl)
    | back q => exact fun h => .tup (allC (lit _ (by unfold sOk; decide +kernel) _) (allC .int allN)) (Nat.le_of_ble_eq_true rfl)
    | pour c o b => exact fun h => .tup (allC (lit _ (by unfold sOk; decide +kernel) _) (allC (cs _ h.1 _) (allC (cs _ h.2.1 _) (allC .int allN)))) (Nat.le_of_ble_eq_true rfl)
    | water c b => exact fun h => .tup (allC (lit _ (by unfold sOk; decide +kernel) _) (allC (cs _ h.1 _) (allC .int allN))) (Nat.le_of_ble_eq_true rfl)
    | sample c b => exact fun h => .tup (allC (lit _ (by unfold sOk; decide +kernel) _) (allC (cs _ h.1 _) (allC .int allN))) (Nat.le_of_ble_eq_true rfl)
    | gauge c b q => exact fun h => .tup (allC (lit _ (by unfold sOk; decide +kernel) _) (allC (cs _ h.1 _) (allC .int (allC .int allN)))) (Nat.le_of_ble_eq_true rfl)
    | come c b q => exact fun h => .tup (allC (lit _ (by unfold sOk; decide +kernel) _) (allC (cs _ h.1 _) (allC .int (allC .int allN)))) (Nat.le_of_ble_eq_true rfl)
    | send c f => exact fun h => .tup (allC (lit _ (by unfold sOk; decide +kernel) _) (allC (cs _ h.1 _) (allC (hs _ h.2 _) allN))) (Nat.le_of_ble_eq_true rfl)
    | fin => exact fun h => .tup (allC (lit _ (by unfold sOk; decide +kernel) _) allN) (Nat.le_of_ble_eq_true rfl)
  exact ⟨H.hn.1.ok _ hh, dd⟩
theorem pgLeB_iff {a b : Page} : pgLeB a b = true ↔ a.day < b.day ∨ (a.day = b.day ∧ a.num ≤ b.num) := by
  unfold pgLeB
  exact decide_eq_true_iff
theorem num_inj : ∀ {l : List Page}, (l.map (·.num)).Nodup → ∀ a ∈ l, ∀ b ∈ l, a.num = b.num → a = b
  | [], _, a, ha, _, _, _ => by cases ha
  | x :: l, nd, a, ha, b, hb, e => by
    rw [List.map_cons] at nd
    obtain ⟨n1, n2⟩ := List.nodup_cons.mp nd
    rcases List.mem_cons.mp ha with ea | ha2
    · rcases List.mem_cons.mp hb with eb | hb2
      · rw [ea, eb]
      · exact (n1 (List.mem_map.mpr ⟨b, hb2, by rw [← ea, e]⟩)).elim
    · rcases List.mem_cons.mp hb with eb | hb2
      · exact (n1 (List.mem_map.mpr ⟨a, ha2, by rw [← eb, e]⟩)).elim
      · exact num_inj n2 a ha2 b hb2 e
theorem hpP_pw (ps : List Page) : (hpP ps).Pairwise fun a b => pgLeB a b = true := by
  unfold hpP
  refine List.pairwise_mergeSort (fun a b c h1 h2 => ?_) (fun a b => ?_) ps
  · rw [pgLeB_iff] at h1 h2 ⊢
    omega
  · rw [Bool.or_eq_true, pgLeB_iff, pgLeB_iff]
    omega
theorem hpP_eq {ps qs : List Page} (h : ps.Perm qs) (nd : (qs.map (·.num)).Nodup) : hpP ps = hpP qs := by
  refine List.Perm.eq_of_pairwise (le := fun a b => pgLeB a b = true) (fun a b ha hb h1 h2 => ?_) (hpP_pw ps) (hpP_pw qs) (((hpP_perm ps).trans h).trans (hpP_perm qs).symm)
  rw [pgLeB_iff] at h1 h2
  have ha' : a ∈ qs := h.mem_iff.mp ((hpP_perm ps).mem_iff.mp ha)
  have hb' : b ∈ qs := (hpP_perm qs).mem_iff.mp hb
  exact num_inj nd a ha' b hb' (by omega)
def dropP (ps : List Page) (n : Int) : List Page := ps.filter fun p => decide (p.num ≠ n)
theorem dropP_K {ps : List Page} {n : Int} : dropD (pgK ps) (.inl n) = pgK (dropP ps n) := by
  unfold dropD dropP pgK
  induction ps with
  | nil => rfl
  | cons p ps ih =>
    rw [List.map_cons, List.filter_cons, List.filter_cons]
    have e : decide (((Sum.inl p.num, pgD p) : Key × D).1 ≠ .inl n) = decide (p.num ≠ n) := decide_eq_decide.mpr ⟨fun z y => z (congrArg Sum.inl y), fun z y => z (Sum.inl.inj y)⟩
    rw [e, ih]
    by_cases q : decide (p.num ≠ n) = true
    · rw [if_pos q, if_pos q]
      rfl
    · rw [if_neg q, if_neg q]
theorem dropP_mem {ps : List Page} {n : Int} {p : Page} : p ∈ dropP ps n ↔ p ∈ ps ∧ p.num ≠ n := by
  unfold dropP
  rw [List.mem_filter, decide_eq_true_iff]
theorem dropP_num {ps : List Page} {n k : Int} : k ∈ (dropP ps n).map (·.num) ↔ k ∈ ps.map (·.num) ∧ k ≠ n := by
  constructor
  · intro h
    obtain ⟨p, hp, rfl⟩ := List.mem_map.mp h
    obtain ⟨h1, h2⟩ := dropP_mem.mp hp
    exact ⟨List.mem_map.mpr ⟨p, h1, rfl⟩, h2⟩
  · rintro ⟨h, n1⟩
    obtain ⟨p, hp, rfl⟩ := List.mem_map.mp h
    exact List.mem_map.mpr ⟨p, dropP_mem.mpr ⟨hp, n1⟩, rfl⟩
theorem dropP_nd {ps : List Page} {n : Int} (nd : (ps.map (·.num)).Nodup) : ((dropP ps n).map (·.num)).Nodup := by
  unfold dropP
  induction ps with
  | nil => exact nd
  | cons p ps ih =>
    rw [List.map_cons] at nd
    obtain ⟨n1, n2⟩ := List.nodup_cons.mp nd
    rw [List.filter_cons]
    split
    · rw [List.map_cons]
      refine List.nodup_cons.mpr ⟨fun z => n1 ?_, ih n2⟩
      obtain ⟨q, hq, e⟩ := List.mem_map.mp z
      exact List.mem_map.mpr ⟨q, (List.mem_filter.mp hq).1, e⟩
    · exact ih n2
theorem dropP_len {ps : List Page} {n : Int} : (dropP ps n).length ≤ ps.length := List.length_filter_le _ _
theorem dropP_all {ps : List Page} {n : Int} (h : n ∉ ps.map (·.num)) : dropP ps n = ps := List.filter_eq_self.mpr fun p hp => decide_eq_true fun e => h (List.mem_map.mpr ⟨p, hp, e⟩)
theorem dropP_snoc {ps : List Page} {p : Page} (h : p.num ∉ ps.map (·.num)) : dropP (ps ++ [p]) p.num = ps := by
  unfold dropP
  rw [List.filter_append]
  have e : [p].filter (fun q => decide (q.num ≠ p.num)) = [] := by simp
  rw [e, List.append_nil]
  exact dropP_all h
theorem dropP_perm {ps qs : List Page} {n : Int} (h : ps.Perm qs) : (dropP ps n).Perm (dropP qs n) := h.filter _
theorem dropP_back {ps : List Page} {q : Page} (nd : (ps.map (·.num)).Nodup) (hq : q ∈ ps) : (dropP ps q.num ++ [q]).Perm ps := by
  induction ps with
  | nil => cases hq
  | cons p ps ih =>
    rw [List.map_cons] at nd
    obtain ⟨n1, n2⟩ := List.nodup_cons.mp nd
    unfold dropP at ih ⊢
    rw [List.filter_cons]
    rcases List.mem_cons.mp hq with rfl | hq
    · have e : dropP ps q.num = ps := dropP_all n1
      unfold dropP at e
      rw [if_neg (by simp), e]
      exact List.perm_append_singleton q ps
    · have ne : p.num ≠ q.num := fun e => n1 (List.mem_map.mpr ⟨q, hq, e.symm⟩)
      rw [if_pos (decide_eq_true ne)]
      exact (ih n2 hq).cons p
theorem pgK_at {ps : List Page} (nd : (ps.map (·.num)).Nodup) {n : Int} (h : n ∈ ps.map (·.num)) : ∃ q ∈ ps, q.num = n ∧ findD (pgK ps) (.inl n) = some (pgD q) := by
  obtain ⟨q, hq, rfl⟩ := List.mem_map.mp h
  exact ⟨q, hq, rfl, pgK_find nd hq⟩
def unB : Rec → List Page → List Page
  | .said n, ps => dropP ps n
  | .unsaid p, ps => ps ++ [p]
  | .retold p l, ps => dropP ps l.num ++ [p]
def unOk : Rec → List Page → Prop
  | .said n, ps => n ∈ ps.map (·.num)
  | .unsaid p, ps => p.num ∉ ps.map (·.num)
  | .retold p l, ps => l.num ∈ ps.map (·.num) ∧ p.num ∉ (dropP ps l.num).map (·.num)
theorem perm_num {ps qs : List Page} (h : ps.Perm qs) {n : Int} : n ∈ ps.map (·.num) ↔ n ∈ qs.map (·.num) := (h.map _).mem_iff
theorem unB_perm {r : Rec} {ps qs : List Page} (h : ps.Perm qs) : (unB r ps).Perm (unB r qs) := by
  cases r with
  | said n => exact dropP_perm h
  | unsaid p => exact h.append_right _
  | retold p l => exact (dropP_perm h).append_right _
theorem unOk_perm {r : Rec} {ps qs : List Page} (h : ps.Perm qs) (u : unOk r ps) : unOk r qs := by
  cases r with
  | said n => exact (perm_num h).mp u
  | unsaid p => exact fun z => u ((perm_num h).mpr z)
  | retold p l => exact ⟨(perm_num h).mp u.1, fun z => u.2 ((perm_num (dropP_perm h)).mpr z)⟩
theorem unB_nd {r : Rec} {ps : List Page} (nd : (ps.map (·.num)).Nodup) (u : unOk r ps) : ((unB r ps).map (·.num)).Nodup := by
  cases r with
  | said n => exact dropP_nd nd
  | unsaid p => exact nd_snoc nd u
  | retold p l => exact nd_snoc (dropP_nd nd) u.2
def PastOk : List Page → List Rec → List (List Page) → Prop
  | _, [], [] => True
  | ps, r :: rs, k :: ks => unOk r ps ∧ (unB r ps).Perm k ∧ PastOk k rs ks
  | _, _, _ => False
theorem PastOk.perm : ∀ {rs : List Rec} {ks : List (List Page)} {ps qs : List Page}, ps.Perm qs → PastOk ps rs ks → PastOk qs rs ks
  | [], [], _, _, _, _ => trivial
  | r :: rs, k :: ks, ps, qs, h, ⟨a, b, c⟩ => ⟨unOk_perm h a, (unB_perm h.symm).trans b, c⟩
  | [], _ :: _, _, _, _, h => h.elim
  | _ :: _, [], _, _, _, h => h.elim
theorem PastOk.len : ∀ {rs : List Rec} {ks : List (List Page)} {ps : List Page}, PastOk ps rs ks → rs.length = ks.length
  | [], [], _, _ => rfl
  | _ :: _, _ :: _, _, ⟨_, _, c⟩ => congrArg (· + 1) c.len
  | [], _ :: _, _, h => h.elim
  | _ :: _, [], _, h => h.elim
inductive Dh
  | say (p : Page)
  | unsay (n : Int)
  | retell (n : Int) (p : Page)
  | undo
def dhD : Dh → D
  | .say p => .tuple [.str "say", pgD p]
  | .unsay n => .tuple [.str "unsay", .int n]
  | .retell n p => .tuple [.str "retell", .int n, pgD p]
  | .undo => .tuple [.str "undo"]
def dueW (ps : List Page) (none : Bool) : Dh → Str
  | .say p => if p.num ∈ ps.map (·.num) then Str.ofString "Twice" else Str.ofString ""
  | .unsay n => if n ∈ ps.map (·.num) then Str.ofString "" else Str.ofString "NoPage"
  | .retell n p => if n ∈ ps.map (·.num) then (if p.num ≠ n ∧ p.num ∈ ps.map (·.num) then Str.ofString "Twice" else Str.ofString "") else Str.ofString "NoPage"
  | .undo => if none = true then Str.ofString "NoDeed" else Str.ofString ""
theorem dueW_perm {ps qs : List Page} (h : ps.Perm qs) (b : Bool) (d : Dh) : dueW ps b d = dueW qs b d := by
  cases d with
  | say p => unfold dueW; simp only [perm_num h]
  | unsay n => unfold dueW; simp only [perm_num h]
  | retell n p => unfold dueW; simp only [perm_num h]
  | undo => rfl
def nextP (ps : List Page) : Dh → List Page
  | .say p => ps ++ [p]
  | .unsay n => dropP ps n
  | .retell n p => dropP ps n ++ [p]
  | .undo => ps
def fineD (ps : List Page) : Dh → Prop
  | .say p => p.num ∉ ps.map (·.num)
  | .unsay n => n ∈ ps.map (·.num)
  | .retell n p => n ∈ ps.map (·.num) ∧ (p.num = n ∨ p.num ∉ ps.map (·.num))
  | .undo => False
theorem fine_nd {ps : List Page} {d : Dh} (nd : (ps.map (·.num)).Nodup) (h : fineD ps d) : ((nextP ps d).map (·.num)).Nodup := by
  cases d with
  | say p => exact nd_snoc nd h
  | unsay n => exact dropP_nd nd
  | retell n p =>
    refine nd_snoc (dropP_nd nd) fun z => ?_
    obtain ⟨z1, z2⟩ := dropP_num.mp z
    exact h.2.elim (fun e => z2 e) fun e => e z1
  | undo => exact h.elim
def recIs (ps : List Page) : Dh → Rec → Prop
  | .say p, r => r = .said p.num
  | .unsay n, r => ∃ q ∈ ps, q.num = n ∧ r = .unsaid q
  | .retell n p, r => ∃ q ∈ ps, q.num = n ∧ r = .retold q p
  | .undo, _ => False
theorem rec_back {ps : List Page} {d : Dh} {r : Rec} (nd : (ps.map (·.num)).Nodup) (h : fineD ps d) (hr : recIs ps d r) : unOk r (nextP ps d) ∧ (unB r (nextP ps d)).Perm ps := by
  cases d with
  | say p =>
    obtain rfl : r = .said p.num := hr
    refine ⟨?_, ?_⟩
    · show p.num ∈ (ps ++ [p]).map (·.num)
      rw [List.map_append]
      exact List.mem_append_right _ (.head _)
    · show (dropP (ps ++ [p]) p.num).Perm ps
      rw [dropP_snoc h]
  | unsay n =>
    obtain ⟨q, hq, rfl, rfl⟩ := hr
    exact ⟨fun z => (dropP_num.mp z).2 rfl, dropP_back nd hq⟩
  | retell n p =>
    obtain ⟨q, hq, rfl, rfl⟩ := hr
    have hp : p.num ∉ (dropP ps q.num).map (·.num) := by
      intro z
      obtain ⟨z1, z2⟩ := dropP_num.mp z
      exact h.2.elim (fun e => z2 e) fun e => e z1
    have e : dropP (dropP ps q.num ++ [p]) p.num = dropP ps q.num := dropP_snoc hp
    refine ⟨⟨?_, ?_⟩, ?_⟩
    · show p.num ∈ (dropP ps q.num ++ [p]).map (·.num)
      rw [List.map_append]
      exact List.mem_append_right _ (.head _)
    · rw [show nextP ps (.retell q.num p) = dropP ps q.num ++ [p] from rfl, e]
      exact fun z => (dropP_num.mp z).2 rfl
    · show (dropP (dropP ps q.num ++ [p]) p.num ++ [q]).Perm ps
      rw [e]
      exact dropP_back nd hq
  | undo => exact h.elim
theorem fine_due {ps : List Page} {b : Bool} {d : Dh} (hd : d ≠ .undo) (h : fineD ps d) : dueW ps b d = Str.ofString "" := by
  cases d with
  | say p => unfold dueW; exact if_neg h
  | unsay n => unfold dueW; exact if_pos h
  | retell n p =>
    unfold dueW
    dsimp only
    rw [if_pos h.1, if_neg fun z => h.2.elim (fun e => z.1 e) fun e => e z.2]
  | undo => exact (hd rfl).elim
def pgsOk : Dh → Prop
  | .say p => pgOk p
  | .unsay _ => True
  | .retell _ p => pgOk p
  | .undo => True
theorem next_ok {ps : List Page} {d : Dh} (h : ∀ x ∈ ps, pgOk x) (hd : pgsOk d) : ∀ x ∈ nextP ps d, pgOk x := fun x hx => by
  cases d with
  | say p => exact (List.mem_append.mp hx).elim (h x) fun e => (List.mem_singleton.mp e).symm ▸ hd
  | unsay n => exact h x (dropP_mem.mp hx).1
  | retell n p => exact (List.mem_append.mp hx).elim (fun e => h x (dropP_mem.mp e).1) fun e => (List.mem_singleton.mp e).symm ▸ hd
  | undo => exact h x hx
abbrev clsD : List Str := ["SaidDeed", "UnsaidDeed", "RetoldDeed"]
theorem seqXU {a u : WSx} {s : S} {D : Dn} {Kx : S → Str → Prop} (h : ∀ v, v = u → sSeqX a v s D Kx) : sSeqX a u s D Kx := h u rfl
theorem ne_int {a b : Int} : xr true (PyData.eqv (.int a) (.int b)) = decide (a ≠ b) := by
  by_cases h : a = b
  · subst h
    simp [xr, PyData.eqv]
  · simp [xr, PyData.eqv, h]
theorem muS_snoc {l : List Nat} {i : Nat} : muS (l ++ [i]) = muS l ++ [sq (.mu i)] := by
  unfold muS
  rw [List.map_append]
  rfl
theorem sk_unsay : sOk (Str.ofString "unsay") := by unfold sOk; decide +kernel
theorem sk_undo : sOk (Str.ofString "undo") := by unfold sOk; decide +kernel
theorem has_b {kp : List Page} {n : Int} {b : Bool} : xr b (Option.map En.da (findD (pgK kp) (.inl n))).isSome = if b = true then !(decide (n ∈ kp.map (·.num))) else decide (n ∈ kp.map (·.num)) := by
  rw [Option.isSome_map, pgK_has]
  cases b <;> cases decide (n ∈ kp.map (·.num)) <;> rfl
theorem muS_empty {l : List Nat} : (muS l).isEmpty = l.isEmpty := by cases l <;> rfl
theorem KpR.back {ms : List MO} {q : Nat} {t0 : D} {kj j : Nat} {kp k : List Page} {ks0 : List (Nat × List Page)} {st : List (List Page)} (K : KpR ms q t0 kj kp (ks0 ++ [(j, k)]) st) (nd : (k.map (·.num)).Nodup) :
    FrB ms (sm (sm ms (q + 8) (.ins .lst (muS (ks0.map (·.1))))) (q + 2) (.ins .dct (kF q j t0))) [q + 2, q + 8] ∧ KpR (sm (sm ms (q + 8) (.ins .lst (muS (ks0.map (·.1))))) (q + 2) (.ins .dct (kF q j t0))) q t0 j k ks0 st := by
  have F : FrB ms (sm (sm ms (q + 8) (.ins .lst (muS (ks0.map (·.1))))) (q + 2) (.ins .dct (kF q j t0))) [q + 2, q + 8] := (FrB.set (.tail _ (.head _))).trans (FrB.set (.head _))
  have l8 : q + 8 < ms.length := gm_lt' K.g8 (fun z => nomatch z)
  have o2 : ∀ x : Nat, x ≠ q + 2 → x ≠ q + 8 → x ∉ [q + 2, q + 8] := fun x a b z => by
    simp only [List.mem_cons, List.not_mem_nil, or_false] at z
    omega
  have mj : (j, k) ∈ ks0 ++ [(j, k)] := List.mem_append_right _ (.head _)
  have m0 : ∀ r ∈ ks0, r ∈ ks0 ++ [(j, k)] := fun r hr => List.mem_append_left _ hr
  have lj := K.ls _ mj
  have ns := K.ns
  rw [List.map_append] at ns
  obtain ⟨n1, _, n3⟩ := List.nodup_append.mp ns
  refine ⟨F, gm_sm_self (by rw [sm_length]; omega), ?_, F.at K.g9 (fun z => nomatch z) (o2 _ (by omega) (by omega)), F.at (K.gs _ mj) (fun z => nomatch z) (o2 _ (by show j ≠ q + 2; have : q + 7 ≤ j := lj; omega) (K.s8 mj)), fun r hr => F.at (K.gs r (m0 r hr)) (fun z => nomatch z) (o2 _ (by have := K.ls r (m0 r hr); omega) (K.s8 (m0 r hr))), lj, fun r hr => K.ls r (m0 r hr), fun z => n3 j z j (by simp) rfl, n1, nd⟩
  rw [gm_sm_ne (by omega)]
  exact gm_sm_self l8
theorem BkR.less {ms : List MO} {b : Nat} {t : D} {bp : List Page} {rs0 : List (Nat × Rec)} {i : Nat} {r : Rec} {st : List (List Page)} (R : BkR ms b t bp (rs0 ++ [(i, r)]) st) {bp' h : List Page} (nd : (bp'.map (·.num)).Nodup) :
    FrB ms (bkMs (ms.take b) ⟨t, pgK bp', muS (rs0.map (·.1)), st.map hD ++ [hD h]⟩ (ms.drop (b + 4))) [b, b + 1, b + 2, b + 3] ∧
    BkR (bkMs (ms.take b) ⟨t, pgK bp', muS (rs0.map (·.1)), st.map hD ++ [hD h]⟩ (ms.drop (b + 4))) b t bp' rs0 (st ++ [h]) := by
  obtain ⟨fm, fl⟩ := R.form
  have F := bk_frame (pre := ms.take b) (tl := ms.drop (b + 4)) (tl' := []) (B := ⟨t, pgK bp, muS ((rs0 ++ [(i, r)]).map (·.1)), st.map hD⟩) (B' := ⟨t, pgK bp', muS (rs0.map (·.1)), st.map hD ++ [hD h]⟩)
  rw [List.append_nil, ← fm, fl] at F
  have x0 := b_0 (pre := ms.take b) (B := ⟨t, pgK bp', muS (rs0.map (·.1)), st.map hD ++ [hD h]⟩) (tl := ms.drop (b + 4))
  have x1 := b_1 (pre := ms.take b) (B := ⟨t, pgK bp', muS (rs0.map (·.1)), st.map hD ++ [hD h]⟩) (tl := ms.drop (b + 4))
  have x2 := b_2 (pre := ms.take b) (B := ⟨t, pgK bp', muS (rs0.map (·.1)), st.map hD ++ [hD h]⟩) (tl := ms.drop (b + 4))
  have x3 := b_3 (pre := ms.take b) (B := ⟨t, pgK bp', muS (rs0.map (·.1)), st.map hD ++ [hD h]⟩) (tl := ms.drop (b + 4))
  rw [fl] at x0 x1 x2 x3
  refine ⟨F, x0, x1, x2, x3.trans (by rw [List.map_append]; rfl), fun r hr => F.at (R.gr r (List.mem_append_left _ hr)) (recO_ne _) (R.rn (List.mem_append_left _ hr)), nd⟩
structure KSt (ms : List MO) (q : Nat) (tm t0 : D) (kj : Nat) (bp kp : List Page) (rs : List (Nat × Rec)) (ks : List (Nat × List Page)) (st : List (List Page)) (M : Nat) : Prop where
  K : KpR ms q t0 kj kp ks st
  R : BkR ms (q + 3) tm bp rs st
  pm : bp.Perm kp
  last : st[st.length - 1]? = some (hpP kp)
  past : PastOk bp (rs.map (·.2)).reverse (ks.map (·.2)).reverse
  ok : ∀ x ∈ kp, pgOk x
  oks : ∀ r ∈ ks, (r.2.map (·.num)).Nodup ∧ r.2.length ≤ M ∧ ∀ x ∈ r.2, pgOk x
  le : kp.length ≤ M
def StepK (n kj : Nat) (kp : List Page) (ks : List (Nat × List Page)) (d : Dh) (kj' : Nat) (kp' : List Page) (ks' : List (Nat × List Page)) : Prop :=
  (dueW kp ks.isEmpty d ≠ Str.ofString "" ∧ kj' = kj ∧ kp' = kp ∧ ks' = ks) ∨ (d ≠ .undo ∧ fineD kp d ∧ kj' = kj ∧ kp' = nextP kp d ∧ ∃ j, n ≤ j ∧ ks' = ks ++ [(j, kp)]) ∨ (d = .undo ∧ ∃ ks0 j k, ks = ks0 ++ [(j, k)] ∧ kj' = j ∧ kp' = k ∧ ks' = ks0)
def growD : Dh → Nat
  | .say _ => 1
  | .retell _ _ => 1
  | _ => 0
theorem next_le {ps : List Page} {d : Dh} : (nextP ps d).length ≤ ps.length + growD d := by
  cases d with
  | say p => show (ps ++ [p]).length ≤ _; rw [List.length_append]; exact Nat.le_refl _
  | unsay n => exact dropP_len
  | retell n p => show (dropP ps n ++ [p]).length ≤ _; rw [List.length_append]; exact Nat.add_le_add_right dropP_len 1
  | undo => exact Nat.le_refl _
theorem KSt.len {ms : List MO} {q : Nat} {tm t0 : D} {kj : Nat} {bp kp : List Page} {rs : List (Nat × Rec)} {ks : List (Nat × List Page)} {st : List (List Page)} {M : Nat} (H : KSt ms q tm t0 kj bp kp rs ks st M) : rs.length = ks.length := by
  have := H.past.len
  rw [List.length_reverse, List.length_reverse, List.length_map, List.length_map] at this
  exact this
theorem fineD_perm {ps qs : List Page} (h : ps.Perm qs) {d : Dh} (f : fineD ps d) : fineD qs d := by
  cases d with
  | say p => exact fun z => f ((perm_num h).mpr z)
  | unsay n => exact (perm_num h).mp f
  | retell n p => exact ⟨(perm_num h).mp f.1, f.2.elim .inl fun e => .inr fun z => e ((perm_num h).mpr z)⟩
  | undo => exact f.elim
theorem nextP_perm {ps qs : List Page} (h : ps.Perm qs) (d : Dh) : (nextP ps d).Perm (nextP qs d) := by
  cases d with
  | say p => exact h.append_right _
  | unsay n => exact dropP_perm h
  | retell n p => exact (dropP_perm h).append_right _
  | undo => exact h
theorem recO_dc (r : Rec) {fs : List (Str × En)} : recO r ≠ .ins .dct fs := by
  cases r <;> (intro z; injection z with z1 z2; cases z1)
structure NextW (W : BW) (B : Int) (W' : BW) : Prop where
  ok : WOk W' (2 * B)
  dr : W'.dr.length ≤ W'.turn
  t0 : W.turn ≤ W'.turn
  t1 : W'.turn ≤ W.turn + 1
  d0 : W.day ≤ W'.day
  d1 : W'.day ≤ W.day + 10 ^ 9
  eq : W'.hs = W.hs ∧ W'.cs = W.cs ∧ W'.ls = W.ls ∧ W'.rts = W.rts ∧ W'.lim = W.lim ∧ W'.most = W.most
def dPg (P : Page → Prop) : Dh → Prop
  | .say p => P p
  | .retell _ p => P p
  | _ => True
def dNo (P : Int → Prop) : Dh → Prop
  | .unsay n => P n
  | .retell n _ => P n
  | _ => True
def numN (W : BW) (kp : List Page) (n : Int) : Prop := n = numT W.turn ∨ n ∈ kp.map (·.num) ∨ n = 3
def pgN (W : BW) (B : Int) (kp : List Page) (p : Page) : Prop := 0 ≤ p.day ∧ p.day ≤ W.day ∧ p.house ∈ W.hs ∧ dOkB W B p.deed ∧ numN W kp p.num
structure NextD (W : BW) (B : Int) (kp : List Page) (W' : BW) (d : Dh) : Prop where
  w : NextW W B W'
  pg : dPg (pgN W' (2 * B) kp) d
  no : dNo (numN W' kp) d
  le : ∀ p, d = .say p → kp.length ≤ 59
theorem keys_num (kp : List Page) : ((pgK kp).map fun z => kD z.1) = (kp.map (·.num)).map PyData.int := by
  unfold pgK
  rw [List.map_map, List.map_map]
  rfl
theorem can_nums (l : List Int) : canSort (l.map PyData.int) := by
  refine ⟨fun d hd d' hd' => ?_, .inr fun d hd => ?_, ?_, ?_⟩
  · obtain ⟨x, _, rfl⟩ := List.mem_map.mp hd
    obtain ⟨y, _, rfl⟩ := List.mem_map.mp hd'
    rfl
  · obtain ⟨x, _, rfl⟩ := List.mem_map.mp hd
    exact ⟨(by intro z; cases z), (by intro xs z; cases z)⟩
  · induction l with
    | nil => rfl
    | cons p ps ih => simp_all [PyData.canLayAll0, PyData.canLay0]
  · induction l with
    | nil => simp [PyData.depthAll]
    | cons p ps ih =>
      simp only [List.map_cons, PyData.depthAll, PyData.depth]
      omega
def numS (kp : List Page) : List Int := (kp.map (·.num)).mergeSort fun a b => decide (a ≤ b)
theorem numS_eq (kp : List Page) : sortD ((kp.map (·.num)).map PyData.int) = (numS kp).map .int := by
  unfold sortD numS
  refine (List.map_mergeSort fun a _ b _ => ?_).symm
  have := congrFun (congrFun (PySem.W.dataLe_int (β := Int) id) a) b
  exact this.symm
theorem numS_perm (kp : List Page) : (numS kp).Perm (kp.map (·.num)) := List.mergeSort_perm _ _
theorem rnd_at {tb0 tb1 : MO} {n m : Nat} {X : List MO} {i : Nat} {x : MO} (h : gm (tb0 :: tb1 :: .rnd n :: X) i = x) (hx : ∀ k, x ≠ .rnd k) : gm (tb0 :: tb1 :: .rnd m :: X) i = x := by
  rcases i with _ | _ | _ | i
  all_goals first | exact h | exact absurd h.symm (hx _)
theorem front {X tl ms' : List MO} {S : List Nat} (F : FrB (X ++ tl) ms' S) (h : ∀ i ∈ S, X.length ≤ i) : ∃ tl', ms' = X ++ tl' := by
  have hl := F.len
  rw [List.length_append] at hl
  refine ⟨ms'.drop X.length, ?_⟩
  conv => lhs; rw [← List.take_append_drop X.length ms']
  refine congrArg (· ++ ms'.drop X.length) (bgm_ext (by rw [List.length_take]; omega) fun i => ?_)
  rw [gm_take]
  by_cases e : i < X.length
  · rw [if_pos e, F.eq i (by rw [List.length_append]; omega) (fun z => by have := h i z; omega)]
    exact gm_low e
  · rw [if_neg e, gm_ge _ _ (by omega)]
theorem bW_front {tb0 tb1 : MO} {n : Nat} {L : List MO} {W : BW} {tl ms' : List MO} {S : List Nat} (F : FrB (tb0 :: tb1 :: .rnd n :: bW L W tl) ms' S) (h : ∀ i ∈ S, L.length + 11 ≤ i) : ∃ tl', ms' = tb0 :: tb1 :: .rnd n :: bW L W tl' := by
  have e : ∀ r, tb0 :: tb1 :: .rnd n :: bW L W r = (tb0 :: tb1 :: .rnd n :: bW L W []) ++ r := fun r => by
    have : bW L W [] ++ r = bW L W r := by rw [bW_app]; rfl
    rw [← this]
    rfl
  rw [e tl] at F
  obtain ⟨tl', e2⟩ := front F fun i hi => by
    have := h i hi
    have l : (tb0 :: tb1 :: .rnd n :: bW L W ([] : List MO)).length = L.length + 11 := by
      unfold bW bR
      simp only [List.length_cons, List.length_append, List.length_nil]
    rw [l]
    exact this
  exact ⟨tl', by rw [e2, ← e]⟩
def wS (L : List MO) : List Nat := [2, L.length + 3, L.length + 4, L.length + 5, L.length + 6, L.length + 7, L.length + 8, L.length + 9, L.length + 10]
theorem wFr {tb0 tb1 : MO} {n m : Nat} {L : List MO} {W W' : BW} {tl : List MO} : FrB (tb0 :: tb1 :: .rnd n :: bW L W tl) (tb0 :: tb1 :: .rnd m :: bW L W' tl) (wS L) := by
  refine ⟨by unfold bW bR; simp only [List.length_cons, List.length_append]; omega, fun j hj n0 => ?_⟩
  unfold wS at n0
  simp only [List.mem_cons, List.not_mem_nil, or_false, not_or] at n0
  rcases j with _ | _ | _ | i
  all_goals first | rfl | omega | skip
  show gm (bW L W' tl) i = gm (bW L W tl) i
  by_cases h : i < L.length
  · exact (gm_low h).trans (gm_low h).symm
  · obtain ⟨k, rfl⟩ : ∃ k, i = L.length + k := ⟨i - L.length, by omega⟩
    refine (gm_pre L _ k).trans (Eq.trans ?_ (gm_pre L _ k).symm)
    rcases k with _ | _ | _ | _ | _ | _ | _ | _ | k
    all_goals first | omega | rfl
theorem wNo {tb0 tb1 : MO} {n : Nat} {L : List MO} {W : BW} {tl : List MO} : ∀ i ∈ wS L, ∀ r : Rec, gm (tb0 :: tb1 :: .rnd n :: bW L W tl) i ≠ recO r := by
  intro i hi r z
  unfold wS at hi
  simp only [List.mem_cons, List.not_mem_nil, or_false] at hi
  rcases hi with rfl | rfl | rfl | rfl | rfl | rfl | rfl | rfl | rfl
  · cases r <;> cases z
  · exact recO_dc r (z.symm.trans w_0)
  · exact recO_ne r (z.symm.trans (gm_pre L _ 1))
  · exact recO_dc r (z.symm.trans (gm_pre L _ 2))
  · exact recO_dct r (z.symm.trans w_place)
  · exact recO_dct r (z.symm.trans w_way)
  · exact recO_dct r (z.symm.trans w_bulk)
  · exact recO_dct r (z.symm.trans w_strong)
  · exact recO_l r (z.symm.trans w_draws)
theorem KSt.fr {ms ms' : List MO} {q : Nat} {tm t0 : D} {kj : Nat} {bp kp : List Page} {rs : List (Nat × Rec)} {ks : List (Nat × List Page)} {st : List (List Page)} {M : Nat} {S : List Nat} (H : KSt ms q tm t0 kj bp kp rs ks st M) (F : FrB ms ms' S) (hS : ∀ i ∈ S, i < q) (hr : ∀ i ∈ S, ∀ r : Rec, gm ms i ≠ recO r) : KSt ms' q tm t0 kj bp kp rs ks st M := by
  have nn : ∀ x, q ≤ x → x ∉ S := fun x a z => by have := hS x z; omega
  have lo := H.K.lo
  exact ⟨H.K.fr F (nn _ (by omega)) (nn _ (by omega)) (nn _ (by omega)) (nn _ (by omega)) (fun r hr => nn _ (by have := H.K.ls r hr; omega)), H.R.fr F (nn _ (by omega)) (nn _ (by omega)) (nn _ (by omega)) (nn _ (by omega)) (fun r hr2 z => hr _ z _ (H.R.gr r hr2)), H.pm, H.last, H.past, H.ok, H.oks, H.le⟩
theorem KSt.beg (ms r : List MO) (rts : List (Int × Int)) (lim : Int × Int) (most : Int) : KSt (ms ++ begM ms.length rts lim most ++ r) ms.length (tmB rts lim most) (tmB rts lim most) (ms.length + 7) [] [] [] [] [[]] 0 :=
  ⟨(begM_ok ms r rts lim most).1, (begM_ok ms r rts lim most).2, .refl _, (by unfold hpP; simp), trivial, (fun x hx => by cases hx), (fun x hx => by cases hx), Nat.le_refl _⟩
structure WSt (n0 w i : Nat) (n : Nat) (W : BW) (B : Int) : Prop where
  n : n0 ≤ n + w + 150 * i
  ok : WOk W B
  b : B.natAbs < 2 ^ (90 + i)
  t : W.turn ≤ i
  dr : W.dr.length ≤ W.turn
  d0 : 0 ≤ W.day
  d1 : W.day ≤ 10 ^ 9 * i
theorem WSt.next {n0 w i n m : Nat} {W W' : BW} {B : Int} (S : WSt n0 w i n W B) (N : NextW W B W') (h : n ≤ m + 150) : WSt n0 w (i + 1) m W' (2 * B) := by
  have n1 := S.n
  have t1 := S.t
  have t2 := N.t1
  have a0 := S.d0
  have a1 := S.d1
  have b0 := N.d0
  have b1 := N.d1
  refine ⟨by omega, N.ok, ?_, by omega, N.dr, by omega, by omega⟩
  have := S.b
  rw [show 90 + (i + 1) = 90 + i + 1 by omega, Nat.pow_succ]
  omega
theorem WSt.mono {n0 w i n m v : Nat} {W : BW} {B : Int} (S : WSt n0 w i n W B) (h : n + w ≤ m + v) : WSt n0 v i m W B := ⟨by have := S.n; omega, S.ok, S.b, S.t, S.dr, S.d0, S.d1⟩
theorem WSt.b19 {n0 w i n : Nat} {W : BW} {B : Int} (S : WSt n0 w i n W B) (h : i ≤ 1000) : B.natAbs < 2 ^ 1900 := Nat.lt_of_lt_of_le S.b (Nat.pow_le_pow_right (by decide) (by omega))
theorem NextD.ok {W : BW} {B : Int} {kp : List Page} {W' : BW} {d : Dh} (N : NextD W B kp W' d) : pgsOk d := by
  have pg := N.pg
  cases d with
  | say p => exact pgOk_of N.w.ok pg.2.2.1 pg.2.2.2.1
  | unsay n => trivial
  | retell n p => exact pgOk_of N.w.ok pg.2.2.1 pg.2.2.2.1
  | undo => trivial
theorem growD_le (d : Dh) : growD d ≤ 1 := by cases d <;> first | exact Nat.le_refl 1 | exact Nat.zero_le 1
theorem StepK.fine {n kj : Nat} {kp : List Page} {ks : List (Nat × List Page)} {d : Dh} {kj' : Nat} {kp' : List Page} {ks' : List (Nat × List Page)} (h : StepK n kj kp ks d kj' kp' ks') (hd : d ≠ .undo) (f : fineD kp d) : kp' = nextP kp d ∧ ∃ j, n ≤ j ∧ ks' = ks ++ [(j, kp)] := by
  rcases h with ⟨z, _⟩ | ⟨_, _, _, e, j, hj, e2⟩ | ⟨z, _⟩
  · exact (z (fine_due hd f)).elim
  · exact ⟨e, j, hj, e2⟩
  · exact (hd z).elim
theorem StepK.undo_len {n kj : Nat} {kp : List Page} {ks : List (Nat × List Page)} {kj' : Nat} {kp' : List Page} {ks' : List (Nat × List Page)} (h : StepK n kj kp ks .undo kj' kp' ks') : ks'.length = ks.length - 1 := by
  rcases h with ⟨z, _, _, e⟩ | ⟨z, _⟩ | ⟨_, ks0, j, k, e, _, _, e2⟩
  · cases ks with
    | nil => rw [e]; rfl
    | cons x r => exact (z (by unfold dueW; exact if_neg (fun y => by cases y))).elim
  · exact (z rfl).elim
  · rw [e2, e, List.length_append]
    rfl
def hd0 (ks : List (Nat × List Page)) (kp : List Page) : Prop := (ks.map (·.2) ++ [kp]).head? = some []
theorem StepK.hd {n kj : Nat} {kp : List Page} {ks : List (Nat × List Page)} {d : Dh} {kj' : Nat} {kp' : List Page} {ks' : List (Nat × List Page)} (h : StepK n kj kp ks d kj' kp' ks') (h0 : hd0 ks kp) : hd0 ks' kp' := by
  rcases h with ⟨_, _, e, e2⟩ | ⟨_, _, _, _, j, _, e2⟩ | ⟨_, ks0, j, k, e, _, e2, e3⟩
  · rw [e, e2]
    exact h0
  · rw [e2]
    cases ks with
    | nil => exact h0
    | cons _ _ => exact h0
  · rw [e3, e2]
    rw [e] at h0
    cases ks0 with
    | nil => exact h0
    | cons _ _ => exact h0
theorem hd0_nil {kp : List Page} (h : hd0 [] kp) : kp = [] := Option.some.inj h
theorem StepK.all {n kj : Nat} {kp : List Page} {ks : List (Nat × List Page)} {d : Dh} {kj' : Nat} {kp' : List Page} {ks' : List (Nat × List Page)} {P : Page → Prop} (h : StepK n kj kp ks d kj' kp' ks') (h1 : ∀ x ∈ kp, P x) (h2 : ∀ r ∈ ks, ∀ x ∈ r.2, P x) (hd : dPg P d) : (∀ x ∈ kp', P x) ∧ ∀ r ∈ ks', ∀ x ∈ r.2, P x := by
  rcases h with ⟨_, _, e, e2⟩ | ⟨hu, _, _, e, j, _, e2⟩ | ⟨_, ks0, j, k, e, _, e2, e3⟩
  · rw [e, e2]
    exact ⟨h1, h2⟩
  · rw [e, e2]
    refine ⟨fun x hx => ?_, fun r hr => ?_⟩
    · cases d with
      | say p => exact (List.mem_append.mp hx).elim (h1 x) fun e => (List.mem_singleton.mp e).symm ▸ hd
      | unsay n => exact h1 x (dropP_mem.mp hx).1
      | retell n p => exact (List.mem_append.mp hx).elim (fun e => h1 x (dropP_mem.mp e).1) fun e => (List.mem_singleton.mp e).symm ▸ hd
      | undo => exact h1 x hx
    · rcases List.mem_append.mp hr with hr | hr
      · exact h2 r hr
      · rw [List.mem_singleton.mp hr]
        exact h1
  · subst e
    rw [e2, e3]
    exact ⟨h2 (j, k) (List.mem_append_right _ (.head _)), fun r hr => h2 r (List.mem_append_left _ hr)⟩
theorem numT_new : ∀ a < 102, ∀ b < a, numT b ≠ numT a := by decide +kernel
section
variable {P : Program} {w : World} {K : PySem.W.Frag} {mg : Str → Option Value} {base : Heap}
theorem hu64R {k : Nat} {A : Around} (hr : Room k A) : A.units + 64 < cLine := by have := hr.un; omega
theorem ok_begin {f : Addr} {fd : FuncData} {k : Nat} (F : Fun K "_law_begin" "_law_begin" s_begin f fd) (ml : mg "list" = none) : FnOk P w K mg base CX0 (k + 1) f fd ["_law_script"] (spBeginH K) := by
  refine F.ok sc_begin (fun vs H Q E h => ?_) (fun cdv A outer s H vs Q E hr h => ?_)
  · obtain ⟨a, ns, rfl, _⟩ := h
    rfl
  · obtain ⟨a, ns, rfl, hS, q⟩ := h
    refine ⟨_, pss_cons (ps_set (i := 1) sc_begin.nd rfl (.inl rfl) (pe_callTy call_list_of (by rfl) ml (by decide +kernel) (pa_cons (pe_slice sl_list (pv 0) po_none (po_some pe_int)) pa_nil)))
      (pss_cons (ps_if (pt_cmpR (op_eqD (hu64R hr)) (pv 1) (pe_lst pa_nil) (nomark _)) (pss_one (ps_set (i := 1) sc_begin.nd rfl (.inl rfl) (pe_lst (pa_cons pe_int pa_nil)))) pss_nil)
      (pss_one (ps_ret (pe_disp (pps_cons pe_str (pv 1) (pps_cons pe_str pe_int pps_nil)) rfl rfl (fun z => by cases z) (Nat.le_of_ble_eq_true rfl))))), ?_⟩
    have cut : cutV (ns.map V.int) none (some 63) = (ns.take 63).map V.int := by
      unfold cutV
      rw [HT.sIx_none]
      rw [show HT.sIx (ns.map V.int).length (ns.map V.int).length (some 63) = min 63 (ns.map V.int).length from HT.sIx_nat _ _ 63]
      simp [List.map_take, List.take_eq_take_iff]
    refine ⟨.ref a, rfl, 63, rfl, a, _, rfl, hS, fun c nc => ⟨c, _, rfl, .inl (.inl (.inl upd_same)), fun l nl => ?_⟩⟩
    rw [cut]
    have ncl : c ≠ l := fun z => by rw [z, upd_same] at nl; cases nl
    have nl0 : H l = none := by rw [← nl, upd_ne ncl.symm]
    refine ⟨_, rfl, Nat.zero_le _, fun e ne => ?_⟩
    have nel : e ≠ l := fun z => by rw [z, upd_same] at ne; cases ne
    have nec : e ≠ c := fun z => by rw [z, upd_ne ncl, upd_same] at ne; cases ne
    have fin : ∀ (H2 : Hp) (x : Addr) (cs : List Int), (∀ b o, H b = some o → H2 b = some o) → H x = none → H2 x = some (.lst (cs.map V.int)) → 1 ≤ cs.length → cs.length ≤ 63 → ∀ p, H2 p = none → Q (.ref p) (upd (upd H2 p (.dK [])) p (.dK [(.inr "cells", .ref x), (.inr "turn", .int 0)])) := fun H2 x cs hx nx hx2 l1 l2 p np => by
      have npx : x ≠ p := ne_of_none hx2 np
      refine q _ p x cs (fun b o h => ?_) upd_same ?_ ?_ nx npx.symm l1 l2
      · have nb : b ≠ p := ne_of_none (hx b o h) np
        rw [upd_ne nb, upd_ne nb]; exact hx b o h
      · rw [upd_ne npx, upd_ne npx]; exact hx2
      · cases z : H p with
        | none => rfl
        | some o => rw [hx p o z] at np; cases np
    have h1 : ∀ b o, H b = some o → (upd (upd (upd H c (.lst ((ns.take 63).map V.int))) l (.lst ((ns.take 63).map V.int))) e (.lst [])) b = some o := fun b o h => by
      rw [upd_ne (fun z => by rw [z] at h; rw [upd_ne nel, upd_ne nec] at ne; rw [h] at ne; cases ne), upd_ne (ne_of_none h nl0), upd_ne (ne_of_none h nc)]; exact h
    refine ⟨.list ((ns.take 63).map PyData.int), .list [], .lst (.inl (.inl ?_)) ((RpL.ints (A := fun _ => False)).dp (lay_ints _)), .lst (.inl (.inl upd_same)) .nil, PySem.W.shaped_ints _, by decide, ?_⟩
    · rw [upd_ne nel.symm, upd_same]
    · cases ns with
      | nil =>
        refine ⟨_, rfl, ite2 (fun _ => ?_) (fun z => (z rfl).elim)⟩
        refine ⟨by decide, fun x nx => ?_⟩
        have nx0 : H x = none := by
          cases z : H x with
          | none => rfl
          | some o => rw [h1 _ _ z] at nx; cases nx
        refine fun p np => ⟨.ref x, rfl, upd_same, [(.inr "cells", .ref x), (.inr "turn", .int 0)], rfl, Nat.le_of_ble_eq_true rfl, ?_⟩
        exact fin _ x [11] (fun b o h => by rw [upd_ne (ne_of_none (h1 _ _ h) nx)]; exact h1 _ _ h) nx0 upd_same (by decide) (by decide) p np
      | cons x r =>
        refine ⟨_, rfl, ite2 (fun z => by cases z) (fun z => ?_)⟩
        refine fun p np => ⟨.ref l, rfl, ?_, [(.inr "cells", .ref l), (.inr "turn", .int 0)], rfl, Nat.le_of_ble_eq_true rfl, ?_⟩
        · exact upd_same
        · exact fin _ l _ h1 nl0 (by rw [upd_ne nel.symm, upd_same]) (by simp) (by simp; omega) p np
theorem ok_take {f : Addr} {fd : FuncData} {k : Nat} (F : Fun K "_law_take" "_law_take" s_take f fd) (ml : mg "len" = none) (md : mg "divmod" = none) : FnOk P w K mg base CX0 (k + 1) f fd ["_law_state", "_law_many"] spTakeH := by
  refine F.ok sc_take (fun vs H Q E h => ?_) (fun cdv A outer s H vs Q E hr h => ?_)
  · obtain ⟨a, c, cs, t, many, rfl, _⟩ := h
    rfl
  · obtain ⟨a, c, cs, t, many, rfl, ha, hc, l1, l2, t0, t1, hm, q⟩ := h
    refine ⟨_, pss_cons (ps_set (i := 2) sc_take.nd rfl (.inl rfl) (pe_op op_add (pe_dget (hu1R hr) (pv 0) pe_str (fun _ _ => rfl)) pe_int))
      (pss_cons (ps_dput (hu1R hr) (pv 0) pe_str (pv 2) rfl)
      (pss_cons (ps_set (i := 3) sc_take.nd rfl (.inl rfl) (pe_op op_mod (pv 2) (pe_callB call_len_seq (by rfl) ml PySem.boot_len (pa_cons (pe_dget (hu1R hr) (pv 0) pe_str (fun _ _ => rfl)) pa_nil))))
      (pss_cons (ps_set (i := 4) sc_take.nd rfl (.inl rfl) (pe_ix ix_list (pe_dget (hu1R hr) (pv 0) pe_str (fun _ _ => rfl)) (pv 3) (fun _ _ => rfl)))
      (pss_cons (ps_if (pt_cmpR op_ge (pv 4) (pe_op op_pow pe_int pe_int) (nomark _))
        (pss_cons (ps_asg (pe_callB call_divmodW (by rfl) md (by decide +kernel) (pa_cons (pv 4) (pa_cons (pv 1) pa_nil))) (pg_tup rfl (pgs_cons (pg_sub (pe_dget (hu1R hr) (pv 0) pe_str (fun _ _ => rfl)) (pv 3) set_list) (pgs_cons (pg_name (i := 5) sc_take.nd rfl (.inl rfl)) pgs_nil))))
        (pss_one (ps_ret (pv 5)))) pss_nil)
      (pss_cons (ps_set (i := 6) sc_take.nd rfl (.inl rfl) (pe_op op_mod (pe_op op_mulX (pe_op op_add (pe_op op_add (pe_op op_mod (pv 4) pe_int) (pe_op op_mulX (pe_op op_mulX (pv 2) (pv 2)) pe_int)) pe_int) pe_int) pe_int))
      (pss_cons (ps_set (i := 6) sc_take.nd rfl (.inl rfl) (pe_op op_mod (pe_op op_mulX (pv 6) (pv 6)) pe_int))
      (pss_one (ps_ret (pe_op op_mod (pe_op op_fdivW (pe_op op_mod (pe_op op_mulX (pe_op op_add (pv 6) (pe_op op_mulX (pv 2) pe_int)) pe_int) pe_int) pe_int) (pv 1)))))))))), ?_⟩
    have e1 : valV ([(.inr "cells", .ref c), (.inr "turn", .int t)] : List (Key × V)) (.inr "turn") = some (.int t) := rfl
    have hac : a ≠ c := ne_of ha hc (by intro z; cases z)
    have hp : putK ([(.inr "cells", .ref c), (.inr "turn", .int t)] : List (Key × V)) (.inr "turn") (.int (t + 1)) = [(.inr "cells", .ref c), (.inr "turn", .int (t + 1))] := rfl
    have ha1 : (upd H a (.dK [(.inr "cells", .ref c), (.inr "turn", .int (t + 1))])) a = some (.dK [(.inr "cells", .ref c), (.inr "turn", .int (t + 1))]) := upd_same
    have hc1 : (upd H a (.dK [(.inr "cells", .ref c), (.inr "turn", .int (t + 1))])) c = some (.lst (cs.map V.int)) := by rw [upd_ne hac.symm]; exact hc
    have ec : valV ([(.inr "cells", .ref c), (.inr "turn", .int (t + 1))] : List (Key × V)) (.inr "cells") = some (.ref c) := rfl
    obtain ⟨m, hm1, hm2⟩ : ∃ m : Nat, (t + 1) % (cs.length : Int) = m ∧ m < cs.length := ⟨((t + 1) % (cs.length : Int)).toNat, (Int.toNat_of_nonneg (Int.emod_nonneg _ (by omega))).symm, by have h1 := Int.emod_nonneg (t + 1) (show (cs.length : Int) ≠ 0 by omega); have h2 := Int.emod_lt_of_pos (t + 1) (show (0 : Int) < cs.length by omega); omega⟩
    have gm : (cs.map V.int)[m]? = some (.int cs[m]) := by rw [List.getElem?_map, List.getElem?_eq_getElem hm2]; rfl
    refine ⟨.ref a, rfl, a, _, rfl, DGet.k (k := .inr "turn") ha, _, _, rfl, rfl, ?_⟩
    refine ⟨_, rfl, .ref a, rfl, a, _, rfl, DPut.k (k := .inr "turn") ha (by show 2 < sizeLine; decide), ?_⟩
    refine ⟨_, rfl, .ref a, rfl, a, _, rfl, DGet.k (k := .inr "cells") ha1, ?_⟩
    refine ⟨c, cs.map V.int, rfl, .inl (.inl (.inl hc1)), ?_⟩
    have el : ((cs.map V.int).length : Int) = cs.length := by rw [List.length_map]
    refine ⟨t + 1, ((cs.map V.int).length : Int), rfl, rfl, by omega, ?_⟩
    have hm3 : (t + 1) % ((cs.map V.int).length : Int) = (m : Int) := by rw [el]; exact hm1
    refine ⟨.ref a, rfl, a, _, rfl, DGet.k (k := .inr "cells") ha1, _, rfl, c, cs.map V.int, _, .int cs[m], rfl, rfl, .inl (.inl hc1), at_of (j := m) hm3 gm, ?_⟩
    refine ⟨.int cs[m], rfl, 10, 18, rfl, rfl, ⟨by decide, by decide⟩, ?_⟩
    refine ⟨cs[m], _, rfl, rfl, _, rfl, ite2 (fun _ => ?_) (fun _ => ?_)⟩
    · refine ⟨.int cs[m], rfl, .int many, rfl, cs[m], many, rfl, ⟨hm.1, PyProof.noPylong_of_log2 hm.2⟩, fun p np => ?_⟩
      have npa : a ≠ p := ne_of_none ha1 np
      have npc : c ≠ p := ne_of_none hc1 np
      have ha2 : ∀ o, (upd (upd H a (.dK [(.inr "cells", .ref c), (.inr "turn", .int (t + 1))])) p o) a = some (.dK [(.inr "cells", .ref c), (.inr "turn", .int (t + 1))]) := fun o => by rw [upd_ne npa]; exact ha1
      have hc2 : ∀ o, (upd (upd H a (.dK [(.inr "cells", .ref c), (.inr "turn", .int (t + 1))])) p o) c = some (.lst (cs.map V.int)) := fun o => by rw [upd_ne npc]; exact hc1
      refine ⟨p, [.int (cs[m] / many), .int (cs[m] % many)], rfl, .inl (.inl upd_same), rfl, .int (cs[m] / many), [.int (cs[m] % many)], rfl, ?_⟩
      refine ⟨.ref a, rfl, a, _, rfl, DGet.k (k := .inr "cells") (ha2 _), _, rfl, ?_⟩
      refine ⟨c, cs.map V.int, _, m, rfl, rfl, hc2 _, ?_, .int (cs[m] % many), [], rfl, rfl, .int (cs[m] % many), rfl, ?_⟩
      · rw [hm3, List.length_map]
        unfold ixN
        rw [if_pos (by omega), if_pos (by omega)]
        rfl
      · have l0 : 0 ≤ cs[m] % many := Int.emod_nonneg _ (by have := hm.1; omega)
        have l1 : cs[m] % many < many := Int.emod_lt_of_pos _ hm.1
        refine q _ (cs.set m (cs[m] / many)) _ (fun b o hb hb2 h => ?_) ?_ ?_ (by simp) l0 l1
        · have nb : b ≠ p := ne_of_none (by rw [upd_ne hb]; exact h) np
          rw [upd_ne hb2, upd_ne nb, upd_ne hb]; exact h
        · rw [upd_ne hac]; exact ha2 _
        · rw [upd_same, List.map_set]
    · have hx0 : 0 ≤ cs[m] % 2147483629 := Int.emod_nonneg _ (by decide)
      have hx1 : cs[m] % 2147483629 < 2147483629 := Int.emod_lt_of_pos _ (by decide)
      have ht0 : 0 ≤ t + 1 := by omega
      have ht1 : t + 1 < 2 ^ 61 := by unfold turnMax at t1; omega
      have m1 : CMulX (t + 1) (t + 1) := mulx_ok (a := 61) (b := 61) (by omega) (by omega) (by decide)
      have hs0 : 0 ≤ (t + 1) * (t + 1) := Int.mul_nonneg ht0 ht0
      have hs1 : (t + 1) * (t + 1) < 2 ^ 123 := Int.lt_of_le_of_lt (Int.mul_le_mul (Int.le_of_lt ht1) (Int.le_of_lt ht1) ht0 (by decide)) (by decide)
      have m2 : CMulX ((t + 1) * (t + 1)) 7919 := mulx_ok (a := 123) (b := 13) (by omega) (by decide) (by decide)
      have m3 : CMulX (cs[m] % 2147483629 + (t + 1) * (t + 1) * 7919 + 11) 48271 := mulx_ok (a := 140) (b := 16) (by omega) (by decide) (by decide)
      have hy0 := Int.emod_nonneg ((cs[m] % 2147483629 + (t + 1) * (t + 1) * 7919 + 11) * 48271) (show (2147483647 : Int) ≠ 0 by decide)
      have hy1 := Int.emod_lt_of_pos ((cs[m] % 2147483629 + (t + 1) * (t + 1) * 7919 + 11) * 48271) (show (0 : Int) < 2147483647 by decide)
      have m4 : CMulX ((cs[m] % 2147483629 + (t + 1) * (t + 1) * 7919 + 11) * 48271 % 2147483647) ((cs[m] % 2147483629 + (t + 1) * (t + 1) * 7919 + 11) * 48271 % 2147483647) := mulx_ok (a := 31) (b := 31) (by omega) (by omega) (by decide)
      refine ⟨_, rfl, _, _, rfl, rfl, (by omega : (0 : Int) < _), _, rfl, _, rfl, _, _, rfl, rfl, m1, _, _, rfl, rfl, m2, _, _, rfl, rfl, _, _, rfl, rfl, _, _, rfl, rfl, m3, _, _, rfl, rfl, (by omega : (0 : Int) < _), ?_⟩
      refine ⟨_, rfl, _, rfl, _, _, rfl, rfl, m4, _, _, rfl, rfl, (by omega : (0 : Int) < _), ?_⟩
      generalize ((cs[m] % 2147483629 + (t + 1) * (t + 1) * 7919 + 11) * 48271 % 2147483647) * ((cs[m] % 2147483629 + (t + 1) * (t + 1) * 7919 + 11) * 48271 % 2147483647) = y at *
      have hz0 := Int.emod_nonneg y (show (2147483587 : Int) ≠ 0 by decide)
      have hz1 := Int.emod_lt_of_pos y (show (0 : Int) < 2147483587 by decide)
      refine ⟨_, rfl, _, rfl, _, _, rfl, rfl, mulx_ok (a := 61) (b := 17) (by omega) (by decide) (by decide), _, _, rfl, rfl, _, _, rfl, rfl, mulx_ok (a := 90) (b := 17) (by omega) (by decide) (by decide), _, _, rfl, rfl, (by omega : (0 : Int) < _), _, _, rfl, rfl, ⟨by decide, by decide⟩, _, rfl, _, _, rfl, rfl, hm.1, ?_⟩
      refine q _ cs _ (fun b o hb hb2 h => ?_) ha1 hc1 rfl (Int.emod_nonneg _ (by have := hm.1; omega)) (Int.emod_lt_of_pos _ hm.1)
      show (upd H a _) b = _
      rw [upd_ne hb]; exact h
theorem o_take' (T : Tx K mg) : Ok P w K mg base 1 "_law_take" s_take ["_law_state", "_law_many"] 2 spTake := by
  obtain ⟨f, fd, a⟩ := T.d_take
  exact ⟨f, fd, a, DL.FnOk.toG ((ok_take (k := 0) a.F T.b_len T.b_divmod).imp fun _ _ _ _ q => spTake_imp q)⟩
def sp_SaidDeed_init : SpD := fun xs ms Ks => ∃ (pre : List MO) (c : Str) (d : D), xs = [.mu pre.length, .da d] ∧ ms = pre ++ [.ins (.obj c) []] ∧ c ∈ clsD ∧ Ks (pre ++ [.ins (.obj c) [("number", .da d)]]) (.da .none)
theorem ok_SaidDeed_init (T : Tx K mg)  : OkI P w K mg base 1 "SaidDeed" "SaidDeed.__init__" s_SaidDeed_init ["self", "number"] 2 sp_SaidDeed_init := by
  refine ok_dataI (n0 := 0) T.d_SaidDeed_init sc_SaidDeed_init _ (fun f cdv A outer s H E hr =>
  (dss_clo (dss_one (ds_fld T.f_SaidDeed_number (dv 0) (dv 1))))) (fun xs ms Ks h hl => ?_)
  unfold sp_SaidDeed_init at h
  obtain ⟨pre, c, d, rfl, rfl, hc, hk⟩ := h
  intro cl
  refine ⟨pre.length, _, _, rfl, gm_pre pre _ 0, hc, (show (0 : Nat) < 1000 by decide), ?_⟩
  try dsimp only [DL.S.sE, DL.S.sM, DL.S.aM, DL.S.cM, DL.st, DL.gt, DL.sm, DL.gm, DL.putM, DL.pick, DL.muks, DL.nthN, DL.bkE, DL.st0, DL.nos, List.cons_append, List.nil_append, List.append_nil, List.drop_succ_cons, List.drop_nil, List.drop_zero, List.drop, DL.a1, DL.a2, DL.a3, DL.cMin3, DL.aNil, DL.aCons, DL.dVar, DL.dC, DL.iI, DL.i1, DL.isB, DL.daI, DL.onE, DL.gN, List.length_cons, List.length_nil, Nat.reduceAdd, Nat.zero_add]
  rw [show sm (pre ++ [MO.ins (.obj c) []]) pre.length _ = _ from sm_pre pre _ 0 _]
  exact hk
def sp_SaidDeed_take_back : SpD := fun xs ms Ks => ∃ (i j : Nat) (n : Int) (ps : List Page), xs = [.mu i, .mu j] ∧ gm ms i = recO (.said n) ∧ gm ms j = .dct (pgK ps) ∧ n ∈ ps.map (·.num) ∧ (ps.map (·.num)).Nodup ∧ Ks (sm ms j (.dct (pgK (dropP ps n)))) (.da .none)
theorem ok_SaidDeed_take_back (T : Tx K mg)  : OkM P w K mg base 1 "SaidDeed" "take_back" "SaidDeed.take_back" s_SaidDeed_take_back ["self", "pages"] 2 sp_SaidDeed_take_back := by
  refine ok_dataM (n0 := 0) T.d_SaidDeed_take_back sc_SaidDeed_take_back _ (fun f cdv A outer s H E hr =>
  (dss_clo (dss_one (ds_exp (de_popG (dv 1) (de_fld T.f_SaidDeed_number (dv 0))))))) (fun xs ms Ks h hl => ?_)
  unfold sp_SaidDeed_take_back at h
  obtain ⟨i, j, n, ps, rfl, gi, gj, hn, nd, hk⟩ := h
  intro cl
  obtain ⟨q, hq, en, hf⟩ := pgK_at nd hn
  refine ⟨⟨_, _, rfl, gj⟩, i, _, _, rfl, gi, .head _, _, rfl, _, _, _, rfl, gj, hf, ?_⟩
  rw [dropP_K]
  exact hk
def sp_UnsaidDeed_take_back : SpD := fun xs ms Ks => ∃ (i j : Nat) (p : Page) (ps : List Page), xs = [.mu i, .mu j] ∧ gm ms i = recO (.unsaid p) ∧ gm ms j = .dct (pgK ps) ∧ p.num ∉ ps.map (·.num) ∧ ps.length < 900 ∧ Ks (sm ms j (.dct (pgK (ps ++ [p])))) (.da .none)
theorem ok_UnsaidDeed_take_back (T : Tx K mg)  : OkM P w K mg base 1 "UnsaidDeed" "take_back" "UnsaidDeed.take_back" s_UnsaidDeed_take_back ["self", "pages"] 2 sp_UnsaidDeed_take_back := by
  refine ok_dataM (n0 := 0) T.d_UnsaidDeed_take_back sc_UnsaidDeed_take_back _ (fun f cdv A outer s H E hr =>
  (dss_clo (dss_one (ds_asg (de_fld T.f_UnsaidDeed_page (dv 0)) (dg_setG (hu1 hr) (dv 1) (de_fld T.f_UnsaidDeed_number (dv 0))))))) (fun xs ms Ks h hl => ?_)
  unfold sp_UnsaidDeed_take_back at h
  obtain ⟨i, j, p, ps, rfl, gi, gj, hn, hl, hk⟩ := h
  intro cl
  refine ⟨i, _, _, rfl, gi, .head _, _, rfl, i, _, _, rfl, gi, .head _, _, rfl, _, rfl, .inl ⟨_, _, gj, rfl, by rw [pgK_len]; exact sz (by omega), ?_⟩⟩
  show Ks (sm ms j (.dct (putD (pgK ps) (.inl p.num) (pgD p)))) _
  rw [pgK_put (by rw [pgK_has]; exact decide_eq_false hn)]
  exact hk
def sp_RetoldDeed_take_back : SpD := fun xs ms Ks => ∃ (i j : Nat) (p l : Page) (ps : List Page), xs = [.mu i, .mu j] ∧ gm ms i = recO (.retold p l) ∧ gm ms j = .dct (pgK ps) ∧ l.num ∈ ps.map (·.num) ∧ (ps.map (·.num)).Nodup ∧ p.num ∉ (dropP ps l.num).map (·.num) ∧ ps.length < 900 ∧ Ks (sm ms j (.dct (pgK (dropP ps l.num ++ [p])))) (.da .none)
theorem ok_RetoldDeed_take_back (T : Tx K mg)  : OkM P w K mg base 1 "RetoldDeed" "take_back" "RetoldDeed.take_back" s_RetoldDeed_take_back ["self", "pages"] 2 sp_RetoldDeed_take_back := by
  refine ok_dataM (n0 := 0) T.d_RetoldDeed_take_back sc_RetoldDeed_take_back _ (fun f cdv A outer s H E hr =>
  (dss_clo (dss_cons (ds_exp (de_popG (dv 1) (de_ix (de_fld T.f_RetoldDeed_later (dv 0)) de_int)))
  (dss_one (ds_asg (de_fld T.f_RetoldDeed_page (dv 0)) (dg_setG (hu1 hr) (dv 1) (de_fld T.f_RetoldDeed_number (dv 0)))))))) (fun xs ms Ks h hl => ?_)
  unfold sp_RetoldDeed_take_back at h
  obtain ⟨i, j, p, l, ps, rfl, gi, gj, hm, nd, hn, hl, hk⟩ := h
  intro cl
  obtain ⟨q, hq, en, hf⟩ := pgK_at nd hm
  have ij : j ≠ i := ne_of_gm gj gi (fun z => nomatch z)
  have lj : j < ms.length := gm_lt' gj (fun z => nomatch z)
  refine seqU fun u hu => ?_
  refine ⟨⟨_, _, rfl, gj⟩, i, _, _, rfl, gi, .head _, _, rfl, _, rfl, _, _, _, rfl, gj, hf, ?_⟩
  show u ⟨[.mu i, .mu j], sm ms j (.dct (dropD (pgK ps) (.inl l.num))), ms.length⟩ _
  rw [dropP_K, hu]; clear hu u
  have gi2 : gm (sm ms j (.dct (pgK (dropP ps l.num)))) i = recO (.retold p l) := (gm_sm_ne ij).trans gi
  have gj2 : gm (sm ms j (.dct (pgK (dropP ps l.num)))) j = .dct (pgK (dropP ps l.num)) := gm_sm_self lj
  refine ⟨i, _, _, rfl, gi2, .head _, _, rfl, i, _, _, rfl, gi2, .head _, _, rfl, _, rfl, .inl ⟨_, _, gj2, rfl, by rw [pgK_len]; exact sz (by have := dropP_len (ps := ps) (n := l.num); omega), ?_⟩⟩
  show Ks (sm (sm ms j (.dct (pgK (dropP ps l.num)))) j (.dct (putD (pgK (dropP ps l.num)) (.inl p.num) (pgD p)))) _
  rw [sm_sm2, pgK_put (by rw [pgK_has]; exact decide_eq_false hn)]
  exact hk
def sp_Book_init : SpD := fun xs ms Ks => ∃ (pre : List MO) (i j : Nat) (ds : List D) (a b : D), xs = [.mu pre.length, .mu i] ∧ ms = pre ++ [.ins (.obj "Book") []] ∧ i < pre.length ∧ j < pre.length ∧ gm pre i = .ins .tup [sq (.mu j), sq (.da a), sq (.da b)] ∧ gm pre j = .lst ds ∧ Ks (bkMs pre ⟨.tuple [.list ds, a, b], [], [], [.list []]⟩ []) (.da .none)
theorem ok_Book_init (T : Tx K mg)  : OkI P w K mg base 1 "Book" "Book.__init__" s_Book_init ["self", "terms"] 2 sp_Book_init := by
  refine ok_dataI (n0 := 0) T.d_Book_init sc_Book_init _ (fun f cdv A outer s H E hr =>
  (dss_clo (dss_cons (ds_fld T.f_Book_terms (dv 0) (de_tup (dan_cons (de_list (by rfl) (T.b_list) (de_ixS (dv 1) de_int)) (dan_cons (de_ixS (dv 1) de_int) (dan_cons (de_ixS (dv 1) de_int) dan_nil)))))
  (dss_cons (ds_fld T.f_Book_pages (dv 0) de_newD)
  (dss_cons (ds_fld T.f_Book_past (dv 0) (de_lstS dan_nil))
  (dss_one (ds_fld T.f_Book_states (dv 0) (de_lstM (dan_cons (de_lst dan_nil) dan_nil))))))))) (fun xs ms Ks h hl => ?_)
  unfold sp_Book_init at h
  obtain ⟨pre, i, j, ds, a, b, rfl, rfl, hi, hj, gi, gj, hk⟩ := h
  intro cl
  have gi1 : ∀ r, gm (pre ++ r) i = .ins .tup [sq (.mu j), sq (.da a), sq (.da b)] := fun r => by rw [gm_low hi]; exact gi
  have gj1 : ∀ r, gm (pre ++ r) j = .lst ds := fun r => by rw [gm_low hj]; exact gj
  refine insT_mk (gi1 _) ⟨_, rfl, ?_⟩
  refine onO_mk (vw_l (gj1 _)) (onO_mk rfl ?_)
  refine insT_mk (gi1 _) ⟨_, rfl, insT_mk (gi1 _) ⟨_, rfl, ?_⟩⟩
  refine onO_mk rfl ⟨pre.length, _, _, rfl, gm_pre pre _ 0, List.mem_singleton.mpr rfl, (show (0 : Nat) < 1000 by decide), ?_⟩
  try dsimp only [DL.S.sE, DL.S.sM, DL.S.aM, DL.S.cM, DL.st, DL.gt, DL.sm, DL.gm, DL.putM, DL.pick, DL.muks, DL.nthN, DL.bkE, DL.st0, DL.nos, List.cons_append, List.nil_append, List.append_nil, List.drop_succ_cons, List.drop_nil, List.drop_zero, List.drop, DL.a1, DL.a2, DL.a3, DL.cMin3, DL.aNil, DL.aCons, DL.dVar, DL.dC, DL.iI, DL.i1, DL.isB, DL.daI, DL.onE, DL.gN, List.length_cons, List.length_nil, Nat.reduceAdd, Nat.zero_add]
  rw [show sm (pre ++ [MO.ins (.obj "Book") []]) pre.length _ = _ from sm_pre pre _ 0 _]
  have st : ∀ (fs : List (Str × En)) (r : List MO) (m : MO) (f : Str) (w : WE) (E : Dn) (np : Nat), fs.length < 10 →
      (∀ (s : S) (Ks : S → En → Prop), Ks (s.aM m) (.mu s.ms.length) → w s Ks) →
      E.nx ⟨[.mu pre.length, .mu i], pre ++ (.ins (.obj "Book") (putE f (.mu (pre.length + (r.length + 1))) fs) :: (r ++ [m])), np⟩ →
      sFldSet ["Book"] f (dVar 0) w ⟨[.mu pre.length, .mu i], pre ++ (.ins (.obj "Book") fs :: r), np⟩ E := fun fs r m f w E np hl hw hE => by
    refine hw _ _ ?_
    refine ⟨pre.length, _, _, rfl, gmA, List.mem_singleton.mpr rfl, by omega, ?_⟩
    show E.nx ⟨_, sm ((pre ++ MO.ins (.obj "Book") fs :: r) ++ [m]) pre.length _, np⟩
    rw [smA, show (pre ++ MO.ins (.obj "Book") fs :: r).length = pre.length + (r.length + 1) from by rw [List.length_append, List.length_cons]]
    exact hE
  refine st _ [] (.dct []) "pages" dNewD _ _ (show 1 < 10 by decide) (fun s Ks h => h) ?_
  refine st _ [.dct []] (.ins .lst []) "past" (dLstS aNil) _ _ (show 2 < 10 by decide) (fun s Ks h => h) ?_
  refine st _ [.dct [], .ins .lst []] (.lst [.list []]) "states" (dLstM (aCons (dLst aNil) aNil)) _ _ (show 3 < 10 by decide) (fun s Ks h => onO_mk rfl h) ?_
  exact hk
def sp_Book_ask_number : SpX := fun xs ms Ks Kx => ∃ (pre : List MO) (B : BkP) (tl : List MO) (n : Int), xs = [.mu pre.length, .da (.int n)] ∧ ms = bkMs pre B tl ∧ ((findD B.kvs (.inl n)).isSome = false → Kx ms "NoPage") ∧ ((findD B.kvs (.inl n)).isSome = true → Ks ms (.da .none))
theorem ok_Book_ask_number (T : Tx K mg)  : OkMX P w K mg base 1 "Book" "ask_number" "Book.ask_number" s_Book_ask_number ["self", "number"] 2 sp_Book_ask_number := by
  refine ok_dataMX (n0 := 0) T.d_Book_ask_number sc_Book_ask_number _ (fun f cdv A outer s H E hr tk =>
  (dsx_one (dsx_if (dt_dnotinG (hu1 hr) (dv 1) (de_fld T.f_Book_pages (dv 0)))
    (dsx_one (dsx_raise rfl tk T.x_NoPage rfl))
    (DSs.x dss_nil)))) (fun xs ms Ks Kx h hl => ?_)
  unfold sp_Book_ask_number at h
  obtain ⟨pre, B, tl, n, rfl, rfl, h1, h2⟩ := h
  refine ⟨pre.length, _, _, rfl, b_0, List.mem_singleton.mpr rfl, _, rfl, ?_⟩
  refine ⟨_, _, rfl, dvl_d b_1, ?_⟩
  rw [show xr true (Option.map En.da (findD B.kvs (.inl n))).isSome = !(findD B.kvs (.inl n)).isSome from by rw [Option.isSome_map]; cases (findD B.kvs (.inl n)).isSome <;> rfl]
  exact ⟨fun e => h1 (by cases q : (findD B.kvs (.inl n)).isSome with | true => rw [q] at e; cases e | false => rfl), fun e => h2 (by cases q : (findD B.kvs (.inl n)).isSome with | true => rfl | false => rw [q] at e; cases e)⟩
def sp_Book_ask_new : SpX := fun xs ms Ks Kx => ∃ (pre : List MO) (B : BkP) (tl : List MO) (n : Int), xs = [.mu pre.length, .da (.int n)] ∧ ms = bkMs pre B tl ∧ ((findD B.kvs (.inl n)).isSome = true → Kx ms "Twice") ∧ ((findD B.kvs (.inl n)).isSome = false → Ks ms (.da .none))
theorem ok_Book_ask_new (T : Tx K mg)  : OkMX P w K mg base 1 "Book" "ask_new" "Book.ask_new" s_Book_ask_new ["self", "number"] 2 sp_Book_ask_new := by
  refine ok_dataMX (n0 := 0) T.d_Book_ask_new sc_Book_ask_new _ (fun f cdv A outer s H E hr tk =>
  (dsx_one (dsx_if (dt_dinG (hu1 hr) (dv 1) (de_fld T.f_Book_pages (dv 0)))
    (dsx_one (dsx_raise rfl tk T.x_Twice rfl))
    (DSs.x dss_nil)))) (fun xs ms Ks Kx h hl => ?_)
  unfold sp_Book_ask_new at h
  obtain ⟨pre, B, tl, n, rfl, rfl, h1, h2⟩ := h
  refine ⟨pre.length, _, _, rfl, b_0, List.mem_singleton.mpr rfl, _, rfl, ?_⟩
  refine ⟨_, _, rfl, dvl_d b_1, ?_⟩
  rw [show xr false (Option.map En.da (findD B.kvs (.inl n))).isSome = (findD B.kvs (.inl n)).isSome from by rw [Option.isSome_map]; cases (findD B.kvs (.inl n)).isSome <;> rfl]
  exact ⟨fun e => h1 e, fun e => h2 e⟩
def sp_due_word : SpD := fun xs ms Ks => ∃ (q : Nat) (t0 : D) (kj : Nat) (kp : List Page) (ks : List (Nat × List Page)) (st : List (List Page)) (d : Dh), xs = [.mu (q + 2), .da (dhD d)] ∧ KpR ms q t0 kj kp ks st ∧ Ks ms (.da (.str (dueW kp ks.isEmpty d)))
theorem ok_due_word (T : Tx K mg)  : Ok P w K mg base 1 "_law_due_word" s_due_word ["_law_kept", "_law_deed_here"] 2 sp_due_word := by
  refine ok_dataT (n0 := 2) T.d_due_word sc_due_word _ (fun f cdv A outer s H E hr =>
  (dss_clo (dss_cons (ds_par (i := 2) (j := 3) rfl sc_due_word.nd rfl rfl (by decide) rfl rfl (da_cons (de_ix (dv 1) de_int) (da_cons (de_if (dt_inD (hu64 hr) (de_ix (dv 1) de_int) (de_tup (dan_cons de_str (dan_cons de_str dan_nil)))) (de_ix (de_ix (dv 1) (de_neg de_int)) de_int) de_non) da_nil)) rfl)
  (dss_cons (ds_if (dt_eqS (dv 2) de_str)
    (dss_one (ds_ret (de_if (dt_dinG (hu1 hr) (dv 3) (de_dgetG (hu1 hr) (dv 0) de_str)) de_str de_str)))
    dss_nil)
  (dss_cons (ds_if (dt_eqS (dv 2) de_str)
    (dss_one (ds_ret (de_if (dt_nilS (hu64 hr) (de_dgetG (hu1 hr) (dv 0) de_str) (de_lst dan_nil)) de_str de_str)))
    dss_nil)
  (dss_cons (ds_if (dt_dnotinG (hu1 hr) (de_ix (dv 1) de_int) (de_dgetG (hu1 hr) (dv 0) de_str))
    (dss_one (ds_ret de_str))
    dss_nil)
  (dss_one (ds_ret (de_if (dt_bool (dw_and (dt_eqS (dv 2) de_str) (dw_and (dt_neD (hu64 hr) (dv 3) (de_ix (dv 1) de_int)) (dw_and1 (dt_dinG (hu1 hr) (dv 3) (de_dgetG (hu1 hr) (dv 0) de_str)))))) de_str de_str))))))))) (fun xs ms Ks h hl => ?_)
  unfold sp_due_word at h
  obtain ⟨q, t0, kj, kp, ks, st, d, rfl, K, hk⟩ := h
  intro cl
  refine seqU fun u hu => ?_
  cases d with
  | say p =>
    refine ⟨_, rfl, _, rfl, onO_mk rfl (onO_mk rfl (onO_mk rfl (onO_mk rfl ⟨fit_say, fit_two, fun _ => ?_, fun z => absurd z (by decide +kernel)⟩)))⟩
    refine ⟨_, rfl, _, rfl, ?_⟩
    show u ⟨[.mu (q + 2), .da (dhD (.say p)), .da (.str "say"), .da (.int p.num)], ms, ms.length⟩ _
    rw [hu]; clear hu u
    refine seqU fun u hu => ?_
    refine ⟨fun _ => ?_, fun z => absurd z (by decide +kernel)⟩
    refine ⟨_, _, rfl, K.pages, _, _, rfl, dvl_d K.gk, ?_⟩
    rw [has_b]
    dsimp only [dueW] at hk
    refine ⟨fun e => ?_, fun e => ?_⟩
    · rw [if_pos (of_decide_eq_true e)] at hk
      exact hk
    · rw [if_neg (of_decide_eq_false e)] at hk
      exact hk
  | unsay n =>
    refine ⟨_, rfl, _, rfl, onO_mk rfl (onO_mk rfl (onO_mk rfl (onO_mk rfl ⟨fit_str sk_unsay, fit_two, fun z => absurd z (by decide +kernel), fun _ => ?_⟩)))⟩
    show u ⟨[.mu (q + 2), .da (dhD (.unsay n)), .da (.str "unsay"), .da .none], ms, ms.length⟩ _
    rw [hu]; clear hu u
    refine seqU fun u hu => ?_
    refine ⟨fun z => absurd z (by decide +kernel), fun _ => ?_⟩
    dsimp only [sNil]
    rw [hu]; clear hu u
    refine seqU fun u hu => ?_
    refine ⟨fun z => absurd z (by decide +kernel), fun _ => ?_⟩
    dsimp only [sNil]
    rw [hu]; clear hu u
    refine seqU fun u hu => ?_
    refine ⟨_, rfl, _, _, rfl, K.pages, _, _, rfl, dvl_d K.gk, ?_⟩
    rw [has_b, if_pos rfl]
    dsimp only [dueW] at hk
    by_cases hn : n ∈ kp.map (·.num)
    · rw [if_pos hn] at hk
      rw [decide_eq_true hn]
      refine ⟨fun z => absurd z (by decide), fun _ => ?_⟩
      dsimp only [sNil]
      rw [hu]; clear hu u
      refine ⟨fun z => absurd z (by decide +kernel), fun _ => ff ?_⟩
      exact hk
    · rw [if_neg hn] at hk
      rw [decide_eq_false hn]
      exact tt hk
  | retell n p =>
    refine ⟨_, rfl, _, rfl, onO_mk rfl (onO_mk rfl (onO_mk rfl (onO_mk rfl ⟨fit_str sk_retell, fit_two, fun _ => ?_, fun z => absurd z (by decide +kernel)⟩)))⟩
    refine ⟨_, rfl, _, rfl, ?_⟩
    show u ⟨[.mu (q + 2), .da (dhD (.retell n p)), .da (.str "retell"), .da (.int p.num)], ms, ms.length⟩ _
    rw [hu]; clear hu u
    refine seqU fun u hu => ?_
    refine ⟨fun z => absurd z (by decide +kernel), fun _ => ?_⟩
    dsimp only [sNil]
    rw [hu]; clear hu u
    refine seqU fun u hu => ?_
    refine ⟨fun z => absurd z (by decide +kernel), fun _ => ?_⟩
    dsimp only [sNil]
    rw [hu]; clear hu u
    refine seqU fun u hu => ?_
    refine ⟨_, rfl, _, _, rfl, K.pages, _, _, rfl, dvl_d K.gk, ?_⟩
    rw [has_b, if_pos rfl]
    dsimp only [dueW] at hk
    by_cases hn : n ∈ kp.map (·.num)
    · rw [if_pos hn] at hk
      rw [decide_eq_true hn]
      refine ⟨fun z => absurd z (by decide), fun _ => ?_⟩
      dsimp only [sNil]
      rw [hu]; clear hu u
      have iok : ∀ k : Int, SeqAt.shaped (.int k) = true := fun k => (Ok2.int (k := 0) (i := k)).sh (by decide)
      refine ⟨fun _ => ?_, fun z => absurd z (by decide +kernel)⟩
      refine ⟨_, rfl, onO_mk rfl (onO_mk rfl ⟨iok _, iok _, ?_⟩)⟩
      rw [ne_int]
      refine ⟨fun e => ?_, fun e => ff ?_⟩
      · have ne := of_decide_eq_true e
        refine ⟨_, _, rfl, K.pages, _, _, rfl, dvl_d K.gk, ?_⟩
        rw [has_b, if_neg (by decide)]
        refine ⟨fun e => ?_, fun e => ?_⟩
        · rw [if_pos ⟨ne, of_decide_eq_true e⟩] at hk
          exact hk
        · rw [if_neg fun z => of_decide_eq_false e z.2] at hk
          exact hk
      · rw [if_neg fun z => of_decide_eq_false e z.1] at hk
        exact hk
    · rw [if_neg hn] at hk
      rw [decide_eq_false hn]
      exact tt hk
  | undo =>
    refine ⟨_, rfl, _, rfl, onO_mk rfl (onO_mk rfl (onO_mk rfl (onO_mk rfl ⟨fit_str sk_undo, fit_two, fun z => absurd z (by decide +kernel), fun _ => ?_⟩)))⟩
    show u ⟨[.mu (q + 2), .da (dhD .undo), .da (.str "undo"), .da .none], ms, ms.length⟩ _
    rw [hu]; clear hu u
    refine seqU fun u hu => ?_
    refine ⟨fun z => absurd z (by decide +kernel), fun _ => ?_⟩
    dsimp only [sNil]
    rw [hu]; clear hu u
    refine ⟨fun _ => ?_, fun z => absurd z (by decide +kernel)⟩
    refine ⟨_, _, rfl, K.past, ?_⟩
    dsimp only [dLst, aNil]
    refine onO_mk rfl (isLstS_mk K.g8 ⟨rfl, ?_⟩)
    rw [muS_empty, show (ks.map (·.1)).isEmpty = ks.isEmpty by cases ks <;> rfl]
    dsimp only [dueW] at hk
    refine ⟨fun e => ?_, fun e => ?_⟩
    · rw [if_pos e] at hk
      exact hk
    · rw [if_neg (by rw [e]; decide)] at hk
      exact hk
def sp_class : SpD := fun xs ms Ks => ∃ (i : Nat) (c : Str), xs = [.mu i] ∧ gm ms i = .ins (.exc c) [] ∧ (c = "Twice" ∨ c = "NoPage" ∨ c = "NoDeed") ∧ Ks ms (.da (.str c))
theorem ok_class (T : Tx K mg)  : Ok P w K mg base 1 "_law_class" s_class ["_law_caught"] 1 sp_class := by
  refine ok_dataT (n0 := 1) T.d_class sc_class _ (fun f cdv A outer s H E hr =>
  (dss_clo (dss_cons (ds_set (i := 1) sc_class.nd rfl (by first | exact .inl rfl | exact .inr rfl) (de_lst (dan_cons (de_isx T.i_Twice (by rfl) (T.b_isinstance) (by rfl) (dv 0)) (dan_cons (de_isx T.i_NoPage (by rfl) (T.b_isinstance) (by rfl) (dv 0)) (dan_cons (de_isx T.i_NoDeed (by rfl) (T.b_isinstance) (by rfl) (dv 0)) dan_nil)))))
  (dss_cons (ds_set (i := 1) sc_class.nd rfl (by first | exact .inl rfl | exact .inr rfl) (de_cat (dv 1) (de_lst (dan_cons (de_isx T.i_NoCask (by rfl) (T.b_isinstance) (by rfl) (dv 0)) (dan_cons (de_isx T.i_Unfit (by rfl) (T.b_isinstance) (by rfl) (dv 0)) dan_nil)))))
  (dss_cons (ds_if (dt_bool (dw_or (dt_neS (de_countDd (hu65 hr) (dv 1) de_bl) de_int) (dw_or (dt_val (de_isxs T.i_BadText_BadRow (by rfl) (T.b_isinstance) (dcls_cons (by rfl) (dcls_cons (by rfl) dcls_nil)) (dv 0))) (dw_or1 (dt_not (dt_val (de_isx T.i_ValueError (by rfl) (T.b_isinstance) (by rfl) (dv 0))))))))
    (dss_one (ds_ret de_str))
    dss_nil)
  (dss_one (ds_ret (de_ix (de_lst (dan_cons de_str (dan_cons de_str (dan_cons de_str (dan_cons de_str (dan_cons de_str dan_nil)))))) (de_indexDd (hu65 hr) (dv 1) de_bl))))))))) (fun xs ms Ks h hl => ?_)
  unfold sp_class at h
  obtain ⟨i, c, rfl, gi, hc, hk⟩ := h
  intro cl
  rcases hc with rfl | rfl | rfl
  · refine ⟨i, _, _, true, rfl, gi, by decide, i, _, _, false, rfl, gi, by decide, i, _, _, false, rfl, gi, by decide, onO_mk rfl ?_⟩
    refine onO_mk rfl ?_
    refine ⟨i, _, _, false, rfl, gi, by decide, i, _, _, false, rfl, gi, by decide, onO_mk rfl ?_⟩
    refine onO_mk rfl (onO_mk rfl (onO_mk rfl ⟨(by decide : 3 + 2 ≤ sizeLine), ?_⟩))
    refine ⟨⟨_, rfl⟩, _, rfl, by decide +kernel, by decide +kernel, ?_⟩
    refine ⟨fun z => absurd z (by decide +kernel), fun _ => ?_⟩
    refine ⟨i, _, _, false, rfl, gi, by decide, ?_⟩
    refine ⟨fun z => absurd z (by decide), fun _ => ?_⟩
    refine ⟨i, _, _, true, rfl, gi, by decide, ?_⟩
    refine ⟨fun z => absurd z (by decide), fun _ => ?_⟩
    refine onO_mk rfl ?_
    refine ⟨⟨_, rfl⟩, _, 0, .bool true, rfl, by decide +kernel, by decide +kernel, rfl, by decide +kernel, fun m z hm hz => ?_, ?_⟩
    · exact absurd hm (Nat.not_lt_zero m)
    exact ⟨_, rfl, hk⟩
  · refine ⟨i, _, _, false, rfl, gi, by decide, i, _, _, true, rfl, gi, by decide, i, _, _, false, rfl, gi, by decide, onO_mk rfl ?_⟩
    refine onO_mk rfl ?_
    refine ⟨i, _, _, false, rfl, gi, by decide, i, _, _, false, rfl, gi, by decide, onO_mk rfl ?_⟩
    refine onO_mk rfl (onO_mk rfl (onO_mk rfl ⟨(by decide : 3 + 2 ≤ sizeLine), ?_⟩))
    refine ⟨⟨_, rfl⟩, _, rfl, by decide +kernel, by decide +kernel, ?_⟩
    refine ⟨fun z => absurd z (by decide +kernel), fun _ => ?_⟩
    refine ⟨i, _, _, false, rfl, gi, by decide, ?_⟩
    refine ⟨fun z => absurd z (by decide), fun _ => ?_⟩
    refine ⟨i, _, _, true, rfl, gi, by decide, ?_⟩
    refine ⟨fun z => absurd z (by decide), fun _ => ?_⟩
    refine onO_mk rfl ?_
    refine ⟨⟨_, rfl⟩, _, 1, .bool true, rfl, by decide +kernel, by decide +kernel, rfl, by decide +kernel, fun m z hm hz => ?_, ?_⟩
    · have : m < 1 := hm
      match m, this with
      | 0, _ => cases hz; decide +kernel
    exact ⟨_, rfl, hk⟩
  · refine ⟨i, _, _, false, rfl, gi, by decide, i, _, _, false, rfl, gi, by decide, i, _, _, true, rfl, gi, by decide, onO_mk rfl ?_⟩
    refine onO_mk rfl ?_
    refine ⟨i, _, _, false, rfl, gi, by decide, i, _, _, false, rfl, gi, by decide, onO_mk rfl ?_⟩
    refine onO_mk rfl (onO_mk rfl (onO_mk rfl ⟨(by decide : 3 + 2 ≤ sizeLine), ?_⟩))
    refine ⟨⟨_, rfl⟩, _, rfl, by decide +kernel, by decide +kernel, ?_⟩
    refine ⟨fun z => absurd z (by decide +kernel), fun _ => ?_⟩
    refine ⟨i, _, _, false, rfl, gi, by decide, ?_⟩
    refine ⟨fun z => absurd z (by decide), fun _ => ?_⟩
    refine ⟨i, _, _, true, rfl, gi, by decide, ?_⟩
    refine ⟨fun z => absurd z (by decide), fun _ => ?_⟩
    refine onO_mk rfl ?_
    refine ⟨⟨_, rfl⟩, _, 2, .bool true, rfl, by decide +kernel, by decide +kernel, rfl, by decide +kernel, fun m z hm hz => ?_, ?_⟩
    · have : m < 2 := hm
      match m, this with
      | 0, _ => cases hz; decide +kernel
      | 1, _ => cases hz; decide +kernel
    exact ⟨_, rfl, hk⟩
def sp_names : SpD := fun xs ms Ks => match xs, ms with
  | [.mu 0, .da (.int many)], [.rnd n] => 0 ≤ many ∧ many ≤ 12 ∧ 150 ≤ n ∧ ∀ (m : Nat) (l : List Str), n ≤ m + 150 → NmN l → (0 < many → 0 < l.length) → Ks [.rnd m] (.da (.list (l.map .str)))
  | _, _ => False
theorem ok_names (T : Tx K mg) (o_take : Ok P w K mg base 1 "_law_take" s_take ["_law_state", "_law_many"] 2 spTake) : Ok P w K mg base 2 "_law_names" s_names ["_law_state", "_law_many"] 2 sp_names := by
  refine ok_data (n0 := 5) T.d_names sc_names _ (fun f cdv A outer s H E hr =>
  (dss_cons (ds_set (i := 2) sc_names.nd rfl (by first | exact .inl rfl | exact .inr rfl) de_str)
  (dss_cons (ds_set (i := 3) sc_names.nd rfl (by first | exact .inl rfl | exact .inr rfl) de_newD)
  (dss_cons (ds_for [1, 4, 5, 6] 2 PassesOwn.never rfl (di_range1 (by rfl) (T.b_range) (da_cons (dv 1) da_nil)) (dg_name (i := 4) sc_names.nd rfl (by first | exact .inl rfl | exact .inr rfl))
    (dss_cons (ds_set (i := 5) sc_names.nd rfl (by first | exact .inl rfl | exact .inr rfl) (de_join de_str (de_lc [("_law_turn", 6)] rfl sc_names.nd (di_range1 (by rfl) (T.b_range) (da_cons (de_callV o_take (hr.mono (by omega)) (by rfl) (dan_cons (dv 0) (dan_cons de_int dan_nil))) da_nil)) (BlkOk.mk (N := ["_law_state", "_law_many", "_law_letters", "_law_found", "_law_k", "_law_word", "_law_turn"]) (sc := defScope s_names) rfl (by decide +kernel) (by decide +kernel) (by decide +kernel) (by decide +kernel)) (by decide) (fun _ _ _ _ _ => (dg_name (i := 6) sc_names.nd rfl (by first | exact .inl rfl | exact .inr rfl))) (fun _ _ _ _ _ => dts_nil) (fun _ _ _ _ _ => (de_ix (dv 2) (de_callV o_take (hr.mono (by omega)) (by rfl) (dan_cons (dv 0) (dan_cons de_int dan_nil))))))))
    (dss_one (ds_asg de_bl (dg_setD (hu1 hr) (dv 3) (de_addS (dv 5) (de_ix (dv 2) (de_mod (de_add (de_mul de_int (dv 4)) de_int) de_int))))))))
  (dss_one (ds_ret (de_sortD (hu64 hr) (by rfl) (T.b_sorted) (de_listK rfl (by rfl) (T.b_list) (dv 3))))))))) (fun xs ms Ks h hl => ?_)
  unfold sp_names at h
  split at h
  · rename_i many n
    obtain ⟨m0, m1, hn, hk⟩ := h
    refine ⟨by omega, by omega, fun (i : Nat) (s : S) => ∃ q l, s = ⟨[.mu 0, .no, .da (.str "abcdefghijklmnopqrstuvwxyz"), .mu 1, .no, .no, .no], [.rnd q, .dct (setT l)], 1⟩ ∧ n ≤ q + 8 * i ∧ (∀ x ∈ l, sOk x ∧ x ≠ Str.empty) ∧ (setT l).length ≤ i ∧ (0 < i → 0 < (setT l).length), ⟨Nat.le_succ 1, n, [], by (simp only [DL.clS, DL.killL, DL.limL, DL.limE_mu, DL.limE_da, DL.limE_no, DL.takM, DL.limM, DL.frzS, DL.subL, DL.subE_mu, DL.subE_da, DL.subE_no, DL.subS, DL.subM, DL.S.sE, DL.S.sM, DL.S.aM, DL.S.cM, DL.st, DL.gt, DL.sm, DL.gm, DL.putM, DL.pick, DL.muks, DL.nthN, DL.bkE, DL.st0, DL.nos, List.cons_append, List.nil_append, List.append_nil, List.drop_succ_cons, List.drop_nil, List.drop_zero, List.length_cons, List.length_nil, List.map_cons, List.map_nil, List.map_append, Nat.reduceAdd, Nat.zero_add, Nat.reduceLT, Nat.reduceEqDiff, if_true, if_false, ↓reduceIte, Nat.lt_irrefl, Nat.not_lt_zero] <;> rfl), by omega, (fun x hx => by cases hx), Nat.le_refl _, fun h => absurd h (by omega)⟩, ?_, ?_⟩
    · rintro i d s hi ⟨q, l, rfl, hq, hl, hll, _⟩
      have hi2 : i < 12 := by
        have := (List.getElem?_eq_some_iff.mp hi).1
        rw [rng_length] at this
        omega
      obtain ⟨_, rfl⟩ := rng_get hi
      refine ⟨nd1, rfl, by omega, divA 8 (by decide) (by decide), fun a a0 a1 => ⟨rfl, ?_⟩⟩
      try dsimp only [DL.S.sE, DL.S.sM, DL.S.aM, DL.S.cM, DL.st, DL.gt, DL.sm, DL.gm, DL.putM, DL.pick, DL.muks, DL.nthN, DL.bkE, DL.st0, DL.nos, List.cons_append, List.nil_append, List.append_nil, List.drop_succ_cons, List.drop_nil, List.drop_zero, List.drop, DL.a1, DL.a2, DL.a3, DL.cMin3, DL.aNil, DL.aCons, DL.dVar, DL.dC, DL.iI, DL.i1, DL.isB, DL.daI, DL.onE, DL.gN, List.length_cons, List.length_nil, Nat.reduceAdd, Nat.zero_add]
      refine ⟨by omega, by omega, fun (j : Nat) (mo : List MO) (acc : List D) => ∃ p ys, mo = [.rnd p, .dct (setT l)] ∧ q ≤ p + 1 + j ∧ acc = ys.map .str ∧ ys.length = j ∧ ∀ y ∈ ys, wOk y ∧ y.length = 1, ⟨q - 1, [], rfl, by omega, rfl, rfl, (fun y hy => by cases hy)⟩, ?_, ?_⟩
      · rintro j e mo acc hj ⟨p, ys, rfl, hp, rfl, hyl, hy⟩ _
        have hj2 : j < 8 := by
          have := (List.getElem?_eq_some_iff.mp hj).1
          rw [rng_length] at this
          omega
        refine tt ?_
        try dsimp only [DL.S.sE, DL.S.sM, DL.S.aM, DL.S.cM, DL.st, DL.gt, DL.sm, DL.gm, DL.putM, DL.pick, DL.muks, DL.nthN, DL.bkE, DL.st0, DL.nos, List.cons_append, List.nil_append, List.append_nil, List.drop_succ_cons, List.drop_nil, List.drop_zero, List.drop, DL.a1, DL.a2, DL.a3, DL.cMin3, DL.aNil, DL.aCons, DL.dVar, DL.dC, DL.iI, DL.i1, DL.isB, DL.daI, DL.onE, DL.gN, List.length_cons, List.length_nil, Nat.reduceAdd, Nat.zero_add]
        refine ⟨nd1, rfl, by omega, divA 8 (by decide) (by decide), fun t t0 t1 => ⟨rfl, ?_⟩⟩
        try dsimp only [DL.S.sE, DL.S.sM, DL.S.aM, DL.S.cM, DL.st, DL.gt, DL.sm, DL.gm, DL.putM, DL.pick, DL.muks, DL.nthN, DL.bkE, DL.st0, DL.nos, List.cons_append, List.nil_append, List.append_nil, List.drop_succ_cons, List.drop_nil, List.drop_zero, List.drop, DL.a1, DL.a2, DL.a3, DL.cMin3, DL.aNil, DL.aCons, DL.dVar, DL.dC, DL.iI, DL.i1, DL.isB, DL.daI, DL.onE, DL.gN, List.length_cons, List.length_nil, Nat.reduceAdd, Nat.zero_add]
        refine ⟨_, abc_at t0 t1, by decide +kernel, ?_⟩
        refine ⟨by rw [List.length_map]; exact sz (by omega), rfl, p - 1, ys ++ [⟨#[97 + t.toNat]⟩], rfl, by omega, by rw [List.map_append]; rfl, by rw [List.length_append, hyl]; rfl, fun y h => ?_⟩
        rcases List.mem_append.mp h with h | h
        · exact hy y h
        · rw [List.mem_singleton.mp h]
          refine ⟨?_, rfl⟩
          unfold wOk
          simp
          omega
      rintro mo acc ⟨p, ys, rfl, hp, rfl, hyl, hy⟩ _
      rw [rng_length] at hp hyl
      have hyl2 : ys.length < 8 := by omega
      obtain ⟨j1, j2⟩ := join_ok hy
      have hsum : (ys.map (·.length)).sum + ys.length * (Str.ofString "").length ≤ 16777216 := by
        have e0 : (Str.ofString "").length = 0 := by decide +kernel
        have : ∀ l : List Str, (∀ y ∈ l, wOk y ∧ y.length = 1) → (l.map (·.length)).sum = l.length := by
          intro l
          induction l with
          | nil => intro _; rfl
          | cons y l ih => intro h; rw [List.map_cons, List.sum_cons, ih fun z hz => h z (by simp [hz]), (h y (by simp)).2, List.length_cons]; omega
        rw [this ys hy, e0]
        omega
      refine ⟨ys, rfl, hsum, ?_⟩
      generalize Txt.join (Str.ofString "") ys = w at *
      have c0 : 0 ≤ (7 * (0 + (i : Int)) + 3) % 26 := Int.emod_nonneg _ (by decide)
      have c1 : (7 * (0 + (i : Int)) + 3) % 26 < 26 := Int.emod_lt_of_pos _ (by decide)
      refine ⟨mulA 8 8 (by decide) (by omega), by decide, _, abc_at c0 c1, by decide +kernel, ?_, ?_⟩
      · show w.length + 1 ≤ sizeLine
        exact Nat.le_of_lt (sz (by omega))
      refine ⟨by exact sz (by omega), Nat.le_succ 1, p, l ++ [w ++ ⟨#[97 + ((7 * (0 + (i : Int)) + 3) % 26).toNat]⟩], ?_, by omega, fun x hx => ?_, ?_, fun _ => by rw [setT_snoc]; exact putD_pos⟩
      · rw [setT_snoc]
        (simp only [DL.clS, DL.killL, DL.limL, DL.limE_mu, DL.limE_da, DL.limE_no, DL.takM, DL.limM, DL.frzS, DL.subL, DL.subE_mu, DL.subE_da, DL.subE_no, DL.subS, DL.subM, DL.S.sE, DL.S.sM, DL.S.aM, DL.S.cM, DL.st, DL.gt, DL.sm, DL.gm, DL.putM, DL.pick, DL.muks, DL.nthN, DL.bkE, DL.st0, DL.nos, List.cons_append, List.nil_append, List.append_nil, List.drop_succ_cons, List.drop_nil, List.drop_zero, List.length_cons, List.length_nil, List.map_cons, List.map_nil, List.map_append, Nat.reduceAdd, Nat.zero_add, Nat.reduceLT, Nat.reduceEqDiff, if_true, if_false, ↓reduceIte, Nat.lt_irrefl, Nat.not_lt_zero] <;> rfl)
      · rcases List.mem_append.mp hx with hx | hx
        · exact hl x hx
        · rw [List.mem_singleton.mp hx]
          exact ⟨sOk_w (j1.snoc (by omega)), fun z => by have := congrArg Str.length z; rw [Str.length_append] at this; cases this⟩
      · rw [setT_snoc]
        have := putD_len (setT l) (.inr (w ++ ⟨#[97 + ((7 * (0 + (i : Int)) + 3) % 26).toNat]⟩)) (.bool true)
        omega
    · rintro s ⟨q, l, rfl, hq, hl, hll, hpo⟩
      rw [rng_length] at hq hll hpo
      obtain ⟨m, hm1, hm2⟩ := setT_keys l
      obtain ⟨m2, hm3, hm4, hm5⟩ := sortD_strs2 m
      have hml : m.length = (setT l).length := by
        have := congrArg List.length hm1
        rw [List.length_map, List.length_map] at this
        exact this.symm
      refine ⟨_, congrArg (fun l => some (PyData.list l)) hm1, can_strs fun x hx => (hl x (hm2 x hx)).1, ?_⟩
      rw [hm3]
      exact hk _ m2 (by omega) ⟨⟨fun x hx => (hl x (hm2 x (hm4.mem_iff.mp hx))).1, by rw [hm4.length_eq, hml]; omega, hm4.nodup_iff.mpr (nodup_keysT hm1), hm5⟩, fun x hx => (hl x (hm2 x (hm4.mem_iff.mp hx))).2⟩ (fun h => by rw [hm4.length_eq, hml]; exact hpo (by omega))
  · exact h.elim
def sp_some : SpD := fun xs ms Ks => ∃ (x : En) (ds : List D) (n : Nat) (tl : List MO), xs = [.mu 0, x] ∧ ms = .rnd n :: tl ∧ ((x = .da (.list ds) ∧ tl = []) ∨ (x = .mu 1 ∧ tl = [.lst ds])) ∧ 0 < ds.length ∧ ds.length ≤ 1000 ∧ 1 ≤ n ∧ ∀ (m : Nat) (d : D), n ≤ m + 1 → d ∈ ds → Ks (.rnd m :: tl) (.da d)
theorem ok_some (T : Tx K mg) (o_take : Ok P w K mg base 1 "_law_take" s_take ["_law_state", "_law_many"] 2 spTake) : Ok P w K mg base 2 "_law_some" s_some ["_law_state", "_law_things"] 2 sp_some := by
  refine ok_data (n0 := 0) T.d_some sc_some _ (fun f cdv A outer s H E hr =>
  (dss_one (ds_ret (de_ix (dv 1) (de_callV o_take (hr.mono (by omega)) (by rfl) (dan_cons (dv 0) (dan_cons (de_len (x := "") (by rfl) (T.b_len) (dv 1)) dan_nil))))))) (fun xs ms Ks h hl => ?_)
  unfold sp_some at h
  obtain ⟨x, ds, n, tl, rfl, rfl, hx, h0, h1, hn, hk⟩ := h
  rcases hx with ⟨rfl, rfl⟩ | ⟨rfl, rfl⟩
  · refine ⟨nd1, rfl, hn, divA 10 (by omega) (by omega), fun t t0 t1 => ⟨rfl, ?_⟩⟩
    try dsimp only [DL.S.sE, DL.S.sM, DL.S.aM, DL.S.cM, DL.st, DL.gt, DL.sm, DL.gm, DL.putM, DL.pick, DL.muks, DL.nthN, DL.bkE, DL.st0, DL.nos, List.cons_append, List.nil_append, List.append_nil, List.drop_succ_cons, List.drop_nil, List.drop_zero, List.drop, DL.a1, DL.a2, DL.a3, DL.cMin3, DL.aNil, DL.aCons, DL.dVar, DL.dC, DL.iI, DL.i1, DL.isB, DL.daI, DL.onE, DL.gN, List.length_cons, List.length_nil, Nat.reduceAdd, Nat.zero_add]
    obtain ⟨r, hr, er⟩ := at_mem t0 t1
    exact ⟨_, er, hk (n - 1) r (by omega) hr⟩
  · refine ⟨nd1, rfl, hn, divA 10 (by omega) (by omega), fun t t0 t1 => ⟨rfl, ?_⟩⟩
    try dsimp only [DL.S.sE, DL.S.sM, DL.S.aM, DL.S.cM, DL.st, DL.gt, DL.sm, DL.gm, DL.putM, DL.pick, DL.muks, DL.nthN, DL.bkE, DL.st0, DL.nos, List.cons_append, List.nil_append, List.append_nil, List.drop_succ_cons, List.drop_nil, List.drop_zero, List.drop, DL.a1, DL.a2, DL.a3, DL.cMin3, DL.aNil, DL.aCons, DL.dVar, DL.dC, DL.iI, DL.i1, DL.isB, DL.daI, DL.onE, DL.gN, List.length_cons, List.length_nil, Nat.reduceAdd, Nat.zero_add]
    obtain ⟨r, hr, er⟩ := at_mem t0 t1
    exact ⟨_, er, hk (n - 1) r (by omega) hr⟩
def sp_measured : SpD := fun xs ms Ks => ∃ (tb0 tb1 : MO) (n : Nat) (L : List MO) (W : BW) (tl : List MO) (B : Int) (c : Str) (k : BC), xs = [.mu 2, .mu (L.length + 3), .da (.str c)] ∧ ms = tb0 :: tb1 :: .rnd n :: bW L W tl ∧ WOk W B ∧ B.natAbs < 2 ^ 2000 ∧ fC W.ck c = some k ∧ 20 ≤ n ∧
  ∀ (m : Nat) (b p : Int), n ≤ m + 10 → 0 ≤ b → b ≤ k.bk + 1 → 0 ≤ p → p ≤ 10000 * b → Ks (tb0 :: tb1 :: .rnd m :: bW L W tl) (.da (.tuple [.int b, .int p]))
theorem ok_measured (T : Tx K mg) (o_take : Ok P w K mg base 1 "_law_take" s_take ["_law_state", "_law_many"] 2 spTake) : Ok P w K mg base 2 "_law_measured" s_measured ["_law_state", "_law_world_here", "_law_cask"] 3 sp_measured := by
  refine ok_dataT (n0 := 2) T.d_measured sc_measured _ (fun f cdv A outer s H E hr =>
  (dss_clo (dss_cons (ds_set (i := 3) sc_measured.nd rfl (by first | exact .inl rfl | exact .inr rfl) (de_div (de_mul (de_dgetG (hu1 hr) (de_dgetG (hu1 hr) (dv 1) de_str) (dv 2)) (de_sub de_int (de_mul (de_callV o_take (hr.mono (by omega)) (by rfl) (dan_cons (dv 0) (dan_cons de_int dan_nil))) (de_callV o_take (hr.mono (by omega)) (by rfl) (dan_cons (dv 0) (dan_cons de_int dan_nil)))))) de_int))
  (dss_cons (ds_set (i := 3) sc_measured.nd rfl (by first | exact .inl rfl | exact .inr rfl) (de_min rfl (by rfl) (T.b_min) (dv 3) (de_add (de_dgetG (hu1 hr) (de_dgetG (hu1 hr) (dv 1) de_str) (dv 2)) (de_callV o_take (hr.mono (by omega)) (by rfl) (dan_cons (dv 0) (dan_cons de_int dan_nil))))))
  (dss_cons (ds_set (i := 4) sc_measured.nd rfl (by first | exact .inl rfl | exact .inr rfl) (de_div (de_mul (de_mul (dv 3) (de_dgetG (hu1 hr) (de_dgetG (hu1 hr) (dv 1) de_str) (dv 2))) (de_sub de_int (de_callV o_take (hr.mono (by omega)) (by rfl) (dan_cons (dv 0) (dan_cons de_int dan_nil))))) de_int))
  (dss_one (ds_ret (de_tup (dan_cons (dv 3) (dan_cons (de_ix (de_lst (dan_cons (dv 4) (dan_cons de_int (dan_cons (de_mul de_int (dv 3)) dan_nil)))) (de_if (dt_eqS (de_callV o_take (hr.mono (by omega)) (by rfl) (dan_cons (dv 0) (dan_cons de_int dan_nil))) de_int) (de_div (de_callV o_take (hr.mono (by omega)) (by rfl) (dan_cons (dv 0) (dan_cons de_int dan_nil))) de_int) de_int)) dan_nil)))))))))) (fun xs ms Ks h hl => ?_)
  unfold sp_measured at h
  obtain ⟨tb0, tb1, n, L, W, tl, B, c, k, rfl, rfl, H, hB, hc, hn, hk⟩ := h
  intro cl
  have f1 := fun m => @wd_bulk tb0 tb1 m L W tl
  have f2 := fun m => @wd_strong tb0 tb1 m L W tl
  have f3 := fun m => @gi_bulk tb0 tb1 m L W tl c k hc
  have f4 := fun m => @gi_strong tb0 tb1 m L W tl c k hc
  obtain ⟨_, _, k0, k1, s0, s1⟩ := H.ckc k (fC_some hc).1
  have kB : k.bk.natAbs < 2 ^ 2000 := by omega
  clear cl H
  generalize bW L W tl = R0 at *
  refine seqU fun u hu => ?_
  refine ⟨_, _, rfl, f1 n, _, _, rfl, f3 n, nd1, rfl, by omega, divA 10 (by decide) (by decide), fun t t0 t1 => ⟨rfl, ?_⟩⟩
  try dsimp only [DL.S.sE, DL.S.sM, DL.S.aM, DL.S.cM, DL.st, DL.gt, DL.sm, DL.gm, DL.putM, DL.pick, DL.muks, DL.nthN, DL.bkE, DL.st0, DL.nos, List.cons_append, List.nil_append, List.append_nil, List.drop_succ_cons, List.drop_nil, List.drop_zero, List.drop, DL.a1, DL.a2, DL.a3, DL.cMin3, DL.aNil, DL.aCons, DL.dVar, DL.dC, DL.iI, DL.i1, DL.isB, DL.daI, DL.onE, DL.gN, List.length_cons, List.length_nil, Nat.reduceAdd, Nat.zero_add]
  refine ⟨nd1, rfl, by omega, divA 10 (by decide) (by decide), fun t' t'0 t'1 => ⟨rfl, ?_⟩⟩
  try dsimp only [DL.S.sE, DL.S.sM, DL.S.aM, DL.S.cM, DL.st, DL.gt, DL.sm, DL.gm, DL.putM, DL.pick, DL.muks, DL.nthN, DL.bkE, DL.st0, DL.nos, List.cons_append, List.nil_append, List.append_nil, List.drop_succ_cons, List.drop_nil, List.drop_zero, List.drop, DL.a1, DL.a2, DL.a3, DL.cMin3, DL.aNil, DL.aCons, DL.dVar, DL.dC, DL.iI, DL.i1, DL.isB, DL.daI, DL.onE, DL.gN, List.length_cons, List.length_nil, Nat.reduceAdd, Nat.zero_add]
  simp only [List.append_nil]
  have tt0 : 0 ≤ t * t' ∧ t * t' ≤ 5 := ⟨Int.mul_nonneg t0 t'0, by
    have h1 : t' = 0 ∨ t' = 1 := by omega
    rcases h1 with rfl | rfl <;> omega⟩
  refine ⟨mulA 10 10 (by omega) (by omega), mulA 2000 10 kB (by omega), divA 10 (by decide) (by decide), ?_⟩
  obtain ⟨x, hx⟩ : ∃ x, x = k.bk * (21 - t * t') / 20 := ⟨_, rfl⟩
  have x0 : 0 ≤ x := by
    rw [hx]
    exact Int.ediv_nonneg (Int.mul_nonneg k0 (by omega)) (by decide)
  rw [← hx, hu]; clear hu u hx
  refine seqU fun u hu => ?_
  refine ⟨_, _, rfl, f1 _, _, _, rfl, f3 _, nd1, rfl, by omega, divA 10 (by decide) (by decide), fun v v0 v1 => ⟨rfl, ?_⟩⟩
  try dsimp only [DL.S.sE, DL.S.sM, DL.S.aM, DL.S.cM, DL.st, DL.gt, DL.sm, DL.gm, DL.putM, DL.pick, DL.muks, DL.nthN, DL.bkE, DL.st0, DL.nos, List.cons_append, List.nil_append, List.append_nil, List.drop_succ_cons, List.drop_nil, List.drop_zero, List.drop, DL.a1, DL.a2, DL.a3, DL.cMin3, DL.aNil, DL.aCons, DL.dVar, DL.dC, DL.iI, DL.i1, DL.isB, DL.daI, DL.onE, DL.gN, List.length_cons, List.length_nil, Nat.reduceAdd, Nat.zero_add]
  simp only [List.append_nil]
  obtain ⟨y, hy⟩ : ∃ y, y = min x (k.bk + v) := ⟨_, rfl⟩
  show u ⟨[.mu 2, .mu (L.length + 3), .da (.str c), .da (.int (min x (k.bk + v))), .no], tb0 :: tb1 :: .rnd (n - 1 - 1 - 1) :: R0, R0.length + 3⟩ _
  have y0 : 0 ≤ y ∧ y ≤ k.bk + 1 := by omega
  rw [← hy, hu]; clear hu u hy
  refine seqU fun u hu => ?_
  have yB : y.natAbs < 2 ^ 2000 := by omega
  refine ⟨_, _, rfl, f2 _, _, _, rfl, f4 _, mulA 2000 20 yB (by omega), nd1, rfl, by omega, divA 10 (by decide) (by decide), fun z z0 z1 => ⟨rfl, ?_⟩⟩
  try dsimp only [DL.S.sE, DL.S.sM, DL.S.aM, DL.S.cM, DL.st, DL.gt, DL.sm, DL.gm, DL.putM, DL.pick, DL.muks, DL.nthN, DL.bkE, DL.st0, DL.nos, List.cons_append, List.nil_append, List.append_nil, List.drop_succ_cons, List.drop_nil, List.drop_zero, List.drop, DL.a1, DL.a2, DL.a3, DL.cMin3, DL.aNil, DL.aCons, DL.dVar, DL.dC, DL.iI, DL.i1, DL.isB, DL.daI, DL.onE, DL.gN, List.length_cons, List.length_nil, Nat.reduceAdd, Nat.zero_add]
  simp only [List.append_nil]
  have ys : 0 ≤ y * k.st ∧ y * k.st ≤ 10000 * y := ⟨Int.mul_nonneg y0.1 s0, by rw [Int.mul_comm]; exact Int.mul_le_mul_of_nonneg_right s1 y0.1⟩
  obtain ⟨a, ha⟩ : ∃ a, a = y * k.st := ⟨_, rfl⟩
  rw [← ha] at ys ⊢
  have aB : a.natAbs < 2 ^ 2020 := by omega
  refine ⟨mulA 2020 20 aB (by omega), divA 10 (by decide) (by decide), ?_⟩
  obtain ⟨p, hp⟩ : ∃ p, p = a * (20 - z) / 20 := ⟨_, rfl⟩
  have p0 : 0 ≤ p ∧ p ≤ 10000 * y := by
    have h1 : 0 ≤ a * (20 - z) := Int.mul_nonneg ys.1 (by omega)
    have h2 : a * (20 - z) ≤ a * 20 := Int.mul_le_mul_of_nonneg_left (by omega) ys.1
    omega
  show u ⟨[.mu 2, .mu (L.length + 3), .da (.str c), .da (.int y), .da (.int (a * (20 - z) / 20))], tb0 :: tb1 :: .rnd (n - 1 - 1 - 1 - 1) :: R0, R0.length + 3⟩ _
  rw [← hp, hu]; clear hu u hp
  have fin : ∀ (m : Nat) (j : Int), n ≤ m + 10 → 0 ≤ j → j < 3 → ∃ v, L2.atI ([p, 0, 10000 * y].map PyData.int) j = some v ∧ onO (some (PyData.tuple [.int y, v])) fun d => onE (.da d) (Ks (tb0 :: tb1 :: .rnd m :: R0)) := fun m j hm j0 j1 => by
    obtain ⟨v, hv, ev⟩ := at_get (l := [p, 0, 10000 * y]) (f := PyData.int) j0 j1
    refine ⟨_, ev, ?_⟩
    simp only [List.mem_cons, List.not_mem_nil, or_false] at hv
    exact hk m y v hm y0.1 y0.2 (by omega) (by omega)
  refine ⟨mulA 20 2000 (by decide) yB, onO_mk rfl ⟨nd1, rfl, by omega, divA 10 (by decide) (by decide), fun w w0 w1 => ⟨rfl, ?_⟩⟩⟩
  try dsimp only [DL.S.sE, DL.S.sM, DL.S.aM, DL.S.cM, DL.st, DL.gt, DL.sm, DL.gm, DL.putM, DL.pick, DL.muks, DL.nthN, DL.bkE, DL.st0, DL.nos, List.cons_append, List.nil_append, List.append_nil, List.drop_succ_cons, List.drop_nil, List.drop_zero, List.drop, DL.a1, DL.a2, DL.a3, DL.cMin3, DL.aNil, DL.aCons, DL.dVar, DL.dC, DL.iI, DL.i1, DL.isB, DL.daI, DL.onE, DL.gN, List.length_cons, List.length_nil, Nat.reduceAdd, Nat.zero_add]
  refine ⟨fun e => ?_, fun e => ?_⟩
  · refine ⟨nd1, rfl, by omega, divA 10 (by decide) (by decide), fun r r0 r1 => ⟨rfl, divA 10 (by decide) (by decide), ?_⟩⟩
    try dsimp only [DL.S.sE, DL.S.sM, DL.S.aM, DL.S.cM, DL.st, DL.gt, DL.sm, DL.gm, DL.putM, DL.pick, DL.muks, DL.nthN, DL.bkE, DL.st0, DL.nos, List.cons_append, List.nil_append, List.append_nil, List.drop_succ_cons, List.drop_nil, List.drop_zero, List.drop, DL.a1, DL.a2, DL.a3, DL.cMin3, DL.aNil, DL.aCons, DL.dVar, DL.dC, DL.iI, DL.i1, DL.isB, DL.daI, DL.onE, DL.gN, List.length_cons, List.length_nil, Nat.reduceAdd, Nat.zero_add]
    simp only [List.append_nil]
    exact fin _ (r / 4) (by omega) (by omega) (by omega)
  · simp only [List.append_nil]
    exact fin _ 0 (by omega) (by omega) (by omega)
def sp_UnsaidDeed_init : SpD := fun xs ms Ks => ∃ (pre : List MO) (c : Str) (p : Page), xs = [.mu pre.length, .da (pgD p)] ∧ ms = pre ++ [.ins (.obj c) []] ∧ (c = "UnsaidDeed" ∨ c = "RetoldDeed") ∧ Ks (pre ++ [.ins (.obj c) [("number", .da (.int p.num)), ("page", .da (pgD p))]]) (.da .none)
theorem ok_UnsaidDeed_init (T : Tx K mg) (o_SaidDeed_init : OkI P w K mg base 1 "SaidDeed" "SaidDeed.__init__" s_SaidDeed_init ["self", "number"] 2 sp_SaidDeed_init) : OkI P w K mg base 3 "UnsaidDeed" "UnsaidDeed.__init__" s_UnsaidDeed_init ["self", "page"] 2 sp_UnsaidDeed_init := by
  refine ok_dataI (n0 := 0) T.d_UnsaidDeed_init sc_UnsaidDeed_init _ (fun f cdv A outer s H E hr =>
  (dss_clo (dss_cons (ds_exp (de_cinit o_SaidDeed_init (hr.mono (by omega)) (by rfl) T.k_SaidDeed (dan_cons (dv 0) (dan_cons (de_ix (dv 1) de_int) dan_nil))))
  (dss_one (ds_fld T.f_UnsaidDeed_page (dv 0) (dv 1)))))) (fun xs ms Ks h hl => ?_)
  unfold sp_UnsaidDeed_init at h
  obtain ⟨pre, c, p, rfl, rfl, hc, hk⟩ := h
  intro cl
  refine seqU fun u hu => ?_
  refine ⟨_, rfl, pre, c, .int p.num, rfl, rfl, ?_, ?_⟩
  · rcases hc with rfl | rfl
    · exact .tail _ (.head _)
    · exact .tail _ (.tail _ (.head _))
  show u ⟨[.mu pre.length, .da (pgD p)], pre ++ [.ins (.obj c) [("number", .da (.int p.num))]], _⟩ _
  rw [hu]; clear hu u
  refine ⟨pre.length, _, _, rfl, gm_pre pre _ 0, ?_, (show (1 : Nat) < 1000 by decide), ?_⟩
  · rcases hc with rfl | rfl
    · exact .head _
    · exact .tail _ (.head _)
  try dsimp only [DL.S.sE, DL.S.sM, DL.S.aM, DL.S.cM, DL.st, DL.gt, DL.sm, DL.gm, DL.putM, DL.pick, DL.muks, DL.nthN, DL.bkE, DL.st0, DL.nos, List.cons_append, List.nil_append, List.append_nil, List.drop_succ_cons, List.drop_nil, List.drop_zero, List.drop, DL.a1, DL.a2, DL.a3, DL.cMin3, DL.aNil, DL.aCons, DL.dVar, DL.dC, DL.iI, DL.i1, DL.isB, DL.daI, DL.onE, DL.gN, List.length_cons, List.length_nil, Nat.reduceAdd, Nat.zero_add]
  rw [show sm (pre ++ [MO.ins (.obj c) _]) pre.length _ = _ from sm_pre pre _ 0 _]
  exact hk
def sp_world : SpD := fun xs ms Ks => ∃ (tb0 tb1 : MO) (n : Nat) (L : List MO), xs = [.mu 2] ∧ ms = tb0 :: tb1 :: .rnd n :: L ∧ 600 ≤ n ∧ ∀ (m : Nat) (W : BW), n ≤ m + 600 → WOk W (10 ^ 26) → W.turn = 0 ∧ W.day = 0 ∧ W.ck = [] ∧ W.num = none ∧ W.dr = [] → Ks (tb0 :: tb1 :: .rnd m :: bW L W []) (.mu (L.length + 3))
theorem ok_world (T : Tx K mg) (o_names : Ok P w K mg base 2 "_law_names" s_names ["_law_state", "_law_many"] 2 sp_names) (o_take : Ok P w K mg base 1 "_law_take" s_take ["_law_state", "_law_many"] 2 spTake) : Ok P w K mg base 3 "_law_world" s_world ["_law_state"] 1 sp_world := by
  refine ok_dataT (n0 := 5) T.d_world sc_world _ (fun f cdv A outer s H E hr =>
  (dss_clo (dss_cons (ds_set (i := 1) sc_world.nd rfl (by first | exact .inl rfl | exact .inr rfl) (de_disp (dps_cons (de_callV o_names (hr.mono (by omega)) (by rfl) (dan_cons (dv 0) (dan_cons (de_add de_int (de_callV o_take (hr.mono (by omega)) (by rfl) (dan_cons (dv 0) (dan_cons de_int dan_nil)))) dan_nil))) (dps_cons de_int (dps_cons de_int dps_nil)))))
  (dss_cons (ds_asg (de_callV o_names (hr.mono (by omega)) (by rfl) (dan_cons (dv 0) (dan_cons (de_add de_int (de_callV o_take (hr.mono (by omega)) (by rfl) (dan_cons (dv 0) (dan_cons de_int dan_nil)))) dan_nil))) (dg_setG (hu1 hr) (dv 1) de_str))
  (dss_cons (ds_asg (de_callV o_names (hr.mono (by omega)) (by rfl) (dan_cons (dv 0) (dan_cons (de_add de_int (de_callV o_take (hr.mono (by omega)) (by rfl) (dan_cons (dv 0) (dan_cons de_int dan_nil)))) dan_nil))) (dg_setG (hu1 hr) (dv 1) de_str))
  (dss_cons (ds_asg (de_ix (de_lst (dan_cons de_int (dan_cons de_int (dan_cons (de_pow de_int de_int) dan_nil)))) (de_callV o_take (hr.mono (by omega)) (by rfl) (dan_cons (dv 0) (dan_cons de_int dan_nil)))) (dg_setG (hu1 hr) (dv 1) de_str))
  (dss_cons (ds_par (i := 2) (j := 3) rfl sc_world.nd rfl rfl (by decide) rfl rfl (da_cons (de_lstM dan_nil) (da_cons de_int da_nil)) rfl)
  (dss_cons (ds_forA [4, 5] PassesOwn.never rfl (di_cl (di_range1 (by rfl) (T.b_range) (da_cons (de_add de_int (de_callV o_take (hr.mono (by omega)) (by rfl) (dan_cons (dv 0) (dan_cons de_int dan_nil)))) da_nil))) (dg_name (i := 4) sc_world.nd rfl (by first | exact .inl rfl | exact .inr rfl))
    (dss_cons (ds_exp (de_append (dv 2) (de_tup (dan_cons (dv 3) (dan_cons (de_ix (de_lst (dan_cons de_int (dan_cons de_int (dan_cons (de_callV o_take (hr.mono (by omega)) (by rfl) (dan_cons (dv 0) (dan_cons (de_pow de_int de_int) dan_nil))) (dan_cons (de_pow de_int de_int) dan_nil))))) (de_callV o_take (hr.mono (by omega)) (by rfl) (dan_cons (dv 0) (dan_cons de_int dan_nil)))) dan_nil)))))
    (dss_one (ds_set (i := 3) sc_world.nd rfl (by first | exact .inl rfl | exact .inr rfl) (de_add (de_add (dv 3) de_int) (de_callV o_take (hr.mono (by omega)) (by rfl) (dan_cons (dv 0) (dan_cons (de_ix (de_lst (dan_cons de_int (dan_cons de_int dan_nil))) (de_callV o_take (hr.mono (by omega)) (by rfl) (dan_cons (dv 0) (dan_cons de_int dan_nil)))) dan_nil))))))))
  (dss_frzV 2 (dss_cons (ds_set (i := 5) sc_world.nd rfl (by first | exact .inl rfl | exact .inr rfl) (de_tup (dan_cons (de_callV o_take (hr.mono (by omega)) (by rfl) (dan_cons (dv 0) (dan_cons de_int dan_nil))) (dan_cons (de_add de_int (de_callV o_take (hr.mono (by omega)) (by rfl) (dan_cons (dv 0) (dan_cons (de_ix (de_lst (dan_cons de_int (dan_cons de_int dan_nil))) (de_callV o_take (hr.mono (by omega)) (by rfl) (dan_cons (dv 0) (dan_cons de_int dan_nil)))) dan_nil)))) dan_nil))))
  (dss_cons (ds_asg (de_tup (dan_cons (dv 2) (dan_cons (dv 5) (dan_cons (de_mul (de_callV o_take (hr.mono (by omega)) (by rfl) (dan_cons (dv 0) (dan_cons de_int dan_nil))) (de_dgetG (hu1 hr) (dv 1) de_str)) dan_nil)))) (dg_setG (hu1 hr) (dv 1) de_str))
  (dss_cons (ds_exp (de_updG (dv 1) (de_disp (dps_cons de_newD (dps_cons de_newD (dps_cons de_newD (dps_cons de_newD (dps_cons (de_lstM dan_nil) dps_nil))))))))
  (dss_one (ds_ret (dv 1))))))))))))))) (fun xs ms Ks h hl => ?_)
  unfold sp_world at h
  obtain ⟨tb0, tb1, n, L, rfl, rfl, hn, hk⟩ := h
  intro cl
  refine seqU fun u hu => ?_
  refine ⟨nd1, rfl, by omega, divA 10 (by decide) (by decide), fun a a0 a1 => ⟨rfl, ?_⟩⟩
  try dsimp only [DL.S.sE, DL.S.sM, DL.S.aM, DL.S.cM, DL.st, DL.gt, DL.sm, DL.gm, DL.putM, DL.pick, DL.muks, DL.nthN, DL.bkE, DL.st0, DL.nos, List.cons_append, List.nil_append, List.append_nil, List.drop_succ_cons, List.drop_nil, List.drop_zero, List.drop, DL.a1, DL.a2, DL.a3, DL.cMin3, DL.aNil, DL.aCons, DL.dVar, DL.dC, DL.iI, DL.i1, DL.isB, DL.daI, DL.onE, DL.gN, List.length_cons, List.length_nil, Nat.reduceAdd, Nat.zero_add]
  refine ⟨nd1, rfl, by omega, by omega, by omega, fun m1 hs hm1 hN hp => ⟨rfl, ?_⟩⟩
  try dsimp only [DL.S.sE, DL.S.sM, DL.S.aM, DL.S.cM, DL.st, DL.gt, DL.sm, DL.gm, DL.putM, DL.pick, DL.muks, DL.nthN, DL.bkE, DL.st0, DL.nos, List.cons_append, List.nil_append, List.append_nil, List.drop_succ_cons, List.drop_nil, List.drop_zero, List.drop, DL.a1, DL.a2, DL.a3, DL.cMin3, DL.aNil, DL.aCons, DL.dVar, DL.dC, DL.iI, DL.i1, DL.isB, DL.daI, DL.onE, DL.gN, List.length_cons, List.length_nil, Nat.reduceAdd, Nat.zero_add]
  simp only [List.append_nil]
  refine ⟨gm_at0, ?_⟩
  have s0 : ∀ (x y : MO) (r : List MO), sm (L ++ x :: r) L.length y = L ++ y :: r := fun x y r => sm_pre L (x :: r) 0 y
  rw [s0]
  show u ⟨[.mu 2, .mu (L.length + 3), .no, .no, .no, .no], tb0 :: tb1 :: .rnd m1 :: (L ++ [.ins .dct (f3F hs)]), L.length + 3⟩ _
  rw [hu]; clear hu u
  have gw : ∀ (k : Nat) (F : List (Str × En)) (r : List MO), gm (tb0 :: tb1 :: .rnd k :: (L ++ MO.ins .dct F :: r)) (L.length + 3) = .ins .dct F := fun _ _ _ => gm_at0
  refine seqU fun u hu => ?_
  refine ⟨nd1, rfl, by omega, divA 10 (by decide) (by decide), fun c c0 c1 => ⟨rfl, ?_⟩⟩
  try dsimp only [DL.S.sE, DL.S.sM, DL.S.aM, DL.S.cM, DL.st, DL.gt, DL.sm, DL.gm, DL.putM, DL.pick, DL.muks, DL.nthN, DL.bkE, DL.st0, DL.nos, List.cons_append, List.nil_append, List.append_nil, List.drop_succ_cons, List.drop_nil, List.drop_zero, List.drop, DL.a1, DL.a2, DL.a3, DL.cMin3, DL.aNil, DL.aCons, DL.dVar, DL.dC, DL.iI, DL.i1, DL.isB, DL.daI, DL.onE, DL.gN, List.length_cons, List.length_nil, Nat.reduceAdd, Nat.zero_add]
  refine ⟨nd1, rfl, by omega, by omega, by omega, fun m2 cs hm2 hN2 hp2 => ⟨rfl, ?_⟩⟩
  try dsimp only [DL.S.sE, DL.S.sM, DL.S.aM, DL.S.cM, DL.st, DL.gt, DL.sm, DL.gm, DL.putM, DL.pick, DL.muks, DL.nthN, DL.bkE, DL.st0, DL.nos, List.cons_append, List.nil_append, List.append_nil, List.drop_succ_cons, List.drop_nil, List.drop_zero, List.drop, DL.a1, DL.a2, DL.a3, DL.cMin3, DL.aNil, DL.aCons, DL.dVar, DL.dC, DL.iI, DL.i1, DL.isB, DL.daI, DL.onE, DL.gN, List.length_cons, List.length_nil, Nat.reduceAdd, Nat.zero_add]
  simp only [List.append_nil]
  refine ⟨_, rfl, .inr ⟨_, _, gw _ _ _, rfl, (show 3 < sizeLine by decide), ?_⟩⟩
  show u ⟨[.mu 2, .mu (L.length + 3), .no, .no, .no, .no], tb0 :: tb1 :: .rnd m2 :: sm (L ++ [.ins .dct (f3F hs)]) L.length (.ins .dct (f4F hs cs)), L.length + 3⟩ _
  rw [s0, hu]; clear hu u
  refine seqU fun u hu => ?_
  refine ⟨nd1, rfl, by omega, divA 10 (by decide) (by decide), fun l l0 l1 => ⟨rfl, ?_⟩⟩
  try dsimp only [DL.S.sE, DL.S.sM, DL.S.aM, DL.S.cM, DL.st, DL.gt, DL.sm, DL.gm, DL.putM, DL.pick, DL.muks, DL.nthN, DL.bkE, DL.st0, DL.nos, List.cons_append, List.nil_append, List.append_nil, List.drop_succ_cons, List.drop_nil, List.drop_zero, List.drop, DL.a1, DL.a2, DL.a3, DL.cMin3, DL.aNil, DL.aCons, DL.dVar, DL.dC, DL.iI, DL.i1, DL.isB, DL.daI, DL.onE, DL.gN, List.length_cons, List.length_nil, Nat.reduceAdd, Nat.zero_add]
  refine ⟨nd1, rfl, by omega, by omega, by omega, fun m3 ls hm3 hN3 hp3 => ⟨rfl, ?_⟩⟩
  try dsimp only [DL.S.sE, DL.S.sM, DL.S.aM, DL.S.cM, DL.st, DL.gt, DL.sm, DL.gm, DL.putM, DL.pick, DL.muks, DL.nthN, DL.bkE, DL.st0, DL.nos, List.cons_append, List.nil_append, List.append_nil, List.drop_succ_cons, List.drop_nil, List.drop_zero, List.drop, DL.a1, DL.a2, DL.a3, DL.cMin3, DL.aNil, DL.aCons, DL.dVar, DL.dC, DL.iI, DL.i1, DL.isB, DL.daI, DL.onE, DL.gN, List.length_cons, List.length_nil, Nat.reduceAdd, Nat.zero_add]
  simp only [List.append_nil]
  refine ⟨_, rfl, .inr ⟨_, _, gw _ _ _, rfl, (show 4 < sizeLine by decide), ?_⟩⟩
  show u ⟨[.mu 2, .mu (L.length + 3), .no, .no, .no, .no], tb0 :: tb1 :: .rnd m3 :: sm (L ++ [.ins .dct (f4F hs cs)]) L.length (.ins .dct (f5F hs cs ls)), L.length + 3⟩ _
  rw [s0, hu]; clear hu u
  refine seqU fun u hu => ?_
  refine ⟨pw10 (by decide) (by decide), onO_mk rfl ⟨nd1, rfl, by omega, divA 10 (by decide) (by decide), fun v v0 v1 => ⟨rfl, ?_⟩⟩⟩
  try dsimp only [DL.S.sE, DL.S.sM, DL.S.aM, DL.S.cM, DL.st, DL.gt, DL.sm, DL.gm, DL.putM, DL.pick, DL.muks, DL.nthN, DL.bkE, DL.st0, DL.nos, List.cons_append, List.nil_append, List.append_nil, List.drop_succ_cons, List.drop_nil, List.drop_zero, List.drop, DL.a1, DL.a2, DL.a3, DL.cMin3, DL.aNil, DL.aCons, DL.dVar, DL.dC, DL.iI, DL.i1, DL.isB, DL.daI, DL.onE, DL.gN, List.length_cons, List.length_nil, Nat.reduceAdd, Nat.zero_add]
  simp only [List.append_nil]
  obtain ⟨un, hun, eun⟩ := at_get (l := [1, 1000, 10 ^ Int.toNat 24]) (f := PyData.int) v0 v1
  have h24 : (10 : Int) ^ Int.toNat 24 = 10 ^ 24 := rfl
  rw [h24] at hun
  have un0 : 0 ≤ un ∧ un ≤ 10 ^ 24 := by
    simp only [List.mem_cons, List.not_mem_nil, or_false] at hun
    omega
  refine ⟨_, eun, ?_⟩
  refine ⟨_, rfl, .inr ⟨_, _, gw _ _ _, rfl, (show 5 < sizeLine by decide), ?_⟩⟩
  show u ⟨[.mu 2, .mu (L.length + 3), .no, .no, .no, .no], tb0 :: tb1 :: .rnd (m3 - 1) :: sm (L ++ [.ins .dct (f5F hs cs ls)]) L.length (.ins .dct (f6F hs cs ls un)), L.length + 3⟩ _
  rw [s0, hu]; clear hu u
  refine seqU fun u hu => ?_
  show u ⟨[.mu 2, .mu (L.length + 3), .mu ((L ++ [MO.ins .dct (f6F hs cs ls un)]).length + 3), .da (.int 0), .no, .no], tb0 :: tb1 :: .rnd (m3 - 1) :: (L ++ [.ins .dct (f6F hs cs ls un)] ++ [.lst []]), L.length + 3⟩ _
  rw [hu, List.length_append, List.append_assoc]; clear hu u
  refine seqU fun u hu => ?_
  refine ⟨nd1, rfl, by omega, divA 10 (by decide) (by decide), fun x x0 x1 => ⟨rfl, ?_⟩⟩
  try dsimp only [DL.S.sE, DL.S.sM, DL.S.aM, DL.S.cM, DL.st, DL.gt, DL.sm, DL.gm, DL.putM, DL.pick, DL.muks, DL.nthN, DL.bkE, DL.st0, DL.nos, List.cons_append, List.nil_append, List.append_nil, List.drop_succ_cons, List.drop_nil, List.drop_zero, List.drop, DL.a1, DL.a2, DL.a3, DL.cMin3, DL.aNil, DL.aCons, DL.dVar, DL.dC, DL.iI, DL.i1, DL.isB, DL.daI, DL.onE, DL.gN, List.length_cons, List.length_nil, Nat.reduceAdd, Nat.zero_add]
  simp only [List.append_nil]
  refine ⟨by omega, by omega, fun _ => ⟨fun (i : Nat) (s : S) => ∃ q d rs, s = ⟨[.mu 2, .mu (L.length + 3), .mu (L.length + 4), .da (.int d), .no, .no], tb0 :: tb1 :: .rnd q :: (L ++ [.ins .dct (f6F hs cs ls un), .lst (rs.map prD)]), L.length + 3⟩ ∧ m3 ≤ q + 2 + 4 * i ∧ RtB i d rs, ⟨m3 - 1 - 1, 0, [], by (simp only [DL.clA, DL.clS, DL.killL, DL.limL, DL.limE_mu, DL.limE_da, DL.limE_no, DL.takM, DL.limM, DL.frzS, DL.subL, DL.subE_mu, DL.subE_da, DL.subE_no, DL.subS, DL.subM, DL.S.sE, DL.S.sM, DL.S.aM, DL.S.cM, DL.st, DL.gt, DL.sm, DL.gm, DL.putM, DL.pick, DL.muks, DL.nthN, DL.bkE, DL.st0, DL.nos, List.cons_append, List.nil_append, List.append_nil, List.drop_succ_cons, List.drop_nil, List.drop_zero, List.length_cons, List.length_nil, List.map_cons, List.map_nil, List.map_append, Nat.reduceAdd, Nat.zero_add, Nat.reduceLT, Nat.reduceEqDiff, if_true, if_false, ↓reduceIte, Nat.lt_irrefl, Nat.not_lt_zero] <;> rfl), by omega, RtB.nil⟩, ?_, ?_⟩⟩
  · rintro i e s hi ⟨q, d, rs, rfl, hq, R⟩
    have hi8 : i < 8 := by
      have := (List.getElem?_eq_some_iff.mp hi).1
      rw [rng_length] at this
      omega
    clear hi
    have gr : ∀ (k : Nat) (r : List MO), gm (tb0 :: tb1 :: .rnd k :: (L ++ MO.ins .dct (f6F hs cs ls un) :: .lst (rs.map prD) :: r)) (L.length + 4) = .lst (rs.map prD) := fun _ _ => gm_at1
    refine seqU fun u hu => ?_
    unfold sSeq sExp dMet
    try dsimp only [DL.S.sE, DL.S.sM, DL.S.aM, DL.S.cM, DL.st, DL.gt, DL.sm, DL.gm, DL.putM, DL.pick, DL.muks, DL.nthN, DL.bkE, DL.st0, DL.nos, List.cons_append, List.nil_append, List.append_nil, List.drop_succ_cons, List.drop_nil, List.drop_zero, List.drop, DL.a1, DL.a2, DL.a3, DL.cMin3, DL.aNil, DL.aCons, DL.dVar, DL.dC, DL.iI, DL.i1, DL.isB, DL.daI, DL.onE, DL.gN, List.length_cons, List.length_nil, Nat.reduceAdd, Nat.zero_add]
    refine mu1_mk (s := S.mk _ _ _) (gr _ _) ?_
    refine ⟨pw10 (by decide) (by decide), nd1, rfl, by omega, divA 60 (by decide) (by decide), fun a a0 a1 => ⟨rfl, ?_⟩⟩
    try dsimp only [DL.S.sE, DL.S.sM, DL.S.aM, DL.S.cM, DL.st, DL.gt, DL.sm, DL.gm, DL.putM, DL.pick, DL.muks, DL.nthN, DL.bkE, DL.st0, DL.nos, List.cons_append, List.nil_append, List.append_nil, List.drop_succ_cons, List.drop_nil, List.drop_zero, List.drop, DL.a1, DL.a2, DL.a3, DL.cMin3, DL.aNil, DL.aCons, DL.dVar, DL.dC, DL.iI, DL.i1, DL.isB, DL.daI, DL.onE, DL.gN, List.length_cons, List.length_nil, Nat.reduceAdd, Nat.zero_add]
    refine ⟨pw10 (by decide) (by decide), onO_mk rfl ⟨nd1, rfl, by omega, divA 60 (by decide) (by decide), fun b b0 b1 => ⟨rfl, ?_⟩⟩⟩
    try dsimp only [DL.S.sE, DL.S.sM, DL.S.aM, DL.S.cM, DL.st, DL.gt, DL.sm, DL.gm, DL.putM, DL.pick, DL.muks, DL.nthN, DL.bkE, DL.st0, DL.nos, List.cons_append, List.nil_append, List.append_nil, List.drop_succ_cons, List.drop_nil, List.drop_zero, List.drop, DL.a1, DL.a2, DL.a3, DL.cMin3, DL.aNil, DL.aCons, DL.dVar, DL.dC, DL.iI, DL.i1, DL.isB, DL.daI, DL.onE, DL.gN, List.length_cons, List.length_nil, Nat.reduceAdd, Nat.zero_add]
    simp only [List.append_nil]
    obtain ⟨r, hr, er⟩ := at_get (l := [0, 28740000, a, 10 ^ Int.toNat 20]) (f := PyData.int) b0 b1
    have h20 : (10 : Int) ^ Int.toNat 20 = 10 ^ 20 := rfl
    have h8 : (10 : Int) ^ Int.toNat 8 = 10 ^ 8 := rfl
    rw [h20] at hr
    rw [h8] at a1
    have r0 : 0 ≤ r ∧ r ≤ 10 ^ 20 := by
      simp only [List.mem_cons, List.not_mem_nil, or_false] at hr
      omega
    refine ⟨_, er, onO_mk rfl ?_⟩
    refine mu1_mk (s := S.mk _ _ _) (gr _ _) ⟨by rw [List.length_map, R.len]; exact sz (by omega), ?_⟩
    have sr : ∀ (x y : MO) (ds : List D) (r : List MO), sm (L ++ x :: y :: r) (L.length + 1) (.lst ds) = L ++ x :: .lst ds :: r := fun x y ds r => sm_pre L (x :: y :: r) 1 _
    show u ⟨[.mu 2, .mu (L.length + 3), .mu (L.length + 4), .da (.int d), .da e, .no], tb0 :: tb1 :: .rnd (q - 1 - 1) :: sm (L ++ [.ins .dct (f6F hs cs ls un), .lst (rs.map prD)]) (L.length + 1) (.lst (rs.map prD ++ [prD (d, r)])), L.length + 3⟩ _
    rw [sr, hu, show rs.map prD ++ [prD (d, r)] = (rs ++ [(d, r)]).map prD by rw [List.map_append]; rfl]; clear hu u
    refine onO_mk rfl ⟨nd1, rfl, by omega, divA 10 (by decide) (by decide), fun c c0 c1 => ⟨rfl, ?_⟩⟩
    try dsimp only [DL.S.sE, DL.S.sM, DL.S.aM, DL.S.cM, DL.st, DL.gt, DL.sm, DL.gm, DL.putM, DL.pick, DL.muks, DL.nthN, DL.bkE, DL.st0, DL.nos, List.cons_append, List.nil_append, List.append_nil, List.drop_succ_cons, List.drop_nil, List.drop_zero, List.drop, DL.a1, DL.a2, DL.a3, DL.cMin3, DL.aNil, DL.aCons, DL.dVar, DL.dC, DL.iI, DL.i1, DL.isB, DL.daI, DL.onE, DL.gN, List.length_cons, List.length_nil, Nat.reduceAdd, Nat.zero_add]
    simp only [List.append_nil]
    obtain ⟨v, hv, ev⟩ := at_get (l := [3, 60]) (f := PyData.int) c0 c1
    have v0 : 3 ≤ v ∧ v ≤ 60 := by
      simp only [List.mem_cons, List.not_mem_nil, or_false] at hv
      omega
    refine ⟨_, ev, nd1, rfl, by omega, divA 60 (by omega) (by omega), fun g g0 g1 => ⟨rfl, ?_⟩⟩
    try dsimp only [DL.S.sE, DL.S.sM, DL.S.aM, DL.S.cM, DL.st, DL.gt, DL.sm, DL.gm, DL.putM, DL.pick, DL.muks, DL.nthN, DL.bkE, DL.st0, DL.nos, List.cons_append, List.nil_append, List.append_nil, List.drop_succ_cons, List.drop_nil, List.drop_zero, List.drop, DL.a1, DL.a2, DL.a3, DL.cMin3, DL.aNil, DL.aCons, DL.dVar, DL.dC, DL.iI, DL.i1, DL.isB, DL.daI, DL.onE, DL.gN, List.length_cons, List.length_nil, Nat.reduceAdd, Nat.zero_add]
    simp only [List.append_nil]
    exact ⟨q - 1 - 1 - 1 - 1, d + 1 + g, rs ++ [(d, r)], by (simp only [DL.clA, DL.clS, DL.killL, DL.limL, DL.limE_mu, DL.limE_da, DL.limE_no, DL.takM, DL.limM, DL.frzS, DL.subL, DL.subE_mu, DL.subE_da, DL.subE_no, DL.subS, DL.subM, DL.S.sE, DL.S.sM, DL.S.aM, DL.S.cM, DL.st, DL.gt, DL.sm, DL.gm, DL.putM, DL.pick, DL.muks, DL.nthN, DL.bkE, DL.st0, DL.nos, List.cons_append, List.nil_append, List.append_nil, List.drop_succ_cons, List.drop_nil, List.drop_zero, List.length_cons, List.length_nil, List.map_cons, List.map_nil, List.map_append, Nat.reduceAdd, Nat.zero_add, Nat.reduceLT, Nat.reduceEqDiff, if_true, if_false, ↓reduceIte, Nat.lt_irrefl, Nat.not_lt_zero] <;> rfl), by omega, R.next r0.1 r0.2 g0 (by omega)⟩
  · rintro s ⟨q, d, rs, rfl, hq, R⟩
    rw [rng_length] at hq R
    rw [hu]; clear hu u
    have gr : ∀ (k : Nat) (r : List MO), gm (tb0 :: tb1 :: .rnd k :: (L ++ MO.ins .dct (f6F hs cs ls un) :: .lst (rs.map prD) :: r)) (L.length + 4) = .lst (rs.map prD) := fun _ _ => gm_at1
    refine sFrzV_mk (i := 2) (s := S.mk _ _ _) (k := L.length + 4) rfl (gr q []) (show L.length + 3 ≤ L.length + 4 by omega) ?_
    rw [frz_rates cl (fun k d => rfl) rfl]
    have se : subL (L.length + 4) (PyData.list (rs.map prD)) [En.mu 2, .mu (L.length + 3), .mu (L.length + 4), .da (.int d), .no, .no] = [En.mu 2, .mu (L.length + 3), .da (.list (rs.map prD)), .da (.int d), .no, .no] := by
      show [subE _ _ (.mu 2), subE _ _ (.mu (L.length + 3)), subE _ _ (.mu (L.length + 4)), _, _, _] = _
      rw [bsubE_ne (by omega), bsubE_ne (by omega), bsubE_self]
      rfl
    rw [se]; clear se
    refine wsU fun E hE => ?_
    refine seqU fun u hu => ?_
    refine ⟨nd1, rfl, by omega, divA 10 (by decide) (by decide), fun o o0 o1 => ⟨rfl, ?_⟩⟩
    try dsimp only [DL.S.sE, DL.S.sM, DL.S.aM, DL.S.cM, DL.st, DL.gt, DL.sm, DL.gm, DL.putM, DL.pick, DL.muks, DL.nthN, DL.bkE, DL.st0, DL.nos, List.cons_append, List.nil_append, List.append_nil, List.drop_succ_cons, List.drop_nil, List.drop_zero, List.drop, DL.a1, DL.a2, DL.a3, DL.cMin3, DL.aNil, DL.aCons, DL.dVar, DL.dC, DL.iI, DL.i1, DL.isB, DL.daI, DL.onE, DL.gN, List.length_cons, List.length_nil, Nat.reduceAdd, Nat.zero_add]
    refine onO_mk rfl ⟨nd1, rfl, by omega, divA 10 (by decide) (by decide), fun b b0 b1 => ⟨rfl, ?_⟩⟩
    try dsimp only [DL.S.sE, DL.S.sM, DL.S.aM, DL.S.cM, DL.st, DL.gt, DL.sm, DL.gm, DL.putM, DL.pick, DL.muks, DL.nthN, DL.bkE, DL.st0, DL.nos, List.cons_append, List.nil_append, List.append_nil, List.drop_succ_cons, List.drop_nil, List.drop_zero, List.drop, DL.a1, DL.a2, DL.a3, DL.cMin3, DL.aNil, DL.aCons, DL.dVar, DL.dC, DL.iI, DL.i1, DL.isB, DL.daI, DL.onE, DL.gN, List.length_cons, List.length_nil, Nat.reduceAdd, Nat.zero_add]
    obtain ⟨dv, hdv, edv⟩ := at_get (l := [9, 20000]) (f := PyData.int) b0 b1
    have dv0 : 9 ≤ dv ∧ dv ≤ 20000 := by
      simp only [List.mem_cons, List.not_mem_nil, or_false] at hdv
      omega
    refine ⟨_, edv, nd1, rfl, by omega, divA 60 (by omega) (by omega), fun w w0 w1 => ⟨rfl, ?_⟩⟩
    try dsimp only [DL.S.sE, DL.S.sM, DL.S.aM, DL.S.cM, DL.st, DL.gt, DL.sm, DL.gm, DL.putM, DL.pick, DL.muks, DL.nthN, DL.bkE, DL.st0, DL.nos, List.cons_append, List.nil_append, List.append_nil, List.drop_succ_cons, List.drop_nil, List.drop_zero, List.drop, DL.a1, DL.a2, DL.a3, DL.cMin3, DL.aNil, DL.aCons, DL.dVar, DL.dC, DL.iI, DL.i1, DL.isB, DL.daI, DL.onE, DL.gN, List.length_cons, List.length_nil, Nat.reduceAdd, Nat.zero_add]
    simp only [List.append_nil]
    refine onO_mk rfl ?_
    obtain ⟨lim, hl⟩ : ∃ l : Int × Int, l = (o, 1 + w) := ⟨_, rfl⟩
    show u ⟨[.mu 2, .mu (L.length + 3), .da (.list (rs.map prD)), .da (.int d), .no, .da (.tuple [.int o, .int (1 + w)])], tb0 :: tb1 :: .rnd (q - 1 - 1 - 1) :: (L ++ [.ins .dct (f6F hs cs ls un), .gone]), L.length + 3⟩ _
    rw [hu]; clear hu u
    refine seqU fun u hu => ?_
    refine ⟨nd1, rfl, by omega, divA 10 (by decide) (by decide), fun y y0 y1 => ⟨rfl, ?_⟩⟩
    try dsimp only [DL.S.sE, DL.S.sM, DL.S.aM, DL.S.cM, DL.st, DL.gt, DL.sm, DL.gm, DL.putM, DL.pick, DL.muks, DL.nthN, DL.bkE, DL.st0, DL.nos, List.cons_append, List.nil_append, List.append_nil, List.drop_succ_cons, List.drop_nil, List.drop_zero, List.drop, DL.a1, DL.a2, DL.a3, DL.cMin3, DL.aNil, DL.aCons, DL.dVar, DL.dC, DL.iI, DL.i1, DL.isB, DL.daI, DL.onE, DL.gN, List.length_cons, List.length_nil, Nat.reduceAdd, Nat.zero_add]
    simp only [List.append_nil]
    have gw' : ∀ (k : Nat) (F : List (Str × En)) (f : Str) (y : En) (r : List MO), getT F f = some y → dvl (tb0 :: tb1 :: .rnd k :: (L ++ MO.ins .dct F :: r)) (L.length + 3) (.inr f) = some (some y) := fun k F f y r h => by
      unfold dvl
      rw [gw]
      exact congrArg some h
    refine ⟨_, _, rfl, gw' _ _ _ _ _ rfl, mulA 10 100 (by omega) (by omega), onO_mk rfl ?_⟩
    refine ⟨_, rfl, .inr ⟨_, _, gw _ _ _, rfl, (show 6 < sizeLine by decide), ?_⟩⟩
    show u ⟨[.mu 2, .mu (L.length + 3), .da (.list (rs.map prD)), .da (.int d), .no, .da (.tuple [.int o, .int (1 + w)])], tb0 :: tb1 :: .rnd (q - 1 - 1 - 1 - 1) :: sm (L ++ [.ins .dct (f6F hs cs ls un), .gone]) L.length (.ins .dct (f7F hs cs ls un (tmB rs (o, 1 + w) (y * un)))), L.length + 3⟩ _
    rw [s0, hu]; clear hu u
    refine ⟨⟨_, _, rfl, gw _ _ _⟩, disp5 ?_⟩
    obtain ⟨F7, hF7⟩ : ∃ F, F = f7F hs cs ls un (tmB rs (o, 1 + w) (y * un)) := ⟨_, rfl⟩
    rw [← hF7]
    have ll : (tb0 :: tb1 :: MO.rnd (q - 1 - 1 - 1 - 1) :: (L ++ [MO.ins .dct F7, .gone])).length = L.length + 5 := by
      simp only [List.length_append, List.length_cons, List.length_nil]
    rw [ll]
    have ea : ∀ r, tb0 :: tb1 :: MO.rnd (q - 1 - 1 - 1 - 1) :: (L ++ [MO.ins .dct F7, .gone]) ++ r = tb0 :: tb1 :: MO.rnd (q - 1 - 1 - 1 - 1) :: (L ++ MO.ins .dct F7 :: .gone :: r) := fun r => by
      show tb0 :: tb1 :: _ :: (L ++ [MO.ins .dct F7, .gone] ++ r) = _
      rw [List.append_assoc]
      rfl
    rw [ea]
    refine ⟨_, _, F7, gF L.length, rfl, rfl, by omega, gw _ _ _, gm_pre L _ 2, by rw [hF7]; exact (show 12 ≤ sizeLine by decide), ?_⟩
    rw [hE]
    have ef : sm (tb0 :: tb1 :: MO.rnd (q - 1 - 1 - 1 - 1) :: (L ++ MO.ins .dct F7 :: .gone :: .ins .dct (gF L.length) :: [.dct [], .dct [], .dct [], .dct [], .lst []])) (L.length + 3) (.ins .dct (mergeT F7 (gF L.length))) = tb0 :: tb1 :: .rnd (q - 1 - 1 - 1 - 1) :: bW L ⟨hs, cs, ls, 0, 0, un, rs, (o, 1 + w), y * un, none, [], [], []⟩ [] := by
      rw [hF7, f7_merge]
      exact congrArg (fun z => tb0 :: tb1 :: MO.rnd (q - 1 - 1 - 1 - 1) :: z) (sm_pre L _ 0 _)
    show Ks (sm (tb0 :: tb1 :: MO.rnd (q - 1 - 1 - 1 - 1) :: (L ++ MO.ins .dct F7 :: .gone :: .ins .dct (gF L.length) :: [.dct [], .dct [], .dct [], .dct [], .lst []])) (L.length + 3) (.ins .dct (mergeT F7 (gF L.length)))) _
    rw [ef]
    have yu : 0 ≤ y * un ∧ y * un ≤ 8 * 10 ^ 24 := ⟨Int.mul_nonneg y0 un0.1, by
      have := Int.mul_le_mul (show y ≤ 8 by omega) un0.2 un0.1 (by decide)
      omega⟩
    have rl := R.len
    have dm := R.dm
    refine hk _ _ (by omega) ⟨hN, hp (by omega), hN2, hp2 (by omega), hN3, hp3 (by omega), un0.1, un0.2, ⟨by show rs.length ≤ 8; omega, R.hd (by omega), R.srt, R.rb, fun r hr => Int.lt_of_lt_of_le (R.db r hr) (by omega), o0, o1, by show 0 < 1 + w; omega, by show 1 + w ≤ 20000; omega, yu.1, by show y * un < 10 ^ 25; omega⟩, Int.le_refl _, .nil, fun c hc => (by cases hc), .nil, fun c hc => (by cases hc), fun c hc => (by cases hc)⟩ ⟨rfl, rfl, rfl, rfl, rfl⟩
def sp_laid : SpD := fun xs ms Ks => ∃ (tb0 tb1 : MO) (n : Nat) (L : List MO) (W : BW) (tl : List MO) (B : Int), xs = [.mu 2, .mu (L.length + 3)] ∧ ms = tb0 :: tb1 :: .rnd n :: bW L W tl ∧ WOk W B ∧ B.natAbs < 2 ^ 2000 ∧ 40 ≤ n ∧
  ∀ (m : Nat) (ck : List BC) (h : Str) (d : Deed), n ≤ m + 20 → WOk { W with ck := ck } (2 * B) → h ∈ W.hs → dOkB W (2 * B) d → Ks (tb0 :: tb1 :: .rnd m :: bW L { W with ck := ck } tl) (.da (.tuple [.str h, dD d]))
theorem ok_laid (T : Tx K mg) (o_some : Ok P w K mg base 2 "_law_some" s_some ["_law_state", "_law_things"] 2 sp_some) (o_take : Ok P w K mg base 1 "_law_take" s_take ["_law_state", "_law_many"] 2 spTake) : Ok P w K mg base 3 "_law_laid" s_laid ["_law_state", "_law_world_here"] 2 sp_laid := by
  refine ok_dataT (n0 := 5) T.d_laid sc_laid _ (fun f cdv A outer s H E hr =>
  (dss_clo (dss_cons (ds_setLc (i := 3) [("_law_cask", 2)] rfl sc_laid.nd rfl rfl rfl (di_cl (di_list (de_dgetG (hu1 hr) (dv 1) de_str))) (BlkOk.mk (N := ["_law_state", "_law_world_here", "_law_cask", "_law_rest", "_law_house", "_law_strong", "_law_bulk"]) (sc := defScope s_laid) rfl (by decide +kernel) (by decide +kernel) (by decide +kernel) (by decide +kernel)) (by decide) (fun _ _ _ _ _ => (dg_name (i := 2) sc_laid.nd rfl (by first | exact .inl rfl | exact .inr rfl))) (fun _ _ _ _ _ => (dts_one (dt_dnotinG (hu1 hr) (dv 2) (de_dgetG (hu1 hr) (dv 1) de_str)))) (fun _ _ _ _ _ => (dv 2)))
  (dss_cons (ds_set (i := 2) sc_laid.nd rfl (by first | exact .inl rfl | exact .inr rfl) (de_callV o_some (hr.mono (by omega)) (by rfl) (dan_cons (dv 0) (dan_cons (de_if (dt_bool (dw_and (dt_neD (hu64 hr) (dv 3) (de_lst dan_nil)) (dw_and1 (dt_gt (de_callV o_take (hr.mono (by omega)) (by rfl) (dan_cons (dv 0) (dan_cons de_int dan_nil))) de_int)))) (dv 3) (de_dgetG (hu1 hr) (dv 1) de_str)) dan_nil))))
  (dss_cons (ds_par (i := 4) (j := 5) rfl sc_laid.nd rfl rfl (by decide) rfl rfl (da_cons (de_callV o_some (hr.mono (by omega)) (by rfl) (dan_cons (dv 0) (dan_cons (de_dgetG (hu1 hr) (dv 1) de_str) dan_nil))) (da_cons (de_ix (de_lst (dan_cons de_int (dan_cons de_int (dan_cons (de_callV o_take (hr.mono (by omega)) (by rfl) (dan_cons (dv 0) (dan_cons de_int dan_nil))) dan_nil)))) (de_callV o_take (hr.mono (by omega)) (by rfl) (dan_cons (dv 0) (dan_cons de_int dan_nil)))) da_nil)) rfl)
  (dss_cons (ds_set (i := 6) sc_laid.nd rfl (by first | exact .inl rfl | exact .inr rfl) (de_mul (de_mul (de_add de_int (de_callV o_take (hr.mono (by omega)) (by rfl) (dan_cons (dv 0) (dan_cons de_int dan_nil)))) (de_dgetG (hu1 hr) (dv 1) de_str)) (de_int1 (by rfl) (T.b_int) (de_gt (de_callV o_take (hr.mono (by omega)) (by rfl) (dan_cons (dv 0) (dan_cons de_int dan_nil))) de_int))))
  (dss_cutA [3] (ds_if (dt_dnotinG (hu1 hr) (dv 2) (de_dgetG (hu1 hr) (dv 1) de_str))
    (dss_cons (ds_asg (de_tup (dan_cons (dv 4) (dan_cons (dv 6) dan_nil))) (dg_tup (n := 2) rfl (dgs_cons (dg_setG (hu1 hr) (de_dgetG (hu1 hr) (dv 1) de_str) (dv 2)) (dgs_cons (dg_setG (hu1 hr) (de_dgetG (hu1 hr) (dv 1) de_str) (dv 2)) dgs_nil))))
    (dss_one (ds_asg (dv 5) (dg_setG (hu1 hr) (de_dgetG (hu1 hr) (dv 1) de_str) (dv 2)))))
    dss_nil)
  (dss_one (ds_ret (de_tup (dan_cons (dv 4) (dan_cons (de_tup (dan_cons de_str (dan_cons (dv 2) (dan_cons (de_callV o_some (hr.mono (by omega)) (by rfl) (dan_cons (dv 0) (dan_cons (de_dgetG (hu1 hr) (dv 1) de_str) dan_nil))) (dan_cons (dv 6) (dan_cons (de_mul (dv 6) (dv 5)) dan_nil)))))) dan_nil)))))))))))) (fun xs ms Ks h hl => ?_)
  unfold sp_laid at h
  obtain ⟨tb0, tb1, n, L, W, tl, B, rfl, rfl, H, hB, hn, hk⟩ := h
  intro cl
  have lcs : W.cs.length ≤ 12 := H.cn.1.len
  have gpl : ∀ (x : Str) (m : Nat) (tl : List MO), dvl (tb0 :: tb1 :: .rnd m :: bW L W tl) (L.length + 6) (.inr x) = some ((fC W.ck x).map fun c => .da (.str c.pl)) := fun x m tl => by
    rw [dvl_d w_place]
    refine congrArg some ?_
    rw [show W.ck.map plK = W.ck.map (fun c => (.inr c.nm, PyData.str c.pl)) from rfl, fC_find fun c => PyData.str c.pl, Option.map_map]
    rfl
  refine seqU fun u hu => ?_
  dsimp only [sSeq, sAsg]
  show dLc _ _ _ _ _ (S.mk [.mu 2, .mu (L.length + 3), .no, .no, .no, .no, .no] (tb0 :: tb1 :: .rnd n :: bW L W tl) ((bW L W tl).length + 3)) _
  refine lc_pure (s := S.mk _ _ _) (W.cs.map .str) (isNew W.ck) (fun d => d) cl (fun K h => ⟨_, _, rfl, wd_casks, fun _ => h⟩) (by rw [List.length_map]; exact Nat.le_of_lt (sz (by omega))) (fun d hd acc Kt Kf h1 h2 => ?_) ?_
  · obtain ⟨x, hx, rfl⟩ := List.mem_map.mp hd
    replace h1 := fun e => h1 e []
    replace h2 := fun e => h2 e []
    dsimp only at h1 h2 ⊢
    simp only [List.cons_append, bW_app] at h1 h2 ⊢
    refine ⟨_, _, rfl, wd_place, _, _, rfl, gpl x n _, fun e => ?_, fun e => ?_⟩
    · refine h1 ?_
      show (fC W.ck x).isNone = true
      revert e
      cases fC W.ck x <;> intro e
      · rfl
      · cases e
    · refine h2 ?_
      show (fC W.ck x).isNone = false
      revert e
      cases fC W.ck x <;> intro e
      · cases e
      · rfl
  rw [new_list]
  obtain ⟨rl, hrl⟩ : ∃ rl, rl = W.cs.filter fun x => (fC W.ck x).isNone := ⟨_, rfl⟩
  have rlm : ∀ x ∈ rl, x ∈ W.cs := fun x hx => by
    rw [hrl] at hx
    exact (List.mem_filter.mp hx).1
  have rll : rl.length ≤ 12 := by
    have := List.length_filter_le (fun x => (fC W.ck x).isNone) W.cs
    rw [← hrl] at this
    omega
  rw [← hrl]
  clear hrl
  show u ⟨[.mu 2, .mu (L.length + 3), .no, .da (.list (rl.map .str)), .no, .no, .no], tb0 :: tb1 :: .rnd n :: bW L W tl, (bW L W tl).length + 3⟩ _
  rw [hu]; clear hu u
  refine seqU fun u hu => ?_
  have fin : ∀ (m : Nat) (c : Str), n ≤ m + 2 → c ∈ W.cs → u ⟨[.mu 2, .mu (L.length + 3), .da (.str c), .da (.list (rl.map .str)), .no, .no, .no], tb0 :: tb1 :: .rnd m :: bW L W tl, (bW L W tl).length + 3⟩ (endT Ks) := fun m c hm hc => by
    rw [hu]; clear hu u
    refine seqU fun u hu => ?_
    refine ⟨_, _, rfl, wd_houses, nd1, rfl, _, _, m, [], rfl, rfl, .inl ⟨rfl, rfl⟩, by rw [List.length_map]; exact H.h0, by rw [List.length_map]; exact Nat.le_trans H.hn.1.len (by decide), by omega, fun m2 d hm2 hd => ⟨rfl, ?_⟩⟩
    try dsimp only [DL.S.sE, DL.S.sM, DL.S.aM, DL.S.cM, DL.st, DL.gt, DL.sm, DL.gm, DL.putM, DL.pick, DL.muks, DL.nthN, DL.bkE, DL.st0, DL.nos, List.cons_append, List.nil_append, List.append_nil, List.drop_succ_cons, List.drop_nil, List.drop_zero, List.drop, DL.a1, DL.a2, DL.a3, DL.cMin3, DL.aNil, DL.aCons, DL.dVar, DL.dC, DL.iI, DL.i1, DL.isB, DL.daI, DL.onE, DL.gN, List.length_cons, List.length_nil, Nat.reduceAdd, Nat.zero_add]
    simp only [List.append_nil]
    obtain ⟨h, hh, rfl⟩ := List.mem_map.mp hd
    refine ⟨nd1, rfl, by omega, divA 20 (by decide) (by decide), fun a a0 a1 => ⟨rfl, ?_⟩⟩
    try dsimp only [DL.S.sE, DL.S.sM, DL.S.aM, DL.S.cM, DL.st, DL.gt, DL.sm, DL.gm, DL.putM, DL.pick, DL.muks, DL.nthN, DL.bkE, DL.st0, DL.nos, List.cons_append, List.nil_append, List.append_nil, List.drop_succ_cons, List.drop_nil, List.drop_zero, List.drop, DL.a1, DL.a2, DL.a3, DL.cMin3, DL.aNil, DL.aCons, DL.dVar, DL.dC, DL.iI, DL.i1, DL.isB, DL.daI, DL.onE, DL.gN, List.length_cons, List.length_nil, Nat.reduceAdd, Nat.zero_add]
    refine onO_mk rfl ⟨nd1, rfl, by omega, divA 10 (by decide) (by decide), fun b b0 b1 => ⟨rfl, ?_⟩⟩
    try dsimp only [DL.S.sE, DL.S.sM, DL.S.aM, DL.S.cM, DL.st, DL.gt, DL.sm, DL.gm, DL.putM, DL.pick, DL.muks, DL.nthN, DL.bkE, DL.st0, DL.nos, List.cons_append, List.nil_append, List.append_nil, List.drop_succ_cons, List.drop_nil, List.drop_zero, List.drop, DL.a1, DL.a2, DL.a3, DL.cMin3, DL.aNil, DL.aCons, DL.dVar, DL.dC, DL.iI, DL.i1, DL.isB, DL.daI, DL.onE, DL.gN, List.length_cons, List.length_nil, Nat.reduceAdd, Nat.zero_add]
    simp only [List.append_nil]
    obtain ⟨st, hst, est⟩ := at_get (l := [0, 10000, a]) (f := PyData.int) b0 b1
    have st0 : 0 ≤ st ∧ st ≤ 10000 := by
      simp only [List.mem_cons, List.not_mem_nil, or_false] at hst
      omega
    refine ⟨_, est, ?_⟩
    show u ⟨[.mu 2, .mu (L.length + 3), .da (.str c), .da (.list (rl.map .str)), .da (.str h), .da (.int st), .no], tb0 :: tb1 :: .rnd (m2 - 1 - 1) :: bW L W tl, (bW L W tl).length + 3⟩ _
    rw [hu]; clear hu u
    refine seqU fun u hu => ?_
    refine ⟨nd1, rfl, by omega, divA 10 (by decide) (by decide), fun x x0 x1 => ⟨rfl, ?_⟩⟩
    try dsimp only [DL.S.sE, DL.S.sM, DL.S.aM, DL.S.cM, DL.st, DL.gt, DL.sm, DL.gm, DL.putM, DL.pick, DL.muks, DL.nthN, DL.bkE, DL.st0, DL.nos, List.cons_append, List.nil_append, List.append_nil, List.drop_succ_cons, List.drop_nil, List.drop_zero, List.drop, DL.a1, DL.a2, DL.a3, DL.cMin3, DL.aNil, DL.aCons, DL.dVar, DL.dC, DL.iI, DL.i1, DL.isB, DL.daI, DL.onE, DL.gN, List.length_cons, List.length_nil, Nat.reduceAdd, Nat.zero_add]
    simp only [List.append_nil]
    have u0 := H.u0
    have u1 := H.u1
    refine ⟨_, _, rfl, wd_unit, mulA 10 100 (by omega) (by omega), nd1, rfl, by omega, divA 10 (by decide) (by decide), fun y y0 y1 => ⟨rfl, ?_⟩⟩
    try dsimp only [DL.S.sE, DL.S.sM, DL.S.aM, DL.S.cM, DL.st, DL.gt, DL.sm, DL.gm, DL.putM, DL.pick, DL.muks, DL.nthN, DL.bkE, DL.st0, DL.nos, List.cons_append, List.nil_append, List.append_nil, List.drop_succ_cons, List.drop_nil, List.drop_zero, List.drop, DL.a1, DL.a2, DL.a3, DL.cMin3, DL.aNil, DL.aCons, DL.dVar, DL.dC, DL.iI, DL.i1, DL.isB, DL.daI, DL.onE, DL.gN, List.length_cons, List.length_nil, Nat.reduceAdd, Nat.zero_add]
    simp only [List.append_nil]
    have xu : 0 ≤ (1 + x) * W.unit ∧ (1 + x) * W.unit ≤ 99 * 10 ^ 24 := ⟨Int.mul_nonneg (by omega) u0, by
      have := Int.mul_le_mul (show 1 + x ≤ 99 by omega) u1 u0 (by decide)
      omega⟩
    obtain ⟨b0, hb0⟩ : ∃ b0, b0 = (1 + x) * W.unit := ⟨_, rfl⟩
    rw [← hb0] at xu ⊢
    obtain ⟨z, hz⟩ : ∃ z : Int, z = if decide (0 < y) = true then 1 else 0 := ⟨_, rfl⟩
    have z01 : z = 0 ∨ z = 1 := by
      rw [hz]
      split
      · exact .inr rfl
      · exact .inl rfl
    show CMulX b0 (if decide (0 < y) = true then 1 else 0) ∧ u ⟨[.mu 2, .mu (L.length + 3), .da (.str c), .da (.list (rl.map .str)), .da (.str h), .da (.int st), .da (.int (b0 * if decide (0 < y) = true then 1 else 0))], tb0 :: tb1 :: .rnd (m2 - 1 - 1 - 1 - 1) :: bW L W tl, (bW L W tl).length + 3⟩ _
    rw [← hz]
    refine ⟨mulA 120 10 (by omega) (by omega), ?_⟩
    obtain ⟨b, hb⟩ : ∃ b, b = b0 * z := ⟨_, rfl⟩
    have bb : 0 ≤ b ∧ b ≤ 99 * 10 ^ 24 := by
      rcases z01 with e | e <;> rw [e] at hb <;> omega
    rw [← hb, hu]; clear hu u hb hz z01 hb0
    have B0 := H.b0
    refine ⟨fun s => ∃ ck, WOk { W with ck := ck } (2 * B) ∧ s = ⟨[.mu 2, .mu (L.length + 3), .da (.str c), .no, .da (.str h), .da (.int st), .da (.int b)], tb0 :: tb1 :: .rnd (m2 - 1 - 1 - 1 - 1) :: bW L { W with ck := ck } tl, (bW L W tl).length + 3⟩, ?_, ?_⟩
    · refine ⟨_, _, rfl, wd_place, _, _, rfl, gpl c _ tl, fun e => ?_, fun e => ?_⟩
      · have hf : fC W.ck c = none := by
          revert e
          cases fC W.ck c <;> intro e
          · rfl
          · cases e
        have lk : ∀ f : BC → Key × D, (W.ck.map f).length < sizeLine := fun f => by
          rw [List.length_map]
          exact sz (by have := H.ckl; omega)
        refine seqU fun u hu => ?_
        dsimp only [sSeq, sAsg, gsCons, gsNil, gN, gT, dD]
        try dsimp only [DL.S.sE, DL.S.sM, DL.S.aM, DL.S.cM, DL.st, DL.gt, DL.sm, DL.gm, DL.putM, DL.pick, DL.muks, DL.nthN, DL.bkE, DL.st0, DL.nos, List.cons_append, List.nil_append, List.append_nil, List.drop_succ_cons, List.drop_nil, List.drop_zero, List.drop, DL.a1, DL.a2, DL.a3, DL.cMin3, DL.aNil, DL.aCons, DL.dVar, DL.dC, DL.iI, DL.i1, DL.isB, DL.daI, DL.onE, DL.gN, List.length_cons, List.length_nil, Nat.reduceAdd, Nat.zero_add]
        refine onO_mk rfl ⟨rfl, _, _, rfl, wd_place, _, rfl, .inl ⟨_, _, w_place, rfl, lk _, ?_⟩⟩
        rw [sv_place, show W.ck.map plK = W.ck.map (fun c => (.inr c.nm, PyData.str c.pl)) from rfl, new_put hf (fun c => PyData.str c.pl) (.str h) ⟨c, h, b, st⟩ rfl rfl]
        refine ⟨_, _, rfl, vd_bulk, _, rfl, .inl ⟨_, _, v_bulk, rfl, lk _, ?_⟩⟩
        rw [sv_bulk, show W.ck.map bkK = W.ck.map (fun c => (.inr c.nm, PyData.int c.bk)) from rfl, new_put hf (fun c => PyData.int c.bk) (.int b) ⟨c, h, b, st⟩ rfl rfl]
        show u ⟨[.mu 2, .mu (L.length + 3), .da (.str c), .da (.list (rl.map .str)), .da (.str h), .da (.int st), .da (.int b)], _, (bW L W tl).length + 3⟩ _
        rw [hu]; clear hu u
        refine ⟨_, _, rfl, vd_strong, _, rfl, .inl ⟨_, _, v_strong, rfl, lk _, ?_⟩⟩
        rw [sv_strong, show W.ck.map stK = W.ck.map (fun c => (.inr c.nm, PyData.int c.st)) from rfl, new_put hf (fun c => PyData.int c.st) (.int st) ⟨c, h, b, st⟩ rfl rfl]
        refine ⟨W.ck ++ [⟨c, h, b, st⟩], H.ckNew hf hc hh bb.1 (by omega) st0.1 st0.2, ?_⟩
        show clA [3] ⟨[.mu 2, .mu (L.length + 3), .da (.str c), .da (.list (rl.map .str)), .da (.str h), .da (.int st), .da (.int b)], tb0 :: tb1 :: .rnd (m2 - 1 - 1 - 1 - 1) :: bW L { W with ck := W.ck ++ [⟨c, h, b, st⟩] } tl, (bW L W tl).length + 3⟩ = _
        (simp only [DL.clA, DL.clS, DL.killL, DL.limL, DL.limE_mu, DL.limE_da, DL.limE_no, DL.takM, DL.limM, DL.frzS, DL.subL, DL.subE_mu, DL.subE_da, DL.subE_no, DL.subS, DL.subM, DL.S.sE, DL.S.sM, DL.S.aM, DL.S.cM, DL.st, DL.gt, DL.sm, DL.gm, DL.putM, DL.pick, DL.muks, DL.nthN, DL.bkE, DL.st0, DL.nos, List.cons_append, List.nil_append, List.append_nil, List.drop_succ_cons, List.drop_nil, List.drop_zero, List.length_cons, List.length_nil, List.map_cons, List.map_nil, List.map_append, Nat.reduceAdd, Nat.zero_add, Nat.reduceLT, Nat.reduceEqDiff, if_true, if_false, ↓reduceIte, Nat.lt_irrefl, Nat.not_lt_zero] <;> rfl)
      · exact ⟨W.ck, H.up, by (simp only [DL.clA, DL.clS, DL.killL, DL.limL, DL.limE_mu, DL.limE_da, DL.limE_no, DL.takM, DL.limM, DL.frzS, DL.subL, DL.subE_mu, DL.subE_da, DL.subE_no, DL.subS, DL.subM, DL.S.sE, DL.S.sM, DL.S.aM, DL.S.cM, DL.st, DL.gt, DL.sm, DL.gm, DL.putM, DL.pick, DL.muks, DL.nthN, DL.bkE, DL.st0, DL.nos, List.cons_append, List.nil_append, List.append_nil, List.drop_succ_cons, List.drop_nil, List.drop_zero, List.length_cons, List.length_nil, List.map_cons, List.map_nil, List.map_append, Nat.reduceAdd, Nat.zero_add, Nat.reduceLT, Nat.reduceEqDiff, if_true, if_false, ↓reduceIte, Nat.lt_irrefl, Nat.not_lt_zero] <;> rfl)⟩
    · rintro s ⟨ck, HW, rfl⟩
      refine ⟨_, _, rfl, wd_lots, nd1, rfl, _, _, _, [], rfl, rfl, .inl ⟨rfl, rfl⟩, by rw [List.length_map]; exact H.l0, by rw [List.length_map]; exact Nat.le_trans H.ln.1.len (by decide), by omega, fun m3 d hm3 hd => ⟨rfl, ?_⟩⟩
      try dsimp only [DL.S.sE, DL.S.sM, DL.S.aM, DL.S.cM, DL.st, DL.gt, DL.sm, DL.gm, DL.putM, DL.pick, DL.muks, DL.nthN, DL.bkE, DL.st0, DL.nos, List.cons_append, List.nil_append, List.append_nil, List.drop_succ_cons, List.drop_nil, List.drop_zero, List.drop, DL.a1, DL.a2, DL.a3, DL.cMin3, DL.aNil, DL.aCons, DL.dVar, DL.dC, DL.iI, DL.i1, DL.isB, DL.daI, DL.onE, DL.gN, List.length_cons, List.length_nil, Nat.reduceAdd, Nat.zero_add]
      simp only [List.append_nil]
      obtain ⟨l, hl, rfl⟩ := List.mem_map.mp hd
      refine ⟨mulA 120 20 (by omega) (by omega), ?_⟩
      have bs : 0 ≤ b * st ∧ b * st ≤ 10000 * b := ⟨Int.mul_nonneg bb.1 st0.1, by rw [Int.mul_comm]; exact Int.mul_le_mul_of_nonneg_right st0.2 bb.1⟩
      refine onO_mk rfl (onO_mk rfl ?_)
      exact hk m3 ck h (.lay c l b (b * st)) (by omega) HW hh ⟨hc, hl, bb.1, by omega, bs.1, bs.2⟩
  have pick : ∀ (q : Nat) (l : List Str), n ≤ q + 1 → (∀ x ∈ l, x ∈ W.cs) → 0 < l.length → l.length ≤ 12 → CallV sp_some ⟨[.mu 2, .mu (L.length + 3), .no, .da (.list (rl.map .str)), .no, .no, .no], tb0 :: tb1 :: .rnd q :: bW L W tl, (bW L W tl).length + 3⟩ [.mu 2, .da (.list (l.map .str))] fun s1 x => gN 2 x s1 fun s1 => u s1 (endT Ks) := fun q l hq hl l0 l1 => by
    refine ⟨nd1, rfl, _, _, q, [], rfl, rfl, .inl ⟨rfl, rfl⟩, by rw [List.length_map]; exact l0, by rw [List.length_map]; omega, by omega, fun m d hm hd => ⟨rfl, ?_⟩⟩
    try dsimp only [DL.S.sE, DL.S.sM, DL.S.aM, DL.S.cM, DL.st, DL.gt, DL.sm, DL.gm, DL.putM, DL.pick, DL.muks, DL.nthN, DL.bkE, DL.st0, DL.nos, List.cons_append, List.nil_append, List.append_nil, List.drop_succ_cons, List.drop_nil, List.drop_zero, List.drop, DL.a1, DL.a2, DL.a3, DL.cMin3, DL.aNil, DL.aCons, DL.dVar, DL.dC, DL.iI, DL.i1, DL.isB, DL.daI, DL.onE, DL.gN, List.length_cons, List.length_nil, Nat.reduceAdd, Nat.zero_add]
    simp only [List.append_nil]
    obtain ⟨c, hc, rfl⟩ := List.mem_map.mp hd
    exact fin m c (by omega) (hl c hc)
  unfold sAsg dCall aCons dIf DL.tAnd
  refine onO_mk rfl (onO_mk rfl (onO_mk rfl ⟨sh_strs (fun x hx => H.cn.1.ok x (rlm x hx)) (by omega), sh_nil, fun e => ?_, fun e => ?_⟩))
  · have r0 : 0 < rl.length := by
      cases rl with
      | nil => exact absurd e (by simp [xr, PyData.eqv, PyData.eqvAll])
      | cons _ _ => exact Nat.succ_pos _
    refine ⟨nd1, rfl, by omega, divA 10 (by decide) (by decide), fun t t0 t1 => ⟨rfl, ?_⟩⟩
    try dsimp only [DL.S.sE, DL.S.sM, DL.S.aM, DL.S.cM, DL.st, DL.gt, DL.sm, DL.gm, DL.putM, DL.pick, DL.muks, DL.nthN, DL.bkE, DL.st0, DL.nos, List.cons_append, List.nil_append, List.append_nil, List.drop_succ_cons, List.drop_nil, List.drop_zero, List.drop, DL.a1, DL.a2, DL.a3, DL.cMin3, DL.aNil, DL.aCons, DL.dVar, DL.dC, DL.iI, DL.i1, DL.isB, DL.daI, DL.onE, DL.gN, List.length_cons, List.length_nil, Nat.reduceAdd, Nat.zero_add]
    simp only [List.append_nil]
    exact ⟨fun _ => pick _ rl (by omega) rlm r0 rll, fun _ => ⟨_, _, rfl, wd_casks, pick _ W.cs (by omega) (fun x hx => hx) H.c0 lcs⟩⟩
  · exact ff ⟨_, _, rfl, wd_casks, pick _ W.cs (by omega) (fun x hx => hx) H.c0 lcs⟩
def sp_of_cask : SpD := fun xs ms Ks => ∃ (tb0 tb1 : MO) (n : Nat) (L : List MO) (W : BW) (tl : List MO) (B pk : Int) (c : Str) (k : BC) (num : Int), xs = [.mu 2, .mu (L.length + 3), .da (.int pk), .da (.str c)] ∧ ms = tb0 :: tb1 :: .rnd n :: bW L W tl ∧ WOk W B ∧ B.natAbs < 2 ^ 1900 ∧ fC W.ck c = some k ∧ W.num = some num ∧ 0 ≤ num ∧ num < 10 ^ 25 ∧ W.dr.length < 900 ∧ 60 ≤ n ∧
  ∀ (m : Nat) (ck : List BC) (way : List (Str × Str)) (dr : List (Str × Int)) (d : Deed), n ≤ m + 40 → WOk { W with ck := ck, way := way, dr := dr } (2 * B) → dr.length ≤ W.dr.length + 1 → dOkB W (2 * B) d → Ks (tb0 :: tb1 :: .rnd m :: bW L { W with ck := ck, way := way, dr := dr } tl) (.da (dD d))
theorem ok_of_cask (T : Tx K mg) (o_measured : Ok P w K mg base 2 "_law_measured" s_measured ["_law_state", "_law_world_here", "_law_cask"] 3 sp_measured) (o_some : Ok P w K mg base 2 "_law_some" s_some ["_law_state", "_law_things"] 2 sp_some) (o_take : Ok P w K mg base 1 "_law_take" s_take ["_law_state", "_law_many"] 2 spTake) : Ok P w K mg base 3 "_law_of_cask" s_of_cask ["_law_state", "_law_world_here", "_law_pick", "_law_cask"] 4 sp_of_cask := by
  refine ok_dataT (n0 := 7) T.d_of_cask sc_of_cask _ (fun f cdv A outer s H E hr =>
  (dss_clo (dss_cons (ds_asg (de_tup (dan_cons (de_dgetG (hu1 hr) (de_dgetG (hu1 hr) (dv 1) de_str) (dv 3)) (dan_cons (de_dgetG (hu1 hr) (de_dgetG (hu1 hr) (dv 1) de_str) (dv 3)) dan_nil))) (dg_tup (n := 2) rfl (dgs_cons (dg_name (i := 4) sc_of_cask.nd rfl (by first | exact .inl rfl | exact .inr rfl)) (dgs_cons (dg_name (i := 5) sc_of_cask.nd rfl (by first | exact .inl rfl | exact .inr rfl)) dgs_nil))))
  (dss_cons (ds_set (i := 6) sc_of_cask.nd rfl (by first | exact .inl rfl | exact .inr rfl) (de_add (de_div (dv 5) (de_add de_int (de_callV o_take (hr.mono (by omega)) (by rfl) (dan_cons (dv 0) (dan_cons de_int dan_nil))))) (de_int1 (by rfl) (T.b_int) (de_eqS (de_callV o_take (hr.mono (by omega)) (by rfl) (dan_cons (dv 0) (dan_cons de_int dan_nil))) de_int))))
  (dss_cons (ds_if (dt_lt (dv 2) de_int)
    (dss_cons (ds_asg (de_max rfl (by rfl) (T.b_max) de_int (de_sub (dv 5) (dv 6))) (dg_setG (hu1 hr) (de_dgetG (hu1 hr) (dv 1) de_str) (dv 3)))
    (dss_cons (ds_exp (de_append (de_dgetG (hu1 hr) (dv 1) de_str) (de_tup (dan_cons (dv 4) (dan_cons (de_dgetG (hu1 hr) (dv 1) de_str) dan_nil)))))
    (dss_one (ds_ret (de_tup (dan_cons de_str (dan_cons (dv 3) (dan_cons (dv 6) dan_nil))))))))
    dss_nil)
  (dss_cons (ds_if (dt_lt (dv 2) de_int)
    (dss_cons (ds_setLcK (i := 7) [("_law_one", 10)] rfl sc_of_cask.nd rfl rfl rfl (de_dgetG (hu1 hr) (dv 1) de_str) (BlkOk.mk (N := ["_law_state", "_law_world_here", "_law_pick", "_law_cask", "_law_house", "_law_some_here", "_law_bulk", "_law_near", "_law_other", "_law_pure", "_law_one"]) (sc := defScope s_of_cask) rfl (by decide +kernel) (by decide +kernel) (by decide +kernel) (by decide +kernel)) (by decide) (fun _ _ _ _ _ => (dg_name (i := 10) sc_of_cask.nd rfl (by first | exact .inl rfl | exact .inr rfl))) (fun _ _ _ _ _ => (dts_one (dt_bool (dw_and (dt_eqD (hu64 hr) (de_dgetK (hu1 hr) (de_dgetG (hu1 hr) (dv 1) de_str) (dv 10)) (dv 4)) (dw_and1 (dt_dnotinG (hu1 hr) (dv 10) (de_dgetG (hu1 hr) (dv 1) de_str))))))) (fun _ _ _ _ _ => (dv 10)))
    (dss_cons (ds_set (i := 8) sc_of_cask.nd rfl (by first | exact .inl rfl | exact .inr rfl) (de_callV o_some (hr.mono (by omega)) (by rfl) (dan_cons (dv 0) (dan_cons (de_cat (dv 7) (de_lst (dan_cons (dv 3) dan_nil))) dan_nil))))
    (dss_cons (ds_asg (de_max rfl (by rfl) (T.b_max) de_int (de_sub (dv 5) (dv 6))) (dg_setG (hu1 hr) (de_dgetG (hu1 hr) (dv 1) de_str) (dv 3)))
    (dss_cons (ds_asg (de_add (de_dgetG (hu1 hr) (de_dgetG (hu1 hr) (dv 1) de_str) (dv 8)) (dv 6)) (dg_setG (hu1 hr) (de_dgetG (hu1 hr) (dv 1) de_str) (dv 8)))
    (dss_one (ds_ret (de_tup (dan_cons de_str (dan_cons (dv 3) (dan_cons (dv 8) (dan_cons (dv 6) dan_nil)))))))))))
    dss_nil)
  (dss_cons (ds_if (dt_eqS (dv 2) de_int)
    (dss_cons (ds_asg (de_add (dv 5) (dv 6)) (dg_setG (hu1 hr) (de_dgetG (hu1 hr) (dv 1) de_str) (dv 3)))
    (dss_one (ds_ret (de_tup (dan_cons de_str (dan_cons (dv 3) (dan_cons (dv 6) dan_nil)))))))
    dss_nil)
  (dss_cons (ds_if (dt_lt (dv 2) de_int)
    (dss_cons (ds_asg (de_callT o_measured (hr.mono (by omega)) (by rfl) (dan_cons (dv 0) (dan_cons (dv 1) (dan_cons (dv 3) dan_nil)))) (dg_tup (n := 2) rfl (dgs_cons (dg_name (i := 6) sc_of_cask.nd rfl (by first | exact .inl rfl | exact .inr rfl)) (dgs_cons (dg_name (i := 9) sc_of_cask.nd rfl (by first | exact .inl rfl | exact .inr rfl)) dgs_nil))))
    (dss_cons (ds_asg (de_min rfl (by rfl) (T.b_min) (dv 5) (dv 6)) (dg_setG (hu1 hr) (de_dgetG (hu1 hr) (dv 1) de_str) (dv 3)))
    (dss_one (ds_ret (de_tup (dan_cons de_str (dan_cons (dv 3) (dan_cons (dv 6) (dan_cons (dv 9) dan_nil)))))))))
    dss_nil)
  (dss_cons (ds_if (dt_eqS (dv 2) de_int)
    (dss_one (ds_ret (de_tup (dan_cons de_str (dan_cons (dv 3) (dan_cons (de_mul (de_mul (de_callV o_take (hr.mono (by omega)) (by rfl) (dan_cons (dv 0) (dan_cons de_int dan_nil))) (de_dgetG (hu1 hr) (dv 1) de_str)) (de_callV o_take (hr.mono (by omega)) (by rfl) (dan_cons (dv 0) (dan_cons de_int dan_nil)))) dan_nil))))))
    dss_nil)
  (dss_cons (ds_asg (de_callV o_some (hr.mono (by omega)) (by rfl) (dan_cons (dv 0) (dan_cons (de_dgetG (hu1 hr) (dv 1) de_str) dan_nil))) (dg_setG (hu1 hr) (de_dgetG (hu1 hr) (dv 1) de_str) (dv 3)))
  (dss_one (ds_ret (de_tup (dan_cons de_str (dan_cons (dv 3) (dan_cons (de_dgetG (hu1 hr) (de_dgetG (hu1 hr) (dv 1) de_str) (dv 3)) dan_nil)))))))))))))))) (fun xs ms Ks h hl => ?_)
  unfold sp_of_cask at h
  obtain ⟨tb0, tb1, n, L, W, tl, B, pk, c, k, num, rfl, rfl, H, hB, hc, hnum, n0, n1, hdl, hn, hk⟩ := h
  intro cl
  obtain ⟨kcs, kpl, k0, k1, s0, s1⟩ := H.ckc k (fC_some hc).1
  have ek : k.nm = c := (fC_some hc).2
  rw [ek] at kcs
  have cnm : c ∈ W.ck.map (·.nm) := List.mem_map.mpr ⟨k, (fC_some hc).1, ek⟩
  have B0 := H.b0
  have kB : k.bk.natAbs < 2 ^ 1900 := by omega
  have lk : ∀ f : BC → Key × D, (W.ck.map f).length < sizeLine := fun f => by
    rw [List.length_map]
    exact sz (by have := H.ckl; omega)
  refine seqU fun u hu => ?_
  dsimp only [sSeq, sAsg, gsCons, gsNil, gN, gT, dD]
  refine ⟨_, _, rfl, wd_place, _, _, rfl, gi_place hc, _, _, rfl, wd_bulk, _, _, rfl, gi_bulk hc, onO_mk rfl ⟨rfl, ?_⟩⟩
  show u ⟨[.mu 2, .mu (L.length + 3), .da (.int pk), .da (.str c), .da (.str k.pl), .da (.int k.bk), .no, .no, .no, .no, .no], tb0 :: tb1 :: .rnd n :: bW L W tl, (bW L W tl).length + 3⟩ _
  rw [hu]; clear hu u
  refine seqU fun u hu => ?_
  refine ⟨nd1, rfl, by omega, divA 10 (by decide) (by decide), fun x x0 x1 => ⟨rfl, divA 10 (by omega) (by omega), ?_⟩⟩
  try dsimp only [DL.S.sE, DL.S.sM, DL.S.aM, DL.S.cM, DL.st, DL.gt, DL.sm, DL.gm, DL.putM, DL.pick, DL.muks, DL.nthN, DL.bkE, DL.st0, DL.nos, List.cons_append, List.nil_append, List.append_nil, List.drop_succ_cons, List.drop_nil, List.drop_zero, List.drop, DL.a1, DL.a2, DL.a3, DL.cMin3, DL.aNil, DL.aCons, DL.dVar, DL.dC, DL.iI, DL.i1, DL.isB, DL.daI, DL.onE, DL.gN, List.length_cons, List.length_nil, Nat.reduceAdd, Nat.zero_add]
  refine ⟨nd1, rfl, by omega, divA 10 (by decide) (by decide), fun y y0 y1 => ⟨rfl, ?_⟩⟩
  try dsimp only [DL.S.sE, DL.S.sM, DL.S.aM, DL.S.cM, DL.st, DL.gt, DL.sm, DL.gm, DL.putM, DL.pick, DL.muks, DL.nthN, DL.bkE, DL.st0, DL.nos, List.cons_append, List.nil_append, List.append_nil, List.drop_succ_cons, List.drop_nil, List.drop_zero, List.drop, DL.a1, DL.a2, DL.a3, DL.cMin3, DL.aNil, DL.aCons, DL.dVar, DL.dC, DL.iI, DL.i1, DL.isB, DL.daI, DL.onE, DL.gN, List.length_cons, List.length_nil, Nat.reduceAdd, Nat.zero_add]
  simp only [List.append_nil]
  have d0 : 0 ≤ k.bk / (1 + x) := Int.ediv_nonneg k0 (by omega)
  have d1 : k.bk / (1 + x) ≤ k.bk := Int.ediv_le_self _ k0
  obtain ⟨z, hz⟩ : ∃ z : Int, z = if decide (y = 0) = true then 1 else 0 := ⟨_, rfl⟩
  have z01 : 0 ≤ z ∧ z ≤ 1 := by
    rw [hz]
    split <;> decide
  show u ⟨[.mu 2, .mu (L.length + 3), .da (.int pk), .da (.str c), .da (.str k.pl), .da (.int k.bk), .da (.int (k.bk / (1 + x) + if decide (y = 0) = true then 1 else 0)), .no, .no, .no, .no], tb0 :: tb1 :: .rnd (n - 1 - 1) :: bW L W tl, (bW L W tl).length + 3⟩ _
  rw [← hz]
  obtain ⟨b, hb⟩ : ∃ b, b = k.bk / (1 + x) + z := ⟨_, rfl⟩
  have bb : 0 ≤ b ∧ b ≤ k.bk + 1 := by omega
  rw [← hb, hu]; clear hu u hb hz z01 d0 d1
  obtain ⟨q, hq⟩ : ∃ q, q = n - 1 - 1 := ⟨_, rfl⟩
  rw [← hq]
  refine seqU fun u hu => ?_
  refine ⟨fun e => ?_, fun e => ?_⟩
  · refine ⟨_, _, rfl, wd_bulk, _, rfl, .inl ⟨_, _, w_bulk, rfl, lk _, ?_⟩⟩
    dsimp only
    rw [ws_bulk hc]
    have H2 : WOk { W with ck := uC W.ck c fun k' => { k' with bk := max 0 (k.bk - b) } } (2 * B) := H.ckUpd (by omega) (fun _ => rfl) fun k' hk' _ => ⟨(H.ckc k' hk').2.1, by show 0 ≤ max 0 (k.bk - b); omega, by show max 0 (k.bk - b) + 1 ≤ 2 * B; omega, (H.ckc k' hk').2.2.2.2⟩
    unfold sSeq sExp dMet
    try dsimp only [DL.S.sE, DL.S.sM, DL.S.aM, DL.S.cM, DL.st, DL.gt, DL.sm, DL.gm, DL.putM, DL.pick, DL.muks, DL.nthN, DL.bkE, DL.st0, DL.nos, List.cons_append, List.nil_append, List.append_nil, List.drop_succ_cons, List.drop_nil, List.drop_zero, List.drop, DL.a1, DL.a2, DL.a3, DL.cMin3, DL.aNil, DL.aCons, DL.dVar, DL.dC, DL.iI, DL.i1, DL.isB, DL.daI, DL.onE, DL.gN, List.length_cons, List.length_nil, Nat.reduceAdd, Nat.zero_add]
    refine ⟨_, _, rfl, wd_draws, mu1_mk (s := S.mk _ _ _) w_draws ?_⟩
    refine ⟨_, _, rfl, wd_number hnum, onO_mk rfl ?_⟩
    refine onO_mk rfl ?_
    refine mu1_mk (s := S.mk _ _ _) w_draws ?_
    refine ⟨by rw [List.length_map]; exact sz (by show W.dr.length < 1000; omega), ?_⟩
    refine onO_mk rfl ?_
    show Ks (sm (tb0 :: tb1 :: .rnd q :: bW L { W with ck := uC W.ck c fun k' => { k' with bk := max 0 (k.bk - b) } } tl) (L.length + 10) (.lst (W.dr.map drD ++ [drD (k.pl, num)]))) _
    rw [ws_draws (W := { W with ck := uC W.ck c fun k' => { k' with bk := max 0 (k.bk - b) } })]
    exact hk q _ W.way _ (.draw c b) (by omega) (H2.drPut kpl n0 n1) (by rw [List.length_append]; exact Nat.le_refl _) ⟨kcs, bb.1, by omega⟩
  dsimp only [sNil]
  rw [hu]; clear hu u
  refine seqU fun u hu => ?_
  refine ⟨fun e2 => ?_, fun e2 => ?_⟩
  · refine seqU fun u2 hu2 => ?_
    dsimp only [sSeq, sAsg]
    refine ⟨L.length + 6, W.ck.map plK, fun (i : Nat) (acc : List D) => ∃ l : List Str, acc = l.map .str ∧ (∀ x ∈ l, x ∈ W.ck.map (·.nm)) ∧ l.length ≤ i, w_place, ⟨[], rfl, fun x hx => (by cases hx), Nat.le_refl _⟩, fun o us hus cl1 => ⟨?_, ?_⟩, ?_⟩
    · rw [show lkK (S.mk [.mu 2, .mu (L.length + 3), .da (.int pk), .da (.str c), .da (.str k.pl), .da (.int k.bk), .da (.int b), .no, .no, .no, .no] (tb0 :: tb1 :: .rnd q :: bW L W tl) ((bW L W tl).length + 3)) (L.length + 6) (W.ck.map plK) o us = tb0 :: tb1 :: .rnd q :: (L ++ bLk L.length W o us tl) from wsm 3 _]
      exact ⟨_, _, rfl, lk_place, rfl, rfl⟩
    · rw [show lkK (S.mk [.mu 2, .mu (L.length + 3), .da (.int pk), .da (.str c), .da (.str k.pl), .da (.int k.bk), .da (.int b), .no, .no, .no, .no] (tb0 :: tb1 :: .rnd q :: bW L W tl) ((bW L W tl).length + 3)) (L.length + 6) (W.ck.map plK) o us = tb0 :: tb1 :: .rnd q :: (L ++ bLk L.length W o us tl) from wsm 3 _] at cl1 ⊢
      rintro i q2 acc hi ⟨l, rfl, hl, hll⟩
      rw [List.getElem?_map] at hi
      obtain ⟨c2, hc2, rfl⟩ := Option.map_eq_some_iff.mp hi
      have c2m := List.mem_of_getElem? hc2
      have ilt : i < 12 := Nat.lt_of_lt_of_le (List.getElem?_eq_some_iff.mp hc2).1 H.ckl
      have lM : (tb0 :: tb1 :: MO.rnd q :: (L ++ bLk L.length W o us tl)).length = (tb0 :: tb1 :: MO.rnd q :: bW L W tl).length := by
        unfold bW
        simp only [List.length_cons, List.length_append, bLk, bR]
      have tk : ∀ r, takM (tb0 :: tb1 :: MO.rnd q :: bW L W tl).length (tb0 :: tb1 :: MO.rnd q :: bW L W tl).length (tb0 :: tb1 :: MO.rnd q :: (L ++ bLk L.length W o us tl) ++ r) = tb0 :: tb1 :: MO.rnd q :: (L ++ bLk L.length W o us tl) := fun r => by
        rw [← lM]
        exact cl1.app
      have gl : ∀ x, gm (tb0 :: tb1 :: MO.rnd q :: (L ++ bLk L.length W o us tl) ++ [x]) (tb0 :: tb1 :: MO.rnd q :: bW L W tl).length = x := fun x => by
        rw [← lM]
        exact gm_at0
      have ea : ∀ r, tb0 :: tb1 :: MO.rnd q :: (L ++ bLk L.length W o us tl) ++ r = tb0 :: tb1 :: MO.rnd q :: (L ++ bLk L.length W o us (tl ++ r)) := fun r => by
        show tb0 :: tb1 :: MO.rnd q :: (L ++ bLk L.length W o us tl ++ r) = _
        rw [bLk_app]
      have yes : ∃ l' : List Str, l.map PyData.str ++ [.str c2.nm] = l'.map .str ∧ (∀ x ∈ l', x ∈ W.ck.map (·.nm)) ∧ l'.length ≤ i + 1 := ⟨l ++ [c2.nm], by rw [List.map_append]; rfl, fun x hx => (List.mem_append.mp hx).elim (hl x) fun e => by rw [List.mem_singleton.mp e]; exact List.mem_map.mpr ⟨c2, c2m, rfl⟩, by rw [List.length_append]; exact Nat.add_le_add_right hll 1⟩
      have no : ∃ l' : List Str, l.map PyData.str = l'.map .str ∧ (∀ x ∈ l', x ∈ W.ck.map (·.nm)) ∧ l'.length ≤ i + 1 := ⟨l, rfl, hl, Nat.le_succ_of_le hll⟩
      have fin : ∀ (cc : Bool) (es : List En), (cc = true → (fun s4 x => daI x fun y => (l.map PyData.str).length < sizeLine ∧ gm s4.ms (tb0 :: tb1 :: MO.rnd q :: bW L W tl).length = .lst (l.map .str) ∧ takM (tb0 :: tb1 :: MO.rnd q :: bW L W tl).length (tb0 :: tb1 :: MO.rnd q :: bW L W tl).length s4.ms = tb0 :: tb1 :: MO.rnd q :: (L ++ bLk L.length W o us tl) ∧ ∃ l' : List Str, l.map PyData.str ++ [y] = l'.map .str ∧ (∀ x ∈ l', x ∈ W.ck.map (·.nm)) ∧ l'.length ≤ i + 1) (S.mk es (tb0 :: tb1 :: MO.rnd q :: (L ++ bLk L.length W o us tl) ++ [.lst (l.map .str)]) ((bW L W tl).length + 3)) (.da (.str c2.nm))) ∧ (cc = false → gm (tb0 :: tb1 :: MO.rnd q :: (L ++ bLk L.length W o us tl) ++ [.lst (l.map .str)]) (tb0 :: tb1 :: MO.rnd q :: bW L W tl).length = .lst (l.map .str) ∧ takM (tb0 :: tb1 :: MO.rnd q :: bW L W tl).length (tb0 :: tb1 :: MO.rnd q :: bW L W tl).length (tb0 :: tb1 :: MO.rnd q :: (L ++ bLk L.length W o us tl) ++ [.lst (l.map .str)]) = tb0 :: tb1 :: MO.rnd q :: (L ++ bLk L.length W o us tl) ∧ ∃ l' : List Str, l.map PyData.str = l'.map .str ∧ (∀ x ∈ l', x ∈ W.ck.map (·.nm)) ∧ l'.length ≤ i + 1) := fun cc es => ⟨fun _ => ⟨by rw [List.length_map]; exact sz (by omega), gl _, tk _, yes⟩, fun _ => ⟨gl _, tk _, no⟩⟩
      rw [ea] at fin
      dsimp only
      rw [ea]
      refine ⟨_, _, rfl, lk_place, L.length + 6, o, us, W.ck.map plK, .str c2.pl, rfl, lk_gm, hus, (fC_find fun c => PyData.str c.pl).trans (by rw [fC_nodup H.ckn c2m]; rfl), ?_⟩
      refine onO_mk rfl (onO_mk rfl ⟨sh_str (H.hn.1.ok _ (H.ckc c2 c2m).2.1), sh_str (H.hn.1.ok _ kpl), fun e => ?_, fun e => ?_⟩)
      · exact ⟨_, _, rfl, lk_way, _, _, rfl, lk_wy, fin _ _⟩
      · exact fin _ _
    · rintro acc ⟨l, rfl, hl, hll⟩
      show u2 ⟨[.mu 2, .mu (L.length + 3), .da (.int pk), .da (.str c), .da (.str k.pl), .da (.int k.bk), .da (.int b), .da (.list (l.map .str)), .no, .no, .no], tb0 :: tb1 :: .rnd q :: bW L W tl, (bW L W tl).length + 3⟩ _
      rw [hu2]; clear hu2 u2
      refine seqU fun u2 hu2 => ?_
      refine onO_mk rfl (onO_mk rfl (onO_mk rfl ⟨by rw [List.length_map]; exact Nat.le_of_lt (sz (by show l.length + 1 < 1000; have := H.ckl; rw [List.length_map] at hll; omega)), ?_⟩))
      rw [List.length_map] at hll
      have ckl := H.ckl
      refine ⟨nd1, rfl, _, _, q, [], rfl, rfl, .inl ⟨rfl, rfl⟩, by rw [List.length_append]; exact Nat.succ_pos _, by rw [List.length_append, List.length_map]; show l.length + 1 ≤ 1000; omega, by omega, fun m d hm hd => ⟨rfl, ?_⟩⟩
      try dsimp only [DL.S.sE, DL.S.sM, DL.S.aM, DL.S.cM, DL.st, DL.gt, DL.sm, DL.gm, DL.putM, DL.pick, DL.muks, DL.nthN, DL.bkE, DL.st0, DL.nos, List.cons_append, List.nil_append, List.append_nil, List.drop_succ_cons, List.drop_nil, List.drop_zero, List.drop, DL.a1, DL.a2, DL.a3, DL.cMin3, DL.aNil, DL.aCons, DL.dVar, DL.dC, DL.iI, DL.i1, DL.isB, DL.daI, DL.onE, DL.gN, List.length_cons, List.length_nil, Nat.reduceAdd, Nat.zero_add]
      simp only [List.append_nil]
      obtain ⟨o, ho, rfl⟩ : ∃ o, o ∈ W.ck.map (·.nm) ∧ d = .str o := by
        rcases List.mem_append.mp hd with hd | hd
        · obtain ⟨o, ho, rfl⟩ := List.mem_map.mp hd
          exact ⟨o, hl o ho, rfl⟩
        · exact ⟨c, cnm, List.mem_singleton.mp hd⟩
      obtain ⟨k2, hk2⟩ := fC_mem ho
      obtain ⟨kcs2, _, k20, k21, _⟩ := H.ckc k2 (fC_some hk2).1
      rw [(fC_some hk2).2] at kcs2
      rw [hu2]; clear hu2 u2
      refine seqU fun u2 hu2 => ?_
      refine ⟨_, _, rfl, wd_bulk, _, rfl, .inl ⟨_, _, w_bulk, rfl, lk _, ?_⟩⟩
      dsimp only
      rw [ws_bulk hc, hu2]; clear hu2 u2
      have H2 : WOk { W with ck := uC W.ck c fun k' => { k' with bk := max 0 (k.bk - b) } } B := H.ckUpd (by omega) (fun _ => rfl) fun k' hk' _ => ⟨(H.ckc k' hk').2.1, by show 0 ≤ max 0 (k.bk - b); omega, by show max 0 (k.bk - b) + 1 ≤ B; omega, (H.ckc k' hk').2.2.2.2⟩
      have f2 : fC (uC W.ck c fun k' => { k' with bk := max 0 (k.bk - b) }) o = some (if k2.nm = c then { k2 with bk := max 0 (k.bk - b) } else k2) := uC_find (f := fun k' => { k' with bk := max 0 (k.bk - b) }) (fun _ => rfl) hk2
      obtain ⟨k3, hk3⟩ : ∃ k3, k3 = if k2.nm = c then { k2 with bk := max 0 (k.bk - b) } else k2 := ⟨_, rfl⟩
      rw [← hk3] at f2
      have b3 : 0 ≤ k3.bk ∧ k3.bk + b + 1 ≤ 2 * B := by
        rw [hk3]
        split
        · constructor
          · show 0 ≤ max 0 (k.bk - b)
            omega
          · show max 0 (k.bk - b) + b + 1 ≤ 2 * B
            omega
        · exact ⟨k20, by omega⟩
      refine seqU fun u2 hu2 => ?_
      refine ⟨_, _, rfl, wd_bulk, _, _, rfl, gi_bulk (W := { W with ck := uC W.ck c fun k' => { k' with bk := max 0 (k.bk - b) } }) f2, _, _, rfl, wd_bulk, _, rfl, .inl ⟨_, _, w_bulk, rfl, by rw [List.length_map]; show (uC W.ck c _).length < _; unfold uC; rw [List.length_map]; exact sz (by omega), ?_⟩⟩
      dsimp only
      rw [ws_bulk (W := { W with ck := uC W.ck c fun k' => { k' with bk := max 0 (k.bk - b) } }) f2, hu2]; clear hu2 u2
      have H3 := H2.ckUpd (B' := 2 * B) (c := o) (f := fun k' => { k' with bk := k3.bk + b }) (by omega) (fun _ => rfl) fun k' hk' _ => ⟨(H2.ckc k' hk').2.1, by show 0 ≤ k3.bk + b; omega, by show k3.bk + b + 1 ≤ 2 * B; omega, (H2.ckc k' hk').2.2.2.2⟩
      refine onO_mk rfl ?_
      exact hk m _ W.way W.dr (.pour c o b) (by omega) H3 (by omega) ⟨kcs, kcs2, bb.1, by omega⟩
  dsimp only [sNil]
  rw [hu]; clear hu u
  refine seqU fun u hu => ?_
  refine ⟨fun e3 => ?_, fun e3 => ?_⟩
  · refine ⟨_, _, rfl, wd_bulk, _, rfl, .inl ⟨_, _, w_bulk, rfl, lk _, ?_⟩⟩
    dsimp only
    rw [ws_bulk hc]
    have H2 : WOk { W with ck := uC W.ck c fun k' => { k' with bk := k.bk + b } } (2 * B) := H.ckUpd (by omega) (fun _ => rfl) fun k' hk' _ => ⟨(H.ckc k' hk').2.1, by show 0 ≤ k.bk + b; omega, by show k.bk + b + 1 ≤ 2 * B; omega, (H.ckc k' hk').2.2.2.2⟩
    refine onO_mk rfl ?_
    exact hk q _ W.way W.dr (.water c b) (by omega) H2 (by omega) ⟨kcs, bb.1, by omega⟩
  dsimp only [sNil]
  rw [hu]; clear hu u
  refine seqU fun u hu => ?_
  refine ⟨fun e4 => ?_, fun e4 => ?_⟩
  · refine seqU fun u2 hu2 => ?_
    refine ⟨tb0, tb1, q, L, W, tl, B, c, k, rfl, rfl, H, by omega, hc, by omega, fun m b2 p hm b20 b21 p0 p1 => ?_⟩
    dsimp only [gsCons, gsNil, gN, gT, dD]
    try dsimp only [DL.S.sE, DL.S.sM, DL.S.aM, DL.S.cM, DL.st, DL.gt, DL.sm, DL.gm, DL.putM, DL.pick, DL.muks, DL.nthN, DL.bkE, DL.st0, DL.nos, List.cons_append, List.nil_append, List.append_nil, List.drop_succ_cons, List.drop_nil, List.drop_zero, List.drop, DL.a1, DL.a2, DL.a3, DL.cMin3, DL.aNil, DL.aCons, DL.dVar, DL.dC, DL.iI, DL.i1, DL.isB, DL.daI, DL.onE, DL.gN, List.length_cons, List.length_nil, Nat.reduceAdd, Nat.zero_add]
    refine ⟨rfl, ?_⟩
    rw [hu2]; clear hu2 u2
    refine ⟨_, _, rfl, wd_bulk, _, rfl, .inl ⟨_, _, w_bulk, rfl, lk _, ?_⟩⟩
    dsimp only
    rw [ws_bulk hc]
    have H2 : WOk { W with ck := uC W.ck c fun k' => { k' with bk := min k.bk b2 } } (2 * B) := H.ckUpd (by omega) (fun _ => rfl) fun k' hk' _ => ⟨(H.ckc k' hk').2.1, by show 0 ≤ min k.bk b2; omega, by show min k.bk b2 + 1 ≤ 2 * B; omega, (H.ckc k' hk').2.2.2.2⟩
    refine onO_mk rfl ?_
    exact hk m _ W.way W.dr (.gauge c b2 p) (by omega) H2 (by omega) ⟨kcs, b20, by omega, p0, p1⟩
  dsimp only [sNil]
  rw [hu]; clear hu u
  refine seqU fun u hu => ?_
  refine ⟨fun e5 => ?_, fun e5 => ?_⟩
  · refine ⟨nd1, rfl, by omega, divA 10 (by decide) (by decide), fun x x0 x1 => ⟨rfl, ?_⟩⟩
    try dsimp only [DL.S.sE, DL.S.sM, DL.S.aM, DL.S.cM, DL.st, DL.gt, DL.sm, DL.gm, DL.putM, DL.pick, DL.muks, DL.nthN, DL.bkE, DL.st0, DL.nos, List.cons_append, List.nil_append, List.append_nil, List.drop_succ_cons, List.drop_nil, List.drop_zero, List.drop, DL.a1, DL.a2, DL.a3, DL.cMin3, DL.aNil, DL.aCons, DL.dVar, DL.dC, DL.iI, DL.i1, DL.isB, DL.daI, DL.onE, DL.gN, List.length_cons, List.length_nil, Nat.reduceAdd, Nat.zero_add]
    simp only [List.append_nil]
    have u0 := H.u0
    have u1 := H.u1
    refine ⟨_, _, rfl, wd_unit, mulA 10 100 (by omega) (by omega), ?_⟩
    have xu : 0 ≤ x * W.unit ∧ x * W.unit ≤ 9 * 10 ^ 24 := ⟨Int.mul_nonneg x0 u0, by
      have := Int.mul_le_mul (show x ≤ 9 by omega) u1 u0 (by decide)
      omega⟩
    obtain ⟨b0, hb0⟩ : ∃ b0, b0 = x * W.unit := ⟨_, rfl⟩
    rw [← hb0] at xu ⊢
    refine ⟨nd1, rfl, by omega, divA 10 (by decide) (by decide), fun y y0 y1 => ⟨rfl, ?_⟩⟩
    try dsimp only [DL.S.sE, DL.S.sM, DL.S.aM, DL.S.cM, DL.st, DL.gt, DL.sm, DL.gm, DL.putM, DL.pick, DL.muks, DL.nthN, DL.bkE, DL.st0, DL.nos, List.cons_append, List.nil_append, List.append_nil, List.drop_succ_cons, List.drop_nil, List.drop_zero, List.drop, DL.a1, DL.a2, DL.a3, DL.cMin3, DL.aNil, DL.aCons, DL.dVar, DL.dC, DL.iI, DL.i1, DL.isB, DL.daI, DL.onE, DL.gN, List.length_cons, List.length_nil, Nat.reduceAdd, Nat.zero_add]
    simp only [List.append_nil]
    refine ⟨mulA 100 10 (by omega) (by omega), onO_mk rfl ?_⟩
    have yb : 0 ≤ b0 * y ∧ b0 * y ≤ 9 * 10 ^ 24 := by
      have y2 : y = 0 ∨ y = 1 := by omega
      rcases y2 with e | e <;> rw [e] <;> omega
    exact hk _ W.ck W.way W.dr (.sample c (b0 * y)) (by omega) H.up (by omega) ⟨kcs, yb.1, by omega⟩
  dsimp only [sNil]
  rw [hu]; clear hu u
  refine seqU fun u hu => ?_
  refine ⟨_, _, rfl, wd_houses, nd1, rfl, _, _, q, [], rfl, rfl, .inl ⟨rfl, rfl⟩, by rw [List.length_map]; exact H.h0, by rw [List.length_map]; exact Nat.le_trans H.hn.1.len (by decide), by omega, fun m2 d hm2 hd => ⟨rfl, ?_⟩⟩
  try dsimp only [DL.S.sE, DL.S.sM, DL.S.aM, DL.S.cM, DL.st, DL.gt, DL.sm, DL.gm, DL.putM, DL.pick, DL.muks, DL.nthN, DL.bkE, DL.st0, DL.nos, List.cons_append, List.nil_append, List.append_nil, List.drop_succ_cons, List.drop_nil, List.drop_zero, List.drop, DL.a1, DL.a2, DL.a3, DL.cMin3, DL.aNil, DL.aCons, DL.dVar, DL.dC, DL.iI, DL.i1, DL.isB, DL.daI, DL.onE, DL.gN, List.length_cons, List.length_nil, Nat.reduceAdd, Nat.zero_add]
  simp only [List.append_nil]
  obtain ⟨h, hh, rfl⟩ := List.mem_map.mp hd
  refine ⟨_, _, rfl, wd_way, _, rfl, .inl ⟨_, _, w_way, rfl, by rw [List.length_map]; exact sz (by have := H.wyl; omega), ?_⟩⟩
  dsimp only
  rw [ws_way, hu]; clear hu u
  refine ⟨_, _, rfl, wd_way, _, _, rfl, gi_way.trans (congrArg (fun z => some (Option.map _ z)) pW_self), onO_mk rfl ?_⟩
  exact hk m2 W.ck _ W.dr (.send c h) (by omega) (H.up.wyPut cnm hh) (by omega) ⟨kcs, hh⟩
def sp_begun : SpD := fun xs ms Ks => ∃ (rts : List (Int × Int)) (lim : Int × Int) (most : Int), xs = [.da (tmB rts lim most)] ∧ rts.length ≤ 8 ∧ Ks (ms ++ begM ms.length rts lim most) (.mu (ms.length + 2))
theorem ok_begun (T : Tx K mg) (o_Book_init : OkI P w K mg base 1 "Book" "Book.__init__" s_Book_init ["self", "terms"] 2 sp_Book_init) : Ok P w K mg base 3 "_law_begun" s_begun ["_law_terms"] 1 sp_begun := by
  refine ok_dataT (n0 := 1) T.d_begun sc_begun _ (fun f cdv A outer s H E hr =>
  (dss_clo (dss_cons (ds_set (i := 1) sc_begun.nd rfl (by first | exact .inl rfl | exact .inr rfl) (de_tupS (dan_cons (de_listM (by rfl) (T.b_list) (de_ix (dv 0) de_int)) (dan_cons (de_ix (dv 0) de_int) (dan_cons (de_ix (dv 0) de_int) dan_nil)))))
  (dss_one (ds_ret (de_disp (dps_cons (de_make o_Book_init (hr.mono (by omega)) (by rfl) (dan_cons (dv 1) dan_nil)) (dps_cons (dv 1) (dps_cons de_newD (dps_cons (de_lstS dan_nil) (dps_cons (de_lstM (dan_cons (de_lst dan_nil) dan_nil)) (dps_cons (dv 0) dps_nil)))))))))))) (fun xs ms Ks h hl => ?_)
  unfold sp_begun at h
  obtain ⟨rts, lim, most, rfl, hl, hk⟩ := h
  intro cl
  refine seqU fun u hu => ?_
  refine ⟨_, rfl, ?_⟩
  refine onO_mk rfl (onO_mk rfl ?_)
  refine ⟨_, rfl, _, rfl, ?_⟩
  obtain ⟨tu, htu⟩ : ∃ tu : D, tu = .tuple [.int lim.1, .int lim.2] := ⟨_, rfl⟩
  obtain ⟨M2, hM2⟩ : ∃ M2, M2 = ms ++ [MO.lst (rts.map prD), .ins .tup [sq (.mu ms.length), sq (.da tu), sq (.da (.int most))]] := ⟨_, rfl⟩
  have l2 : M2.length = ms.length + 2 := by rw [hM2, List.length_append]; rfl
  show u ⟨[.da (tmB rts lim most), .mu (ms ++ [MO.lst (rts.map prD)]).length], (ms ++ [MO.lst (rts.map prD)]) ++ [.ins .tup [sq (.mu ms.length), sq (.da (.tuple [.int lim.1, .int lim.2])), sq (.da (.int most))]], ms.length⟩ _
  rw [← htu, List.append_assoc, List.length_append]
  show u ⟨[.da (tmB rts lim most), .mu (ms.length + 1)], ms ++ [MO.lst (rts.map prD), .ins .tup [sq (.mu ms.length), sq (.da tu), sq (.da (.int most))]], ms.length⟩ _
  rw [← hM2, hu]; clear hu u
  have g1 : gm M2 (ms.length + 1) = .ins .tup [sq (.mu ms.length), sq (.da tu), sq (.da (.int most))] := by rw [hM2]; exact gm_pre ms _ 1
  have g0 : gm M2 ms.length = .lst (rts.map prD) := by rw [hM2]; exact gm_at0
  have bk : ∀ (M3 : List MO) (Kt : List MO → En → Prop), M3 = M2 ++ [.ins .dct []] → Kt (bkMs M3 ⟨.tuple [.list (rts.map prD), tu, .int most], [], [], [.list []]⟩ []) (.da .none) → sp_Book_init [.mu M3.length, .mu (ms.length + 1)] (M3 ++ [.ins (.obj "Book") []]) Kt := fun M3 Kt h3 hK => by
    have l3 : M3.length = ms.length + 3 := by rw [h3, List.length_append, l2]; rfl
    refine ⟨M3, ms.length + 1, ms.length, rts.map prD, tu, .int most, rfl, rfl, by omega, by omega, ?_, ?_, hK⟩
    · rw [h3]
      exact gm_appX g1 (fun z => nomatch z)
    · rw [h3]
      exact gm_appX g0 (fun z => nomatch z)
  dsimp only [sRet, dDisp, aCons, dMake, dVar, onE]
  try dsimp only [DL.S.sE, DL.S.sM, DL.S.aM, DL.S.cM, DL.st, DL.gt, DL.sm, DL.gm, DL.putM, DL.pick, DL.muks, DL.nthN, DL.bkE, DL.st0, DL.nos, List.cons_append, List.nil_append, List.append_nil, List.drop_succ_cons, List.drop_nil, List.drop_zero, List.drop, DL.a1, DL.a2, DL.a3, DL.cMin3, DL.aNil, DL.aCons, DL.dVar, DL.dC, DL.iI, DL.i1, DL.isB, DL.daI, DL.onE, DL.gN, List.length_cons, List.length_nil, Nat.reduceAdd, Nat.zero_add]
  refine bk _ _ rfl ⟨rfl, ?_⟩
  have eB : bkMs (M2 ++ [.ins .dct []]) ⟨.tuple [.list (rts.map prD), tu, .int most], [], [], [.list []]⟩ [] = M2 ++ .ins .dct [] :: bkC (ms.length + 3) ⟨.tuple [.list (rts.map prD), tu, .int most], [], [], [.list []]⟩ := by
    unfold bkMs
    rw [List.append_assoc, List.length_append, l2, List.append_nil]
    rfl
  rw [eB]
  dsimp only [dNewD, dLstS, dLstM, aNil, aCons, dLst]
  try dsimp only [DL.S.sE, DL.S.sM, DL.S.aM, DL.S.cM, DL.st, DL.gt, DL.sm, DL.gm, DL.putM, DL.pick, DL.muks, DL.nthN, DL.bkE, DL.st0, DL.nos, List.cons_append, List.nil_append, List.append_nil, List.drop_succ_cons, List.drop_nil, List.drop_zero, List.drop, DL.a1, DL.a2, DL.a3, DL.cMin3, DL.aNil, DL.aCons, DL.dVar, DL.dC, DL.iI, DL.i1, DL.isB, DL.daI, DL.onE, DL.gN, List.length_cons, List.length_nil, Nat.reduceAdd, Nat.zero_add]
  refine onO_mk rfl (onO_mk rfl ?_)
  obtain ⟨C, hC⟩ : ∃ C, C = bkC (ms.length + 3) ⟨.tuple [.list (rts.map prD), tu, .int most], [], [], [.list []]⟩ := ⟨_, rfl⟩
  have lC : C.length = 4 := by rw [hC]; rfl
  have lA : (M2 ++ [MO.ins Sh.dct []]).length = ms.length + 3 := by rw [List.length_append, l2]; rfl
  have lB : (M2 ++ MO.ins Sh.dct [] :: C).length = ms.length + 7 := by rw [List.length_append, l2, List.length_cons, lC]
  have lD : (M2 ++ MO.ins Sh.dct [] :: C ++ [MO.dct []]).length = ms.length + 8 := by rw [List.length_append, lB]; rfl
  have lE : (M2 ++ MO.ins Sh.dct [] :: C ++ [MO.dct []] ++ [MO.ins Sh.lst (List.map sq [])]).length = ms.length + 9 := by rw [List.length_append, lD]; rfl
  have eM : ∀ ds : List D, M2 ++ MO.ins Sh.dct [] :: C ++ [MO.dct []] ++ [MO.ins Sh.lst (List.map sq [])] ++ [MO.lst ds] = M2 ++ MO.ins Sh.dct [] :: (C ++ [MO.dct [], .ins .lst [], .lst ds]) := fun ds => by
    simp only [List.append_assoc]
    rfl
  rw [← hC, lA, lB, lD, lE, eM]
  refine ⟨gm_at0, ?_⟩
  rw [sm_mid, l2]
  have eF : M2 ++ MO.ins Sh.dct (mergeT [] ([Str.ofString "book", Str.ofString "own", Str.ofString "pages", Str.ofString "past", Str.ofString "states", Str.ofString "terms"].zip [En.mu (ms.length + 3), En.mu (ms.length + 1), En.mu (ms.length + 7), En.mu (ms.length + 8), En.mu (ms.length + 9), En.da (tmB rts lim most)])) :: (C ++ [MO.dct [], .ins .lst [], .lst [.list []]]) = ms ++ begM ms.length rts lim most := by
    rw [hM2, hC, htu, List.append_assoc]
    rfl
  rw [eF]
  exact hk
def sp_Book_heap : SpD := fun xs ms Ks => ∃ (pre : List MO) (B : BkP) (tl : List MO) (t : Nat) (ps : List Page), xs = [.mu pre.length] ∧ ms = bkMs pre B tl ∧ B.kvs = pgK ps ∧ gm ms t = .tab "Book.heap" ∧ (Ks ms (.da (.list (heapL ps))) ∨ Ks (bkMs pre B (tl ++ [.lst (heapL ps)])) (.mu (bkMs pre B tl).length))
theorem ok_Book_heap (T : Tx K mg) (TB : TbX K mg base)  : OkM P w K mg base 4 "Book" "heap" "Book.heap" s_Book_heap ["self"] 1 sp_Book_heap := by
  refine ok_dataML (n0 := 0) T.d_Book_heap TB.t_Book_heap sc_Book_heap _ (fun f cdv P0 A outer s H E hC hTB hr =>
  (dss_clo (dss_one (ds_ret (de_alt (de_sortLmV (k := 0) (n := 0) (N := ["page"]) (fr := []) [] hC hTB rfl rfl (NdefX.nscope_by (by decide +kernel)) rfl (fun _ _ _ _ => rfl) (free_ok (sc := defScope s_Book_heap) (by decide +kernel)) (by decide +kernel) rfl rfl (hr.mono (by omega)) (by rfl) (T.b_sorted) (de_fld T.f_Book_pages (dv 0)) (fun _ _ _ _ _ _ _ hr => (de_slT (dv 0) do_none (do_some de_int)))) (de_sortLmVM (k := 0) (n := 0) (N := ["page"]) (fr := []) [] hC hTB rfl rfl (NdefX.nscope_by (by decide +kernel)) rfl (fun _ _ _ _ => rfl) (free_ok (sc := defScope s_Book_heap) (by decide +kernel)) (by decide +kernel) rfl rfl (hr.mono (by omega)) (by rfl) (T.b_sorted) (de_fld T.f_Book_pages (dv 0)) (fun _ _ _ _ _ _ _ hr => (de_slT (dv 0) do_none (do_some de_int))))))))) (fun xs ms Ks h hl => ?_)
  unfold sp_Book_heap at h
  obtain ⟨pre, B, tl, t, ps, rfl, rfl, hB, ht, hk⟩ := h
  intro cl
  have hv : valsD B.kvs = ps.map pgD := by rw [hB]; unfold valsD pgK; rw [List.map_map]; rfl
  have hky : ∀ d ∈ valsD B.kvs, dSl rdSlT (dVar 0) oNone (oSome (dC (PyData.int 2))) ⟨.da d :: ([] ++ nos 0), [], 0⟩ (fun _ r => r = .da (kyD d)) := fun d hd => by
    rw [hv] at hd
    obtain ⟨p, _, rfl⟩ := List.mem_map.mp hd
    exact rfl
  rcases hk with hk | hk
  · refine .inl ⟨pre.length, _, _, rfl, b_0, List.mem_singleton.mpr rfl, _, rfl, ?_⟩
    refine mu2_mk b_1 ⟨kyD, t, ht, hky, by rw [hv]; exact can_ky ps, ?_⟩
    rw [hv]
    exact hk
  · refine .inr ⟨pre.length, _, _, rfl, b_0, List.mem_singleton.mpr rfl, _, rfl, ?_⟩
    refine mu2_mk b_1 ⟨kyD, t, ht, hky, by rw [hv]; exact can_ky ps, ?_⟩
    rw [hv]
    show Ks (bkMs pre B tl ++ [.lst (heapL ps)]) _
    rw [b_app]
    exact hk
def sp_deed : SpD := fun xs ms Ks => ∃ (tb0 tb1 : MO) (n : Nat) (L : List MO) (W : BW) (tl : List MO) (B num : Int), xs = [.mu 2, .mu (L.length + 3)] ∧ ms = tb0 :: tb1 :: .rnd n :: bW L W tl ∧ WOk W B ∧ B.natAbs < 2 ^ 1900 ∧ W.num = some num ∧ 0 ≤ num ∧ num < 10 ^ 25 ∧ W.dr.length < 900 ∧ 80 ≤ n ∧
  ∀ (m : Nat) (ck : List BC) (way : List (Str × Str)) (dr : List (Str × Int)) (h : Str) (d : Deed), n ≤ m + 60 → WOk { W with ck := ck, way := way, dr := dr } (2 * B) → dr.length ≤ W.dr.length + 1 → h ∈ W.hs → dOkB W (2 * B) d → Ks (tb0 :: tb1 :: .rnd m :: bW L { W with ck := ck, way := way, dr := dr } tl) (.da (.tuple [.str h, dD d]))
theorem ok_deed (T : Tx K mg) (o_laid : Ok P w K mg base 3 "_law_laid" s_laid ["_law_state", "_law_world_here"] 2 sp_laid) (o_measured : Ok P w K mg base 2 "_law_measured" s_measured ["_law_state", "_law_world_here", "_law_cask"] 3 sp_measured) (o_of_cask : Ok P w K mg base 3 "_law_of_cask" s_of_cask ["_law_state", "_law_world_here", "_law_pick", "_law_cask"] 4 sp_of_cask) (o_some : Ok P w K mg base 2 "_law_some" s_some ["_law_state", "_law_things"] 2 sp_some) (o_take : Ok P w K mg base 1 "_law_take" s_take ["_law_state", "_law_many"] 2 spTake) : Ok P w K mg base 4 "_law_deed" s_deed ["_law_state", "_law_world_here"] 2 sp_deed := by
  refine ok_dataT (n0 := 6) T.d_deed sc_deed _ (fun f cdv A outer s H E hr =>
  (dss_clo (dss_rta (dss_cons (ds_set (i := 2) sc_deed.nd rfl (by first | exact .inl rfl | exact .inr rfl) (de_callV o_take (hr.mono (by omega)) (by rfl) (dan_cons (dv 0) (dan_cons de_int dan_nil))))
  (dss_cons (ds_if (dt_bool (dw_or (dt_eqDk0 (hu64 hr) (de_dgetG (hu1 hr) (dv 1) de_str) de_newD) (dw_or1 (dt_lt (dv 2) de_int))))
    (dss_one (ds_ret (de_callT o_laid (hr.mono (by omega)) (by rfl) (dan_cons (dv 0) (dan_cons (dv 1) dan_nil)))))
    dss_nil)
  (dss_cons (ds_if (dt_bool (dw_and (dt_eqS (dv 2) de_int) (dw_and (dt_neD (hu64 hr) (de_dgetG (hu1 hr) (dv 1) de_str) (de_lst dan_nil)) (dw_and1 (dt_gt (de_callV o_take (hr.mono (by omega)) (by rfl) (dan_cons (dv 0) (dan_cons de_int dan_nil))) de_int)))))
    (dss_cons (ds_asg (de_callV o_some (hr.mono (by omega)) (by rfl) (dan_cons (dv 0) (dan_cons (de_dgetG (hu1 hr) (dv 1) de_str) dan_nil))) (dg_tup (n := 2) rfl (dgs_cons (dg_name (i := 3) sc_deed.nd rfl (by first | exact .inl rfl | exact .inr rfl)) (dgs_cons (dg_name (i := 4) sc_deed.nd rfl (by first | exact .inl rfl | exact .inr rfl)) dgs_nil))))
    (dss_one (ds_ret (de_tup (dan_cons (dv 3) (dan_cons (de_tup (dan_cons de_str (dan_cons (dv 4) dan_nil))) dan_nil))))))
    dss_nil)
  (dss_cons (ds_if (dt_bool (dw_and (dt_neDk0 (hu64 hr) (de_dgetG (hu1 hr) (dv 1) de_str) de_newD) (dw_and1 (dt_gt (de_callV o_take (hr.mono (by omega)) (by rfl) (dan_cons (dv 0) (dan_cons de_int dan_nil))) de_int))))
    (dss_cons (ds_set (i := 5) sc_deed.nd rfl (by first | exact .inl rfl | exact .inr rfl) (de_callV o_some (hr.mono (by omega)) (by rfl) (dan_cons (dv 0) (dan_cons (de_sortD (hu64 hr) (by rfl) (T.b_sorted) (de_listK rfl (by rfl) (T.b_list) (de_dgetG (hu1 hr) (dv 1) de_str))) dan_nil))))
    (dss_cons (ds_asg (de_callT o_measured (hr.mono (by omega)) (by rfl) (dan_cons (dv 0) (dan_cons (dv 1) (dan_cons (dv 5) dan_nil)))) (dg_tup (n := 2) rfl (dgs_cons (dg_name (i := 6) sc_deed.nd rfl (by first | exact .inl rfl | exact .inr rfl)) (dgs_cons (dg_name (i := 7) sc_deed.nd rfl (by first | exact .inl rfl | exact .inr rfl)) dgs_nil))))
    (dss_cons (ds_asg (de_popG (de_dgetG (hu1 hr) (dv 1) de_str) (dv 5)) (dg_setG (hu1 hr) (de_dgetG (hu1 hr) (dv 1) de_str) (dv 5)))
    (dss_one (ds_ret (de_tup (dan_cons (de_dgetG (hu1 hr) (de_dgetG (hu1 hr) (dv 1) de_str) (dv 5)) (dan_cons (de_tup (dan_cons de_str (dan_cons (dv 5) (dan_cons (dv 6) (dan_cons (dv 7) dan_nil))))) dan_nil))))))))
    dss_nil)
  (dss_cons (ds_set (i := 5) sc_deed.nd rfl (by first | exact .inl rfl | exact .inr rfl) (de_callV o_some (hr.mono (by omega)) (by rfl) (dan_cons (dv 0) (dan_cons (de_sortD (hu64 hr) (by rfl) (T.b_sorted) (de_listK rfl (by rfl) (T.b_list) (de_dgetG (hu1 hr) (dv 1) de_str))) dan_nil))))
  (dss_one (ds_ret (de_tup (dan_cons (de_dgetG (hu1 hr) (de_dgetG (hu1 hr) (dv 1) de_str) (dv 5)) (dan_cons (de_callT o_of_cask (hr.mono (by omega)) (by rfl) (dan_cons (dv 0) (dan_cons (dv 1) (dan_cons (dv 2) (dan_cons (dv 5) dan_nil))))) dan_nil))))))))))))) (fun xs ms Ks h hl => ?_)
  unfold sp_deed at h
  obtain ⟨tb0, tb1, n, L, W, tl, B, num, rfl, rfl, H, hB, hnum, n0, n1, hdl, hn, hk⟩ := h
  intro cl
  have B0 := H.b0
  have fin : ∀ (m : Nat) (ck : List BC) (way : List (Str × Str)) (dr : List (Str × Int)) (h : Str) (d : Deed) (r : List MO) (es : List En), n ≤ m + 60 → WOk { W with ck := ck, way := way, dr := dr } (2 * B) → dr.length ≤ W.dr.length + 1 → h ∈ W.hs → dOkB W (2 * B) d → (rtD (endT Ks)).rt ⟨es, tb0 :: tb1 :: .rnd m :: bW L { W with ck := ck, way := way, dr := dr } (tl ++ r), (bW L W tl).length + 3⟩ (.da (.tuple [.str h, dD d])) := fun m ck way dr h d r es hm HW hdr hh hd => ⟨_, _, AdjE.cut ((bW L W tl).length + 3) (Nat.le_refl _), by
    show Ks (takM _ _ _) (.da (.tuple [.str h, dD d]))
    rw [cut_bW cl]
    exact hk m ck way dr h d hm HW hdr hh hd⟩
  refine seqU fun u hu => ?_
  refine ⟨nd1, rfl, by omega, divA 10 (by decide) (by decide), fun pk pk0 pk1 => ⟨rfl, ?_⟩⟩
  try dsimp only [DL.S.sE, DL.S.sM, DL.S.aM, DL.S.cM, DL.st, DL.gt, DL.sm, DL.gm, DL.putM, DL.pick, DL.muks, DL.nthN, DL.bkE, DL.st0, DL.nos, List.cons_append, List.nil_append, List.append_nil, List.drop_succ_cons, List.drop_nil, List.drop_zero, List.drop, DL.a1, DL.a2, DL.a3, DL.cMin3, DL.aNil, DL.aCons, DL.dVar, DL.dC, DL.iI, DL.i1, DL.isB, DL.daI, DL.onE, DL.gN, List.length_cons, List.length_nil, Nat.reduceAdd, Nat.zero_add]
  simp only [List.append_nil]
  rw [hu]; clear hu u
  refine seqU fun u hu => ?_
  refine ⟨_, _, rfl, wd_place, ?_⟩
  dsimp only [dNewD, rdDk0]
  try dsimp only [DL.S.sE, DL.S.sM, DL.S.aM, DL.S.cM, DL.st, DL.gt, DL.sm, DL.gm, DL.putM, DL.pick, DL.muks, DL.nthN, DL.bkE, DL.st0, DL.nos, List.cons_append, List.nil_append, List.append_nil, List.drop_succ_cons, List.drop_nil, List.drop_zero, List.drop, DL.a1, DL.a2, DL.a3, DL.cMin3, DL.aNil, DL.aCons, DL.dVar, DL.dC, DL.iI, DL.i1, DL.isB, DL.daI, DL.onE, DL.gN, List.length_cons, List.length_nil, Nat.reduceAdd, Nat.zero_add]
  rw [bW_app]
  refine mu2_mk (s := S.mk _ _ _) w_place (mu2_mk (s := S.mk _ _ _) gm_new ⟨rfl, ?_⟩)
  refine or_if ?_ fun e1 e2 => ?_
  · exact ⟨tb0, tb1, n - 1, L, W, tl ++ [.dct []], B, rfl, rfl, H, by omega, by omega, fun m ck h d hm HW hh hd => fin m ck W.way W.dr h d _ _ (by omega) HW (by omega) hh hd⟩
  have ckp : 0 < W.ck.length := by
    cases hck : W.ck with
    | nil => rw [hck] at e1; cases e1
    | cons _ _ => exact Nat.succ_pos _
  dsimp only [sNil]
  rw [hu]; clear hu u
  obtain ⟨T2, hT2⟩ : ∃ T2, T2 = tl ++ [MO.dct []] := ⟨_, rfl⟩
  have fin2 : ∀ (m : Nat) (ck : List BC) (way : List (Str × Str)) (dr : List (Str × Int)) (h : Str) (d : Deed) (r : List MO) (es : List En), n ≤ m + 60 → WOk { W with ck := ck, way := way, dr := dr } (2 * B) → dr.length ≤ W.dr.length + 1 → h ∈ W.hs → dOkB W (2 * B) d → (rtD (endT Ks)).rt ⟨es, tb0 :: tb1 :: .rnd m :: bW L { W with ck := ck, way := way, dr := dr } (T2 ++ r), (bW L W tl).length + 3⟩ (.da (.tuple [.str h, dD d])) := fun m ck way dr h d r es a1 a2 a3 a4 a5 => by
    rw [hT2, List.append_assoc]
    exact fin m ck way dr h d _ es a1 a2 a3 a4 a5
  have fin0 : ∀ (m : Nat) (ck : List BC) (way : List (Str × Str)) (dr : List (Str × Int)) (h : Str) (d : Deed) (es : List En), n ≤ m + 60 → WOk { W with ck := ck, way := way, dr := dr } (2 * B) → dr.length ≤ W.dr.length + 1 → h ∈ W.hs → dOkB W (2 * B) d → (rtD (endT Ks)).rt ⟨es, tb0 :: tb1 :: .rnd m :: bW L { W with ck := ck, way := way, dr := dr } T2, (bW L W tl).length + 3⟩ (.da (.tuple [.str h, dD d])) := fun m ck way dr h d es a1 a2 a3 a4 a5 => by
    have := fin2 m ck way dr h d [] es a1 a2 a3 a4 a5
    rw [List.append_nil] at this
    exact this
  rw [← hT2]
  clear fin hk
  refine seqU fun u hu => ?_
  have later : ∀ q : Nat, n ≤ q + 3 → u ⟨[.mu 2, .mu (L.length + 3), .da (.int pk), .no, .no, .no, .no, .no], tb0 :: tb1 :: .rnd q :: bW L W T2, (bW L W tl).length + 3⟩ (rtD (endT Ks)) := fun q hq => by
    rw [hu]; clear hu u
    refine seqU fun u hu => ?_
    refine ⟨_, _, rfl, wd_way, ?_⟩
    dsimp only [dNewD, rdDk0]
    try dsimp only [DL.S.sE, DL.S.sM, DL.S.aM, DL.S.cM, DL.st, DL.gt, DL.sm, DL.gm, DL.putM, DL.pick, DL.muks, DL.nthN, DL.bkE, DL.st0, DL.nos, List.cons_append, List.nil_append, List.append_nil, List.drop_succ_cons, List.drop_nil, List.drop_zero, List.drop, DL.a1, DL.a2, DL.a3, DL.cMin3, DL.aNil, DL.aCons, DL.dVar, DL.dC, DL.iI, DL.i1, DL.isB, DL.daI, DL.onE, DL.gN, List.length_cons, List.length_nil, Nat.reduceAdd, Nat.zero_add]
    rw [bW_app]
    refine mu2_mk (s := S.mk _ _ _) w_way (mu2_mk (s := S.mk _ _ _) gm_new ⟨rfl, ?_⟩)
    obtain ⟨T3, hT3⟩ : ∃ T3, T3 = T2 ++ [MO.dct []] := ⟨_, rfl⟩
    rw [← hT3]
    have fin3 : ∀ (m : Nat) (ck : List BC) (way : List (Str × Str)) (dr : List (Str × Int)) (h : Str) (d : Deed) (es : List En), n ≤ m + 60 → WOk { W with ck := ck, way := way, dr := dr } (2 * B) → dr.length ≤ W.dr.length + 1 → h ∈ W.hs → dOkB W (2 * B) d → (rtD (endT Ks)).rt ⟨es, tb0 :: tb1 :: .rnd m :: bW L { W with ck := ck, way := way, dr := dr } T3, (bW L W tl).length + 3⟩ (.da (.tuple [.str h, dD d])) := fun m ck way dr h d es a1 a2 a3 a4 a5 => by
      rw [hT3]
      exact fin2 m ck way dr h d _ es a1 a2 a3 a4 a5
    clear fin2 fin0 hT3
    have later2 : ∀ q : Nat, n ≤ q + 4 → u ⟨[.mu 2, .mu (L.length + 3), .da (.int pk), .no, .no, .no, .no, .no], tb0 :: tb1 :: .rnd q :: bW L W T3, (bW L W tl).length + 3⟩ (rtD (endT Ks)) := fun q hq => by
      rw [hu]; clear hu u
      refine seqU fun u hu => ?_
      obtain ⟨l, hl1, hl2⟩ := sortD_strs (W.ck.map (·.nm))
      have ll : l.length = W.ck.length := by rw [hl2.length_eq, List.length_map]
      have ckl := H.ckl
      have ckm : ∀ x ∈ W.ck.map (·.nm), sOk x := fun x hx => by
        obtain ⟨k, hk, rfl⟩ := List.mem_map.mp hx
        exact H.cn.1.ok _ (H.ckc k hk).1
      refine ⟨_, _, rfl, wd_place, ?_⟩
      dsimp only [aNil, cListK, a1]
      refine mu2_mk (s := S.mk _ _ _) w_place ?_
      refine ⟨(W.ck.map (·.nm)).map .str, congrArg (fun l => some (PyData.list l)) keys_place, can_strs ckm, ?_⟩
      rw [hl1]
      refine ⟨nd1, rfl, _, _, q, [], rfl, rfl, .inl ⟨rfl, rfl⟩, by rw [List.length_map]; omega, by rw [List.length_map]; omega, by omega, fun m d hm hd => ⟨rfl, ?_⟩⟩
      try dsimp only [DL.S.sE, DL.S.sM, DL.S.aM, DL.S.cM, DL.st, DL.gt, DL.sm, DL.gm, DL.putM, DL.pick, DL.muks, DL.nthN, DL.bkE, DL.st0, DL.nos, List.cons_append, List.nil_append, List.append_nil, List.drop_succ_cons, List.drop_nil, List.drop_zero, List.drop, DL.a1, DL.a2, DL.a3, DL.cMin3, DL.aNil, DL.aCons, DL.dVar, DL.dC, DL.iI, DL.i1, DL.isB, DL.daI, DL.onE, DL.gN, List.length_cons, List.length_nil, Nat.reduceAdd, Nat.zero_add]
      simp only [List.append_nil]
      obtain ⟨c, hc, rfl⟩ := List.mem_map.mp hd
      obtain ⟨k, hk⟩ := fC_mem (hl2.mem_iff.mp hc)
      rw [hu]; clear hu u
      refine ⟨_, _, rfl, wd_place, _, _, rfl, gi_place hk, ?_⟩
      refine ⟨tb0, tb1, m, L, W, T3, B, pk, c, k, num, rfl, rfl, H, hB, hk, hnum, n0, n1, hdl, by omega, fun m2 ck way dr d hm2 HW hdr hd => onO_mk rfl ?_⟩
      exact fin3 m2 ck way dr k.pl d _ (by omega) HW hdr (H.ckc k (fC_some hk).1).2.1 hd
    refine ⟨fun e => ?_, fun e => ff (later2 q (by omega))⟩
    refine ⟨nd1, rfl, by omega, divA 10 (by decide) (by decide), fun t t0 t1 => ⟨rfl, ?_⟩⟩
    try dsimp only [DL.S.sE, DL.S.sM, DL.S.aM, DL.S.cM, DL.st, DL.gt, DL.sm, DL.gm, DL.putM, DL.pick, DL.muks, DL.nthN, DL.bkE, DL.st0, DL.nos, List.cons_append, List.nil_append, List.append_nil, List.drop_succ_cons, List.drop_nil, List.drop_zero, List.drop, DL.a1, DL.a2, DL.a3, DL.cMin3, DL.aNil, DL.aCons, DL.dVar, DL.dC, DL.iI, DL.i1, DL.isB, DL.daI, DL.onE, DL.gN, List.length_cons, List.length_nil, Nat.reduceAdd, Nat.zero_add]
    simp only [List.append_nil]
    refine ⟨fun e4 => ?_, fun e4 => later2 (q - 1) (by omega)⟩
    clear later2 hu
    have wy0 : 0 < W.way.length := by
      cases hw : W.way with
      | nil => rw [hw] at e; cases e
      | cons _ _ => exact Nat.succ_pos _
    refine seqU fun u2 hu2 => ?_
    obtain ⟨l, hl1, hl2⟩ := sortD_strs (W.way.map (·.1))
    have ll : l.length = W.way.length := by rw [hl2.length_eq, List.length_map]
    have wyl := H.wyl
    have wm : ∀ x ∈ W.way.map (·.1), x ∈ W.ck.map (·.nm) := fun x hx => by
      obtain ⟨p, hp, rfl⟩ := List.mem_map.mp hx
      exact (H.wyc p hp).1
    have wok : ∀ x ∈ W.way.map (·.1), sOk x := fun x hx => by
      obtain ⟨k, hk, rfl⟩ := List.mem_map.mp (wm x hx)
      exact H.cn.1.ok _ (H.ckc k hk).1
    refine ⟨_, _, rfl, wd_way, ?_⟩
    dsimp only [aNil, cListK, a1]
    refine mu2_mk (s := S.mk _ _ _) w_way ?_
    refine ⟨(W.way.map (·.1)).map .str, congrArg (fun l => some (PyData.list l)) keys_way, can_strs wok, ?_⟩
    rw [hl1]
    refine ⟨nd1, rfl, _, _, q - 1, [], rfl, rfl, .inl ⟨rfl, rfl⟩, by rw [List.length_map]; omega, by rw [List.length_map]; omega, by omega, fun m d hm hd => ⟨rfl, ?_⟩⟩
    try dsimp only [DL.S.sE, DL.S.sM, DL.S.aM, DL.S.cM, DL.st, DL.gt, DL.sm, DL.gm, DL.putM, DL.pick, DL.muks, DL.nthN, DL.bkE, DL.st0, DL.nos, List.cons_append, List.nil_append, List.append_nil, List.drop_succ_cons, List.drop_nil, List.drop_zero, List.drop, DL.a1, DL.a2, DL.a3, DL.cMin3, DL.aNil, DL.aCons, DL.dVar, DL.dC, DL.iI, DL.i1, DL.isB, DL.daI, DL.onE, DL.gN, List.length_cons, List.length_nil, Nat.reduceAdd, Nat.zero_add]
    simp only [List.append_nil]
    obtain ⟨c, hc, rfl⟩ := List.mem_map.mp hd
    have cw := hl2.mem_iff.mp hc
    obtain ⟨k, hk⟩ := fC_mem (wm c cw)
    obtain ⟨g, hg1, hg2⟩ := fW_mem cw
    rw [hu2]; clear hu2 u2
    refine seqU fun u2 hu2 => ?_
    refine ⟨tb0, tb1, m, L, W, T3, B, c, k, rfl, rfl, H, by omega, hk, by omega, fun m2 b p hm2 b0 b1 p0 p1 => ?_⟩
    dsimp only [gsCons, gsNil, gN, gT, dD]
    try dsimp only [DL.S.sE, DL.S.sM, DL.S.aM, DL.S.cM, DL.st, DL.gt, DL.sm, DL.gm, DL.putM, DL.pick, DL.muks, DL.nthN, DL.bkE, DL.st0, DL.nos, List.cons_append, List.nil_append, List.append_nil, List.drop_succ_cons, List.drop_nil, List.drop_zero, List.drop, DL.a1, DL.a2, DL.a3, DL.cMin3, DL.aNil, DL.aCons, DL.dVar, DL.dC, DL.iI, DL.i1, DL.isB, DL.daI, DL.onE, DL.gN, List.length_cons, List.length_nil, Nat.reduceAdd, Nat.zero_add]
    refine ⟨rfl, ?_⟩
    rw [hu2]; clear hu2 u2
    refine seqU fun u2 hu2 => ?_
    refine ⟨_, _, rfl, wd_way, ⟨_, _, rfl, w_way⟩, _, _, _, rfl, w_way, fW_find.trans (congrArg (Option.map _) hg1), ?_⟩
    have e7 : sm (tb0 :: tb1 :: MO.rnd m2 :: bW L W T3) (L.length + 7) (.dct (dropD (W.way.map wyK) (.inr c))) = tb0 :: tb1 :: .rnd m2 :: bW L { W with way := dW W.way c } T3 := ws_wayD
    show gSetG _ _ _ ⟨[.mu 2, .mu (L.length + 3), .da (.int pk), .no, .no, .da (.str c), .da (.int b), .da (.int p)], sm (tb0 :: tb1 :: MO.rnd m2 :: bW L W T3) (L.length + 7) (.dct (dropD (W.way.map wyK) (.inr c))), (bW L W tl).length + 3⟩ _
    rw [e7]; clear e7
    refine ⟨_, _, rfl, wd_place, _, rfl, .inl ⟨_, _, w_place, rfl, by rw [List.length_map]; exact sz (by have := H.ckl; show W.ck.length < 1000; omega), ?_⟩⟩
    dsimp only
    rw [ws_place (W := { W with way := dW W.way c }) hk, hu2]; clear hu2 u2
    have f2 : fC (uC W.ck c fun k' => { k' with pl := g }) c = some { k with pl := g } := by
      rw [uC_find (f := fun k' => { k' with pl := g }) (fun _ => rfl) hk, if_pos (fC_some hk).2]
    refine ⟨_, _, rfl, wd_place, _, _, rfl, gi_place (W := { W with way := dW W.way c, ck := uC W.ck c fun k' => { k' with pl := g } }) f2, onO_mk rfl (onO_mk rfl ?_)⟩
    have gh := (H.wyc _ hg2).2
    obtain ⟨kcs, _, k0, k1, _⟩ := H.ckc k (fC_some hk).1
    rw [(fC_some hk).2] at kcs
    have HW : WOk { W with way := dW W.way c, ck := uC W.ck c fun k' => { k' with pl := g } } (2 * B) := (H.wyDrop (c := c)).ckUpd (c := c) (f := fun k' => { k' with pl := g }) (by omega) (fun _ => rfl) fun k' hk' _ => by
      obtain ⟨_, _, a1, a2, a3, a4⟩ := H.ckc k' hk'
      exact ⟨gh, a1, by show k'.bk + 1 ≤ 2 * B; omega, a3, a4⟩
    exact fin3 m2 _ _ W.dr g (.come c b p) _ (by omega) HW (by omega) gh ⟨kcs, b0, by omega, p0, p1⟩
  refine ⟨fun e => ?_, fun e => ff (later (n - 1) (by omega))⟩
  refine ⟨_, _, rfl, wd_draws, ?_⟩
  have vwd : ∀ (q : Nat) (es : List En), vw ⟨es, tb0 :: tb1 :: .rnd q :: bW L W T2, (bW L W tl).length + 3⟩ (.mu (L.length + 10)) = some (.list (W.dr.map drD)) := fun q es => vw_l w_draws
  refine onO_mk (vwd _ _) (onO_mk rfl (⟨shaped_of (Ok2.drs H (by omega)).ok (Nat.le_trans (Ok2.drs H (by omega)).dp (by decide)), sh_nil, fun e3 => ?_, fun e3 => ff (later (n - 1) (by omega))⟩ ))
  have dr0 : 0 < W.dr.length := by
    cases hd : W.dr with
    | nil =>
      rw [hd] at e3
      exact absurd e3 (by simp [xr, PyData.eqv, PyData.eqvAll])
    | cons _ _ => exact Nat.succ_pos _
  refine ⟨nd1, rfl, by omega, divA 10 (by decide) (by decide), fun t t0 t1 => ⟨rfl, ?_⟩⟩
  try dsimp only [DL.S.sE, DL.S.sM, DL.S.aM, DL.S.cM, DL.st, DL.gt, DL.sm, DL.gm, DL.putM, DL.pick, DL.muks, DL.nthN, DL.bkE, DL.st0, DL.nos, List.cons_append, List.nil_append, List.append_nil, List.drop_succ_cons, List.drop_nil, List.drop_zero, List.drop, DL.a1, DL.a2, DL.a3, DL.cMin3, DL.aNil, DL.aCons, DL.dVar, DL.dC, DL.iI, DL.i1, DL.isB, DL.daI, DL.onE, DL.gN, List.length_cons, List.length_nil, Nat.reduceAdd, Nat.zero_add]
  simp only [List.append_nil]
  refine ⟨fun e4 => ?_, fun e4 => later (n - 1 - 1) (by omega)⟩
  clear later hu
  refine seqU fun u2 hu2 => ?_
  refine ⟨_, _, rfl, wd_draws, ?_⟩
  refine callV2 (t := 2) (k := L.length + 10) (by omega) ?_
  rw [w_draws]
  refine ⟨rfl, .mu 1, W.dr.map drD, n - 1 - 1, [.lst (W.dr.map drD)], rfl, rfl, .inr ⟨rfl, rfl⟩, by rw [List.length_map]; exact dr0, by rw [List.length_map]; omega, by omega, fun m d hm hd => ⟨rfl, ?_⟩⟩
  obtain ⟨p, hp, rfl⟩ := List.mem_map.mp hd
  have e5 : sm (sm (tb0 :: tb1 :: MO.rnd (n - 1 - 1) :: bW L W T2) 2 (.rnd m)) (L.length + 10) (.lst (W.dr.map drD)) = tb0 :: tb1 :: .rnd m :: bW L W T2 := ws_same
  show gT 2 _ (.da (drD p)) ⟨[.mu 2, .mu (L.length + 3), .da (.int pk), .no, .no, .no, .no, .no], sm (sm (tb0 :: tb1 :: MO.rnd (n - 1 - 1) :: bW L W T2) 2 (.rnd m)) (L.length + 10) (.lst (W.dr.map drD)) ++ [], (bW L W tl).length + 3⟩ _
  rw [e5, List.append_nil]
  unfold drD
  dsimp only [gsCons, gsNil, gN, gT, dD]
  try dsimp only [DL.S.sE, DL.S.sM, DL.S.aM, DL.S.cM, DL.st, DL.gt, DL.sm, DL.gm, DL.putM, DL.pick, DL.muks, DL.nthN, DL.bkE, DL.st0, DL.nos, List.cons_append, List.nil_append, List.append_nil, List.drop_succ_cons, List.drop_nil, List.drop_zero, List.drop, DL.a1, DL.a2, DL.a3, DL.cMin3, DL.aNil, DL.aCons, DL.dVar, DL.dC, DL.iI, DL.i1, DL.isB, DL.daI, DL.onE, DL.gN, List.length_cons, List.length_nil, Nat.reduceAdd, Nat.zero_add]
  refine ⟨rfl, ?_⟩
  rw [hu2]; clear hu2 u2
  obtain ⟨ph, p0, p1⟩ := H.dr p hp
  refine onO_mk rfl (onO_mk rfl ?_)
  exact fin0 m W.ck W.way W.dr p.1 (.back p.2) _ (by omega) H.up (by omega) ph ⟨p0, p1⟩
def sp_heap_of : SpD := fun xs ms Ks => ∃ (i t : Nat) (ps : List Page), xs = [.mu i] ∧ gm ms i = .dct (pgK ps) ∧ gm ms t = .tab "_law_heap_of" ∧ (ps.map (·.num)).Nodup ∧ ps.length < 500 ∧ Ks ms (.da (.list (heapL ps)))
theorem ok_heap_of (T : Tx K mg) (TB : TbX K mg base)  : Ok P w K mg base 4 "_law_heap_of" s_heap_of ["_law_pages"] 1 sp_heap_of := by
  refine ok_dataLD (n0 := 1) T.d_heap_of TB.t_heap_of sc_heap_of _ (fun f cdv P0 A outer s H E hC hTB hr =>
  (dss_clo (dss_one (ds_ret (de_sortLm (k := 0) (n := 0) (N := ["_law_page_here"]) (fr := []) [] hC hTB rfl rfl (NdefX.nscope_by (by decide +kernel)) rfl (fun _ _ _ _ => rfl) (free_ok (sc := defScope s_heap_of) (by decide +kernel)) (by decide +kernel) rfl (hr.mono (by omega)) (by rfl) (T.b_sorted) (de_lcK [("_law_number", 1)] rfl sc_heap_of.nd (dv 0) (BlkOk.mk (N := ["_law_pages", "_law_number"]) (sc := defScope s_heap_of) rfl (by decide +kernel) (by decide +kernel) (by decide +kernel) (by decide +kernel)) (by decide) (fun _ _ _ _ _ => (dg_name (i := 1) sc_heap_of.nd rfl (by first | exact .inl rfl | exact .inr rfl))) (fun _ _ _ _ _ => dts_nil) (fun _ _ _ _ _ => (de_dgetK (hu1 hr) (dv 0) (dv 1)))) (fun _ _ _ _ _ _ _ hr => (de_tup (dan_cons (de_ix (dv 0) de_int) (dan_cons (de_ix (dv 0) de_int) dan_nil))))))))) (fun xs ms Ks h hl => ?_)
  unfold sp_heap_of at h
  obtain ⟨i, t, ps, rfl, gi, gt, nd, hl, hk⟩ := h
  intro cl
  have il : i < ms.length := gm_lt' gi (fun z => nomatch z)
  refine ⟨i, pgK ps, fun (k : Nat) (acc : List D) => acc = (ps.take k).map pgD, gi, rfl, fun o us hus cl1 => ⟨⟨rfl, rfl⟩, ?_⟩, ?_⟩
  · rintro k q acc hk' rfl
    unfold pgK at hk'
    rw [List.getElem?_map] at hk'
    obtain ⟨p, hp, rfl⟩ := Option.map_eq_some_iff.mp hk'
    have hkl := (List.getElem?_eq_some_iff.mp hp).1
    have lM : (lkK (S.mk [.mu i, .no] ms ms.length) i (pgK ps) o us).length = ms.length := sm_length _ _ _
    have gM : gm (lkK (S.mk [.mu i, .no] ms ms.length) i (pgK ps) o us) i = .ins (.fzk o us) (fzF (pgK ps)) := gm_sm_self il
    have tk : ∀ r, takM ms.length ms.length (lkK (S.mk [.mu i, .no] ms ms.length) i (pgK ps) o us ++ r) = lkK (S.mk [.mu i, .no] ms ms.length) i (pgK ps) o us := fun r => by
      have := cl1.app (r := r)
      rw [show (lkK (st0 [.mu i] 1 ms ms.length) i (pgK ps) o us).length = ms.length from sm_length _ _ _] at this
      exact this
    have gl : ∀ x, gm (lkK (S.mk [.mu i, .no] ms ms.length) i (pgK ps) o us ++ [x]) ms.length = x := fun x => by
      conv => lhs; rw [← lM]
      exact gm_at0
    refine ⟨fun _ => ?_, fun z => nomatch z⟩
    refine ⟨i, o, us, pgK ps, pgD p, rfl, gm_appX gM (fun z => nomatch z), hus, pgK_find nd (List.mem_of_getElem? hp), ?_⟩
    refine ⟨by rw [List.length_map, List.length_take]; exact sz (by omega), gl _, tk _, ?_⟩
    show (ps.take k).map pgD ++ [pgD p] = (ps.take (k + 1)).map pgD
    rw [List.take_add_one, hp, List.map_append]
    rfl
  · rintro acc rfl
    rw [show (pgK ps).length = ps.length from pgK_len, List.take_length]
    refine ⟨ps.map pgD, kyD, t, rfl, gt, fun d hd => ?_, can_ky ps, ?_⟩
    · obtain ⟨p, _, rfl⟩ := List.mem_map.mp hd
      exact ⟨_, rfl, _, rfl, onO_mk rfl rfl⟩
    · show Ks (takM ms.length ms.length ms) _
      rw [show takM ms.length ms.length ms = ms from cl]
      exact hk
def sp_RetoldDeed_init : SpD := fun xs ms Ks => ∃ (pre : List MO) (p l : Page), xs = [.mu pre.length, .da (pgD p), .da (pgD l)] ∧ ms = pre ++ [.ins (.obj "RetoldDeed") []] ∧ Ks (pre ++ [recO (.retold p l)]) (.da .none)
theorem ok_RetoldDeed_init (T : Tx K mg) (o_UnsaidDeed_init : OkI P w K mg base 3 "UnsaidDeed" "UnsaidDeed.__init__" s_UnsaidDeed_init ["self", "page"] 2 sp_UnsaidDeed_init) : OkI P w K mg base 5 "RetoldDeed" "RetoldDeed.__init__" s_RetoldDeed_init ["self", "page", "later"] 3 sp_RetoldDeed_init := by
  refine ok_dataI (n0 := 0) T.d_RetoldDeed_init sc_RetoldDeed_init _ (fun f cdv A outer s H E hr =>
  (dss_clo (dss_cons (ds_exp (de_cinit o_UnsaidDeed_init (hr.mono (by omega)) (by rfl) T.k_UnsaidDeed (dan_cons (dv 0) (dan_cons (dv 1) dan_nil))))
  (dss_one (ds_fld T.f_RetoldDeed_later (dv 0) (dv 2)))))) (fun xs ms Ks h hl => ?_)
  unfold sp_RetoldDeed_init at h
  obtain ⟨pre, p, l, rfl, rfl, hk⟩ := h
  intro cl
  refine seqU fun u hu => ?_
  refine ⟨pre, "RetoldDeed", p, rfl, rfl, .inr rfl, ?_⟩
  show u ⟨[.mu pre.length, .da (pgD p), .da (pgD l)], pre ++ [.ins (.obj "RetoldDeed") [("number", .da (.int p.num)), ("page", .da (pgD p))]], _⟩ _
  rw [hu]; clear hu u
  refine ⟨pre.length, _, _, rfl, gm_pre pre _ 0, .head _, (show (2 : Nat) < 1000 by decide), ?_⟩
  try dsimp only [DL.S.sE, DL.S.sM, DL.S.aM, DL.S.cM, DL.st, DL.gt, DL.sm, DL.gm, DL.putM, DL.pick, DL.muks, DL.nthN, DL.bkE, DL.st0, DL.nos, List.cons_append, List.nil_append, List.append_nil, List.drop_succ_cons, List.drop_nil, List.drop_zero, List.drop, DL.a1, DL.a2, DL.a3, DL.cMin3, DL.aNil, DL.aCons, DL.dVar, DL.dC, DL.iI, DL.i1, DL.isB, DL.daI, DL.onE, DL.gN, List.length_cons, List.length_nil, Nat.reduceAdd, Nat.zero_add]
  rw [show sm (pre ++ [MO.ins (.obj "RetoldDeed") _]) pre.length _ = _ from sm_pre pre _ 0 _]
  exact hk
def sp_Book_note : SpD := fun xs ms Ks => ∃ (pre : List MO) (B : BkP) (tl : List MO) (t : Nat) (ps : List Page), xs = [.mu pre.length] ∧ ms = bkMs pre B tl ∧ B.kvs = pgK ps ∧ gm ms t = .tab "Book.heap" ∧ B.ds.length < 1000 ∧ Ks (bkMs pre { B with ds := B.ds ++ [.list (heapL ps)] } tl) (.da .none)
theorem ok_Book_note (T : Tx K mg) (o_Book_heap : OkM P w K mg base 4 "Book" "heap" "Book.heap" s_Book_heap ["self"] 1 sp_Book_heap) : OkM P w K mg base 5 "Book" "note" "Book.note" s_Book_note ["self"] 1 sp_Book_note := by
  refine ok_dataM (n0 := 0) T.d_Book_note sc_Book_note _ (fun f cdv A outer s H E hr =>
  (dss_clo (dss_one (ds_exp (de_append (de_fld T.f_Book_states (dv 0)) (de_meth0 o_Book_heap (hr.mono (by omega)) (dv 0))))))) (fun xs ms Ks h hl => ?_)
  unfold sp_Book_note at h
  obtain ⟨pre, B, tl, t, ps, rfl, rfl, hB, ht, hl, hk⟩ := h
  intro cl
  refine ⟨pre.length, _, _, rfl, b_0, List.mem_singleton.mpr rfl, _, rfl, ?_⟩
  refine mu1_mk b_3 ?_
  refine ⟨pre.length, _, _, rfl, b_0, List.mem_singleton.mpr rfl, rfl, ?_⟩
  refine ⟨pre, B, tl, t, ps, rfl, rfl, hB, ht, .inl ?_⟩
  try dsimp only [DL.S.sE, DL.S.sM, DL.S.aM, DL.S.cM, DL.st, DL.gt, DL.sm, DL.gm, DL.putM, DL.pick, DL.muks, DL.nthN, DL.bkE, DL.st0, DL.nos, List.cons_append, List.nil_append, List.append_nil, List.drop_succ_cons, List.drop_nil, List.drop_zero, List.drop, DL.a1, DL.a2, DL.a3, DL.cMin3, DL.aNil, DL.aCons, DL.dVar, DL.dC, DL.iI, DL.i1, DL.isB, DL.daI, DL.onE, DL.gN, List.length_cons, List.length_nil, Nat.reduceAdd, Nat.zero_add]
  refine mu1_mk b_3 ?_
  refine ⟨sz hl, ?_⟩
  show Ks (sm (bkMs pre B tl) (pre.length + 3) _) _
  rw [c_3]
  exact hk
def sp_page : SpD := fun xs ms Ks => ∃ (tb0 tb1 : MO) (n : Nat) (L : List MO) (W : BW) (tl : List MO) (B : Int), xs = [.mu 2, .mu (L.length + 3)] ∧ ms = tb0 :: tb1 :: .rnd n :: bW L W tl ∧ WOk W B ∧ B.natAbs < 2 ^ 1900 ∧ W.dr.length ≤ W.turn ∧ W.turn < 800 ∧ 0 ≤ W.day ∧ W.day < 10 ^ 20 ∧ 200 ≤ n ∧
  ∀ (m : Nat) (day : Int) (ck : List BC) (way : List (Str × Str)) (dr : List (Str × Int)) (p : Page), n ≤ m + 120 → WOk { W with turn := W.turn + 1, day := day, num := some (numT (W.turn + 1)), ck := ck, way := way, dr := dr } (2 * B) → dr.length ≤ W.turn + 1 → W.day ≤ day → day ≤ W.day + 10 ^ 9 → 0 ≤ p.day → p.day ≤ day → p.num = numT (W.turn + 1) → p.house ∈ W.hs → dOkB W (2 * B) p.deed →
    Ks (tb0 :: tb1 :: .rnd m :: bW L { W with turn := W.turn + 1, day := day, num := some (numT (W.turn + 1)), ck := ck, way := way, dr := dr } tl) (.da (pgD p))
theorem ok_page (T : Tx K mg) (o_deed : Ok P w K mg base 4 "_law_deed" s_deed ["_law_state", "_law_world_here"] 2 sp_deed) (o_some : Ok P w K mg base 2 "_law_some" s_some ["_law_state", "_law_things"] 2 sp_some) (o_take : Ok P w K mg base 1 "_law_take" s_take ["_law_state", "_law_many"] 2 spTake) : Ok P w K mg base 5 "_law_page" s_page ["_law_state", "_law_world_here"] 2 sp_page := by
  refine ok_dataT (n0 := 3) T.d_page sc_page _ (fun f cdv A outer s H E hr =>
  (dss_clo (dss_cons (ds_asg (de_add (de_dgetG (hu1 hr) (dv 1) de_str) de_int) (dg_setG (hu1 hr) (dv 1) de_str))
  (dss_cons (ds_asg (de_mul (de_mod (de_mul (de_dgetG (hu1 hr) (dv 1) de_str) de_int) de_int) (de_ix (de_lst (dan_cons de_int (dan_cons (de_pow de_int de_int) dan_nil))) (de_mod (de_dgetG (hu1 hr) (dv 1) de_str) de_int))) (dg_setG (hu1 hr) (dv 1) de_str))
  (dss_cons (ds_asg (de_add (de_dgetG (hu1 hr) (dv 1) de_str) (de_ix (de_lst (dan_cons de_int (dan_cons de_int (dan_cons de_int (dan_cons (de_callV o_take (hr.mono (by omega)) (by rfl) (dan_cons (dv 0) (dan_cons de_int dan_nil))) (dan_cons de_int (dan_cons (de_pow de_int de_int) dan_nil))))))) (de_div (de_callV o_take (hr.mono (by omega)) (by rfl) (dan_cons (dv 0) (dan_cons de_int dan_nil))) de_int))) (dg_setG (hu1 hr) (dv 1) de_str))
  (dss_cons (ds_set (i := 2) sc_page.nd rfl (by first | exact .inl rfl | exact .inr rfl) (de_max rfl (by rfl) (T.b_max) de_int (de_sub (de_dgetG (hu1 hr) (dv 1) de_str) (de_ix (de_lst (dan_cons de_int (dan_cons (de_callV o_take (hr.mono (by omega)) (by rfl) (dan_cons (dv 0) (dan_cons de_int dan_nil))) dan_nil))) (de_int1 (by rfl) (T.b_int) (de_eqS (de_callV o_take (hr.mono (by omega)) (by rfl) (dan_cons (dv 0) (dan_cons de_int dan_nil))) de_int))))))
  (dss_cons (ds_asg (de_callT o_deed (hr.mono (by omega)) (by rfl) (dan_cons (dv 0) (dan_cons (dv 1) dan_nil))) (dg_tup (n := 2) rfl (dgs_cons (dg_name (i := 3) sc_page.nd rfl (by first | exact .inl rfl | exact .inr rfl)) (dgs_cons (dg_name (i := 4) sc_page.nd rfl (by first | exact .inl rfl | exact .inr rfl)) dgs_nil))))
  (dss_cutA [] (ds_if (dt_eqS (de_callV o_take (hr.mono (by omega)) (by rfl) (dan_cons (dv 0) (dan_cons de_int dan_nil))) de_int)
    (dss_one (ds_set (i := 3) sc_page.nd rfl (by first | exact .inl rfl | exact .inr rfl) (de_callV o_some (hr.mono (by omega)) (by rfl) (dan_cons (dv 0) (dan_cons (de_dgetG (hu1 hr) (dv 1) de_str) dan_nil)))))
    dss_nil)
  (dss_cutA [0] (ds_if (dt_eqS (de_callV o_take (hr.mono (by omega)) (by rfl) (dan_cons (dv 0) (dan_cons de_int dan_nil))) de_int)
    (dss_one (ds_set (i := 4) sc_page.nd rfl (by first | exact .inl rfl | exact .inr rfl) (de_tup (dan_cons de_str dan_nil))))
    dss_nil)
  (dss_one (ds_ret (de_tup (dan_cons (dv 2) (dan_cons (de_dgetG (hu1 hr) (dv 1) de_str) (dan_cons (dv 3) (dan_cons (dv 4) dan_nil)))))))))))))))) (fun xs ms Ks h hl => ?_)
  unfold sp_page at h
  obtain ⟨tb0, tb1, n, L, W, tl, B, rfl, rfl, H, hB, hdl, ht, d0, d1, hn, hk⟩ := h
  intro cl
  refine seqU fun u hu => ?_
  refine ⟨_, _, rfl, wd_turn, _, rfl, .inr ⟨_, _, w_0, rfl, Nat.lt_of_le_of_lt wF_len (by decide), ?_⟩⟩
  show u ⟨[.mu 2, .mu (L.length + 3), .no, .no, .no], sm (tb0 :: tb1 :: .rnd n :: bW L W tl) (L.length + 3) (.ins .dct (putT (wF L.length W) "turn" (.da (.int ((W.turn + 1 : Nat) : Int))))), (bW L W tl).length + 3⟩ _
  rw [ws_turn, hu]; clear hu u
  refine seqU fun u hu => ?_
  refine ⟨_, _, rfl, wd_turn, mulA 20 20 (by show ((W.turn + 1 : Nat) : Int).natAbs < _; omega) (by decide), by decide, pw10 (by decide) (by decide), onO_mk rfl ⟨_, _, rfl, wd_turn, by decide, ?_⟩⟩
  obtain ⟨nb0, nb1⟩ := numT_b (W.turn + 1)
  have m0 : 0 ≤ ((W.turn + 1 : Nat) : Int) * 7919 % 10007 := Int.emod_nonneg _ (by decide)
  have m1 : ((W.turn + 1 : Nat) : Int) * 7919 % 10007 < 10007 := Int.emod_lt_of_pos _ (by decide)
  refine ⟨_, numT_at (W.turn + 1), mulA 20 100 (by show (((W.turn + 1 : Nat) : Int) * 7919 % 10007).natAbs < _; omega) (by split <;> decide), _, rfl, .inr ⟨_, _, w_0, rfl, Nat.lt_of_le_of_lt wF_len (by decide), ?_⟩⟩
  show u ⟨[.mu 2, .mu (L.length + 3), .no, .no, .no], sm (tb0 :: tb1 :: .rnd n :: bW L { W with turn := W.turn + 1 } tl) (L.length + 3) (.ins .dct (putT (wF L.length { W with turn := W.turn + 1 }) "number" (.da (.int (numT (W.turn + 1)))))), (bW L W tl).length + 3⟩ _
  obtain ⟨W2, hW2⟩ : ∃ W2 : BW, W2 = { W with turn := W.turn + 1, num := some (numT (W.turn + 1)) } := ⟨_, rfl⟩
  have eN : sm (tb0 :: tb1 :: MO.rnd n :: bW L { W with turn := W.turn + 1 } tl) (L.length + 3) (.ins .dct (putT (wF L.length { W with turn := W.turn + 1 }) "number" (.da (.int (numT (W.turn + 1)))))) = tb0 :: tb1 :: .rnd n :: bW L W2 tl := by
    rw [hW2]
    exact ws_number (W := { W with turn := W.turn + 1 }) _
  have w2d : W2.day = W.day := by rw [hW2]
  rw [eN, hu]; clear hu u eN
  refine seqU fun u hu => ?_
  refine ⟨_, _, rfl, wd_day, nd1, rfl, by omega, divA 10 (by decide) (by decide), fun a a0 a1 => ⟨rfl, pw10 (by decide) (by decide), onO_mk rfl ⟨nd1, rfl, by omega, divA 10 (by decide) (by decide), fun b b0 b1 => ⟨rfl, divA 10 (by decide) (by decide), ?_⟩⟩⟩⟩
  try dsimp only [DL.S.sE, DL.S.sM, DL.S.aM, DL.S.cM, DL.st, DL.gt, DL.sm, DL.gm, DL.putM, DL.pick, DL.muks, DL.nthN, DL.bkE, DL.st0, DL.nos, List.cons_append, List.nil_append, List.append_nil, List.drop_succ_cons, List.drop_nil, List.drop_zero, List.drop, DL.a1, DL.a2, DL.a3, DL.cMin3, DL.aNil, DL.aCons, DL.dVar, DL.dC, DL.iI, DL.i1, DL.isB, DL.daI, DL.onE, DL.gN, List.length_cons, List.length_nil, Nat.reduceAdd, Nat.zero_add]
  simp only [List.append_nil]
  obtain ⟨e, he, ee⟩ := at_get (l := [0, 0, 1, a, 365, 10 ^ Int.toNat 9]) (f := PyData.int) (t := b / 3) (by omega) (by show b / 3 < 6; omega)
  have h9 : (10 : Int) ^ Int.toNat 9 = 10 ^ 9 := rfl
  have e0 : 0 ≤ e ∧ e ≤ 10 ^ 9 := by
    rw [h9] at he
    simp only [List.mem_cons, List.not_mem_nil, or_false] at he
    omega
  refine ⟨_, ee, ?_⟩
  refine ⟨_, rfl, .inr ⟨_, _, w_0, rfl, Nat.lt_of_le_of_lt wF_len (by decide), ?_⟩⟩
  obtain ⟨day, hday⟩ : ∃ day, day = W.day + e := ⟨_, rfl⟩
  obtain ⟨W3, hW3⟩ : ∃ W3 : BW, W3 = { W with turn := W.turn + 1, day := day, num := some (numT (W.turn + 1)) } := ⟨_, rfl⟩
  have eD : sm (tb0 :: tb1 :: MO.rnd (n - 1 - 1) :: bW L W2 tl) (L.length + 3) (.ins .dct (putT (wF L.length W2) "day" (.da (.int (W2.day + e))))) = tb0 :: tb1 :: .rnd (n - 1 - 1) :: bW L W3 tl := by
    rw [w2d, ← hday, hW3, hW2]
    exact ws_day (W := { W with turn := W.turn + 1, num := some (numT (W.turn + 1)) }) _
  show u ⟨[.mu 2, .mu (L.length + 3), .no, .no, .no], sm (tb0 :: tb1 :: MO.rnd (n - 1 - 1) :: bW L W2 tl) (L.length + 3) (.ins .dct (putT (wF L.length W2) "day" (.da (.int (W2.day + e))))), (bW L W tl).length + 3⟩ _
  rw [eD, hu]; clear hu u eD hW2 w2d W2 he ee
  have w3d : W3.day = day := by rw [hW3]
  have w3n : W3.num = some (numT (W.turn + 1)) := by rw [hW3]
  have w3h : W3.hs = W.hs := by rw [hW3]
  have H3 : WOk W3 B := by rw [hW3]; exact H.turnTo
  refine seqU fun u hu => ?_
  refine ⟨_, _, rfl, wd_day, nd1, rfl, by omega, divA 10 (by decide) (by decide), fun x x0 x1 => ⟨rfl, onO_mk rfl ⟨nd1, rfl, by omega, divA 10 (by decide) (by decide), fun y y0 y1 => ⟨rfl, ?_⟩⟩⟩⟩
  try dsimp only [DL.S.sE, DL.S.sM, DL.S.aM, DL.S.cM, DL.st, DL.gt, DL.sm, DL.gm, DL.putM, DL.pick, DL.muks, DL.nthN, DL.bkE, DL.st0, DL.nos, List.cons_append, List.nil_append, List.append_nil, List.drop_succ_cons, List.drop_nil, List.drop_zero, List.drop, DL.a1, DL.a2, DL.a3, DL.cMin3, DL.aNil, DL.aCons, DL.dVar, DL.dC, DL.iI, DL.i1, DL.isB, DL.daI, DL.onE, DL.gN, List.length_cons, List.length_nil, Nat.reduceAdd, Nat.zero_add]
  simp only [List.append_nil]
  obtain ⟨z, hz⟩ : ∃ z : Int, z = if decide (y = 0) = true then 1 else 0 := ⟨_, rfl⟩
  have z01 : 0 ≤ z ∧ z ≤ 1 := by
    rw [hz]
    split <;> decide
  obtain ⟨v, hv, ev⟩ := at_get (l := [0, x]) (f := PyData.int) z01.1 (by show z < 2; omega)
  have v0 : 0 ≤ v := by
    simp only [List.mem_cons, List.not_mem_nil, or_false] at hv
    omega
  refine ⟨.int v, by show L2.atI [PyData.int 0, .int x] (if decide (y = 0) = true then 1 else 0) = _; rw [← hz]; exact ev, ?_⟩
  obtain ⟨pd, hpd⟩ : ∃ pd, pd = max 0 (day - v) := ⟨_, rfl⟩
  have pd0 : 0 ≤ pd ∧ pd ≤ day := by omega
  show u ⟨[.mu 2, .mu (L.length + 3), .da (.int (max 0 (W3.day - v))), .no, .no], tb0 :: tb1 :: .rnd (n - 1 - 1 - 1 - 1) :: bW L W3 tl, (bW L W tl).length + 3⟩ _
  rw [w3d, ← hpd, hu]; clear hu u hpd hv ev z01 hz
  refine seqU fun u hu => ?_
  refine ⟨tb0, tb1, n - 1 - 1 - 1 - 1, L, W3, tl, B, numT (W.turn + 1), rfl, rfl, H3, hB, w3n, nb0, nb1, by rw [hW3]; show W.dr.length < 900; omega, by omega, fun m ck way dr h d hm HW hdr hh hd => ?_⟩
  obtain ⟨W4, hW4⟩ : ∃ W4 : BW, W4 = { W3 with ck := ck, way := way, dr := dr } := ⟨_, rfl⟩
  rw [← hW4] at HW ⊢
  dsimp only [gsCons, gsNil, gN, gT, dD]
  try dsimp only [DL.S.sE, DL.S.sM, DL.S.aM, DL.S.cM, DL.st, DL.gt, DL.sm, DL.gm, DL.putM, DL.pick, DL.muks, DL.nthN, DL.bkE, DL.st0, DL.nos, List.cons_append, List.nil_append, List.append_nil, List.drop_succ_cons, List.drop_nil, List.drop_zero, List.drop, DL.a1, DL.a2, DL.a3, DL.cMin3, DL.aNil, DL.aCons, DL.dVar, DL.dC, DL.iI, DL.i1, DL.isB, DL.daI, DL.onE, DL.gN, List.length_cons, List.length_nil, Nat.reduceAdd, Nat.zero_add]
  refine ⟨rfl, ?_⟩
  rw [hu]; clear hu u
  have w4h : W4.hs = W.hs := by rw [hW4]; exact w3h
  have w4n : W4.num = some (numT (W.turn + 1)) := by rw [hW4]; exact w3n
  have hd2 : dOkB W (2 * B) d := by
    rw [hW3] at hd
    revert hd
    cases d <;> exact fun h => h
  refine ⟨fun s => ∃ m2 h2, n ≤ m2 + 80 ∧ h2 ∈ W.hs ∧ s = ⟨[.mu 2, .mu (L.length + 3), .da (.int pd), .da (.str h2), .da (dD d)], tb0 :: tb1 :: .rnd m2 :: bW L W4 tl, (bW L W tl).length + 3⟩, ?_, ?_⟩
  · refine ⟨nd1, rfl, by omega, divA 10 (by decide) (by decide), fun t t0 t1 => ⟨rfl, ?_⟩⟩
    try dsimp only [DL.S.sE, DL.S.sM, DL.S.aM, DL.S.cM, DL.st, DL.gt, DL.sm, DL.gm, DL.putM, DL.pick, DL.muks, DL.nthN, DL.bkE, DL.st0, DL.nos, List.cons_append, List.nil_append, List.append_nil, List.drop_succ_cons, List.drop_nil, List.drop_zero, List.drop, DL.a1, DL.a2, DL.a3, DL.cMin3, DL.aNil, DL.aCons, DL.dVar, DL.dC, DL.iI, DL.i1, DL.isB, DL.daI, DL.onE, DL.gN, List.length_cons, List.length_nil, Nat.reduceAdd, Nat.zero_add]
    simp only [List.append_nil]
    refine ⟨fun e => ?_, fun e => ⟨m - 1, h, by omega, by rw [← w3h]; exact hh, by (simp only [DL.clA, DL.clS, DL.killL, DL.limL, DL.limE_mu, DL.limE_da, DL.limE_no, DL.takM, DL.limM, DL.frzS, DL.subL, DL.subE_mu, DL.subE_da, DL.subE_no, DL.subS, DL.subM, DL.S.sE, DL.S.sM, DL.S.aM, DL.S.cM, DL.st, DL.gt, DL.sm, DL.gm, DL.putM, DL.pick, DL.muks, DL.nthN, DL.bkE, DL.st0, DL.nos, List.cons_append, List.nil_append, List.append_nil, List.drop_succ_cons, List.drop_nil, List.drop_zero, List.length_cons, List.length_nil, List.map_cons, List.map_nil, List.map_append, Nat.reduceAdd, Nat.zero_add, Nat.reduceLT, Nat.reduceEqDiff, if_true, if_false, ↓reduceIte, Nat.lt_irrefl, Nat.not_lt_zero] <;> rfl)⟩⟩
    refine ⟨_, _, rfl, wd_houses, nd1, rfl, _, _, m - 1, [], rfl, rfl, .inl ⟨rfl, rfl⟩, by rw [List.length_map, w4h]; exact H.h0, by rw [List.length_map, w4h]; exact Nat.le_trans H.hn.1.len (by decide), by omega, fun m2 d hm2 hd => ⟨rfl, ?_⟩⟩
    try dsimp only [DL.S.sE, DL.S.sM, DL.S.aM, DL.S.cM, DL.st, DL.gt, DL.sm, DL.gm, DL.putM, DL.pick, DL.muks, DL.nthN, DL.bkE, DL.st0, DL.nos, List.cons_append, List.nil_append, List.append_nil, List.drop_succ_cons, List.drop_nil, List.drop_zero, List.drop, DL.a1, DL.a2, DL.a3, DL.cMin3, DL.aNil, DL.aCons, DL.dVar, DL.dC, DL.iI, DL.i1, DL.isB, DL.daI, DL.onE, DL.gN, List.length_cons, List.length_nil, Nat.reduceAdd, Nat.zero_add]
    simp only [List.append_nil]
    obtain ⟨h2, hh2, rfl⟩ := List.mem_map.mp hd
    exact ⟨m2, h2, by omega, by rw [← w4h]; exact hh2, by (simp only [DL.clA, DL.clS, DL.killL, DL.limL, DL.limE_mu, DL.limE_da, DL.limE_no, DL.takM, DL.limM, DL.frzS, DL.subL, DL.subE_mu, DL.subE_da, DL.subE_no, DL.subS, DL.subM, DL.S.sE, DL.S.sM, DL.S.aM, DL.S.cM, DL.st, DL.gt, DL.sm, DL.gm, DL.putM, DL.pick, DL.muks, DL.nthN, DL.bkE, DL.st0, DL.nos, List.cons_append, List.nil_append, List.append_nil, List.drop_succ_cons, List.drop_nil, List.drop_zero, List.length_cons, List.length_nil, List.map_cons, List.map_nil, List.map_append, Nat.reduceAdd, Nat.zero_add, Nat.reduceLT, Nat.reduceEqDiff, if_true, if_false, ↓reduceIte, Nat.lt_irrefl, Nat.not_lt_zero] <;> rfl)⟩
  rintro s ⟨m2, h2, hm2, hh2, rfl⟩
  refine ⟨fun s => ∃ m3 d2, n ≤ m3 + 81 ∧ dOkB W (2 * B) d2 ∧ s = ⟨[.no, .mu (L.length + 3), .da (.int pd), .da (.str h2), .da (dD d2)], tb0 :: tb1 :: .rnd m3 :: bW L W4 tl, (bW L W tl).length + 3⟩, ?_, ?_⟩
  · refine ⟨nd1, rfl, by omega, divA 10 (by decide) (by decide), fun t t0 t1 => ⟨rfl, ?_⟩⟩
    try dsimp only [DL.S.sE, DL.S.sM, DL.S.aM, DL.S.cM, DL.st, DL.gt, DL.sm, DL.gm, DL.putM, DL.pick, DL.muks, DL.nthN, DL.bkE, DL.st0, DL.nos, List.cons_append, List.nil_append, List.append_nil, List.drop_succ_cons, List.drop_nil, List.drop_zero, List.drop, DL.a1, DL.a2, DL.a3, DL.cMin3, DL.aNil, DL.aCons, DL.dVar, DL.dC, DL.iI, DL.i1, DL.isB, DL.daI, DL.onE, DL.gN, List.length_cons, List.length_nil, Nat.reduceAdd, Nat.zero_add]
    simp only [List.append_nil]
    refine ⟨fun e => ?_, fun e => ⟨m2 - 1, d, by omega, hd2, by (simp only [DL.clA, DL.clS, DL.killL, DL.limL, DL.limE_mu, DL.limE_da, DL.limE_no, DL.takM, DL.limM, DL.frzS, DL.subL, DL.subE_mu, DL.subE_da, DL.subE_no, DL.subS, DL.subM, DL.S.sE, DL.S.sM, DL.S.aM, DL.S.cM, DL.st, DL.gt, DL.sm, DL.gm, DL.putM, DL.pick, DL.muks, DL.nthN, DL.bkE, DL.st0, DL.nos, List.cons_append, List.nil_append, List.append_nil, List.drop_succ_cons, List.drop_nil, List.drop_zero, List.length_cons, List.length_nil, List.map_cons, List.map_nil, List.map_append, Nat.reduceAdd, Nat.zero_add, Nat.reduceLT, Nat.reduceEqDiff, if_true, if_false, ↓reduceIte, Nat.lt_irrefl, Nat.not_lt_zero] <;> rfl)⟩⟩
    refine onO_mk rfl ⟨m2 - 1, .fin, by omega, trivial, ?_⟩
    (simp only [DL.clA, DL.clS, DL.killL, DL.limL, DL.limE_mu, DL.limE_da, DL.limE_no, DL.takM, DL.limM, DL.frzS, DL.subL, DL.subE_mu, DL.subE_da, DL.subE_no, DL.subS, DL.subM, DL.S.sE, DL.S.sM, DL.S.aM, DL.S.cM, DL.st, DL.gt, DL.sm, DL.gm, DL.putM, DL.pick, DL.muks, DL.nthN, DL.bkE, DL.st0, DL.nos, List.cons_append, List.nil_append, List.append_nil, List.drop_succ_cons, List.drop_nil, List.drop_zero, List.length_cons, List.length_nil, List.map_cons, List.map_nil, List.map_append, Nat.reduceAdd, Nat.zero_add, Nat.reduceLT, Nat.reduceEqDiff, if_true, if_false, ↓reduceIte, Nat.lt_irrefl, Nat.not_lt_zero] <;> rfl)
  rintro s ⟨m3, d2, hm3, hd3, rfl⟩
  refine ⟨_, _, rfl, wd_number w4n, onO_mk rfl ?_⟩
  have e4 : W4 = { W with turn := W.turn + 1, day := day, num := some (numT (W.turn + 1)), ck := ck, way := way, dr := dr } := by rw [hW4, hW3]
  rw [e4] at HW ⊢
  refine hk m3 day ck way dr ⟨pd, numT (W.turn + 1), h2, d2⟩ (by omega) HW ?_ (by omega) (by omega) pd0.1 pd0.2 rfl hh2 hd3
  rw [hW3] at hdr
  exact Nat.le_trans hdr (Nat.add_le_add_right hdl 1)
def sp_kept_on : SpD := fun xs ms Ks => ∃ (q t : Nat) (t0 : D) (kj : Nat) (kp : List Page) (ks : List (Nat × List Page)) (st : List (List Page)) (d : Dh), xs = [.mu (q + 2), .da (dhD d)] ∧ KpR ms q t0 kj kp ks st ∧ gm ms t = .tab "_law_heap_of" ∧ kp.length < 490 ∧ ks.length < 900 ∧ st.length < 900 ∧ (d ≠ .undo → fineD kp d) ∧ (d = .undo → ∃ ks0 j k, ks = ks0 ++ [(j, k)] ∧ (k.map (·.num)).Nodup ∧ k.length < 490) ∧
  (d ≠ .undo → ∀ ms' : List MO, FrB ms ms' [q + 8, q + 9, kj] → KpR ms' q t0 kj (nextP kp d) (ks ++ [(ms.length, kp)]) (st ++ [hpP (nextP kp d)]) → Ks ms' (.da .none)) ∧
  (d = .undo → ∀ (ks0 : List (Nat × List Page)) (j : Nat) (k : List Page), ks = ks0 ++ [(j, k)] → ∀ ms' : List MO, FrB ms ms' [q + 2, q + 8, q + 9, kj] → KpR ms' q t0 j k ks0 (st ++ [hpP k]) → Ks ms' (.da .none))
theorem ok_kept_on (T : Tx K mg) (o_heap_of : Ok P w K mg base 4 "_law_heap_of" s_heap_of ["_law_pages"] 1 sp_heap_of) : Ok P w K mg base 5 "_law_kept_on" s_kept_on ["_law_kept", "_law_deed_here"] 2 sp_kept_on := by
  refine ok_dataT (n0 := 0) T.d_kept_on sc_kept_on _ (fun f cdv A outer s H E hr =>
  (dss_clo (dss_cutA [1] (ds_if (dt_eqS (de_ix (dv 1) de_int) de_str)
    (dss_one (ds_asg (de_popS (de_dgetG (hu1 hr) (dv 0) de_str)) (dg_setG (hu1 hr) (dv 0) de_str)))
    (dss_cons (ds_exp (de_appS (de_dgetG (hu1 hr) (dv 0) de_str) (de_dictD (by rfl) (T.b_dict) (de_dgetG (hu1 hr) (dv 0) de_str))))
    (dss_cutA [] (ds_if (dt_neS (de_ix (dv 1) de_int) de_str)
      (dss_one (ds_exp (de_popG (de_dgetG (hu1 hr) (dv 0) de_str) (de_ix (dv 1) de_int))))
      dss_nil)
    (dss_one (ds_if (dt_neS (de_ix (dv 1) de_int) de_str)
      (dss_one (ds_asg (de_ix (dv 1) (de_neg de_int)) (dg_setG (hu1 hr) (de_dgetG (hu1 hr) (dv 0) de_str) (de_ix (de_ix (dv 1) (de_neg de_int)) de_int))))
      dss_nil)))))
  (dss_one (ds_exp (de_append (de_dgetG (hu1 hr) (dv 0) de_str) (de_callT o_heap_of (hr.mono (by omega)) (by rfl) (dan_cons (de_dgetG (hu1 hr) (dv 0) de_str) dan_nil)))))))) (fun xs ms Ks h hl => ?_)
  unfold sp_kept_on at h
  obtain ⟨q, t, t0, kj, kp, ks, st, d, rfl, K, gt, l1, l2, l3, hf, hu0, hk1, hk2⟩ := h
  intro cl
  have behind : ∀ (ms1 : List MO) (j : Nat) (kp1 : List Page) (ks1 : List (Nat × List Page)), KpR ms1 q t0 j kp1 ks1 st → gm ms1 t = .tab "_law_heap_of" → kp1.length < 500 → (∀ ms' : List MO, FrB ms1 ms' [q + 9] → KpR ms' q t0 j kp1 ks1 (st ++ [hpP kp1]) → Ks ms' (.da .none)) → sExp (dMet mAppend (dGetG (dVar 0) (dC (PyData.str (Str.ofString "states")))) (aCons (dCall (CallT sp_heap_of) (aCons (dGetG (dVar 0) (dC (PyData.str (Str.ofString "pages")))) aNil)) aNil)) ⟨[.mu (q + 2), .no], ms1, ms.length⟩ (endT Ks) := fun ms1 j kp1 ks1 K1 gt1 hl hK => by
    refine ⟨_, _, rfl, K1.states, mu1_mk K1.g9 ?_⟩
    refine ⟨_, _, rfl, K1.pages, j, t, kp1, rfl, K1.gk, gt1, K1.nd, hl, ?_⟩
    dsimp only [aNil]
    refine mu1_mk (s := S.mk _ _ _) K1.g9 ?_
    refine ⟨by rw [List.length_map]; exact sz (by omega), ?_⟩
    rw [heapL_eq]
    obtain ⟨F2, K2⟩ := K1.known (hpP kp1)
    exact hK _ F2 K2
  have off : ∀ x : Nat, x ≠ q + 8 → x ≠ q + 9 → x ≠ kj → x ∉ [q + 8, q + 9, kj] := fun x a b c z => by
    simp only [List.mem_cons, List.not_mem_nil, or_false] at z
    omega
  have tab : ∀ M : List MO, FrB ms M [q + 8, q + 9, kj] → gm M t = .tab "_law_heap_of" := fun M F => F.at gt (fun z => nomatch z) (off _ (ne_of_gm gt K.g8 (fun z => nomatch z)) (ne_of_gm gt K.g9 (fun z => nomatch z)) (ne_of_gm gt K.gk (fun z => nomatch z)))
  refine ⟨fun s => ∃ (ms1 : List MO) (j : Nat) (kp1 : List Page) (ks1 : List (Nat × List Page)), s = ⟨[.mu (q + 2), .no], ms1, ms.length⟩ ∧ KpR ms1 q t0 j kp1 ks1 st ∧ gm ms1 t = .tab "_law_heap_of" ∧ kp1.length < 500 ∧ (∀ ms' : List MO, FrB ms1 ms' [q + 9] → KpR ms' q t0 j kp1 ks1 (st ++ [hpP kp1]) → Ks ms' (.da .none)), ?_, fun s ⟨ms1, j, kp1, ks1, es, K1, gt1, hl, hK⟩ => by
    rw [es]
    exact behind ms1 j kp1 ks1 K1 gt1 hl hK⟩
  · cases d with
    | say p =>
      have fd := hf (fun z => nomatch z)
      refine ⟨_, rfl, fun z => absurd z (by decide +kernel), fun _ => ?_⟩
      refine seqU fun u hu => ?_
      refine ⟨_, _, rfl, K.past, ?_⟩
      refine isLstS_mk K.g8 ?_
      refine ⟨_, _, rfl, K.pages, ?_⟩
      dsimp only [aNil, cDictD, a1]
      refine mu2_mk (s := S.mk _ _ _) K.gk ?_
      refine isLstS_mk (s := S.mk _ (ms ++ [.dct (pgK kp)]) _) (gm_appX K.g8 (fun z => nomatch z)) ?_
      refine ⟨by unfold muS; rw [List.length_map, List.length_map]; exact sz (by omega), ?_⟩
      show u ⟨[.mu (q + 2), .da (dhD (.say p))], pastM ms q kp ks, ms.length⟩ _
      obtain ⟨F1, K1⟩ := K.kept
      rw [hu]; clear hu u
      refine ⟨fun s => s = ⟨[.mu (q + 2), .da (dhD (.say p))], pastM ms q kp ks, ms.length⟩, ?_, ?_⟩
      · exact ⟨_, rfl, fun z => absurd z (by decide +kernel), fun _ => by (simp only [DL.clA, DL.clS, DL.killL, DL.limL, DL.limE_mu, DL.limE_da, DL.limE_no, DL.takM, DL.limM, DL.frzS, DL.subL, DL.subE_mu, DL.subE_da, DL.subE_no, DL.subS, DL.subM, DL.S.sE, DL.S.sM, DL.S.aM, DL.S.cM, DL.st, DL.gt, DL.sm, DL.gm, DL.putM, DL.pick, DL.muks, DL.nthN, DL.bkE, DL.st0, DL.nos, List.cons_append, List.nil_append, List.append_nil, List.drop_succ_cons, List.drop_nil, List.drop_zero, List.length_cons, List.length_nil, List.map_cons, List.map_nil, List.map_append, Nat.reduceAdd, Nat.zero_add, Nat.reduceLT, Nat.reduceEqDiff, if_true, if_false, ↓reduceIte, Nat.lt_irrefl, Nat.not_lt_zero] <;> rfl)⟩
      rintro s rfl
      have F2 : FrB ms (pastM ms q kp ks) [q + 8, q + 9, kj] := F1.mono fun i hi => by rw [List.mem_singleton.mp hi]; exact .head _
      have K2 := K1
      have hn : p.num ∉ kp.map (·.num) := fd
      refine ⟨_, rfl, fun _ => ?_, fun z => absurd z (by decide +kernel)⟩
      refine ⟨_, rfl, _, _, rfl, K2.pages, _, rfl, _, rfl, _, rfl, .inl ⟨_, _, K2.gk, rfl, by rw [pgK_len]; exact sz (by omega), ?_⟩⟩
      have e1 : putD (pgK (kp)) (.inl p.num) (pgD p) = pgK (kp ++ [p]) := pgK_put (by rw [pgK_has]; exact decide_eq_false hn)
      obtain ⟨F3, K3⟩ := K2.to (nd_snoc K2.nd hn)
      rw [e1]
      have F4 := F2.trans (F3.mono fun i hi => by rw [List.mem_singleton.mp hi]; exact .tail _ (.tail _ (.head _)))
      refine ⟨_, kj, kp ++ [p], ks ++ [(ms.length, kp)], ?_, K3, tab _ F4, by rw [List.length_append]; show (kp).length + 1 < 500; omega, fun ms' F5 K5 => hk1 (fun z => nomatch z) ms' (F4.trans (F5.mono fun i hi => by rw [List.mem_singleton.mp hi]; exact .tail _ (.head _))) K5⟩
      (simp only [DL.clA, DL.clS, DL.killL, DL.limL, DL.limE_mu, DL.limE_da, DL.limE_no, DL.takM, DL.limM, DL.frzS, DL.subL, DL.subE_mu, DL.subE_da, DL.subE_no, DL.subS, DL.subM, DL.S.sE, DL.S.sM, DL.S.aM, DL.S.cM, DL.st, DL.gt, DL.sm, DL.gm, DL.putM, DL.pick, DL.muks, DL.nthN, DL.bkE, DL.st0, DL.nos, List.cons_append, List.nil_append, List.append_nil, List.drop_succ_cons, List.drop_nil, List.drop_zero, List.length_cons, List.length_nil, List.map_cons, List.map_nil, List.map_append, Nat.reduceAdd, Nat.zero_add, Nat.reduceLT, Nat.reduceEqDiff, if_true, if_false, ↓reduceIte, Nat.lt_irrefl, Nat.not_lt_zero] <;> rfl)
    | unsay n =>
      have fd := hf (fun z => nomatch z)
      refine ⟨_, rfl, fun z => absurd z (by decide +kernel), fun _ => ?_⟩
      refine seqU fun u hu => ?_
      refine ⟨_, _, rfl, K.past, ?_⟩
      refine isLstS_mk K.g8 ?_
      refine ⟨_, _, rfl, K.pages, ?_⟩
      dsimp only [aNil, cDictD, a1]
      refine mu2_mk (s := S.mk _ _ _) K.gk ?_
      refine isLstS_mk (s := S.mk _ (ms ++ [.dct (pgK kp)]) _) (gm_appX K.g8 (fun z => nomatch z)) ?_
      refine ⟨by unfold muS; rw [List.length_map, List.length_map]; exact sz (by omega), ?_⟩
      show u ⟨[.mu (q + 2), .da (dhD (.unsay n))], pastM ms q kp ks, ms.length⟩ _
      obtain ⟨F1, K1⟩ := K.kept
      rw [hu]; clear hu u
      obtain ⟨x, hx, ex, hfx⟩ := pgK_at K.nd (show n ∈ kp.map (·.num) from fd)
      obtain ⟨F2', K2⟩ := K1.to (kp' := dropP kp n) (dropP_nd K.nd)
      have F2 : FrB ms (sm (pastM ms q kp ks) kj (.dct (pgK (dropP kp n)))) [q + 8, q + 9, kj] := (F1.mono fun i hi => by rw [List.mem_singleton.mp hi]; exact .head _).trans (F2'.mono fun i hi => by rw [List.mem_singleton.mp hi]; exact .tail _ (.tail _ (.head _)))
      refine ⟨fun s => s = ⟨[.mu (q + 2), .da (dhD (.unsay n))], sm (pastM ms q kp ks) kj (.dct (pgK (dropP kp n))), ms.length⟩, ?_, ?_⟩
      · refine ⟨_, rfl, fun _ => ?_, fun z => absurd z (by decide +kernel)⟩
        refine ⟨_, _, rfl, K1.pages, ⟨_, _, rfl, K1.gk⟩, _, rfl, _, _, _, rfl, K1.gk, hfx, ?_⟩
        rw [dropP_K]
        (simp only [DL.clA, DL.clS, DL.killL, DL.limL, DL.limE_mu, DL.limE_da, DL.limE_no, DL.takM, DL.limM, DL.frzS, DL.subL, DL.subE_mu, DL.subE_da, DL.subE_no, DL.subS, DL.subM, DL.S.sE, DL.S.sM, DL.S.aM, DL.S.cM, DL.st, DL.gt, DL.sm, DL.gm, DL.putM, DL.pick, DL.muks, DL.nthN, DL.bkE, DL.st0, DL.nos, List.cons_append, List.nil_append, List.append_nil, List.drop_succ_cons, List.drop_nil, List.drop_zero, List.length_cons, List.length_nil, List.map_cons, List.map_nil, List.map_append, Nat.reduceAdd, Nat.zero_add, Nat.reduceLT, Nat.reduceEqDiff, if_true, if_false, ↓reduceIte, Nat.lt_irrefl, Nat.not_lt_zero] <;> rfl)
      rintro s rfl
      refine ⟨_, rfl, fun z => absurd z (by decide +kernel), fun _ => ?_⟩
      refine ⟨_, kj, dropP kp n, ks ++ [(ms.length, kp)], ?_, K2, tab _ F2, by have := dropP_len (ps := kp) (n := n); omega, fun ms' F3 K3 => hk1 (fun z => nomatch z) ms' (F2.trans (F3.mono fun i hi => by rw [List.mem_singleton.mp hi]; exact .tail _ (.head _))) K3⟩
      (simp only [DL.clA, DL.clS, DL.killL, DL.limL, DL.limE_mu, DL.limE_da, DL.limE_no, DL.takM, DL.limM, DL.frzS, DL.subL, DL.subE_mu, DL.subE_da, DL.subE_no, DL.subS, DL.subM, DL.S.sE, DL.S.sM, DL.S.aM, DL.S.cM, DL.st, DL.gt, DL.sm, DL.gm, DL.putM, DL.pick, DL.muks, DL.nthN, DL.bkE, DL.st0, DL.nos, List.cons_append, List.nil_append, List.append_nil, List.drop_succ_cons, List.drop_nil, List.drop_zero, List.length_cons, List.length_nil, List.map_cons, List.map_nil, List.map_append, Nat.reduceAdd, Nat.zero_add, Nat.reduceLT, Nat.reduceEqDiff, if_true, if_false, ↓reduceIte, Nat.lt_irrefl, Nat.not_lt_zero] <;> rfl)
    | retell n p =>
      have fd := hf (fun z => nomatch z)
      refine ⟨_, rfl, fun z => absurd z (by decide +kernel), fun _ => ?_⟩
      refine seqU fun u hu => ?_
      refine ⟨_, _, rfl, K.past, ?_⟩
      refine isLstS_mk K.g8 ?_
      refine ⟨_, _, rfl, K.pages, ?_⟩
      dsimp only [aNil, cDictD, a1]
      refine mu2_mk (s := S.mk _ _ _) K.gk ?_
      refine isLstS_mk (s := S.mk _ (ms ++ [.dct (pgK kp)]) _) (gm_appX K.g8 (fun z => nomatch z)) ?_
      refine ⟨by unfold muS; rw [List.length_map, List.length_map]; exact sz (by omega), ?_⟩
      show u ⟨[.mu (q + 2), .da (dhD (.retell n p))], pastM ms q kp ks, ms.length⟩ _
      obtain ⟨F1, K1⟩ := K.kept
      rw [hu]; clear hu u
      obtain ⟨x, hx, ex, hfx⟩ := pgK_at K.nd (show n ∈ kp.map (·.num) from fd.1)
      obtain ⟨F2', K2⟩ := K1.to (kp' := dropP kp n) (dropP_nd K.nd)
      have F2 : FrB ms (sm (pastM ms q kp ks) kj (.dct (pgK (dropP kp n)))) [q + 8, q + 9, kj] := (F1.mono fun i hi => by rw [List.mem_singleton.mp hi]; exact .head _).trans (F2'.mono fun i hi => by rw [List.mem_singleton.mp hi]; exact .tail _ (.tail _ (.head _)))
      refine ⟨fun s => s = ⟨[.mu (q + 2), .da (dhD (.retell n p))], sm (pastM ms q kp ks) kj (.dct (pgK (dropP kp n))), ms.length⟩, ?_, ?_⟩
      · refine ⟨_, rfl, fun _ => ?_, fun z => absurd z (by decide +kernel)⟩
        refine ⟨_, _, rfl, K1.pages, ⟨_, _, rfl, K1.gk⟩, _, rfl, _, _, _, rfl, K1.gk, hfx, ?_⟩
        rw [dropP_K]
        (simp only [DL.clA, DL.clS, DL.killL, DL.limL, DL.limE_mu, DL.limE_da, DL.limE_no, DL.takM, DL.limM, DL.frzS, DL.subL, DL.subE_mu, DL.subE_da, DL.subE_no, DL.subS, DL.subM, DL.S.sE, DL.S.sM, DL.S.aM, DL.S.cM, DL.st, DL.gt, DL.sm, DL.gm, DL.putM, DL.pick, DL.muks, DL.nthN, DL.bkE, DL.st0, DL.nos, List.cons_append, List.nil_append, List.append_nil, List.drop_succ_cons, List.drop_nil, List.drop_zero, List.length_cons, List.length_nil, List.map_cons, List.map_nil, List.map_append, Nat.reduceAdd, Nat.zero_add, Nat.reduceLT, Nat.reduceEqDiff, if_true, if_false, ↓reduceIte, Nat.lt_irrefl, Nat.not_lt_zero] <;> rfl)
      rintro s rfl
      have hn : p.num ∉ (dropP kp n).map (·.num) := fun z => by
        obtain ⟨z1, z2⟩ := dropP_num.mp z
        exact fd.2.elim (fun e => z2 e) fun e => e z1
      refine ⟨_, rfl, fun _ => ?_, fun z => absurd z (by decide +kernel)⟩
      refine ⟨_, rfl, _, _, rfl, K2.pages, _, rfl, _, rfl, _, rfl, .inl ⟨_, _, K2.gk, rfl, by rw [pgK_len]; exact sz (by have := dropP_len (ps := kp) (n := n); omega), ?_⟩⟩
      have e1 : putD (pgK (dropP kp n)) (.inl p.num) (pgD p) = pgK (dropP kp n ++ [p]) := pgK_put (by rw [pgK_has]; exact decide_eq_false hn)
      obtain ⟨F3, K3⟩ := K2.to (nd_snoc K2.nd hn)
      rw [e1]
      have F4 := F2.trans (F3.mono fun i hi => by rw [List.mem_singleton.mp hi]; exact .tail _ (.tail _ (.head _)))
      refine ⟨_, kj, dropP kp n ++ [p], ks ++ [(ms.length, kp)], ?_, K3, tab _ F4, by rw [List.length_append]; show (dropP kp n).length + 1 < 500; have := dropP_len (ps := kp) (n := n); omega, fun ms' F5 K5 => hk1 (fun z => nomatch z) ms' (F4.trans (F5.mono fun i hi => by rw [List.mem_singleton.mp hi]; exact .tail _ (.head _))) K5⟩
      (simp only [DL.clA, DL.clS, DL.killL, DL.limL, DL.limE_mu, DL.limE_da, DL.limE_no, DL.takM, DL.limM, DL.frzS, DL.subL, DL.subE_mu, DL.subE_da, DL.subE_no, DL.subS, DL.subM, DL.S.sE, DL.S.sM, DL.S.aM, DL.S.cM, DL.st, DL.gt, DL.sm, DL.gm, DL.putM, DL.pick, DL.muks, DL.nthN, DL.bkE, DL.st0, DL.nos, List.cons_append, List.nil_append, List.append_nil, List.drop_succ_cons, List.drop_nil, List.drop_zero, List.length_cons, List.length_nil, List.map_cons, List.map_nil, List.map_append, Nat.reduceAdd, Nat.zero_add, Nat.reduceLT, Nat.reduceEqDiff, if_true, if_false, ↓reduceIte, Nat.lt_irrefl, Nat.not_lt_zero] <;> rfl)
    | undo =>
      obtain ⟨ks0, j, k, eks, ndk, lk⟩ := hu0 rfl
      subst eks
      obtain ⟨F1, K1⟩ := K.back ndk
      refine ⟨_, rfl, fun _ => ?_, fun z => absurd z (by decide +kernel)⟩
      refine ⟨_, _, rfl, K.past, ?_⟩
      refine isLstS_mk K.g8 ⟨sq (.mu j), ?_, ?_⟩
      · rw [List.map_append, show ([(j, k)] : List (Nat × List Page)).map (·.1) = [j] from rfl, muS_snoc, List.length_append]
        exact List.getElem?_concat_length ..
      rw [List.map_append, show ([(j, k)] : List (Nat × List Page)).map (·.1) = [j] from rfl, muS_snoc, List.dropLast_concat]
      have g2 : gm (sm ms (q + 8) (.ins .lst (muS (ks0.map (·.1))))) (q + 2) = .ins .dct (kF q kj t0) := (gm_sm_ne (by omega)).trans K.g0
      refine ⟨_, rfl, .inr ⟨_, _, g2, rfl, (show 6 < sizeLine by decide), ?_⟩⟩
      refine ⟨_, j, k, ks0, ?_, K1, ?_, by omega, fun ms' F3 K3 => hk2 rfl ks0 j k rfl ms' ((F1.mono fun i hi => ?_).trans (F3.mono fun i hi => ?_)) K3⟩
      · show clA _ ⟨_, sm (sm ms (q + 8) (.ins .lst (muS (ks0.map (·.1))))) (q + 2) (.ins .dct (kF q j t0)), _⟩ = _
        (simp only [DL.clA, DL.clS, DL.killL, DL.limL, DL.limE_mu, DL.limE_da, DL.limE_no, DL.takM, DL.limM, DL.frzS, DL.subL, DL.subE_mu, DL.subE_da, DL.subE_no, DL.subS, DL.subM, DL.S.sE, DL.S.sM, DL.S.aM, DL.S.cM, DL.st, DL.gt, DL.sm, DL.gm, DL.putM, DL.pick, DL.muks, DL.nthN, DL.bkE, DL.st0, DL.nos, List.cons_append, List.nil_append, List.append_nil, List.drop_succ_cons, List.drop_nil, List.drop_zero, List.length_cons, List.length_nil, List.map_cons, List.map_nil, List.map_append, Nat.reduceAdd, Nat.zero_add, Nat.reduceLT, Nat.reduceEqDiff, if_true, if_false, ↓reduceIte, Nat.lt_irrefl, Nat.not_lt_zero] <;> rfl)
      · refine F1.at gt (fun z => nomatch z) fun z => ?_
        rcases List.mem_cons.mp z with z | z
        · exact ne_of_gm gt K.g0 (fun z => nomatch z) z
        · exact ne_of_gm gt K.g8 (fun z => nomatch z) (List.mem_singleton.mp z)
      · rcases List.mem_cons.mp hi with rfl | hi
        · exact .head _
        · rw [List.mem_singleton.mp hi]
          exact .tail _ (.head _)
      · rw [List.mem_singleton.mp hi]
        exact .tail _ (.tail _ (.head _))
def sp_Book_say : SpX := fun xs ms Ks Kx => ∃ (pre : List MO) (B : BkP) (tl : List MO) (t : Nat) (ps : List Page) (p : Page), xs = [.mu pre.length, .da (pgD p)] ∧ ms = bkMs pre B tl ∧ B.kvs = pgK ps ∧ t < pre.length ∧ gm pre t = .tab "Book.heap" ∧ ps.length < 500 ∧ B.fs.length < 500 ∧ B.ds.length < 500 ∧
  ((findD (pgK ps) (.inl p.num)).isSome = true → Kx ms "Twice") ∧ ((findD (pgK ps) (.inl p.num)).isSome = false → Ks (bkMs pre ⟨B.t, pgK (ps ++ [p]), B.fs ++ [sq (.mu (bkMs pre B tl).length)], B.ds ++ [.list (heapL (ps ++ [p]))]⟩ (tl ++ [.ins (.obj "SaidDeed") [("number", .da (.int p.num))]])) (.da .none))
theorem ok_Book_say (T : Tx K mg) (o_Book_ask_new : OkMX P w K mg base 1 "Book" "ask_new" "Book.ask_new" s_Book_ask_new ["self", "number"] 2 sp_Book_ask_new) (o_Book_note : OkM P w K mg base 5 "Book" "note" "Book.note" s_Book_note ["self"] 1 sp_Book_note) (o_SaidDeed_init : OkI P w K mg base 1 "SaidDeed" "SaidDeed.__init__" s_SaidDeed_init ["self", "number"] 2 sp_SaidDeed_init) : OkMX P w K mg base 6 "Book" "say" "Book.say" s_Book_say ["self", "page"] 2 sp_Book_say := by
  refine ok_dataMX (n0 := 0) T.d_Book_say sc_Book_say _ (fun f cdv A outer s H E hr tk =>
  (dsx_cons (dsx_exp (dex_meth tk o_Book_ask_new (hr.mono (by omega)) (dv 0) (dan_cons (de_ix (dv 1) de_int) dan_nil)))
  (dsx_cons (DS.x (ds_asg (dv 1) (dg_setG (hu1 hr) (de_fld T.f_Book_pages (dv 0)) (de_ix (dv 1) de_int))))
  (dsx_cons (DS.x (ds_exp (de_appS (de_fld T.f_Book_past (dv 0)) (de_make o_SaidDeed_init (hr.mono (by omega)) (by rfl) (dan_cons (de_ix (dv 1) de_int) dan_nil)))))
  (dsx_one (DS.x (ds_exp (de_meth0 o_Book_note (hr.mono (by omega)) (dv 0))))))))) (fun xs ms Ks Kx h hl => ?_)
  unfold sp_Book_say at h
  obtain ⟨pre, B, tl, t, ps, p, rfl, rfl, hB, ht, gt, l1, l2, l3, h1, h2⟩ := h
  refine ⟨pre.length, _, _, rfl, b_0, List.mem_singleton.mpr rfl, rfl, ?_⟩
  refine ⟨_, rfl, pre, B, tl, p.num, rfl, rfl, fun e => h1 (by rw [← hB]; exact e), fun e => ?_⟩
  have h2 := h2 (by rw [← hB]; exact e)
  clear h1
  have gt' : ∀ r, gm (pre ++ r) t = .tab "Book.heap" := fun r => by rw [gm_low ht]; exact gt
  refine ⟨pre.length, _, _, rfl, b_0, List.mem_singleton.mpr rfl, _, rfl, ?_⟩
  refine ⟨_, rfl, _, rfl, .inl ⟨_, _, b_1, rfl, sz (by rw [hB, pgK_len]; omega), ?_⟩⟩
  have e2 : sm (bkMs pre B tl) (pre.length + 1) (.dct (putD B.kvs (.inl p.num) (pgD p))) = bkMs pre { B with kvs := pgK (ps ++ [p]) } tl := by rw [c_1, hB, pgK_put (by rw [← hB]; exact e)]
  try dsimp only [DL.S.sE, DL.S.sM, DL.S.aM, DL.S.cM, DL.st, DL.gt, DL.sm, DL.gm, DL.putM, DL.pick, DL.muks, DL.nthN, DL.bkE, DL.st0, DL.nos, List.cons_append, List.nil_append, List.append_nil, List.drop_succ_cons, List.drop_nil, List.drop_zero, List.drop, DL.a1, DL.a2, DL.a3, DL.cMin3, DL.aNil, DL.aCons, DL.dVar, DL.dC, DL.iI, DL.i1, DL.isB, DL.daI, DL.onE, DL.gN, List.length_cons, List.length_nil, Nat.reduceAdd, Nat.zero_add]
  rw [e2]
  refine ⟨pre.length, _, _, rfl, b_0, List.mem_singleton.mpr rfl, _, rfl, ?_⟩
  try dsimp only [DL.S.sE, DL.S.sM, DL.S.aM, DL.S.cM, DL.st, DL.gt, DL.sm, DL.gm, DL.putM, DL.pick, DL.muks, DL.nthN, DL.bkE, DL.st0, DL.nos, List.cons_append, List.nil_append, List.append_nil, List.drop_succ_cons, List.drop_nil, List.drop_zero, List.drop, DL.a1, DL.a2, DL.a3, DL.cMin3, DL.aNil, DL.aCons, DL.dVar, DL.dC, DL.iI, DL.i1, DL.isB, DL.daI, DL.onE, DL.gN, List.length_cons, List.length_nil, Nat.reduceAdd, Nat.zero_add]
  refine isLstS_mk b_2 ?_
  refine ⟨_, rfl, bkMs pre ⟨B.t, pgK (ps ++ [p]), B.fs, B.ds⟩ tl, Str.ofString "SaidDeed", .int p.num, rfl, rfl, .head _, rfl, ?_⟩
  try dsimp only [DL.S.sE, DL.S.sM, DL.S.aM, DL.S.cM, DL.st, DL.gt, DL.sm, DL.gm, DL.putM, DL.pick, DL.muks, DL.nthN, DL.bkE, DL.st0, DL.nos, List.cons_append, List.nil_append, List.append_nil, List.drop_succ_cons, List.drop_nil, List.drop_zero, List.drop, DL.a1, DL.a2, DL.a3, DL.cMin3, DL.aNil, DL.aCons, DL.dVar, DL.dC, DL.iI, DL.i1, DL.isB, DL.daI, DL.onE, DL.gN, List.length_cons, List.length_nil, Nat.reduceAdd, Nat.zero_add]
  rw [b_app]
  refine isLstS_mk b_2 ?_
  refine ⟨sz (by show B.fs.length < 1000; omega), ?_⟩
  try dsimp only [DL.S.sE, DL.S.sM, DL.S.aM, DL.S.cM, DL.st, DL.gt, DL.sm, DL.gm, DL.putM, DL.pick, DL.muks, DL.nthN, DL.bkE, DL.st0, DL.nos, List.cons_append, List.nil_append, List.append_nil, List.drop_succ_cons, List.drop_nil, List.drop_zero, List.drop, DL.a1, DL.a2, DL.a3, DL.cMin3, DL.aNil, DL.aCons, DL.dVar, DL.dC, DL.iI, DL.i1, DL.isB, DL.daI, DL.onE, DL.gN, List.length_cons, List.length_nil, Nat.reduceAdd, Nat.zero_add]
  rw [c_2]
  refine ⟨pre.length, _, _, rfl, b_0, List.mem_singleton.mpr rfl, rfl, ?_⟩
  refine ⟨pre, _, _, t, ps ++ [p], rfl, rfl, rfl, gt' _, by show B.ds.length < 1000; omega, ?_⟩
  have el : (bkMs pre ⟨B.t, pgK (ps ++ [p]), B.fs, B.ds⟩ tl).length = (bkMs pre B tl).length := by unfold bkMs bkC; simp only [List.length_append, List.length_cons, List.length_nil]
  rw [← el] at h2
  exact h2
def sp_Book_unsay : SpX := fun xs ms Ks Kx => ∃ (pre : List MO) (B : BkP) (tl : List MO) (t : Nat) (ps : List Page) (n : Int), xs = [.mu pre.length, .da (.int n)] ∧ ms = bkMs pre B tl ∧ B.kvs = pgK ps ∧ t < pre.length ∧ gm pre t = .tab "Book.heap" ∧ (ps.map (·.num)).Nodup ∧ ps.length < 500 ∧ B.fs.length < 500 ∧ B.ds.length < 500 ∧
  (n ∉ ps.map (·.num) → Kx ms "NoPage") ∧ (∀ q ∈ ps, q.num = n → Ks (bkMs pre ⟨B.t, pgK (dropP ps n), B.fs ++ [sq (.mu (bkMs pre B tl).length)], B.ds ++ [.list (heapL (dropP ps n))]⟩ (tl ++ [recO (.unsaid q)])) (.da .none))
theorem ok_Book_unsay (T : Tx K mg) (o_Book_ask_number : OkMX P w K mg base 1 "Book" "ask_number" "Book.ask_number" s_Book_ask_number ["self", "number"] 2 sp_Book_ask_number) (o_Book_note : OkM P w K mg base 5 "Book" "note" "Book.note" s_Book_note ["self"] 1 sp_Book_note) (o_UnsaidDeed_init : OkI P w K mg base 3 "UnsaidDeed" "UnsaidDeed.__init__" s_UnsaidDeed_init ["self", "page"] 2 sp_UnsaidDeed_init) : OkMX P w K mg base 6 "Book" "unsay" "Book.unsay" s_Book_unsay ["self", "number"] 2 sp_Book_unsay := by
  refine ok_dataMX (n0 := 0) T.d_Book_unsay sc_Book_unsay _ (fun f cdv A outer s H E hr tk =>
  (dsx_cons (dsx_exp (dex_meth tk o_Book_ask_number (hr.mono (by omega)) (dv 0) (dan_cons (dv 1) dan_nil)))
  (dsx_cons (DS.x (ds_exp (de_appS (de_fld T.f_Book_past (dv 0)) (de_make o_UnsaidDeed_init (hr.mono (by omega)) (by rfl) (dan_cons (de_popG (de_fld T.f_Book_pages (dv 0)) (dv 1)) dan_nil)))))
  (dsx_one (DS.x (ds_exp (de_meth0 o_Book_note (hr.mono (by omega)) (dv 0)))))))) (fun xs ms Ks Kx h hl => ?_)
  unfold sp_Book_unsay at h
  obtain ⟨pre, B, tl, t, ps, n, rfl, rfl, hB, ht, gt, nd, l1, l2, l3, h1, h2⟩ := h
  have gt' : ∀ r, gm (pre ++ r) t = .tab "Book.heap" := fun r => by rw [gm_low ht]; exact gt
  refine ⟨pre.length, _, _, rfl, b_0, List.mem_singleton.mpr rfl, rfl, ?_⟩
  refine ⟨pre, B, tl, n, rfl, rfl, fun e => h1 ?_, fun e => ?_⟩
  · rw [hB, pgK_has] at e
    exact of_decide_eq_false e
  rw [hB, pgK_has] at e
  obtain ⟨q, hq, en, hf⟩ := pgK_at nd (of_decide_eq_true e)
  have h2 := h2 q hq en
  clear h1
  refine ⟨pre.length, _, _, rfl, b_0, List.mem_singleton.mpr rfl, _, rfl, ?_⟩
  refine isLstS_mk b_2 ?_
  refine ⟨pre.length, _, _, rfl, b_0, List.mem_singleton.mpr rfl, _, rfl, ⟨_, _, rfl, b_1⟩, _, _, _, rfl, b_1, by rw [hB]; exact hf, ?_⟩
  have e1 : sm (bkMs pre B tl) (pre.length + 1) (.dct (dropD B.kvs (.inl n))) = bkMs pre { B with kvs := pgK (dropP ps n) } tl := by rw [hB, dropP_K]; exact c_1 _
  have mk : ∀ (M : List MO) (Kt : List MO → En → Prop), Kt (M ++ [recO (.unsaid q)]) (.da .none) → sp_UnsaidDeed_init [.mu M.length, .da (pgD q)] (M ++ [.ins (.obj "UnsaidDeed") []]) Kt := fun M Kt hK => ⟨M, "UnsaidDeed", q, rfl, rfl, .inl rfl, hK⟩
  dsimp only [aNil]
  try dsimp only [DL.S.sE, DL.S.sM, DL.S.aM, DL.S.cM, DL.st, DL.gt, DL.sm, DL.gm, DL.putM, DL.pick, DL.muks, DL.nthN, DL.bkE, DL.st0, DL.nos, List.cons_append, List.nil_append, List.append_nil]
  refine mk _ _ ?_
  refine ⟨rfl, ?_⟩
  have e2 : sm (bkMs pre B tl) (pre.length + 1) (.dct (dropD B.kvs (.inl n))) ++ [recO (.unsaid q)] = bkMs pre { B with kvs := pgK (dropP ps n) } (tl ++ [recO (.unsaid q)]) := by rw [e1, b_app]
  have el : (sm (bkMs pre B tl) (pre.length + 1) (.dct (dropD B.kvs (.inl n)))).length = (bkMs pre B tl).length := sm_length _ _ _
  show isLstS (S.mk _ (sm (bkMs pre B tl) (pre.length + 1) (.dct (dropD B.kvs (.inl n))) ++ [recO (.unsaid q)]) _) _ _
  rw [e2]
  refine isLstS_mk b_2 ?_
  refine ⟨sz (by show B.fs.length < 1000; omega), ?_⟩
  rw [el]
  try dsimp only [DL.S.sE, DL.S.sM, DL.S.aM, DL.S.cM, DL.st, DL.gt, DL.sm, DL.gm, DL.putM, DL.pick, DL.muks, DL.nthN, DL.bkE, DL.st0, DL.nos, List.cons_append, List.nil_append, List.append_nil]
  rw [c_2]
  refine ⟨pre.length, _, _, rfl, b_0, List.mem_singleton.mpr rfl, rfl, ?_⟩
  refine ⟨pre, _, _, t, dropP ps n, rfl, rfl, rfl, gt' _, by show B.ds.length < 1000; omega, ?_⟩
  exact h2
def sp_Book_undo : SpX := fun xs ms Ks Kx => ∃ (pre : List MO) (B : BkP) (tl : List MO) (t : Nat) (ps : List Page), xs = [.mu pre.length] ∧ ms = bkMs pre B tl ∧ B.kvs = pgK ps ∧ t < pre.length ∧ gm pre t = .tab "Book.heap" ∧ (ps.map (·.num)).Nodup ∧ ps.length < 500 ∧ B.ds.length < 500 ∧
  ((B.fs = [] ∧ Kx ms "NoDeed") ∨ ∃ (l : List Nat) (i : Nat) (r : Rec), B.fs = muS (l ++ [i]) ∧ gm ms i = recO r ∧ unOk r ps ∧ Ks (bkMs pre ⟨B.t, pgK (unB r ps), muS l, B.ds ++ [.list (heapL (unB r ps))]⟩ tl) (.da .none))
theorem ok_Book_undo (T : Tx K mg) (o_Book_note : OkM P w K mg base 5 "Book" "note" "Book.note" s_Book_note ["self"] 1 sp_Book_note) (o_RetoldDeed_take_back : OkM P w K mg base 1 "RetoldDeed" "take_back" "RetoldDeed.take_back" s_RetoldDeed_take_back ["self", "pages"] 2 sp_RetoldDeed_take_back) (o_SaidDeed_take_back : OkM P w K mg base 1 "SaidDeed" "take_back" "SaidDeed.take_back" s_SaidDeed_take_back ["self", "pages"] 2 sp_SaidDeed_take_back) (o_UnsaidDeed_take_back : OkM P w K mg base 1 "UnsaidDeed" "take_back" "UnsaidDeed.take_back" s_UnsaidDeed_take_back ["self", "pages"] 2 sp_UnsaidDeed_take_back) : OkMX P w K mg base 6 "Book" "undo" "Book.undo" s_Book_undo ["self"] 1 sp_Book_undo := by
  refine ok_dataMX (n0 := 1) T.d_Book_undo sc_Book_undo _ (fun f cdv A outer s H E hr tk =>
  (dsx_cons (dsx_if (dt_nilS (hu64 hr) (de_fld T.f_Book_past (dv 0)) (de_lst dan_nil))
    (dsx_one (dsx_raise rfl tk T.x_NoDeed rfl))
    (DSs.x dss_nil))
  (dsx_cons (DS.x (ds_set (i := 1) sc_Book_undo.nd rfl (by first | exact .inl rfl | exact .inr rfl) (de_popS (de_fld T.f_Book_past (dv 0)))))
  (dsx_cons (DS.x (ds_exp (de_alt (de_meth o_SaidDeed_take_back (hr.mono (by omega)) (dv 1) (dan_cons (de_fld T.f_Book_pages (dv 0)) dan_nil)) (de_alt (de_meth o_UnsaidDeed_take_back (hr.mono (by omega)) (dv 1) (dan_cons (de_fld T.f_Book_pages (dv 0)) dan_nil)) (de_meth o_RetoldDeed_take_back (hr.mono (by omega)) (dv 1) (dan_cons (de_fld T.f_Book_pages (dv 0)) dan_nil))))))
  (dsx_one (DS.x (ds_exp (de_meth0 o_Book_note (hr.mono (by omega)) (dv 0))))))))) (fun xs ms Ks Kx h hl => ?_)
  unfold sp_Book_undo at h
  obtain ⟨pre, B, tl, t, ps, rfl, rfl, hB, ht, gt, nd, l1, l3, h1⟩ := h
  have gt' : ∀ r, gm (pre ++ r) t = .tab "Book.heap" := fun r => by rw [gm_low ht]; exact gt
  refine seqXU fun u hu => ?_
  refine ⟨pre.length, _, _, rfl, b_0, List.mem_singleton.mpr rfl, _, rfl, ?_⟩
  dsimp only [dLst, aNil]
  refine onO_mk rfl (isLstS_mk b_2 ⟨rfl, ?_⟩)
  refine ⟨fun e => ?_, fun e => ?_⟩
  · rcases h1 with ⟨_, h⟩ | ⟨l, i, r, hf, _⟩
    · exact h
    · have e2 := List.isEmpty_iff.mp e
      rw [show B.fs = muS (l ++ [i]) from hf, muS_snoc] at e2
      exact absurd e2 (by simp)
  obtain ⟨l, i, r, hf, hr, uo, h2⟩ : ∃ (l : List Nat) (i : Nat) (r : Rec), B.fs = muS (l ++ [i]) ∧ gm (bkMs pre B tl) i = recO r ∧ unOk r ps ∧ Ks (bkMs pre ⟨B.t, pgK (unB r ps), muS l, B.ds ++ [.list (heapL (unB r ps))]⟩ tl) (.da .none) := h1.elim (fun z => by rw [z.1] at e; cases e) id
  clear h1
  show u ⟨[.mu pre.length, .no], bkMs pre B tl, (bkMs pre B tl).length⟩ _ _
  rw [hu]; clear hu u
  refine seqXU fun u hu => ?_
  refine ⟨pre.length, _, _, rfl, b_0, List.mem_singleton.mpr rfl, _, rfl, ?_⟩
  refine isLstS_mk b_2 ⟨sq (.mu i), ?_, ?_⟩
  · rw [hf, muS_snoc, List.length_append]
    exact List.getElem?_concat_length ..
  have e1 : sm (bkMs pre B tl) (pre.length + 2) (.ins .lst B.fs.dropLast) = bkMs pre { B with fs := muS l } tl := by
    rw [hf, muS_snoc, List.dropLast_concat]
    exact c_2 _
  show u ⟨[.mu pre.length, .mu i], sm (bkMs pre B tl) (pre.length + 2) (.ins .lst B.fs.dropLast), (bkMs pre B tl).length⟩ _ _
  have ni : pre.length + 2 ≠ i := fun z => ne_of_gm hr b_2 (recO_lst _) z.symm
  have gi : gm (bkMs pre { B with fs := muS l } tl) i = recO r := by
    rw [← e1]
    exact (gm_sm_ne ni).trans hr
  rw [e1, hu]; clear hu u
  refine seqXU fun u hu => ?_
  have g1 : gm (bkMs pre { B with fs := muS l } tl) (pre.length + 1) = .dct (pgK ps) := (b_1).trans (congrArg MO.dct hB)
  have fin : ∀ (M : List MO), M = sm (bkMs pre { B with fs := muS l } tl) (pre.length + 1) (.dct (pgK (unB r ps))) → u ⟨[.mu pre.length, .mu i], M, (bkMs pre B tl).length⟩ (endT Ks) (fun s c => Kx s.ms c) := fun M hM => by
    rw [hM, hu, c_1]; clear hu u
    refine ⟨pre.length, _, _, rfl, b_0, List.mem_singleton.mpr rfl, rfl, ?_⟩
    refine ⟨pre, _, _, t, unB r ps, rfl, rfl, rfl, gt' _, by show B.ds.length < 1000; omega, ?_⟩
    exact h2
  cases r with
  | said n =>
    refine .inl ⟨i, _, _, rfl, gi, List.mem_singleton.mpr rfl, rfl, pre.length, _, _, rfl, b_0, List.mem_singleton.mpr rfl, _, rfl, ?_⟩
    exact ⟨i, pre.length + 1, n, ps, rfl, gi, g1, uo, nd, fin _ rfl⟩
  | unsaid p =>
    refine .inr (.inl ⟨i, _, _, rfl, gi, List.mem_singleton.mpr rfl, rfl, pre.length, _, _, rfl, b_0, List.mem_singleton.mpr rfl, _, rfl, ?_⟩)
    exact ⟨i, pre.length + 1, p, ps, rfl, gi, g1, uo, by omega, fin _ rfl⟩
  | retold p l2 =>
    refine .inr (.inr ⟨i, _, _, rfl, gi, List.mem_singleton.mpr rfl, rfl, pre.length, _, _, rfl, b_0, List.mem_singleton.mpr rfl, _, rfl, ?_⟩)
    exact ⟨i, pre.length + 1, p, l2, ps, rfl, gi, g1, uo.1, nd, uo.2, by omega, fin _ rfl⟩
def sp_next : SpD := fun xs ms Ks => ∃ (tb0 tb1 : MO) (n : Nat) (L : List MO) (W : BW) (tl : List MO) (B : Int) (q kj : Nat) (t0 : D) (kp : List Page), xs = [.mu 2, .mu (L.length + 3), .mu (q + 2)] ∧ ms = tb0 :: tb1 :: .rnd n :: bW L W tl ∧ gm ms (q + 2) = .ins .dct (kF q kj t0) ∧ gm ms kj = .dct (pgK kp) ∧ kp.length ≤ 500 ∧ WOk W B ∧ B.natAbs < 2 ^ 1900 ∧ W.dr.length ≤ W.turn ∧ W.turn < 800 ∧ 0 ≤ W.day ∧ W.day < 10 ^ 20 ∧ 220 ≤ n ∧
  ∀ (m : Nat) (W' : BW) (d : Dh), n ≤ m + 150 → NextD W B kp W' d → Ks (tb0 :: tb1 :: .rnd m :: bW L W' tl) (.da (dhD d))
theorem ok_next (T : Tx K mg) (o_page : Ok P w K mg base 5 "_law_page" s_page ["_law_state", "_law_world_here"] 2 sp_page) (o_some : Ok P w K mg base 2 "_law_some" s_some ["_law_state", "_law_things"] 2 sp_some) (o_take : Ok P w K mg base 1 "_law_take" s_take ["_law_state", "_law_many"] 2 spTake) : Ok P w K mg base 6 "_law_next" s_next ["_law_state", "_law_world_here", "_law_kept"] 3 sp_next := by
  refine ok_dataT (n0 := 6) T.d_next sc_next _ (fun f cdv A outer s H E hr =>
  (dss_clo (dss_rta (dss_cons (ds_par (i := 3) (j := 4) rfl sc_next.nd rfl rfl (by decide) rfl rfl (da_cons (de_callV o_take (hr.mono (by omega)) (by rfl) (dan_cons (dv 0) (dan_cons de_int dan_nil))) (da_cons (de_sortD (hu64 hr) (by rfl) (T.b_sorted) (de_listK rfl (by rfl) (T.b_list) (de_dgetG (hu1 hr) (dv 2) de_str))) da_nil)) rfl)
  (dss_cons (ds_set (i := 5) sc_next.nd rfl (by first | exact .inl rfl | exact .inr rfl) (de_gt (de_len (x := "") (by rfl) (T.b_len) (dv 4)) de_int))
  (dss_cons (ds_if (dt_bool (dw_or (dt_eqD (hu64 hr) (dv 4) (de_lst dan_nil)) (dw_or1 (dt_bool (dw_and (dt_lt (dv 3) de_int) (dw_and1 (dt_not (dt_val (dv 5)))))))))
    (dss_cons (ds_set (i := 6) sc_next.nd rfl (by first | exact .inl rfl | exact .inr rfl) (de_callT o_page (hr.mono (by omega)) (by rfl) (dan_cons (dv 0) (dan_cons (dv 1) dan_nil))))
    (dss_cutA [0, 1, 2, 3, 4, 5, 7, 8] (ds_if (dt_bool (dw_and (dt_neD (hu64 hr) (dv 4) (de_lst dan_nil)) (dw_and1 (dt_eqS (de_callV o_take (hr.mono (by omega)) (by rfl) (dan_cons (dv 0) (dan_cons de_int dan_nil))) de_int))))
      (dss_one (ds_set (i := 6) sc_next.nd rfl (by first | exact .inl rfl | exact .inr rfl) (de_tup (dan_cons (de_ix (dv 6) de_int) (dan_cons (de_callV o_some (hr.mono (by omega)) (by rfl) (dan_cons (dv 0) (dan_cons (dv 4) dan_nil))) (dan_cons (de_ix (dv 6) de_int) (dan_cons (de_ix (dv 6) de_int) dan_nil)))))))
      dss_nil)
    (dss_one (ds_ret (de_tup (dan_cons de_str (dan_cons (dv 6) dan_nil)))))))
    dss_nil)
  (dss_cons (ds_set (i := 7) sc_next.nd rfl (by first | exact .inl rfl | exact .inr rfl) (de_if (dt_gt (de_callV o_take (hr.mono (by omega)) (by rfl) (dan_cons (dv 0) (dan_cons de_int dan_nil))) de_int) (de_callV o_some (hr.mono (by omega)) (by rfl) (dan_cons (dv 0) (dan_cons (dv 4) dan_nil))) de_int))
  (dss_cons (ds_if (dt_bool (dw_or (dt_lt (dv 3) de_int) (dw_or1 (dt_val (dv 5)))))
    (dss_one (ds_ret (de_tup (dan_cons de_str (dan_cons (dv 7) dan_nil)))))
    dss_nil)
  (dss_cons (ds_if (dt_gt (dv 3) de_int)
    (dss_one (ds_ret (de_tup (dan_cons de_str dan_nil))))
    dss_nil)
  (dss_cons (ds_par (i := 6) (j := 8) rfl sc_next.nd rfl rfl (by decide) rfl rfl (da_cons (de_callT o_page (hr.mono (by omega)) (by rfl) (dan_cons (dv 0) (dan_cons (dv 1) dan_nil))) (da_cons (de_callV o_take (hr.mono (by omega)) (by rfl) (dan_cons (dv 0) (dan_cons de_int dan_nil))) da_nil)) rfl)
  (dss_cutA [0, 1, 2, 3, 4, 5, 8] (ds_if (dt_lt (dv 8) de_int)
    (dss_one (ds_set (i := 6) sc_next.nd rfl (by first | exact .inl rfl | exact .inr rfl) (de_tup (dan_cons (de_ix (dv 6) de_int) (dan_cons (de_ix (de_lst (dan_cons (dv 7) (dan_cons (de_callV o_some (hr.mono (by omega)) (by rfl) (dan_cons (dv 0) (dan_cons (dv 4) dan_nil))) dan_nil))) (dv 8)) (dan_cons (de_ix (dv 6) de_int) (dan_cons (de_ix (dv 6) de_int) dan_nil)))))))
    dss_nil)
  (dss_one (ds_ret (de_tup (dan_cons de_str (dan_cons (dv 7) (dan_cons (dv 6) dan_nil))))))))))))))))) (fun xs ms Ks h hl => ?_)
  unfold sp_next at h
  obtain ⟨tb0, tb1, n, L, W, tl, B, q, kj, t0, kp, rfl, rfl, gk, gp, hl, H, hB, hdl, ht, d0, d1, hn, hk⟩ := h
  intro cl
  refine seqU fun u hu => ?_
  have gk1 : gm (tb0 :: tb1 :: .rnd (n - 1) :: bW L W tl) (q + 2) = .ins .dct (kF q kj t0) := rnd_at gk (fun _ z => nomatch z)
  have gp1 : gm (tb0 :: tb1 :: .rnd (n - 1) :: bW L W tl) kj = .dct (pgK kp) := rnd_at gp (fun _ z => nomatch z)
  have dp : dvl (tb0 :: tb1 :: .rnd (n - 1) :: bW L W tl) (q + 2) (.inr "pages") = some (some (.mu kj)) := by
    unfold dvl
    rw [gk1]
    rfl
  refine ⟨nd1, rfl, by omega, divA 10 (by decide) (by decide), fun pk pk0 pk1 => ⟨rfl, ?_⟩⟩
  try dsimp only [DL.S.sE, DL.S.sM, DL.S.aM, DL.S.cM, DL.st, DL.gt, DL.sm, DL.gm, DL.putM, DL.pick, DL.muks, DL.nthN, DL.bkE, DL.st0, DL.nos, List.cons_append, List.nil_append, List.append_nil, List.drop_succ_cons, List.drop_nil, List.drop_zero, List.drop, DL.a1, DL.a2, DL.a3, DL.cMin3, DL.aNil, DL.aCons, DL.dVar, DL.dC, DL.iI, DL.i1, DL.isB, DL.daI, DL.onE, DL.gN, List.length_cons, List.length_nil, Nat.reduceAdd, Nat.zero_add]
  simp only [List.append_nil]
  refine ⟨_, _, rfl, dp, ?_⟩
  dsimp only [aNil, cListK, a1]
  refine mu2_mk (s := S.mk _ _ _) gp1 ?_
  rw [keys_num]
  refine ⟨_, rfl, can_nums _, ?_⟩
  rw [numS_eq]
  obtain ⟨N, hN⟩ : ∃ N, N = numS kp := ⟨_, rfl⟩
  have Np := numS_perm kp
  rw [← hN] at Np ⊢
  have Nl : N.length ≤ 500 := by
    rw [Np.length_eq, List.length_map]
    exact hl
  show u ⟨[.mu 2, .mu (L.length + 3), .mu (q + 2), .da (.int pk), .da (.list (N.map .int)), .no, .no, .no, .no], tb0 :: tb1 :: .rnd (n - 1) :: bW L W tl, (bW L W tl).length + 3⟩ _
  rw [hu]; clear hu u
  refine seqU fun u hu => ?_
  refine onO_mk rfl ?_
  obtain ⟨fu, hfu⟩ : ∃ fu : Bool, fu = decide (59 < (((N.map PyData.int).length : Nat) : Int)) := ⟨_, rfl⟩
  have fuf : fu = false → N.length ≤ 59 := fun e => by
    rw [hfu, List.length_map] at e
    have := of_decide_eq_false e
    omega
  show u ⟨[.mu 2, .mu (L.length + 3), .mu (q + 2), .da (.int pk), .da (.list (N.map .int)), .da (.bool (decide (59 < (((N.map PyData.int).length : Nat) : Int)))), .no, .no, .no], tb0 :: tb1 :: .rnd (n - 1) :: bW L W tl, (bW L W tl).length + 3⟩ _
  rw [← hfu, hu]; clear hu u hfu
  refine seqU fun u hu => ?_
  have nsh : SeqAt.shaped (.list (N.map .int)) = true := by
    have k : Ok2 2 (.list (N.map .int)) := .map (fun _ _ => .int) (by omega)
    exact k.sh (by decide)
  have es0 : xr false (PyData.eqv (.list (N.map .int)) (.list [])) = N.isEmpty := by cases N <;> rfl
  have es1 : xr true (PyData.eqv (.list (N.map .int)) (.list [])) = !N.isEmpty := by cases N <;> rfl
  have nin : ∀ (W4 : BW) (k : Int), k ∈ N → numN W4 kp k := fun W4 k hk => .inr (.inl (Np.mem_iff.mp hk))
  have sayB : N.length ≤ 59 → ∀ D : Dn, D.rt = (rtD (endT Ks)).rt → sSeq (sAsg (dCall (CallT sp_page) (aCons (dVar 0) (aCons (dVar 1) aNil))) (gN 6))
      (sCutA [0, 1, 2, 3, 4, 5, 7, 8]
        (sIf (DL.tAnd (tT (dNeD (dVar 4) (dLst aNil))) (tT (dEqS (dCall (CallV spTake) (aCons (dVar 0) (aCons (dC (PyData.int 9)) aNil))) (dC (PyData.int 0)))))
          (sAsg (dTup (aCons (dIx (dVar 6) (dC (PyData.int 0))) (aCons (dCall (CallV sp_some) (aCons (dVar 0) (aCons (dVar 4) aNil))) (aCons (dIx (dVar 6) (dC (PyData.int 2))) (aCons (dIx (dVar 6) (dC (PyData.int 3))) aNil))))) (gN 6))
          sNil)
        (sRet (dTup (aCons (dC (PyData.str (Str.ofString "say"))) (aCons (dVar 6) aNil))))) ⟨[.mu 2, .mu (L.length + 3), .mu (q + 2), .da (.int pk), .da (.list (N.map .int)), .da (.bool fu), .no, .no, .no], tb0 :: tb1 :: .rnd (n - 1) :: bW L W tl, (bW L W tl).length + 3⟩ D := fun hN9 D hD => by
    refine seqU fun u hu => ?_
    refine ⟨tb0, tb1, n - 1, L, W, tl, B, rfl, rfl, H, hB, hdl, ht, d0, d1, by omega, fun m day ck way dr p hm HW hdr hd1 hd2 pd0 pd1 pn ph pkd => ?_⟩
    obtain ⟨W4, hW4⟩ : ∃ W4 : BW, W4 = { W with turn := W.turn + 1, day := day, num := some (numT (W.turn + 1)), ck := ck, way := way, dr := dr } := ⟨_, rfl⟩
    have nw : NextW W B W4 := by
      rw [hW4]
      exact ⟨HW, hdr, Nat.le_succ _, Nat.le_refl _, hd1, hd2, rfl, rfl, rfl, rfl, rfl, rfl⟩
    have pq : ∀ k, numN W4 kp k → pgN W4 (2 * B) kp ⟨p.day, k, p.house, p.deed⟩ := fun k hk => by
      refine ⟨pd0, by rw [hW4]; exact pd1, by rw [hW4]; exact ph, ?_, hk⟩
      rw [hW4]
      revert pkd
      cases p.deed <;> exact fun h => h
    have pq0 : pgN W4 (2 * B) kp p := pq p.num (.inl (by rw [hW4]; exact pn))
    rw [← hW4]
    show u ⟨[.mu 2, .mu (L.length + 3), .mu (q + 2), .da (.int pk), .da (.list (N.map .int)), .da (.bool fu), .da (pgD p), .no, .no], tb0 :: tb1 :: .rnd m :: bW L W4 tl, (bW L W tl).length + 3⟩ _
    rw [hu]; clear hu u hW4
    refine ⟨fun s => ∃ m2 p2, n ≤ m2 + 140 ∧ pgN W4 (2 * B) kp p2 ∧ s = ⟨[.no, .no, .no, .no, .no, .no, .da (pgD p2), .no, .no], tb0 :: tb1 :: .rnd m2 :: bW L W4 tl, (bW L W tl).length + 3⟩, ?_, ?_⟩
    · refine onO_mk rfl (onO_mk rfl ⟨nsh, rfl, ?_⟩)
      rw [es1]
      refine ⟨fun e => ?_, fun _ => ff ⟨m, p, by omega, pq0, by (simp only [DL.clA, DL.clS, DL.killL, DL.limL, DL.limE_mu, DL.limE_da, DL.limE_no, DL.takM, DL.limM, DL.frzS, DL.subL, DL.subE_mu, DL.subE_da, DL.subE_no, DL.subS, DL.subM, DL.S.sE, DL.S.sM, DL.S.aM, DL.S.cM, DL.st, DL.gt, DL.sm, DL.gm, DL.putM, DL.pick, DL.muks, DL.nthN, DL.bkE, DL.st0, DL.nos, List.cons_append, List.nil_append, List.append_nil, List.drop_succ_cons, List.drop_nil, List.drop_zero, List.length_cons, List.length_nil, List.map_cons, List.map_nil, List.map_append, Nat.reduceAdd, Nat.zero_add, Nat.reduceLT, Nat.reduceEqDiff, if_true, if_false, ↓reduceIte, Nat.lt_irrefl, Nat.not_lt_zero] <;> rfl)⟩⟩
      have N0 : 0 < N.length := List.length_pos_iff.mpr fun z => by rw [z] at e; cases e
      refine ⟨nd1, rfl, by omega, divA 10 (by decide) (by decide), fun v v0 v1 => ⟨rfl, ?_⟩⟩
      try dsimp only [DL.S.sE, DL.S.sM, DL.S.aM, DL.S.cM, DL.st, DL.gt, DL.sm, DL.gm, DL.putM, DL.pick, DL.muks, DL.nthN, DL.bkE, DL.st0, DL.nos, List.cons_append, List.nil_append, List.append_nil, List.drop_succ_cons, List.drop_nil, List.drop_zero, List.drop, DL.a1, DL.a2, DL.a3, DL.cMin3, DL.aNil, DL.aCons, DL.dVar, DL.dC, DL.iI, DL.i1, DL.isB, DL.daI, DL.onE, DL.gN, List.length_cons, List.length_nil, Nat.reduceAdd, Nat.zero_add]
      simp only [List.append_nil]
      refine ⟨fun _ => ?_, fun _ => ⟨m - 1, p, by omega, pq0, by (simp only [DL.clA, DL.clS, DL.killL, DL.limL, DL.limE_mu, DL.limE_da, DL.limE_no, DL.takM, DL.limM, DL.frzS, DL.subL, DL.subE_mu, DL.subE_da, DL.subE_no, DL.subS, DL.subM, DL.S.sE, DL.S.sM, DL.S.aM, DL.S.cM, DL.st, DL.gt, DL.sm, DL.gm, DL.putM, DL.pick, DL.muks, DL.nthN, DL.bkE, DL.st0, DL.nos, List.cons_append, List.nil_append, List.append_nil, List.drop_succ_cons, List.drop_nil, List.drop_zero, List.length_cons, List.length_nil, List.map_cons, List.map_nil, List.map_append, Nat.reduceAdd, Nat.zero_add, Nat.reduceLT, Nat.reduceEqDiff, if_true, if_false, ↓reduceIte, Nat.lt_irrefl, Nat.not_lt_zero] <;> rfl)⟩⟩
      refine ⟨_, rfl, nd1, rfl, _, _, m - 1, [], rfl, rfl, .inl ⟨rfl, rfl⟩, by rw [List.length_map]; exact N0, by rw [List.length_map]; omega, by omega, fun m2 d hm2 hd => ⟨rfl, ?_⟩⟩
      try dsimp only [DL.S.sE, DL.S.sM, DL.S.aM, DL.S.cM, DL.st, DL.gt, DL.sm, DL.gm, DL.putM, DL.pick, DL.muks, DL.nthN, DL.bkE, DL.st0, DL.nos, List.cons_append, List.nil_append, List.append_nil, List.drop_succ_cons, List.drop_nil, List.drop_zero, List.drop, DL.a1, DL.a2, DL.a3, DL.cMin3, DL.aNil, DL.aCons, DL.dVar, DL.dC, DL.iI, DL.i1, DL.isB, DL.daI, DL.onE, DL.gN, List.length_cons, List.length_nil, Nat.reduceAdd, Nat.zero_add]
      simp only [List.append_nil]
      obtain ⟨k, hk2, rfl⟩ := List.mem_map.mp hd
      refine ⟨_, rfl, _, rfl, onO_mk rfl ?_⟩
      exact ⟨m2, ⟨p.day, k, p.house, p.deed⟩, by omega, pq k (nin W4 k hk2), by (simp only [DL.clA, DL.clS, DL.killL, DL.limL, DL.limE_mu, DL.limE_da, DL.limE_no, DL.takM, DL.limM, DL.frzS, DL.subL, DL.subE_mu, DL.subE_da, DL.subE_no, DL.subS, DL.subM, DL.S.sE, DL.S.sM, DL.S.aM, DL.S.cM, DL.st, DL.gt, DL.sm, DL.gm, DL.putM, DL.pick, DL.muks, DL.nthN, DL.bkE, DL.st0, DL.nos, List.cons_append, List.nil_append, List.append_nil, List.drop_succ_cons, List.drop_nil, List.drop_zero, List.length_cons, List.length_nil, List.map_cons, List.map_nil, List.map_append, Nat.reduceAdd, Nat.zero_add, Nat.reduceLT, Nat.reduceEqDiff, if_true, if_false, ↓reduceIte, Nat.lt_irrefl, Nat.not_lt_zero] <;> rfl)⟩
    rintro s ⟨m2, p2, hm2, hp2, rfl⟩
    refine onO_mk rfl ?_
    show D.rt _ _
    rw [hD]
    refine ⟨_, _, AdjE.refl, ?_⟩
    exact hk m2 W4 (.say p2) (by omega) ⟨nw, hp2, trivial, fun _ _ => by rw [← List.length_map (f := fun x : Page => x.num), ← Np.length_eq]; exact hN9⟩
  refine onO_mk rfl (onO_mk rfl ⟨nsh, rfl, ?_⟩)
  rw [es0]
  refine ⟨fun e => tt (sayB (by cases N with | nil => exact Nat.zero_le _ | cons _ _ => cases e) _ rfl), fun e => ?_⟩
  have N0 : 0 < N.length := List.length_pos_iff.mpr fun z => by rw [z] at e; cases e
  refine onO_mk rfl (and_if (fun e1 e2 => sayB (fuf (by cases fu with | false => rfl | true => cases e2)) _ rfl) ?_)
  dsimp only [sNil]
  rw [hu]; clear hu u sayB
  refine seqU fun u hu => ?_
  have go : ∀ (m : Nat) (k : Int), n ≤ m + 5 → (k ∈ N ∨ k = 3) → u ⟨[.mu 2, .mu (L.length + 3), .mu (q + 2), .da (.int pk), .da (.list (N.map .int)), .da (.bool fu), .no, .da (.int k), .no], tb0 :: tb1 :: .rnd m :: bW L W tl, (bW L W tl).length + 3⟩ (rtD (endT Ks)) := fun m k hm hk2 => by
    rw [hu]; clear hu u
    have nok : ∀ W4 : BW, numN W4 kp k := fun W4 => hk2.elim (nin W4 k) fun z => .inr (.inr z)
    have nw0 : NextW W B W := ⟨H.up, hdl, Nat.le_refl _, Nat.le_succ _, Int.le_refl _, by omega, rfl, rfl, rfl, rfl, rfl, rfl⟩
    refine seqU fun u hu => ?_
    refine onO_mk rfl (or_if ?_ fun e1 e2 => ?_)
    · refine onO_mk rfl ?_
      refine ⟨_, _, AdjE.refl, ?_⟩
      exact hk m W (.unsay k) (by omega) ⟨nw0, trivial, nok W, fun _ z => nomatch z⟩
    dsimp only [sNil]
    rw [hu]; clear hu u
    refine seqU fun u hu => ?_
    refine ⟨fun e => ?_, fun e => ?_⟩
    · refine onO_mk rfl ?_
      refine ⟨_, _, AdjE.refl, ?_⟩
      exact hk m W .undo (by omega) ⟨nw0, trivial, trivial, fun _ z => nomatch z⟩
    dsimp only [sNil]
    rw [hu]; clear hu u nw0
    refine seqU fun u hu => ?_
    refine ⟨tb0, tb1, m, L, W, tl, B, rfl, rfl, H, hB, hdl, ht, d0, d1, by omega, fun m day ck way dr p hm HW hdr hd1 hd2 pd0 pd1 pn ph pkd => ?_⟩
    obtain ⟨W4, hW4⟩ : ∃ W4 : BW, W4 = { W with turn := W.turn + 1, day := day, num := some (numT (W.turn + 1)), ck := ck, way := way, dr := dr } := ⟨_, rfl⟩
    have nw : NextW W B W4 := by
      rw [hW4]
      exact ⟨HW, hdr, Nat.le_succ _, Nat.le_refl _, hd1, hd2, rfl, rfl, rfl, rfl, rfl, rfl⟩
    have pq : ∀ k, numN W4 kp k → pgN W4 (2 * B) kp ⟨p.day, k, p.house, p.deed⟩ := fun k hk => by
      refine ⟨pd0, by rw [hW4]; exact pd1, by rw [hW4]; exact ph, ?_, hk⟩
      rw [hW4]
      revert pkd
      cases p.deed <;> exact fun h => h
    have pq0 : pgN W4 (2 * B) kp p := pq p.num (.inl (by rw [hW4]; exact pn))
    rw [← hW4]
    clear hW4
    refine ⟨nd1, rfl, by omega, divA 10 (by decide) (by decide), fun v v0 v1 => ⟨rfl, ?_⟩⟩
    try dsimp only [DL.S.sE, DL.S.sM, DL.S.aM, DL.S.cM, DL.st, DL.gt, DL.sm, DL.gm, DL.putM, DL.pick, DL.muks, DL.nthN, DL.bkE, DL.st0, DL.nos, List.cons_append, List.nil_append, List.append_nil, List.drop_succ_cons, List.drop_nil, List.drop_zero, List.drop, DL.a1, DL.a2, DL.a3, DL.cMin3, DL.aNil, DL.aCons, DL.dVar, DL.dC, DL.iI, DL.i1, DL.isB, DL.daI, DL.onE, DL.gN, List.length_cons, List.length_nil, Nat.reduceAdd, Nat.zero_add]
    simp only [List.append_nil]
    show u ⟨[.mu 2, .mu (L.length + 3), .mu (q + 2), .da (.int pk), .da (.list (N.map .int)), .da (.bool fu), .da (pgD p), .da (.int k), .da (.int v)], tb0 :: tb1 :: .rnd (m - 1) :: bW L W4 tl, (bW L W tl).length + 3⟩ _
    rw [hu]; clear hu u
    refine ⟨fun s => ∃ m2 p2, n ≤ m2 + 145 ∧ pgN W4 (2 * B) kp p2 ∧ s = ⟨[.no, .no, .no, .no, .no, .no, .da (pgD p2), .da (.int k), .no], tb0 :: tb1 :: .rnd m2 :: bW L W4 tl, (bW L W tl).length + 3⟩, ?_, ?_⟩
    · refine ⟨fun e => ?_, fun _ => ⟨m - 1, p, by omega, pq0, by (simp only [DL.clA, DL.clS, DL.killL, DL.limL, DL.limE_mu, DL.limE_da, DL.limE_no, DL.takM, DL.limM, DL.frzS, DL.subL, DL.subE_mu, DL.subE_da, DL.subE_no, DL.subS, DL.subM, DL.S.sE, DL.S.sM, DL.S.aM, DL.S.cM, DL.st, DL.gt, DL.sm, DL.gm, DL.putM, DL.pick, DL.muks, DL.nthN, DL.bkE, DL.st0, DL.nos, List.cons_append, List.nil_append, List.append_nil, List.drop_succ_cons, List.drop_nil, List.drop_zero, List.length_cons, List.length_nil, List.map_cons, List.map_nil, List.map_append, Nat.reduceAdd, Nat.zero_add, Nat.reduceLT, Nat.reduceEqDiff, if_true, if_false, ↓reduceIte, Nat.lt_irrefl, Nat.not_lt_zero] <;> rfl)⟩⟩
      refine ⟨_, rfl, nd1, rfl, _, _, m - 1, [], rfl, rfl, .inl ⟨rfl, rfl⟩, by rw [List.length_map]; exact N0, by rw [List.length_map]; omega, by omega, fun m2 d hm2 hd => ⟨rfl, ?_⟩⟩
      try dsimp only [DL.S.sE, DL.S.sM, DL.S.aM, DL.S.cM, DL.st, DL.gt, DL.sm, DL.gm, DL.putM, DL.pick, DL.muks, DL.nthN, DL.bkE, DL.st0, DL.nos, List.cons_append, List.nil_append, List.append_nil, List.drop_succ_cons, List.drop_nil, List.drop_zero, List.drop, DL.a1, DL.a2, DL.a3, DL.cMin3, DL.aNil, DL.aCons, DL.dVar, DL.dC, DL.iI, DL.i1, DL.isB, DL.daI, DL.onE, DL.gN, List.length_cons, List.length_nil, Nat.reduceAdd, Nat.zero_add]
      simp only [List.append_nil]
      obtain ⟨k2, hk3, rfl⟩ := List.mem_map.mp hd
      obtain ⟨x, hx, ex⟩ := at_get (l := [k, k2]) (f := PyData.int) v0 (of_decide_eq_true e)
      refine onO_mk rfl ⟨_, ex, _, rfl, _, rfl, onO_mk rfl ?_⟩
      refine ⟨m2, ⟨p.day, x, p.house, p.deed⟩, by omega, pq x ?_, by (simp only [DL.clA, DL.clS, DL.killL, DL.limL, DL.limE_mu, DL.limE_da, DL.limE_no, DL.takM, DL.limM, DL.frzS, DL.subL, DL.subE_mu, DL.subE_da, DL.subE_no, DL.subS, DL.subM, DL.S.sE, DL.S.sM, DL.S.aM, DL.S.cM, DL.st, DL.gt, DL.sm, DL.gm, DL.putM, DL.pick, DL.muks, DL.nthN, DL.bkE, DL.st0, DL.nos, List.cons_append, List.nil_append, List.append_nil, List.drop_succ_cons, List.drop_nil, List.drop_zero, List.length_cons, List.length_nil, List.map_cons, List.map_nil, List.map_append, Nat.reduceAdd, Nat.zero_add, Nat.reduceLT, Nat.reduceEqDiff, if_true, if_false, ↓reduceIte, Nat.lt_irrefl, Nat.not_lt_zero] <;> rfl)⟩
      rcases List.mem_cons.mp hx with rfl | hx
      · exact nok W4
      · rw [List.mem_singleton.mp hx]
        exact nin W4 k2 hk3
    rintro s ⟨m2, p2, hm2, hp2, rfl⟩
    refine onO_mk rfl ?_
    refine ⟨_, _, AdjE.refl, ?_⟩
    exact hk m2 W4 (.retell k p2) (by omega) ⟨nw, hp2, nok W4, fun _ z => nomatch z⟩
  refine ⟨nd1, rfl, by omega, divA 10 (by decide) (by decide), fun v v0 v1 => ⟨rfl, ?_⟩⟩
  try dsimp only [DL.S.sE, DL.S.sM, DL.S.aM, DL.S.cM, DL.st, DL.gt, DL.sm, DL.gm, DL.putM, DL.pick, DL.muks, DL.nthN, DL.bkE, DL.st0, DL.nos, List.cons_append, List.nil_append, List.append_nil, List.drop_succ_cons, List.drop_nil, List.drop_zero, List.drop, DL.a1, DL.a2, DL.a3, DL.cMin3, DL.aNil, DL.aCons, DL.dVar, DL.dC, DL.iI, DL.i1, DL.isB, DL.daI, DL.onE, DL.gN, List.length_cons, List.length_nil, Nat.reduceAdd, Nat.zero_add]
  simp only [List.append_nil]
  refine ⟨fun _ => ?_, fun _ => go (n - 1 - 1) 3 (by omega) (.inr rfl)⟩
  refine ⟨nd1, rfl, _, _, n - 1 - 1, [], rfl, rfl, .inl ⟨rfl, rfl⟩, by rw [List.length_map]; exact N0, by rw [List.length_map]; omega, by omega, fun m2 d hm2 hd => ⟨rfl, ?_⟩⟩
  try dsimp only [DL.S.sE, DL.S.sM, DL.S.aM, DL.S.cM, DL.st, DL.gt, DL.sm, DL.gm, DL.putM, DL.pick, DL.muks, DL.nthN, DL.bkE, DL.st0, DL.nos, List.cons_append, List.nil_append, List.append_nil, List.drop_succ_cons, List.drop_nil, List.drop_zero, List.drop, DL.a1, DL.a2, DL.a3, DL.cMin3, DL.aNil, DL.aCons, DL.dVar, DL.dC, DL.iI, DL.i1, DL.isB, DL.daI, DL.onE, DL.gN, List.length_cons, List.length_nil, Nat.reduceAdd, Nat.zero_add]
  simp only [List.append_nil]
  obtain ⟨k, hk2, rfl⟩ := List.mem_map.mp hd
  exact go m2 k (by omega) (.inl hk2)
def sp_Book_retell : SpX := fun xs ms Ks Kx => ∃ (pre : List MO) (B : BkP) (tl : List MO) (t : Nat) (ps : List Page) (n : Int) (p : Page), xs = [.mu pre.length, .da (.int n), .da (pgD p)] ∧ ms = bkMs pre B tl ∧ B.kvs = pgK ps ∧ t < pre.length ∧ gm pre t = .tab "Book.heap" ∧ (ps.map (·.num)).Nodup ∧ ps.length < 500 ∧ B.fs.length < 500 ∧ B.ds.length < 500 ∧
  (n ∉ ps.map (·.num) → Kx ms "NoPage") ∧ (n ∈ ps.map (·.num) → p.num ≠ n → p.num ∈ ps.map (·.num) → Kx ms "Twice") ∧ (∀ q ∈ ps, q.num = n → (p.num = n ∨ p.num ∉ ps.map (·.num)) → Ks (bkMs pre ⟨B.t, pgK (dropP ps n ++ [p]), B.fs ++ [sq (.mu (bkMs pre B tl).length)], B.ds ++ [.list (heapL (dropP ps n ++ [p]))]⟩ (tl ++ [recO (.retold q p)])) (.da .none))
theorem ok_Book_retell (T : Tx K mg) (o_Book_ask_new : OkMX P w K mg base 1 "Book" "ask_new" "Book.ask_new" s_Book_ask_new ["self", "number"] 2 sp_Book_ask_new) (o_Book_ask_number : OkMX P w K mg base 1 "Book" "ask_number" "Book.ask_number" s_Book_ask_number ["self", "number"] 2 sp_Book_ask_number) (o_Book_note : OkM P w K mg base 5 "Book" "note" "Book.note" s_Book_note ["self"] 1 sp_Book_note) (o_RetoldDeed_init : OkI P w K mg base 5 "RetoldDeed" "RetoldDeed.__init__" s_RetoldDeed_init ["self", "page", "later"] 3 sp_RetoldDeed_init) : OkMX P w K mg base 7 "Book" "retell" "Book.retell" s_Book_retell ["self", "number", "page"] 3 sp_Book_retell := by
  refine ok_dataMX (n0 := 0) T.d_Book_retell sc_Book_retell _ (fun f cdv A outer s H E hr tk =>
  (dsx_cons (dsx_exp (dex_meth tk o_Book_ask_number (hr.mono (by omega)) (dv 0) (dan_cons (dv 1) dan_nil)))
  (dsx_cons (dsx_if (dt_neD (hu64 hr) (de_ix (dv 2) de_int) (dv 1))
    (dsx_one (dsx_exp (dex_meth tk o_Book_ask_new (hr.mono (by omega)) (dv 0) (dan_cons (de_ix (dv 2) de_int) dan_nil))))
    (DSs.x dss_nil))
  (dsx_cons (DS.x (ds_exp (de_appS (de_fld T.f_Book_past (dv 0)) (de_make o_RetoldDeed_init (hr.mono (by omega)) (by rfl) (dan_cons (de_popG (de_fld T.f_Book_pages (dv 0)) (dv 1)) (dan_cons (dv 2) dan_nil))))))
  (dsx_cons (DS.x (ds_asg (dv 2) (dg_setG (hu1 hr) (de_fld T.f_Book_pages (dv 0)) (de_ix (dv 2) de_int))))
  (dsx_one (DS.x (ds_exp (de_meth0 o_Book_note (hr.mono (by omega)) (dv 0)))))))))) (fun xs ms Ks Kx h hl => ?_)
  unfold sp_Book_retell at h
  obtain ⟨pre, B, tl, t, ps, n, p, rfl, rfl, hB, ht, gt, nd, l1, l2, l3, h1, h2, h3⟩ := h
  have gt' : ∀ r, gm (pre ++ r) t = .tab "Book.heap" := fun r => by rw [gm_low ht]; exact gt
  refine seqXU fun u0 hu0 => ?_
  refine ⟨pre.length, _, _, rfl, b_0, List.mem_singleton.mpr rfl, rfl, ?_⟩
  refine ⟨pre, B, tl, n, rfl, rfl, fun e => h1 ?_, fun e => ?_⟩
  · rw [hB, pgK_has] at e
    exact of_decide_eq_false e
  rw [hB, pgK_has] at e
  have hn : n ∈ ps.map (·.num) := of_decide_eq_true e
  obtain ⟨q, hq, en, hf⟩ := pgK_at nd hn
  clear h1
  have iok : ∀ k : Int, SeqAt.shaped (.int k) = true := fun k => (Ok2.int (k := 0) (i := k)).sh (by decide)
  show u0 ⟨[.mu pre.length, .da (.int n), .da (pgD p)], bkMs pre B tl, (bkMs pre B tl).length⟩ _ _
  rw [hu0]; clear hu0 u0
  refine seqXU fun u hu => ?_
  have rest : (p.num = n ∨ p.num ∉ ps.map (·.num)) → u ⟨[.mu pre.length, .da (.int n), .da (pgD p)], bkMs pre B tl, (bkMs pre B tl).length⟩ (endT Ks) fun s c => Kx s.ms c := fun hp => by
    rw [hu]; clear hu u
    have h3 := h3 q hq en hp
    have hp2 : p.num ∉ (dropP ps n).map (·.num) := fun z => by
      obtain ⟨z1, z2⟩ := dropP_num.mp z
      exact hp.elim (fun e => z2 e) fun e => e z1
    refine seqXU fun u hu => ?_
    refine ⟨pre.length, _, _, rfl, b_0, List.mem_singleton.mpr rfl, _, rfl, ?_⟩
    refine isLstS_mk b_2 ?_
    refine ⟨pre.length, _, _, rfl, b_0, List.mem_singleton.mpr rfl, _, rfl, ⟨_, _, rfl, b_1⟩, _, _, _, rfl, b_1, by rw [hB]; exact hf, ?_⟩
    have e1 : sm (bkMs pre B tl) (pre.length + 1) (.dct (dropD B.kvs (.inl n))) = bkMs pre { B with kvs := pgK (dropP ps n) } tl := by rw [hB, dropP_K]; exact c_1 _
    have mk : ∀ (M : List MO) (Kt : List MO → En → Prop), Kt (M ++ [recO (.retold q p)]) (.da .none) → sp_RetoldDeed_init [.mu M.length, .da (pgD q), .da (pgD p)] (M ++ [.ins (.obj "RetoldDeed") []]) Kt := fun M Kt hK => ⟨M, q, p, rfl, rfl, hK⟩
    dsimp only [aNil, aCons, dVar, onE]
    try dsimp only [DL.S.sE, DL.S.sM, DL.S.aM, DL.S.cM, DL.st, DL.gt, DL.sm, DL.gm, DL.putM, DL.pick, DL.muks, DL.nthN, DL.bkE, DL.st0, DL.nos, List.cons_append, List.nil_append, List.append_nil]
    refine mk _ _ ?_
    refine ⟨rfl, ?_⟩
    have e2 : sm (bkMs pre B tl) (pre.length + 1) (.dct (dropD B.kvs (.inl n))) ++ [recO (.retold q p)] = bkMs pre { B with kvs := pgK (dropP ps n) } (tl ++ [recO (.retold q p)]) := by rw [e1, b_app]
    have el : (sm (bkMs pre B tl) (pre.length + 1) (.dct (dropD B.kvs (.inl n)))).length = (bkMs pre B tl).length := sm_length _ _ _
    show isLstS (S.mk _ (sm (bkMs pre B tl) (pre.length + 1) (.dct (dropD B.kvs (.inl n))) ++ [recO (.retold q p)]) _) _ _
    rw [e2]
    refine isLstS_mk b_2 ?_
    refine ⟨sz (by show B.fs.length < 1000; omega), ?_⟩
    rw [el]
    try dsimp only [DL.S.sE, DL.S.sM, DL.S.aM, DL.S.cM, DL.st, DL.gt, DL.sm, DL.gm, DL.putM, DL.pick, DL.muks, DL.nthN, DL.bkE, DL.st0, DL.nos, List.cons_append, List.nil_append, List.append_nil]
    rw [c_2, hu]; clear hu u
    refine seqXU fun u hu => ?_
    refine ⟨pre.length, _, _, rfl, b_0, List.mem_singleton.mpr rfl, _, rfl, _, rfl, _, rfl, .inl ⟨_, _, b_1, rfl, by rw [pgK_len]; exact sz (by have := dropP_len (ps := ps) (n := n); omega), ?_⟩⟩
    dsimp only
    rw [pgK_put (by rw [pgK_has]; exact decide_eq_false hp2), c_1, hu]; clear hu u
    refine ⟨pre.length, _, _, rfl, b_0, List.mem_singleton.mpr rfl, rfl, ?_⟩
    refine ⟨pre, _, _, t, dropP ps n ++ [p], rfl, rfl, rfl, gt' _, by show B.ds.length < 1000; omega, ?_⟩
    exact h3
  refine ⟨_, rfl, onO_mk rfl (onO_mk rfl ⟨iok _, iok _, fun e => ?_, fun e => ?_⟩)⟩
  · rw [ne_int] at e
    have ne := of_decide_eq_true e
    refine ⟨pre.length, _, _, rfl, b_0, List.mem_singleton.mpr rfl, rfl, ?_⟩
    refine ⟨_, rfl, pre, B, tl, p.num, rfl, rfl, fun e2 => ?_, fun e2 => ?_⟩
    · rw [hB, pgK_has] at e2
      exact h2 hn ne (of_decide_eq_true e2)
    · rw [hB, pgK_has] at e2
      exact rest (.inr (of_decide_eq_false e2))
  · rw [ne_int] at e
    exact rest (.inl (Decidable.byContradiction fun z => of_decide_eq_false e z))
def sp_tried : SpD := fun xs ms Ks => ∃ (b t : Nat) (tm : D) (bp : List Page) (rs : List (Nat × Rec)) (st : List (List Page)) (d : Dh), xs = [.mu b, .da (dhD d)] ∧ BkR ms b tm bp rs st ∧ t < b ∧ gm ms t = .tab "Book.heap" ∧ bp.length < 490 ∧ rs.length < 490 ∧ st.length < 490 ∧ (∀ rs0 i r, rs = rs0 ++ [(i, r)] → unOk r bp) ∧
  (dueW bp rs.isEmpty d ≠ Str.ofString "" → Ks ms (.da (.str (dueW bp rs.isEmpty d)))) ∧
  (fineD bp d → ∀ (ms' : List MO) (r : Rec), FrB ms ms' [b, b + 1, b + 2, b + 3] → recIs bp d r → BkR ms' b tm (nextP bp d) (rs ++ [(ms.length, r)]) (st ++ [hpP (nextP bp d)]) → Ks ms' (.da (.str ""))) ∧
  (d = .undo → ∀ (rs0 : List (Nat × Rec)) (i : Nat) (r : Rec), rs = rs0 ++ [(i, r)] → ∀ ms' : List MO, FrB ms ms' [b, b + 1, b + 2, b + 3] → BkR ms' b tm (unB r bp) rs0 (st ++ [hpP (unB r bp)]) → Ks ms' (.da (.str "")))
theorem ok_tried (T : Tx K mg) (o_Book_retell : OkMX P w K mg base 7 "Book" "retell" "Book.retell" s_Book_retell ["self", "number", "page"] 3 sp_Book_retell) (o_Book_say : OkMX P w K mg base 6 "Book" "say" "Book.say" s_Book_say ["self", "page"] 2 sp_Book_say) (o_Book_undo : OkMX P w K mg base 6 "Book" "undo" "Book.undo" s_Book_undo ["self"] 1 sp_Book_undo) (o_Book_unsay : OkMX P w K mg base 6 "Book" "unsay" "Book.unsay" s_Book_unsay ["self", "number"] 2 sp_Book_unsay) (o_class : Ok P w K mg base 1 "_law_class" s_class ["_law_caught"] 1 sp_class) : Ok P w K mg base 8 "_law_tried" s_tried ["_law_book", "_law_deed_here"] 2 sp_tried := by
  refine ok_dataT (n0 := 3) T.d_tried sc_tried _ (fun f cdv A outer s H E hr =>
  (dss_clo (dss_rta (dss_cons (ds_asg (de_tup (dan_cons de_non (dan_cons de_non dan_nil))) (dg_tup (n := 2) rfl (dgs_cons (dg_name (i := 2) sc_tried.nd rfl (by first | exact .inl rfl | exact .inr rfl)) (dgs_cons (dg_name (i := 3) sc_tried.nd rfl (by first | exact .inl rfl | exact .inr rfl)) dgs_nil))))
  (dss_cons (ds_try (i := 4) (j := 2) (cs := ["NoDeed", "NoPage", "Twice"]) rfl rfl rfl sc_tried.nd rfl rfl (by decide) rfl (by first | exact .inl rfl | exact .inr rfl) (by first | exact .inl rfl | exact .inr (.inl rfl) | exact .inr (.inr rfl)) T.m_BondError rfl (fun W pq xe tk po =>
    (dsx_one (dsx_if (dt_eqS (de_ix (dv 1) de_int) de_str)
      (dsx_one (dsx_set (i := 3) sc_tried.nd rfl (by first | exact .inl rfl | exact .inr rfl) (dex_meth tk o_Book_say (hr.mono (by omega)) (dv 0) (dan_cons (de_ix (dv 1) de_int) dan_nil))))
      (dsx_one (dsx_if (dt_eqS (de_ix (dv 1) de_int) de_str)
        (dsx_one (dsx_set (i := 3) sc_tried.nd rfl (by first | exact .inl rfl | exact .inr rfl) (dex_meth tk o_Book_unsay (hr.mono (by omega)) (dv 0) (dan_cons (de_ix (dv 1) de_int) dan_nil))))
        (dsx_one (dsx_if (dt_eqS (de_ix (dv 1) de_int) de_str)
          (dsx_one (dsx_set (i := 3) sc_tried.nd rfl (by first | exact .inl rfl | exact .inr rfl) (dex_meth tk o_Book_retell (hr.mono (by omega)) (dv 0) (dan_cons (de_ix (dv 1) de_int) (dan_cons (de_ix (dv 1) de_int) dan_nil)))))
          (dsx_one (dsx_set (i := 3) sc_tried.nd rfl (by first | exact .inl rfl | exact .inr rfl) (dex_meth0 tk o_Book_undo (hr.mono (by omega)) (dv 0))))))))))))
  (dss_cons (ds_if (dt_isNx (dv 2) de_non)
    (dss_one (ds_ret (de_if (dt_isN (dv 3) de_non) de_str de_str)))
    dss_nil)
  (dss_one (ds_ret (de_callT o_class (hr.mono (by omega)) (by rfl) (dan_cons (dv 2) dan_nil)))))))))) (fun xs ms Ks h hl => ?_)
  unfold sp_tried at h
  obtain ⟨b, t, tm, bp, rs, st, d, rfl, R, tb, gt, l1, l2, l3, huo, h1, h2, h3⟩ := h
  intro cl
  replace cl : Clo ms := cl
  refine seqU fun u hu => ?_
  refine onO_mk rfl ⟨rfl, ?_⟩
  show u ⟨[.mu b, .da (dhD d), .da .none, .da .none, .no], ms, ms.length⟩ _
  rw [hu]; clear hu u
  refine seqU fun u hu => ?_
  have err : ∀ c : Str, (c = "Twice" ∨ c = "NoPage" ∨ c = "NoDeed") → Ks ms (.da (.str c)) → u ⟨[.mu b, .da (dhD d), .mu ms.length, .da .none, .no], ms ++ [.ins (.exc c) []], ms.length⟩ (rtD (endT Ks)) := fun c hc hK => by
    rw [hu]
    refine ⟨⟨_, _, gm_at0⟩, ff ?_⟩
    refine ⟨ms.length, c, rfl, gm_at0, hc, ?_⟩
    refine ⟨_, _, AdjE.cut ms.length (Nat.le_refl _), ?_⟩
    show Ks (takM ms.length ms.length (ms ++ [.ins (.exc c) []])) (.da (.str c))
    rw [Clo.app cl]
    exact hK
  have okk : ∀ M : List MO, Ks M (.da (.str "")) → u ⟨[.mu b, .da (dhD d), .da .none, .da .none, .no], M, ms.length⟩ (rtD (endT Ks)) := fun M hK => by
    rw [hu]
    refine tt (tt ?_)
    exact ⟨_, _, AdjE.refl, hK⟩
  clear hu
  obtain ⟨fm, fl⟩ := R.form
  have gtt : gm (ms.take b) t = .tab "Book.heap" := by
    have e : gm (bkMs (ms.take b) ⟨tm, pgK bp, muS (rs.map (·.1)), st.map hD⟩ (ms.drop (b + 4))) t = gm (ms.take b) t := gm_low (by rw [fl]; exact tb)
    rw [← e, ← fm]
    exact gt
  have lf : (muS (rs.map (·.1))).length < 500 := by unfold muS; rw [List.length_map, List.length_map]; omega
  have ls : (st.map hD).length < 500 := by rw [List.length_map]; omega
  have lm : (bkMs (ms.take b) ⟨tm, pgK bp, muS (rs.map (·.1)), st.map hD⟩ (ms.drop (b + 4))).length = ms.length := by rw [← fm]
  have mo : ∀ (bp' : List Page) (r : Rec), (bp'.map (·.num)).Nodup → recIs bp d r → fineD bp d → bp' = nextP bp d → ∀ M : List MO, M = bkMs (ms.take b) ⟨tm, pgK bp', muS (rs.map (·.1)) ++ [sq (.mu (bkMs (ms.take b) ⟨tm, pgK bp, muS (rs.map (·.1)), st.map hD⟩ (ms.drop (b + 4))).length)], st.map hD ++ [.list (heapL bp')]⟩ (ms.drop (b + 4) ++ [recO r]) → u ⟨[.mu b, .da (dhD d), .da .none, .da .none, .no], M, ms.length⟩ (rtD (endT Ks)) := fun bp' r nd hr hf e M hM => by
    rw [lm, heapL_eq] at hM
    obtain ⟨F1, R1⟩ := R.more (bp' := bp') (rec := r) (h := hpP bp') nd
    refine okk M ?_
    rw [hM]
    subst e
    exact h2 hf _ r F1 hr R1
  cases d with
  | say p =>
    refine ⟨_, rfl, fun _ => ?_, fun z => absurd z (by decide +kernel)⟩
    refine ⟨b, _, _, rfl, R.g0, List.mem_singleton.mpr rfl, rfl, ?_⟩
    refine ⟨_, rfl, ms.take b, ⟨tm, pgK bp, muS (rs.map (·.1)), st.map hD⟩, ms.drop (b + 4), t, bp, p, by rw [fl], fm, rfl, by rw [fl]; exact tb, gtt, by omega, lf, ls, fun e => ?_, fun e => ?_⟩
    · rw [pgK_has] at e
      have e2 := of_decide_eq_true e
      refine ⟨by decide, rfl, err _ (.inl rfl) ?_⟩
      have := h1
      dsimp only [dueW] at this
      rw [if_pos e2] at this
      exact this (by decide)
    · rw [pgK_has] at e
      have hn : p.num ∉ bp.map (·.num) := of_decide_eq_false e
      exact mo (bp ++ [p]) (.said p.num) (nd_snoc R.nd hn) rfl hn rfl _ rfl
  | unsay n =>
    refine ⟨_, rfl, fun z => absurd z (by decide +kernel), fun _ => ?_⟩
    refine ⟨_, rfl, fun _ => ?_, fun z => absurd z (by decide +kernel)⟩
    refine ⟨b, _, _, rfl, R.g0, List.mem_singleton.mpr rfl, rfl, ?_⟩
    refine ⟨_, rfl, ms.take b, ⟨tm, pgK bp, muS (rs.map (·.1)), st.map hD⟩, ms.drop (b + 4), t, bp, n, by rw [fl], fm, rfl, by rw [fl]; exact tb, gtt, R.nd, by omega, lf, ls, fun e => ?_, fun q hq en => ?_⟩
    · refine ⟨by decide, rfl, err _ (.inr (.inl rfl)) ?_⟩
      have := h1
      dsimp only [dueW] at this
      rw [if_neg e] at this
      exact this (by decide)
    · exact mo (dropP bp n) (.unsaid q) (dropP_nd R.nd) ⟨q, hq, en, rfl⟩ (List.mem_map.mpr ⟨q, hq, en⟩) rfl _ rfl
  | retell n p =>
    refine ⟨_, rfl, fun z => absurd z (by decide +kernel), fun _ => ?_⟩
    refine ⟨_, rfl, fun z => absurd z (by decide +kernel), fun _ => ?_⟩
    refine ⟨_, rfl, fun _ => ?_, fun z => absurd z (by decide +kernel)⟩
    refine ⟨b, _, _, rfl, R.g0, List.mem_singleton.mpr rfl, rfl, ?_⟩
    refine ⟨_, rfl, _, rfl, ms.take b, ⟨tm, pgK bp, muS (rs.map (·.1)), st.map hD⟩, ms.drop (b + 4), t, bp, n, p, by rw [fl], fm, rfl, by rw [fl]; exact tb, gtt, R.nd, by omega, lf, ls, fun e => ?_, fun e e2 e3 => ?_, fun q hq en hp => ?_⟩
    · refine ⟨by decide, rfl, err _ (.inr (.inl rfl)) ?_⟩
      have := h1
      dsimp only [dueW] at this
      rw [if_neg e] at this
      exact this (by decide)
    · refine ⟨by decide, rfl, err _ (.inl rfl) ?_⟩
      have := h1
      dsimp only [dueW] at this
      rw [if_pos e, if_pos ⟨e2, e3⟩] at this
      exact this (by decide)
    · have hn : n ∈ bp.map (·.num) := List.mem_map.mpr ⟨q, hq, en⟩
      exact mo (dropP bp n ++ [p]) (.retold q p) (fine_nd (d := .retell n p) R.nd ⟨hn, hp⟩) ⟨q, hq, en, rfl⟩ ⟨hn, hp⟩ rfl _ rfl
  | undo =>
    refine ⟨_, rfl, fun z => absurd z (by decide +kernel), fun _ => ?_⟩
    refine ⟨_, rfl, fun z => absurd z (by decide +kernel), fun _ => ?_⟩
    refine ⟨_, rfl, fun z => absurd z (by decide +kernel), fun _ => ?_⟩
    refine ⟨b, _, _, rfl, R.g0, List.mem_singleton.mpr rfl, rfl, ?_⟩
    refine ⟨ms.take b, ⟨tm, pgK bp, muS (rs.map (·.1)), st.map hD⟩, ms.drop (b + 4), t, bp, by rw [fl], fm, rfl, by rw [fl]; exact tb, gtt, R.nd, by omega, ls, ?_⟩
    rcases List.eq_nil_or_concat rs with e | ⟨rs0, x, e⟩
    · refine .inl ⟨by rw [e]; rfl, by decide, rfl, err _ (.inr (.inr rfl)) ?_⟩
      have := h1
      dsimp only [dueW] at this
      rw [e, if_pos (show ([] : List (Nat × Rec)).isEmpty = true from rfl)] at this
      exact this (by decide)
    · rw [List.concat_eq_append] at e
      subst e
      have uo := huo rs0 x.1 x.2 rfl
      refine .inr ⟨rs0.map (·.1), x.1, x.2, by rw [List.map_append]; rfl, R.gr x (List.mem_append_right _ (.head _)), uo, ?_⟩
      obtain ⟨F1, R1⟩ := R.less (bp' := unB x.2 bp) (h := hpP (unB x.2 bp)) (unB_nd R.nd uo)
      rw [heapL_eq]
      exact okk _ (h3 rfl rs0 x.1 x.2 rfl _ F1 R1)
def sp_deed_right : SpD := fun xs ms Ks => ∃ (q ta tb : Nat) (tm t0 : D) (kj : Nat) (bp kp : List Page) (rs : List (Nat × Rec)) (ks : List (Nat × List Page)) (st : List (List Page)) (M : Nat) (d : Dh), xs = [.mu (q + 2), .da (dhD d)] ∧ KSt ms q tm t0 kj bp kp rs ks st M ∧ ta < q ∧ gm ms ta = .tab "Book.heap" ∧ tb < q ∧ gm ms tb = .tab "_law_heap_of" ∧ pgsOk d ∧ M < 480 ∧ rs.length < 480 ∧ st.length < 480 ∧
  ∀ (ms' : List MO) (kj' : Nat) (bp' kp' : List Page) (rs' : List (Nat × Rec)) (ks' : List (Nat × List Page)) (st' : List (List Page)), FrB ms ms' [q + 2, q + 3, q + 4, q + 5, q + 6, q + 8, q + 9, kj] → KSt ms' q tm t0 kj' bp' kp' rs' ks' st' (M + growD d) → StepK ms.length kj kp ks d kj' kp' ks' → rs'.length ≤ rs.length + 1 → st'.length ≤ st.length + 1 → st'.length = st.length + (if dueW kp ks.isEmpty d = Str.ofString "" then 1 else 0) → Ks ms' (.da (.bool true))
theorem ok_deed_right (T : Tx K mg) (o_Book_heap : OkM P w K mg base 4 "Book" "heap" "Book.heap" s_Book_heap ["self"] 1 sp_Book_heap) (o_due_word : Ok P w K mg base 1 "_law_due_word" s_due_word ["_law_kept", "_law_deed_here"] 2 sp_due_word) (o_kept_on : Ok P w K mg base 5 "_law_kept_on" s_kept_on ["_law_kept", "_law_deed_here"] 2 sp_kept_on) (o_tried : Ok P w K mg base 8 "_law_tried" s_tried ["_law_book", "_law_deed_here"] 2 sp_tried) : Ok P w K mg base 9 "_law_deed_right" s_deed_right ["_law_kept", "_law_deed_here"] 2 sp_deed_right := by
  refine ok_dataT (n0 := 2) T.d_deed_right sc_deed_right _ (fun f cdv A outer s H E hr =>
  (dss_clo (dss_rta (dss_cons (ds_set (i := 2) sc_deed_right.nd rfl (by first | exact .inl rfl | exact .inr rfl) (de_callT o_due_word (hr.mono (by omega)) (by rfl) (dan_cons (dv 0) (dan_cons (dv 1) dan_nil))))
  (dss_cons (ds_if (dt_neS (de_callT o_tried (hr.mono (by omega)) (by rfl) (dan_cons (de_dgetG (hu1 hr) (dv 0) de_str) (dan_cons (dv 1) dan_nil))) (dv 2))
    (dss_one (ds_ret de_bl))
    dss_nil)
  (dss_cutA [1, 2, 3] (ds_if (dt_eqS (dv 2) de_str)
    (dss_one (ds_exp (de_callT o_kept_on (hr.mono (by omega)) (by rfl) (dan_cons (dv 0) (dan_cons (dv 1) dan_nil)))))
    dss_nil)
  (dss_cons (ds_set (i := 3) sc_deed_right.nd rfl (by first | exact .inl rfl | exact .inr rfl) (de_meth0 o_Book_heap (hr.mono (by omega)) (de_dgetG (hu1 hr) (dv 0) de_str)))
  (dss_cons (ds_if (dt_bool (dw_or (dt_not (dt_val (de_isi .list (by rfl) (T.b_isinstance) (by rfl) (T.b_list) (by decide +kernel) (dv 3)))) (dw_or1 (dt_neD (hu64 hr) (dv 3) (de_ix (de_dgetG (hu1 hr) (dv 0) de_str) (de_neg de_int))))))
    (dss_one (ds_ret de_bl))
    dss_nil)
  (dss_cons (ds_exp (de_met0 PySem.F.slot_list_reverse PySem.F.type_list_reverse mt_reverse md_reverse (dv 3)))
  (dss_cons (ds_exp (de_append (dv 3) de_str))
  (dss_one (ds_ret de_bl)))))))))))) (fun xs ms Ks h hl => ?_)
  unfold sp_deed_right at h
  obtain ⟨q, ta, tb, tm, t0, kj, bp, kp, rs, ks, st, M, d, rfl, H, la, ga, lb, gb, po, m0, l2, l4, hk⟩ := h
  intro cl
  replace cl : Clo ms := cl
  have K := H.K
  have R := H.R
  have lo := K.lo
  have le := H.le
  have lrk := H.len
  have lbp : bp.length = kp.length := H.pm.length_eq
  refine seqU fun u hu => ?_
  refine ⟨q, t0, kj, kp, ks, st, d, rfl, K, ?_⟩
  show u ⟨[.mu (q + 2), .da (dhD d), .da (.str (dueW kp ks.isEmpty d)), .no], ms, ms.length⟩ _
  rw [hu]; clear hu u
  have off : ∀ x : Nat, x ≠ q + 3 → x ≠ q + 4 → x ≠ q + 5 → x ≠ q + 6 → x ∉ [q + 3, q + 3 + 1, q + 3 + 2, q + 3 + 3] := fun x a b c d z => by
    simp only [List.mem_cons, List.not_mem_nil, or_false] at z
    omega
  have foot : ∀ x : Nat, x < q → x ∉ [q + 2, q + 3, q + 4, q + 5, q + 6, q + 8, q + 9, kj] := fun x a z => by
    simp only [List.mem_cons, List.not_mem_nil, or_false] at z
    omega
  have tail : ∀ (ms1 : List MO) (kj1 : Nat) (bp1 kp1 : List Page) (rs1 : List (Nat × Rec)) (ks1 : List (Nat × List Page)) (st1 : List (List Page)), FrB ms ms1 [q + 2, q + 3, q + 4, q + 5, q + 6, q + 8, q + 9, kj] → KSt ms1 q tm t0 kj1 bp1 kp1 rs1 ks1 st1 (M + growD d) → StepK ms.length kj kp ks d kj1 kp1 ks1 → rs1.length ≤ rs.length + 1 → st1.length ≤ st.length + 1 → st1.length = st.length + (if dueW kp ks.isEmpty d = Str.ofString "" then 1 else 0) →
      (sSeq (sAsg (dMeth (Str.ofString "Book") (Str.ofString "heap") sp_Book_heap (dGetG (dVar 0) (dC (PyData.str (Str.ofString "book")))) aNil) (gN 3)) (sSeq (sIf (DL.tOr (DL.tNot (tT (dIsi Ty.list (dVar 3)))) (tT (dNeD (dVar 3) (dIx (dGetG (dVar 0) (dC (PyData.str (Str.ofString "states")))) (dNeg (dC (PyData.int 1))))))) (sRet (dC (PyData.bool false))) sNil) (sSeq (sExp (dMet mReverse (dVar 3) aNil)) (sSeq (sExp (dMet mAppend (dVar 3) (aCons (dC (PyData.str (Str.ofString "spoilt"))) aNil))) (sRet (dC (PyData.bool true))))))) ⟨[.mu (q + 2), .no, .no, .no], ms1, ms.length⟩ (rtD (endT Ks)) := fun ms1 kj1 bp1 kp1 rs1 ks1 st1 F H1 sk a1 a2 a3 => by
    have K1 := H1.K
    have R1 := H1.R
    have gd : growD d ≤ 1 := by cases d <;> first | exact Nat.le_refl 1 | exact Nat.zero_le 1
    have le1 := H1.le
    obtain ⟨fm, fl⟩ := R1.form
    have ga1 : gm ms1 ta = .tab "Book.heap" := F.at ga (fun z => nomatch z) (foot _ la)
    refine seqU fun u hu => ?_
    refine ⟨_, _, rfl, K1.book, q + 3, _, _, rfl, R1.g0, List.mem_singleton.mpr rfl, rfl, ?_⟩
    refine ⟨ms1.take (q + 3), ⟨tm, pgK bp1, muS (rs1.map (·.1)), st1.map hD⟩, ms1.drop (q + 3 + 4), ta, bp1, by rw [fl], fm, rfl, ga1, .inr ?_⟩
    rw [← b_app, ← fm, heapL_eq, hpP_eq H1.pm K1.nd]
    show u ⟨[.mu (q + 2), .no, .no, .mu ms1.length], ms1 ++ [.lst ((hpP kp1).map pgD)], ms.length⟩ _
    rw [hu]; clear hu u
    have ok := hp_ok H1.ok (by omega)
    have nil : ∀ x : Nat, x ∉ ([] : List Nat) := fun _ => List.not_mem_nil
    have FA : ∀ r, FrB ms1 (ms1 ++ r) [] := fun r => FrB.app
    have K2 : ∀ r, KpR (ms1 ++ r) q t0 kj1 kp1 ks1 st1 := fun r => K1.fr (FA r) (nil _) (nil _) (nil _) (nil _) fun _ _ => nil _
    have vwl : vw (S.mk [.mu (q + 2), .no, .no, .mu ms1.length] (ms1 ++ [.lst ((hpP kp1).map pgD)]) ms.length) (.mu ms1.length) = some (.list ((hpP kp1).map pgD)) := vw_l gm_at0
    have vws : vw (S.mk [.mu (q + 2), .no, .no, .mu ms1.length] (ms1 ++ [.lst ((hpP kp1).map pgD)]) ms.length) (.mu (q + 9)) = some (.list (st1.map hD)) := vw_l (K2 _).g9
    refine seqU fun u hu => ?_
    refine onO_mk vwl (ff ?_)
    refine ⟨_, _, rfl, (K2 _).states, ?_⟩
    refine onO_mk vws ⟨_, at_last H1.last, ?_⟩
    refine onO_mk vwl (onO_mk rfl ⟨ok.sh (by decide), ok.sh (by decide), fun z => ?_, fun _ => ?_⟩)
    · rw [show PyData.eqv (.list ((hpP kp1).map pgD)) (hD (hpP kp1)) = true from ok.refl] at z
      cases z
    dsimp only [sNil]
    rw [hu]; clear hu u
    refine seqU fun u hu => ?_
    unfold sSeq sExp dMet
    try dsimp only [DL.S.sE, DL.S.sM, DL.S.aM, DL.S.cM, DL.st, DL.gt, DL.sm, DL.gm, DL.putM, DL.pick, DL.muks, DL.nthN, DL.bkE, DL.st0, DL.nos, List.cons_append, List.nil_append, List.append_nil, List.drop_succ_cons, List.drop_nil, List.drop_zero, List.drop, DL.a1, DL.a2, DL.a3, DL.cMin3, DL.aNil, DL.aCons, DL.dVar, DL.dC, DL.iI, DL.i1, DL.isB, DL.daI, DL.onE, DL.gN, List.length_cons, List.length_nil, Nat.reduceAdd, Nat.zero_add]
    refine mu1_mk (s := S.mk _ _ _) gm_at0 ?_
    try dsimp only [DL.S.sE, DL.S.sM, DL.S.aM, DL.S.cM, DL.st, DL.gt, DL.sm, DL.gm, DL.putM, DL.pick, DL.muks, DL.nthN, DL.bkE, DL.st0, DL.nos, List.cons_append, List.nil_append, List.append_nil, List.drop_succ_cons, List.drop_nil, List.drop_zero, List.drop, DL.a1, DL.a2, DL.a3, DL.cMin3, DL.aNil, DL.aCons, DL.dVar, DL.dC, DL.iI, DL.i1, DL.isB, DL.daI, DL.onE, DL.gN, List.length_cons, List.length_nil, Nat.reduceAdd, Nat.zero_add]
    refine mu1_mk (s := S.mk _ _ _) gm_at0 ?_
    show u ⟨[.mu (q + 2), .no, .no, .mu ms1.length], sm (ms1 ++ [.lst ((hpP kp1).map pgD)]) ms1.length (.lst ((hpP kp1).map pgD).reverse), ms.length⟩ _
    rw [sm_mid, hu]; clear hu u
    refine seqU fun u hu => ?_
    unfold sSeq sExp dMet
    try dsimp only [DL.S.sE, DL.S.sM, DL.S.aM, DL.S.cM, DL.st, DL.gt, DL.sm, DL.gm, DL.putM, DL.pick, DL.muks, DL.nthN, DL.bkE, DL.st0, DL.nos, List.cons_append, List.nil_append, List.append_nil, List.drop_succ_cons, List.drop_nil, List.drop_zero, List.drop, DL.a1, DL.a2, DL.a3, DL.cMin3, DL.aNil, DL.aCons, DL.dVar, DL.dC, DL.iI, DL.i1, DL.isB, DL.daI, DL.onE, DL.gN, List.length_cons, List.length_nil, Nat.reduceAdd, Nat.zero_add]
    refine mu1_mk (s := S.mk _ _ _) gm_at0 ?_
    try dsimp only [DL.S.sE, DL.S.sM, DL.S.aM, DL.S.cM, DL.st, DL.gt, DL.sm, DL.gm, DL.putM, DL.pick, DL.muks, DL.nthN, DL.bkE, DL.st0, DL.nos, List.cons_append, List.nil_append, List.append_nil, List.drop_succ_cons, List.drop_nil, List.drop_zero, List.drop, DL.a1, DL.a2, DL.a3, DL.cMin3, DL.aNil, DL.aCons, DL.dVar, DL.dC, DL.iI, DL.i1, DL.isB, DL.daI, DL.onE, DL.gN, List.length_cons, List.length_nil, Nat.reduceAdd, Nat.zero_add]
    refine mu1_mk (s := S.mk _ _ _) gm_at0 ?_
    refine ⟨by rw [List.length_reverse, List.length_map, (hpP_perm kp1).length_eq]; exact sz (by omega), ?_⟩
    show u ⟨[.mu (q + 2), .no, .no, .mu ms1.length], sm (ms1 ++ [.lst ((hpP kp1).map pgD).reverse]) ms1.length (.lst (((hpP kp1).map pgD).reverse ++ [.str "spoilt"])), ms.length⟩ _
    rw [sm_mid, hu]; clear hu u
    refine ⟨_, _, AdjE.refl, ?_⟩
    exact hk _ kj1 bp1 kp1 rs1 ks1 st1 (F.trans FrB.app) ⟨K2 _, R1.fr (FA _) (nil _) (nil _) (nil _) (nil _) (fun _ _ => nil _), H1.pm, H1.last, H1.past, H1.ok, H1.oks, H1.le⟩ sk a1 a2 a3
  have edu : dueW bp rs.isEmpty d = dueW kp ks.isEmpty d := by
    rw [dueW_perm H.pm]
    congr 1
    cases hr : rs with
    | nil =>
      rw [hr] at lrk
      rw [List.length_eq_zero_iff.mp lrk.symm]
      rfl
    | cons _ _ =>
      cases hs : ks with
      | nil => rw [hr, hs] at lrk; cases lrk
      | cons _ _ => rfl
  have huo : ∀ rs0 i r, rs = rs0 ++ [(i, r)] → unOk r bp := fun rs0 i r e => by
    have pa := H.past
    rw [e, List.map_append, List.reverse_append] at pa
    rcases List.eq_nil_or_concat ks with e2 | ⟨ks0, x, e2⟩
    · rw [e2] at pa
      exact pa.elim
    · rw [List.concat_eq_append] at e2
      rw [e2, List.map_append, List.reverse_append] at pa
      exact pa.1
  refine seqU fun u hu => ?_
  refine ⟨_, _, rfl, K.book, ?_⟩
  refine ⟨q + 3, ta, tm, bp, rs, st, d, rfl, R, by omega, ga, by omega, by omega, by omega, huo, fun e => ?_, fun e ms1 r F1 hr R1 => ?_, fun e rs0 i r ers ms1 F1 R1 => ?_⟩
  · rw [edu] at e ⊢
    refine onO_mk rfl ⟨fun z => ?_, fun _ => ?_⟩
    · rw [decide_eq_true rfl] at z
      cases z
    dsimp only [sNil]
    rw [hu]; clear hu u
    refine ⟨fun s => s = ⟨[.mu (q + 2), .no, .no, .no], ms, ms.length⟩, ?_, ?_⟩
    · refine onO_mk rfl ⟨fun z => ?_, fun _ => ?_⟩
      · exact absurd (of_decide_eq_true (show decide (dueW kp ks.isEmpty d = Str.ofString "") = true from z)) e
      (simp only [DL.clA, DL.clS, DL.killL, DL.limL, DL.limE_mu, DL.limE_da, DL.limE_no, DL.takM, DL.limM, DL.frzS, DL.subL, DL.subE_mu, DL.subE_da, DL.subE_no, DL.subS, DL.subM, DL.S.sE, DL.S.sM, DL.S.aM, DL.S.cM, DL.st, DL.gt, DL.sm, DL.gm, DL.putM, DL.pick, DL.muks, DL.nthN, DL.bkE, DL.st0, DL.nos, List.cons_append, List.nil_append, List.append_nil, List.drop_succ_cons, List.drop_nil, List.drop_zero, List.length_cons, List.length_nil, List.map_cons, List.map_nil, List.map_append, Nat.reduceAdd, Nat.zero_add, Nat.reduceLT, Nat.reduceEqDiff, if_true, if_false, ↓reduceIte, Nat.lt_irrefl, Nat.not_lt_zero] <;> rfl)
    rintro s rfl
    refine tail ms kj bp kp rs ks st FrB.refl ⟨K, R, H.pm, H.last, H.past, H.ok, fun r hr => ⟨(H.oks r hr).1, Nat.le_trans (H.oks r hr).2.1 (Nat.le_add_right _ _), (H.oks r hr).2.2⟩, Nat.le_trans H.le (Nat.le_add_right _ _)⟩ (.inl ⟨e, rfl, rfl, rfl⟩) (Nat.le_succ _) (Nat.le_succ _) (by rw [if_neg e]; rfl)
  · have fk : fineD kp d := fineD_perm H.pm e
    have nu : d ≠ .undo := fun z => by
      rw [z] at fk
      exact fk
    have ed := fine_due (b := ks.isEmpty) nu fk
    rw [ed]
    refine onO_mk rfl ⟨fun z => ?_, fun _ => ?_⟩
    · exact absurd z (by decide +kernel)
    dsimp only [sNil]
    rw [hu]; clear hu u
    have K1 : KpR ms1 q t0 kj kp ks st := K.bk F1
    refine ⟨fun s => ∃ ms2, FrB ms1 ms2 [q + 8, q + 9, kj] ∧ KpR ms2 q t0 kj (nextP kp d) (ks ++ [(ms1.length, kp)]) (st ++ [hpP (nextP kp d)]) ∧ s = ⟨[.mu (q + 2), .no, .no, .no], ms2, ms.length⟩, ?_, ?_⟩
    · refine onO_mk rfl ⟨fun _ => ?_, fun z => absurd z (by decide +kernel)⟩
      refine ⟨q, tb, t0, kj, kp, ks, st, d, rfl, K1, F1.at gb (fun z => nomatch z) (off _ (by omega) (by omega) (by omega) (by omega)), by omega, by omega, by omega, fun _ => fk, fun z => (nu z).elim, fun _ ms2 F2 K2 => ?_, fun z => (nu z).elim⟩
      exact ⟨ms2, F2, K2, by (simp only [DL.clA, DL.clS, DL.killL, DL.limL, DL.limE_mu, DL.limE_da, DL.limE_no, DL.takM, DL.limM, DL.frzS, DL.subL, DL.subE_mu, DL.subE_da, DL.subE_no, DL.subS, DL.subM, DL.S.sE, DL.S.sM, DL.S.aM, DL.S.cM, DL.st, DL.gt, DL.sm, DL.gm, DL.putM, DL.pick, DL.muks, DL.nthN, DL.bkE, DL.st0, DL.nos, List.cons_append, List.nil_append, List.append_nil, List.drop_succ_cons, List.drop_nil, List.drop_zero, List.length_cons, List.length_nil, List.map_cons, List.map_nil, List.map_append, Nat.reduceAdd, Nat.zero_add, Nat.reduceLT, Nat.reduceEqDiff, if_true, if_false, ↓reduceIte, Nat.lt_irrefl, Nat.not_lt_zero] <;> rfl)⟩
    rintro s ⟨ms2, F2, K2, rfl⟩
    have R2 := R1.kp K1 F2
    have pm := nextP_perm H.pm d
    rw [hpP_eq pm K2.nd] at R2
    have rb := rec_back R.nd e hr
    refine tail ms2 kj (nextP bp d) (nextP kp d) _ _ _ ((F1.mono fun i hi => ?_).trans (F2.mono fun i hi => ?_)) ⟨K2, R2, pm, by rw [List.length_append]; exact List.getElem?_concat_length .., ?_, next_ok H.ok po, fun x hx => ?_, Nat.le_trans next_le (Nat.add_le_add_right le _)⟩ (.inr (.inl ⟨nu, fk, rfl, rfl, ms1.length, F1.len, rfl⟩)) (by rw [List.length_append]; exact Nat.le_refl _) (by rw [List.length_append]; exact Nat.le_refl _) (by rw [if_pos ed, List.length_append]; rfl)
    · simp only [List.mem_cons, List.not_mem_nil, or_false] at hi ⊢
      omega
    · simp only [List.mem_cons, List.not_mem_nil, or_false] at hi ⊢
      omega
    · rw [List.map_append, List.reverse_append, List.map_append, List.reverse_append]
      exact ⟨rb.1, rb.2.trans H.pm, H.past.perm H.pm⟩
    · rcases List.mem_append.mp hx with hx | hx
      · exact ⟨(H.oks x hx).1, Nat.le_trans (H.oks x hx).2.1 (Nat.le_add_right _ _), (H.oks x hx).2.2⟩
      · rw [List.mem_singleton.mp hx]
        exact ⟨K.nd, Nat.le_trans le (Nat.le_add_right _ _), H.ok⟩
  · subst e
    obtain ⟨ks0, j, k, eks⟩ : ∃ ks0 j k, ks = ks0 ++ [(j, k)] := by
      rcases List.eq_nil_or_concat ks with e2 | ⟨ks0, x, e2⟩
      · rw [ers, e2, List.length_append] at lrk
        cases lrk
      · exact ⟨ks0, x.1, x.2, by rw [e2, List.concat_eq_append]⟩
    subst ers eks
    have pa := H.past
    rw [List.map_append, List.reverse_append, List.map_append, List.reverse_append] at pa
    have pa1 : PastOk bp (r :: (rs0.map (·.2)).reverse) (k :: (ks0.map (·.2)).reverse) := pa
    obtain ⟨uo, up, pa2⟩ := pa1
    have hk0 := H.oks (j, k) (List.mem_append_right _ (.head _))
    have hk00 : k.length ≤ M := hk0.2.1
    have ed : dueW kp (ks0 ++ [(j, k)]).isEmpty .undo = Str.ofString "" := by
      have e9 : (ks0 ++ [(j, k)]).isEmpty = false := by cases ks0 <;> rfl
      rw [e9]
      rfl
    rw [ed]
    refine onO_mk rfl ⟨fun z => ?_, fun _ => ?_⟩
    · exact absurd z (by decide +kernel)
    dsimp only [sNil]
    rw [hu]; clear hu u
    have K1 : KpR ms1 q t0 kj kp (ks0 ++ [(j, k)]) st := K.bk F1
    have lks : (ks0 ++ [(j, k)]).length < 900 := by omega
    refine ⟨fun s => ∃ ms2, FrB ms1 ms2 [q + 2, q + 8, q + 9, kj] ∧ KpR ms2 q t0 j k ks0 (st ++ [hpP k]) ∧ s = ⟨[.mu (q + 2), .no, .no, .no], ms2, ms.length⟩, ?_, ?_⟩
    · refine onO_mk rfl ⟨fun _ => ?_, fun z => absurd z (by decide +kernel)⟩
      refine ⟨q, tb, t0, kj, kp, ks0 ++ [(j, k)], st, .undo, rfl, K1, F1.at gb (fun z => nomatch z) (off _ (by omega) (by omega) (by omega) (by omega)), by omega, lks, by omega, fun z => (z rfl).elim, fun _ => ⟨ks0, j, k, rfl, hk0.1, by omega⟩, fun z => (z rfl).elim, fun _ ks1 j1 k1 e1 ms2 F2 K2 => ?_⟩
      obtain ⟨e2, e3⟩ := List.append_inj' e1 rfl
      obtain ⟨e4, e5⟩ := Prod.mk.inj (List.cons.inj e3).1
      subst e2 e4 e5
      exact ⟨ms2, F2, K2, by (simp only [DL.clA, DL.clS, DL.killL, DL.limL, DL.limE_mu, DL.limE_da, DL.limE_no, DL.takM, DL.limM, DL.frzS, DL.subL, DL.subE_mu, DL.subE_da, DL.subE_no, DL.subS, DL.subM, DL.S.sE, DL.S.sM, DL.S.aM, DL.S.cM, DL.st, DL.gt, DL.sm, DL.gm, DL.putM, DL.pick, DL.muks, DL.nthN, DL.bkE, DL.st0, DL.nos, List.cons_append, List.nil_append, List.append_nil, List.drop_succ_cons, List.drop_nil, List.drop_zero, List.length_cons, List.length_nil, List.map_cons, List.map_nil, List.map_append, Nat.reduceAdd, Nat.zero_add, Nat.reduceLT, Nat.reduceEqDiff, if_true, if_false, ↓reduceIte, Nat.lt_irrefl, Nat.not_lt_zero] <;> rfl)⟩
    rintro s ⟨ms2, F2, K2, rfl⟩
    have of2 : ∀ x : Nat, x ≠ q + 2 → x ≠ q + 8 → x ≠ q + 9 → x ≠ kj → x ∉ [q + 2, q + 8, q + 9, kj] := fun x a b c d z => by
      simp only [List.mem_cons, List.not_mem_nil, or_false] at z
      omega
    have R2 : BkR ms2 (q + 3) tm (unB r bp) rs0 (st ++ [hpP (unB r bp)]) := R1.fr F2 (of2 _ (by omega) (by omega) (by omega) (by omega)) (of2 _ (by omega) (by omega) (by omega) (by omega)) (of2 _ (by omega) (by omega) (by omega) (by omega)) (of2 _ (by omega) (by omega) (by omega) (by omega)) fun x hx => of2 _ (ne_of_gm (R1.gr x hx) K1.g0 (recO_dc _)) (ne_of_gm (R1.gr x hx) K1.g8 (recO_lst _)) (ne_of_gm (R1.gr x hx) K1.g9 (recO_l _)) (ne_of_gm (R1.gr x hx) K1.gk (recO_dct _))
    rw [hpP_eq up hk0.1] at R2
    have l9 : rs0.length ≤ (rs0 ++ [(i, r)]).length + 1 := by rw [List.length_append]; omega
    refine tail ms2 j (unB r bp) k rs0 ks0 _ ((F1.mono fun i hi => ?_).trans (F2.mono fun i hi => ?_)) ⟨K2, R2, up, by rw [List.length_append]; exact List.getElem?_concat_length .., pa2.perm up.symm, hk0.2.2, fun x hx => H.oks x (List.mem_append_left _ hx), hk0.2.1⟩ (.inr (.inr ⟨rfl, ks0, j, k, rfl, rfl, rfl, rfl⟩)) l9 (by rw [List.length_append]; exact Nat.le_refl _) (by rw [if_pos ed, List.length_append]; rfl)
    · simp only [List.mem_cons, List.not_mem_nil, or_false] at hi ⊢
      omega
    · simp only [List.mem_cons, List.not_mem_nil, or_false] at hi ⊢
      omega
def sp_long_right : SpD := fun xs ms Ks => ∃ (n : Nat) (L : List MO) (W : BW), xs = [.mu 2, .mu (L.length + 3)] ∧ ms = .tab "Book.heap" :: .tab "_law_heap_of" :: .rnd n :: bW L W [] ∧ WOk W (10 ^ 26) ∧ W.turn = 0 ∧ W.day = 0 ∧ W.dr = [] ∧ 40000 ≤ n ∧
  ∀ (m : Nat) (r : List MO), n ≤ m + 40000 → Ks (.tab "Book.heap" :: .tab "_law_heap_of" :: .rnd m :: (L ++ r)) (.da (.bool true))
theorem ok_long_right (T : Tx K mg) (o_begun : Ok P w K mg base 3 "_law_begun" s_begun ["_law_terms"] 1 sp_begun) (o_deed_right : Ok P w K mg base 9 "_law_deed_right" s_deed_right ["_law_kept", "_law_deed_here"] 2 sp_deed_right) (o_page : Ok P w K mg base 5 "_law_page" s_page ["_law_state", "_law_world_here"] 2 sp_page) (o_some : Ok P w K mg base 2 "_law_some" s_some ["_law_state", "_law_things"] 2 sp_some) (o_take : Ok P w K mg base 1 "_law_take" s_take ["_law_state", "_law_many"] 2 spTake) : Ok P w K mg base 10 "_law_long_right" s_long_right ["_law_state", "_law_world_here"] 2 sp_long_right := by
  refine ok_dataT (n0 := 7) T.d_long_right sc_long_right _ (fun f cdv A outer s H E hr =>
  (dss_clo (dss_cons (ds_par (i := 2) (j := 3) rfl sc_long_right.nd rfl rfl (by decide) rfl rfl (da_cons (de_callT o_begun (hr.mono (by omega)) (by rfl) (dan_cons (de_dgetG (hu1 hr) (dv 1) de_str) dan_nil)) (da_cons (de_add de_int (de_callV o_take (hr.mono (by omega)) (by rfl) (dan_cons (dv 0) (dan_cons de_int dan_nil)))) da_nil)) rfl)
  (dss_cons (ds_forA [4, 5, 6, 7, 8] PassesOwn.never rfl (di_cl (di_range1 (by rfl) (T.b_range) (da_cons (dv 3) da_nil))) (dg_name (i := 4) sc_long_right.nd rfl (by first | exact .inl rfl | exact .inr rfl))
    (dss_cons (ds_par (i := 5) (j := 6) rfl sc_long_right.nd rfl rfl (by decide) rfl rfl (da_cons (de_callT o_page (hr.mono (by omega)) (by rfl) (dan_cons (dv 0) (dan_cons (dv 1) dan_nil))) (da_cons (de_sortD (hu64 hr) (by rfl) (T.b_sorted) (de_listK rfl (by rfl) (T.b_list) (de_dgetG (hu1 hr) (dv 2) de_str))) da_nil)) rfl)
    (dss_cons (ds_set (i := 7) sc_long_right.nd rfl (by first | exact .inl rfl | exact .inr rfl) (de_tup (dan_cons de_str (dan_cons (dv 5) dan_nil))))
    (dss_cutA [4, 5, 6, 8] (ds_if (dt_bool (dw_or (dt_gt (de_len (x := "") (by rfl) (T.b_len) (dv 6)) de_int) (dw_or1 (dt_bool (dw_and (dt_neD (hu64 hr) (dv 6) (de_lst dan_nil)) (dw_and1 (dt_eqS (de_callV o_take (hr.mono (by omega)) (by rfl) (dan_cons (dv 0) (dan_cons de_int dan_nil))) de_int)))))))
      (dss_cons (ds_set (i := 8) sc_long_right.nd rfl (by first | exact .inl rfl | exact .inr rfl) (de_callV o_some (hr.mono (by omega)) (by rfl) (dan_cons (dv 0) (dan_cons (dv 6) dan_nil))))
      (dss_one (ds_set (i := 7) sc_long_right.nd rfl (by first | exact .inl rfl | exact .inr rfl) (de_tup (dan_cons de_str (dan_cons (dv 8) (dan_cons (de_tup (dan_cons (de_ix (dv 5) de_int) (dan_cons (de_ix (de_lst (dan_cons (dv 8) (dan_cons (de_ix (dv 5) de_int) dan_nil))) (de_callV o_take (hr.mono (by omega)) (by rfl) (dan_cons (dv 0) (dan_cons de_int dan_nil)))) (dan_cons (de_ix (dv 5) de_int) (dan_cons (de_ix (dv 5) de_int) dan_nil))))) dan_nil)))))))
      dss_nil)
    (dss_one (ds_if (dt_not (dt_val (de_callT o_deed_right (hr.mono (by omega)) (by rfl) (dan_cons (dv 2) (dan_cons (dv 7) dan_nil)))))
      (dss_one (ds_ret de_bl))
      dss_nil))))))
  (dss_cons (ds_forA [0, 1, 4, 5, 6, 7, 8] PassesOwn.never rfl (di_cl (di_range1 (by rfl) (T.b_range) (da_cons (de_add (de_lenS (by rfl) (T.b_len) (de_dgetG (hu1 hr) (dv 2) de_str)) de_int) da_nil))) (dg_name (i := 4) sc_long_right.nd rfl (by first | exact .inl rfl | exact .inr rfl))
    (dss_one (ds_if (dt_not (dt_val (de_callT o_deed_right (hr.mono (by omega)) (by rfl) (dan_cons (dv 2) (dan_cons (de_tup (dan_cons de_str dan_nil)) dan_nil)))))
      (dss_one (ds_ret de_bl))
      dss_nil)))
  (dss_one (ds_ret (de_and (de_eqDk0 (hu64 hr) (de_dgetG (hu1 hr) (dv 2) de_str) de_newD) (de_one (de_eqS (de_len (x := "") (by rfl) (T.b_len) (de_dgetG (hu1 hr) (dv 2) de_str)) (de_add (de_mul de_int (dv 3)) de_int))))))))))) (fun xs ms Ks h hl => ?_)
  unfold sp_long_right at h
  obtain ⟨n0, L, W1, rfl, rfl, H1, wt, wd, wr, hn, hk⟩ := h
  intro _
  refine seqU fun u hu => ?_
  have lX : (MO.tab "Book.heap" :: .tab "_law_heap_of" :: .rnd n0 :: bW L W1 []).length = L.length + 11 := by
    unfold bW bR
    simp only [List.length_cons, List.length_append, List.length_nil]
  have H0 := KSt.beg (.tab "Book.heap" :: .tab "_law_heap_of" :: .rnd n0 :: bW L W1 []) [] W1.rts W1.lim W1.most
  rw [List.append_nil, List.cons_append, List.cons_append, List.cons_append, bW_app, lX] at H0
  have bg : ∀ Kt : List MO → En → Prop, Kt (.tab "Book.heap" :: .tab "_law_heap_of" :: .rnd n0 :: bW L W1 (begM (L.length + 11) W1.rts W1.lim W1.most)) (.mu (L.length + 11 + 2)) → sp_begun [.da (tmB W1.rts W1.lim W1.most)] (.tab "Book.heap" :: .tab "_law_heap_of" :: .rnd n0 :: bW L W1 []) Kt := fun Kt h => ⟨W1.rts, W1.lim, W1.most, rfl, H1.tm.len, by
    rw [lX, List.cons_append, List.cons_append, List.cons_append, bW_app]
    exact h⟩
  refine ⟨_, _, rfl, wd_terms, ?_⟩
  dsimp only [aNil, CallT]
  refine bg _ ?_
  obtain ⟨tm, htm⟩ : ∃ tm, tm = tmB W1.rts W1.lim W1.most := ⟨_, rfl⟩
  obtain ⟨K0, hK0⟩ : ∃ K0, K0 = begM (L.length + 11) W1.rts W1.lim W1.most := ⟨_, rfl⟩
  change KSt (.tab "Book.heap" :: .tab "_law_heap_of" :: .rnd n0 :: bW L W1 (begM (L.length + 11) W1.rts W1.lim W1.most)) (L.length + 11) (tmB W1.rts W1.lim W1.most) (tmB W1.rts W1.lim W1.most) (L.length + 18) [] [] [] [] [[]] 0 at H0
  rw [← htm, ← hK0] at H0
  rw [← hK0]
  clear hK0 htm bg
  obtain ⟨np, hnp⟩ : ∃ np, np = (MO.tab "Book.heap" :: .tab "_law_heap_of" :: .rnd n0 :: bW L W1 []).length := ⟨_, rfl⟩
  refine ⟨nd1, rfl, by omega, divA 10 (by decide) (by decide), fun v v0 v1 => ⟨rfl, ?_⟩⟩
  try dsimp only [DL.S.sE, DL.S.sM, DL.S.aM, DL.S.cM, DL.st, DL.gt, DL.sm, DL.gm, DL.putM, DL.pick, DL.muks, DL.nthN, DL.bkE, DL.st0, DL.nos, List.cons_append, List.nil_append, List.append_nil, List.drop_succ_cons, List.drop_nil, List.drop_zero, List.drop, DL.a1, DL.a2, DL.a3, DL.cMin3, DL.aNil, DL.aCons, DL.dVar, DL.dC, DL.iI, DL.i1, DL.isB, DL.daI, DL.onE, DL.gN, List.length_cons, List.length_nil, Nat.reduceAdd, Nat.zero_add]
  simp only [List.append_nil]
  refine onO_mk rfl ?_
  obtain ⟨c, hc⟩ : ∃ c : Nat, (c : Int) = 90 + v := ⟨(90 + v).toNat, by omega⟩
  show u ⟨[.mu 2, .mu (L.length + 3), .mu (L.length + 13), .da (.int (90 + v)), .no, .no, .no, .no, .no], .tab "Book.heap" :: .tab "_law_heap_of" :: .rnd (n0 - 1) :: bW L W1 K0, (MO.tab "Book.heap" :: .tab "_law_heap_of" :: .rnd n0 :: bW L W1 []).length⟩ _
  rw [← hc, ← hnp, hu]; clear hu u hnp lX
  have c0 : c ≤ 100 := by omega
  clear hc v0 v1 v
  have S0 : WSt n0 1 0 (n0 - 1) W1 (10 ^ 26) := ⟨by omega, H1, by decide, by omega, (by rw [wr]; exact Nat.zero_le _), by omega, by omega⟩
  replace H0 := H0.fr (wFr (m := n0 - 1) (W' := W1)) (fun i hi => by
    simp only [wS, List.mem_cons, List.not_mem_nil, or_false] at hi
    omega) wNo
  refine seqU fun u hu => ?_
  refine ⟨by omega, by omega, fun _ => ⟨fun (i : Nat) (s : S) => ∃ (n : Nat) (W : BW) (tl : List MO) (B : Int) (kj : Nat) (bp kp : List Page) (rs : List (Nat × Rec)) (ks : List (Nat × List Page)) (st : List (List Page)) (M : Nat), s = ⟨[.mu 2, .mu (L.length + 3), .mu (L.length + 13), .da (.int (c : Int)), .no, .no, .no, .no, .no], .tab "Book.heap" :: .tab "_law_heap_of" :: .rnd n :: bW L W tl, np⟩ ∧ WSt n0 1 i n W B ∧ W.turn = i ∧ KSt (.tab "Book.heap" :: .tab "_law_heap_of" :: .rnd n :: bW L W tl) (L.length + 11) tm tm kj bp kp rs ks st M ∧ M ≤ i ∧ ks.length = i ∧ st.length = i + 1 ∧ (∀ k ∈ kp.map (·.num), ∃ j, j ≤ i ∧ k = numT j) ∧ hd0 ks kp, ?_, ?_, ?_⟩⟩
  · exact ⟨n0 - 1, W1, K0, 10 ^ 26, L.length + 18, [], [], [], [], [[]], 0, by (simp only [DL.clA, DL.clS, DL.killL, DL.limL, DL.limE_mu, DL.limE_da, DL.limE_no, DL.takM, DL.limM, DL.frzS, DL.subL, DL.subE_mu, DL.subE_da, DL.subE_no, DL.subS, DL.subM, DL.S.sE, DL.S.sM, DL.S.aM, DL.S.cM, DL.st, DL.gt, DL.sm, DL.gm, DL.putM, DL.pick, DL.muks, DL.nthN, DL.bkE, DL.st0, DL.nos, List.cons_append, List.nil_append, List.append_nil, List.drop_succ_cons, List.drop_nil, List.drop_zero, List.length_cons, List.length_nil, List.map_cons, List.map_nil, List.map_append, Nat.reduceAdd, Nat.zero_add, Nat.reduceLT, Nat.reduceEqDiff, if_true, if_false, ↓reduceIte, Nat.lt_irrefl, Nat.not_lt_zero] <;> rfl), S0, wt, H0, Nat.le_refl _, rfl, rfl, (fun k hk => by cases hk), rfl⟩
  · rintro i e s hi ⟨n, W, tl, B, kj, bp, kp, rs, ks, st, M, rfl, SW, wt2, H, m0, l1, l2, hnum, h0⟩
    have hi2 : i < 100 := by
      have := (List.getElem?_eq_some_iff.mp hi).1
      rw [rng_length] at this
      omega
    clear hi S0 H0
    have s1 := SW.n
    have s3 := SW.d1
    have le := H.le
    have lrk := H.len
    refine seqU fun u2 hu2 => ?_
    refine ⟨.tab "Book.heap", .tab "_law_heap_of", n, L, W, tl, B, rfl, rfl, SW.ok, SW.b19 (by omega), SW.dr, by omega, SW.d0, by omega, by omega, fun m day ck way dr p hm HW hdr hd1 hd2 pd0 pd1 pn ph pkd => ?_⟩
    obtain ⟨W4, hW4⟩ : ∃ W4 : BW, W4 = { W with turn := W.turn + 1, day := day, num := some (numT (W.turn + 1)), ck := ck, way := way, dr := dr } := ⟨_, rfl⟩
    have nw : NextW W B W4 := by
      rw [hW4]
      exact ⟨HW, hdr, Nat.le_succ _, Nat.le_refl _, hd1, hd2, rfl, rfl, rfl, rfl, rfl, rfl⟩
    have w4t : W4.turn = i + 1 := by
      rw [hW4]
      exact congrArg (· + 1) wt2
    have pok : pgOk p := pgOk_of SW.ok ph pkd
    rw [wt2] at pn
    have H2 := H.fr (wFr (m := m) (W' := W4)) (fun i hi => by
      simp only [wS, List.mem_cons, List.not_mem_nil, or_false] at hi
      omega) wNo
    rw [← hW4]
    clear hW4 HW hdr hd1 hd2 pd0 pd1
    refine ⟨_, _, rfl, H2.K.pages, ?_⟩
    dsimp only [aNil, cListK, DL.a1]
    refine mu2_mk (s := S.mk _ _ _) H2.K.gk ?_
    rw [keys_num]
    refine ⟨_, rfl, can_nums _, ?_⟩
    rw [numS_eq]
    have Np := numS_perm kp
    obtain ⟨N, hN⟩ : ∃ N, N = numS kp := ⟨_, rfl⟩
    rw [← hN] at Np ⊢
    clear hN
    have Nl : N.length ≤ 100 := by
      rw [Np.length_eq, List.length_map]
      omega
    show u2 ⟨[.mu 2, .mu (L.length + 3), .mu (L.length + 13), .da (.int (c : Int)), .da e, .da (pgD p), .da (.list (N.map .int)), .no, .no], .tab "Book.heap" :: .tab "_law_heap_of" :: .rnd m :: bW L W4 tl, np⟩ _
    rw [hu2]; clear hu2 u2
    refine seqU fun u2 hu2 => ?_
    refine onO_mk rfl ?_
    show u2 ⟨[.mu 2, .mu (L.length + 3), .mu (L.length + 13), .da (.int (c : Int)), .da e, .da (pgD p), .da (.list (N.map .int)), .da (dhD (.say p)), .no], .tab "Book.heap" :: .tab "_law_heap_of" :: .rnd m :: bW L W4 tl, np⟩ _
    rw [hu2]; clear hu2 u2
    have pnew : p.num ∉ kp.map (·.num) := fun z => by
      obtain ⟨j, hj, e⟩ := hnum _ z
      exact numT_new (i + 1) (by omega) j (by omega) (by rw [← e, pn])
    have up : ∀ k ∈ kp.map (·.num), ∃ j, j ≤ i + 1 ∧ k = numT j := fun k hk => by
      obtain ⟨j, hj, e⟩ := hnum k hk
      exact ⟨j, by omega, e⟩
    obtain ⟨P, hP⟩ : ∃ P : S → Prop, P = fun s => ∃ (m2 : Nat) (d : Dh), n ≤ m2 + 140 ∧ d ≠ .undo ∧ fineD kp d ∧ pgsOk d ∧ (∀ k ∈ (nextP kp d).map (·.num), ∃ j, j ≤ i + 1 ∧ k = numT j) ∧ s = ⟨[.mu 2, .mu (L.length + 3), .mu (L.length + 13), .da (.int (c : Int)), .no, .no, .no, .da (dhD d), .no], .tab "Book.heap" :: .tab "_law_heap_of" :: .rnd m2 :: bW L W4 tl, np⟩ := ⟨_, rfl⟩
    refine ⟨P, ?_, ?_⟩
    · have sayOk : ∀ m2, n ≤ m2 + 140 → P (clA [4, 5, 6, 8] ⟨[.mu 2, .mu (L.length + 3), .mu (L.length + 13), .da (.int (c : Int)), .da e, .da (pgD p), .da (.list (N.map .int)), .da (dhD (.say p)), .no], .tab "Book.heap" :: .tab "_law_heap_of" :: .rnd m2 :: bW L W4 tl, np⟩) := fun m2 hm2 => by
        rw [hP]
        refine ⟨m2, .say p, hm2, (fun z => nomatch z), pnew, pok, fun k hk => ?_, by (simp only [DL.clA, DL.clS, DL.killL, DL.limL, DL.limE_mu, DL.limE_da, DL.limE_no, DL.takM, DL.limM, DL.frzS, DL.subL, DL.subE_mu, DL.subE_da, DL.subE_no, DL.subS, DL.subM, DL.S.sE, DL.S.sM, DL.S.aM, DL.S.cM, DL.st, DL.gt, DL.sm, DL.gm, DL.putM, DL.pick, DL.muks, DL.nthN, DL.bkE, DL.st0, DL.nos, List.cons_append, List.nil_append, List.append_nil, List.drop_succ_cons, List.drop_nil, List.drop_zero, List.length_cons, List.length_nil, List.map_cons, List.map_nil, List.map_append, Nat.reduceAdd, Nat.zero_add, Nat.reduceLT, Nat.reduceEqDiff, if_true, if_false, ↓reduceIte, Nat.lt_irrefl, Nat.not_lt_zero] <;> rfl)⟩
        have hk : k ∈ (kp ++ [p]).map (·.num) := hk
        rw [List.map_append] at hk
        rcases List.mem_append.mp hk with hk | hk
        · exact up k hk
        · exact ⟨i + 1, Nat.le_refl _, (List.mem_singleton.mp hk).trans pn⟩
      have retB : 0 < N.length → ∀ (m1 : Nat) (D : Dn), n ≤ m1 + 125 → (∀ s, D.nx s = P (clA [4, 5, 6, 8] s)) → sSeq (sAsg (dCall (CallV sp_some) (aCons (dVar 0) (aCons (dVar 6) aNil))) (gN 8))
                (sAsg
                  (dTup
                    (aCons (dC (PyData.str (Str.ofString "retell")))
                      (aCons (dVar 8)
                        (aCons
                          (dTup
                            (aCons (dIx (dVar 5) (dC (PyData.int 0)))
                              (aCons
                                (dIx (dLst (aCons (dVar 8) (aCons (dIx (dVar 5) (dC (PyData.int 1))) aNil)))
                                  (dCall (CallV spTake) (aCons (dVar 0) (aCons (dC (PyData.int 2)) aNil))))
                                (aCons (dIx (dVar 5) (dC (PyData.int 2)))
                                  (aCons (dIx (dVar 5) (dC (PyData.int 3))) aNil)))))
                          aNil))))
                  (gN 7)) ⟨[.mu 2, .mu (L.length + 3), .mu (L.length + 13), .da (.int (c : Int)), .da e, .da (pgD p), .da (.list (N.map .int)), .da (dhD (.say p)), .no], .tab "Book.heap" :: .tab "_law_heap_of" :: .rnd m1 :: bW L W4 tl, np⟩ D := fun N0 m1 D hm1 hD => by
        refine seqU fun u2 hu2 => ?_
        refine ⟨nd1, rfl, _, _, m1, [], rfl, rfl, .inl ⟨rfl, rfl⟩, by rw [List.length_map]; exact N0, by rw [List.length_map]; omega, by omega, fun m2 d hm2 hd => ⟨rfl, ?_⟩⟩
        try dsimp only [DL.S.sE, DL.S.sM, DL.S.aM, DL.S.cM, DL.st, DL.gt, DL.sm, DL.gm, DL.putM, DL.pick, DL.muks, DL.nthN, DL.bkE, DL.st0, DL.nos, List.cons_append, List.nil_append, List.append_nil, List.drop_succ_cons, List.drop_nil, List.drop_zero, List.drop, DL.a1, DL.a2, DL.a3, DL.cMin3, DL.aNil, DL.aCons, DL.dVar, DL.dC, DL.iI, DL.i1, DL.isB, DL.daI, DL.onE, DL.gN, List.length_cons, List.length_nil, Nat.reduceAdd, Nat.zero_add]
        simp only [List.append_nil]
        obtain ⟨k, hk2, rfl⟩ := List.mem_map.mp hd
        have hk3 : k ∈ kp.map (·.num) := Np.mem_iff.mp hk2
        show u2 ⟨[.mu 2, .mu (L.length + 3), .mu (L.length + 13), .da (.int (c : Int)), .da e, .da (pgD p), .da (.list (N.map .int)), .da (dhD (.say p)), .da (.int k)], .tab "Book.heap" :: .tab "_law_heap_of" :: .rnd m2 :: bW L W4 tl, np⟩ _
        rw [hu2]; clear hu2 u2
        refine ⟨_, rfl, _, rfl, onO_mk rfl ⟨nd1, rfl, by omega, divA 10 (by decide) (by decide), fun v v0 v1 => ⟨rfl, ?_⟩⟩⟩
        try dsimp only [DL.S.sE, DL.S.sM, DL.S.aM, DL.S.cM, DL.st, DL.gt, DL.sm, DL.gm, DL.putM, DL.pick, DL.muks, DL.nthN, DL.bkE, DL.st0, DL.nos, List.cons_append, List.nil_append, List.append_nil, List.drop_succ_cons, List.drop_nil, List.drop_zero, List.drop, DL.a1, DL.a2, DL.a3, DL.cMin3, DL.aNil, DL.aCons, DL.dVar, DL.dC, DL.iI, DL.i1, DL.isB, DL.daI, DL.onE, DL.gN, List.length_cons, List.length_nil, Nat.reduceAdd, Nat.zero_add]
        simp only [List.append_nil]
        obtain ⟨x, hx, ex⟩ := at_get (l := [k, p.num]) (f := PyData.int) v0 v1
        refine ⟨_, ex, _, rfl, _, rfl, onO_mk rfl (onO_mk rfl ?_)⟩
        show D.nx _
        rw [hD, hP]
        have hx2 : x = k ∨ x = p.num := by
          rcases List.mem_cons.mp hx with h | h
          · exact .inl h
          · exact .inr (List.mem_singleton.mp h)
        refine ⟨m2 - 1, .retell k ⟨p.day, x, p.house, p.deed⟩, by omega, (fun z => nomatch z), ⟨hk3, ?_⟩, pok, fun y hy => ?_, by (simp only [DL.clA, DL.clS, DL.killL, DL.limL, DL.limE_mu, DL.limE_da, DL.limE_no, DL.takM, DL.limM, DL.frzS, DL.subL, DL.subE_mu, DL.subE_da, DL.subE_no, DL.subS, DL.subM, DL.S.sE, DL.S.sM, DL.S.aM, DL.S.cM, DL.st, DL.gt, DL.sm, DL.gm, DL.putM, DL.pick, DL.muks, DL.nthN, DL.bkE, DL.st0, DL.nos, List.cons_append, List.nil_append, List.append_nil, List.drop_succ_cons, List.drop_nil, List.drop_zero, List.length_cons, List.length_nil, List.map_cons, List.map_nil, List.map_append, Nat.reduceAdd, Nat.zero_add, Nat.reduceLT, Nat.reduceEqDiff, if_true, if_false, ↓reduceIte, Nat.lt_irrefl, Nat.not_lt_zero] <;> rfl)⟩
        · rcases hx2 with h | h
          · exact .inl h
          · exact .inr (by show x ∉ _; rw [h]; exact pnew)
        · have hy : y ∈ (dropP kp k ++ [(⟨p.day, x, p.house, p.deed⟩ : Page)]).map (·.num) := hy
          rw [List.map_append] at hy
          rcases List.mem_append.mp hy with hy | hy
          · exact up y (dropP_num.mp hy).1
          · have e : y = x := List.mem_singleton.mp hy
            rcases hx2 with h | h
            · rw [e, h]
              exact up k hk3
            · exact ⟨i + 1, Nat.le_refl _, by rw [e, h, pn]⟩
      have nsh : SeqAt.shaped (.list (N.map .int)) = true := by
        have k : Ok2 2 (.list (N.map .int)) := .map (fun _ _ => .int) (by omega)
        exact k.sh (by decide)
      have es1 : xr true (PyData.eqv (.list (N.map .int)) (.list [])) = !N.isEmpty := by cases N <;> rfl
      refine onO_mk rfl ⟨fun z => tt ?_, fun _ => ?_⟩
      · have z2 := of_decide_eq_true z
        rw [List.length_map] at z2
        exact retB (by omega) m _ (by omega) fun _ => rfl
      refine onO_mk rfl (onO_mk rfl ⟨nsh, rfl, ?_⟩)
      rw [es1]
      refine ⟨fun z => ?_, fun _ => ff (sayOk m (by omega))⟩
      refine ⟨nd1, rfl, by omega, divA 10 (by decide) (by decide), fun v v0 v1 => ⟨rfl, ?_⟩⟩
      try dsimp only [DL.S.sE, DL.S.sM, DL.S.aM, DL.S.cM, DL.st, DL.gt, DL.sm, DL.gm, DL.putM, DL.pick, DL.muks, DL.nthN, DL.bkE, DL.st0, DL.nos, List.cons_append, List.nil_append, List.append_nil, List.drop_succ_cons, List.drop_nil, List.drop_zero, List.drop, DL.a1, DL.a2, DL.a3, DL.cMin3, DL.aNil, DL.aCons, DL.dVar, DL.dC, DL.iI, DL.i1, DL.isB, DL.daI, DL.onE, DL.gN, List.length_cons, List.length_nil, Nat.reduceAdd, Nat.zero_add]
      simp only [List.append_nil]
      refine ⟨fun _ => ?_, fun _ => sayOk (m - 1) (by omega)⟩
      exact retB (by cases N with | nil => cases z | cons _ _ => exact Nat.succ_pos _) (m - 1) _ (by omega) fun _ => rfl
    rw [hP]
    rintro s ⟨m2, d, hm2, du, fd, po, hnx, rfl⟩
    have H3 := H2.fr (wFr (m := m2) (W' := W4)) (fun i hi => by
      simp only [wS, List.mem_cons, List.not_mem_nil, or_false] at hi
      omega) wNo
    refine ⟨L.length + 11, 0, 1, tm, tm, kj, bp, kp, rs, ks, st, M, d, rfl, H3, by omega, rfl, by omega, rfl, po, by omega, by omega, by omega, fun ms' kj' bp' kp' rs' ks' st' F H' sk r1 r2 r3 => ff ?_⟩
    have lo := H.K.lo
    have gd := growD_le d
    obtain ⟨tl', rfl⟩ := bW_front F (fun x hx => by
      simp only [List.mem_cons, List.not_mem_nil, or_false] at hx
      omega)
    have h1 := sk.hd h0
    obtain ⟨e1, j, hj, e2⟩ := sk.fine du fd
    rw [if_pos (fine_due du fd)] at r3
    subst e1 e2
    exact ⟨m2, W4, tl', 2 * B, kj', bp', _, rs', _, st', M + growD d, by (simp only [DL.clA, DL.clS, DL.killL, DL.limL, DL.limE_mu, DL.limE_da, DL.limE_no, DL.takM, DL.limM, DL.frzS, DL.subL, DL.subE_mu, DL.subE_da, DL.subE_no, DL.subS, DL.subM, DL.S.sE, DL.S.sM, DL.S.aM, DL.S.cM, DL.st, DL.gt, DL.sm, DL.gm, DL.putM, DL.pick, DL.muks, DL.nthN, DL.bkE, DL.st0, DL.nos, List.cons_append, List.nil_append, List.append_nil, List.drop_succ_cons, List.drop_nil, List.drop_zero, List.length_cons, List.length_nil, List.map_cons, List.map_nil, List.map_append, Nat.reduceAdd, Nat.zero_add, Nat.reduceLT, Nat.reduceEqDiff, if_true, if_false, ↓reduceIte, Nat.lt_irrefl, Nat.not_lt_zero] <;> rfl), SW.next nw (by omega), w4t, H', by omega, by rw [List.length_append, l1]; rfl, by omega, hnx, h1⟩
  · rintro s ⟨n, W, tl, B, kj, bp, kp, rs, ks, st, M, rfl, SW, wt2, H, m0, l1, l2, hnum, h0⟩
    rw [rng_length] at m0 l1 l2 SW
    have le := H.le
    dsimp only
    rw [hu]; clear hu u
    refine seqU fun u hu => ?_
    refine ⟨_, _, rfl, H.K.past, ?_⟩
    dsimp only [aNil, cLenS, DL.a1]
    refine isLstS_mk (s := S.mk _ _ _) H.K.g8 ?_
    have lm : (muS (ks.map (·.1))).length = ks.length := by unfold muS; rw [List.length_map, List.length_map]
    rw [lm]
    have cn : ((c : Int)).toNat = c := by omega
    rw [cn] at m0 l1 l2 SW
    clear hnum wt2
    refine ⟨by omega, by omega, fun _ => ⟨fun (i : Nat) (s : S) => ∃ (tl : List MO) (kj : Nat) (bp kp : List Page) (rs : List (Nat × Rec)) (ks : List (Nat × List Page)) (st : List (List Page)) (M : Nat), s = ⟨[.no, .no, .mu (L.length + 13), .da (.int (c : Int)), .no, .no, .no, .no, .no], .tab "Book.heap" :: .tab "_law_heap_of" :: .rnd n :: bW L W tl, np⟩ ∧ KSt (.tab "Book.heap" :: .tab "_law_heap_of" :: .rnd n :: bW L W tl) (L.length + 11) tm tm kj bp kp rs ks st M ∧ M ≤ c ∧ ks.length = c - i ∧ st.length = c + 1 + min i c ∧ hd0 ks kp, ?_, ?_, ?_⟩⟩
    · exact ⟨tl, kj, bp, kp, rs, ks, st, M, by (simp only [DL.clA, DL.clS, DL.killL, DL.limL, DL.limE_mu, DL.limE_da, DL.limE_no, DL.takM, DL.limM, DL.frzS, DL.subL, DL.subE_mu, DL.subE_da, DL.subE_no, DL.subS, DL.subM, DL.S.sE, DL.S.sM, DL.S.aM, DL.S.cM, DL.st, DL.gt, DL.sm, DL.gm, DL.putM, DL.pick, DL.muks, DL.nthN, DL.bkE, DL.st0, DL.nos, List.cons_append, List.nil_append, List.append_nil, List.drop_succ_cons, List.drop_nil, List.drop_zero, List.length_cons, List.length_nil, List.map_cons, List.map_nil, List.map_append, Nat.reduceAdd, Nat.zero_add, Nat.reduceLT, Nat.reduceEqDiff, if_true, if_false, ↓reduceIte, Nat.lt_irrefl, Nat.not_lt_zero] <;> rfl), H, m0, l1, by omega, h0⟩
    · have sn := SW.n
      have cl1 : (rng 0 ((ks.length : Int) + 1).toNat).length = c + 1 := by
        rw [rng_length]
        omega
      clear le H lm l1 l2 m0 h0
      rintro i e s hi ⟨tl, kj, bp, kp, rs, ks, st, M, rfl, H, m0, l1, l2, h0⟩
      have hi2 : i < c + 1 := by
        have := (List.getElem?_eq_some_iff.mp hi).1
        omega
      clear hi
      have le := H.le
      have lrk := H.len
      refine onO_mk rfl ?_
      refine ⟨L.length + 11, 0, 1, tm, tm, kj, bp, kp, rs, ks, st, M, .undo, rfl, H, by omega, rfl, by omega, rfl, trivial, by omega, by omega, by omega, fun ms' kj' bp' kp' rs' ks' st' F H' sk r1 r2 r3 => ff ?_⟩
      have lo := H.K.lo
      obtain ⟨tl', rfl⟩ := bW_front F (fun x hx => by
        simp only [List.mem_cons, List.not_mem_nil, or_false] at hx
        omega)
      have ul := sk.undo_len
      refine ⟨tl', kj', bp', kp', rs', ks', st', M, by (simp only [DL.clA, DL.clS, DL.killL, DL.limL, DL.limE_mu, DL.limE_da, DL.limE_no, DL.takM, DL.limM, DL.frzS, DL.subL, DL.subE_mu, DL.subE_da, DL.subE_no, DL.subS, DL.subM, DL.S.sE, DL.S.sM, DL.S.aM, DL.S.cM, DL.st, DL.gt, DL.sm, DL.gm, DL.putM, DL.pick, DL.muks, DL.nthN, DL.bkE, DL.st0, DL.nos, List.cons_append, List.nil_append, List.append_nil, List.drop_succ_cons, List.drop_nil, List.drop_zero, List.length_cons, List.length_nil, List.map_cons, List.map_nil, List.map_append, Nat.reduceAdd, Nat.zero_add, Nat.reduceLT, Nat.reduceEqDiff, if_true, if_false, ↓reduceIte, Nat.lt_irrefl, Nat.not_lt_zero] <;> rfl), H', m0, by omega, ?_, sk.hd h0⟩
      cases ks with
      | nil =>
        rw [show dueW kp ([] : List (Nat × List Page)).isEmpty .undo = Str.ofString "NoDeed" from rfl, if_neg (show ¬ Str.ofString "NoDeed" = Str.ofString "" by decide)] at r3
        have : 0 = c - i := l1
        omega
      | cons x r =>
        rw [if_pos (by unfold dueW; exact if_neg (fun y => by cases y))] at r3
        rw [List.length_cons] at l1
        omega
    · rintro s ⟨tl2, kj2, bp2, kp2, rs2, ks2, st2, M2, rfl, H2, m2, k1, k2, h2⟩
      rw [rng_length] at k1 k2
      have e0 : ks2 = [] := List.length_eq_zero_iff.mp (by omega)
      subst e0
      have e1 : kp2 = [] := hd0_nil h2
      subst e1
      rw [hu]; clear hu u
      refine ⟨_, _, rfl, H2.K.pages, ?_⟩
      dsimp only [dNewD, rdDk0]
      try dsimp only [DL.S.sE, DL.S.sM, DL.S.aM, DL.S.cM, DL.st, DL.gt, DL.sm, DL.gm, DL.putM, DL.pick, DL.muks, DL.nthN, DL.bkE, DL.st0, DL.nos, List.cons_append, List.nil_append, List.append_nil, List.drop_succ_cons, List.drop_nil, List.drop_zero, List.drop, DL.a1, DL.a2, DL.a3, DL.cMin3, DL.aNil, DL.aCons, DL.dVar, DL.dC, DL.iI, DL.i1, DL.isB, DL.daI, DL.onE, DL.gN, List.length_cons, List.length_nil, Nat.reduceAdd, Nat.zero_add]
      refine mu2_mk (s := S.mk _ _ _) (gm_appX H2.K.gk (fun z => nomatch z)) (mu2_mk (s := S.mk _ _ _) gm_at0 ⟨rfl, ?_⟩)
      refine ⟨fun _ => ?_, fun z => by cases z⟩
      have H3 := H2.fr (S := []) (FrB.app (r := [.dct []])) (fun _ z => by cases z) (fun _ z => by cases z)
      refine ⟨_, _, rfl, H3.K.states, ?_⟩
      dsimp only [aNil, cLen, DL.a1]
      refine onO_mk (vw_l H3.K.g9) ?_
      refine ⟨mulA 20 20 (by decide) (by show (c : Int).natAbs < _; omega), ?_⟩
      refine onO_mk rfl ?_
      have e9 : decide ((((st2.map hD).length : Nat) : Int) = 2 * (c : Int) + 1) = true := decide_eq_true (by rw [List.length_map]; omega)
      show Ks (.tab "Book.heap" :: .tab "_law_heap_of" :: .rnd n :: (bW L W tl2 ++ [.dct []])) (.da (.bool (decide ((((st2.map hD).length : Nat) : Int) = 2 * (c : Int) + 1))))
      rw [e9, bW_app]
      have sn := SW.n
      exact hk n _ (by omega)
theorem ok_law' {f : Addr} {fd : FuncData} (F : Fun K "law" "law" s_law f fd) (T : Tx K mg) {c0 P0 c1 P1 : Addr} (tc0 : TabC K "Book.heap" c0 P0) (tc1 : TabC K "_law_heap_of" c1 P1) (nd : [P0, P1].Nodup) (o_begun : Ok P w K mg base 3 "_law_begun" s_begun ["_law_terms"] 1 sp_begun) (o_deed_right : Ok P w K mg base 9 "_law_deed_right" s_deed_right ["_law_kept", "_law_deed_here"] 2 sp_deed_right) (o_heap_of : Ok P w K mg base 4 "_law_heap_of" s_heap_of ["_law_pages"] 1 sp_heap_of) (o_long_right : Ok P w K mg base 10 "_law_long_right" s_long_right ["_law_state", "_law_world_here"] 2 sp_long_right) (o_next : Ok P w K mg base 6 "_law_next" s_next ["_law_state", "_law_world_here", "_law_kept"] 3 sp_next) (o_take : Ok P w K mg base 1 "_law_take" s_take ["_law_state", "_law_many"] 2 spTake) (o_world : Ok P w K mg base 3 "_law_world" s_world ["_law_state"] 1 sp_world) : FnOkG P w K mg base CX0 11 f fd ["_law_script"] (spLawT K [("Book.heap", c0, P0), ("_law_heap_of", c1, P1)]) := by
  obtain ⟨fB, fdB, aB⟩ := T.d_begin
  have GB : FnOk P w K mg base CX0 10 fB fdB ["_law_script"] (spBeginH K) := ok_begin aB.F T.b_list
  refine ok_lawT (n := 5) F sc_law rfl rfl rfl (by first | exact .inl rfl | exact .inr rfl) (by first | exact .inl rfl | exact .inr (.inl rfl)) rfl GB aB.kp aB.b aB.g (fun t ht => by
    repeat (first | (rcases List.mem_cons.mp ht with rfl | ht; · assumption) | (cases ht))) nd (fun cdv A outer s H E hr =>
  (dss_clo (dss_cons (ds_set (i := 2) sc_law.nd rfl (by first | exact .inl rfl | exact .inr rfl) (de_callT o_world (hr.mono (by omega)) (by rfl) (dan_cons (dv 1) dan_nil)))
  (dss_cons (ds_set (i := 3) sc_law.nd rfl (by first | exact .inl rfl | exact .inr rfl) (de_callT o_begun (hr.mono (by omega)) (by rfl) (dan_cons (de_dgetG (hu1 hr) (dv 2) de_str) dan_nil)))
  (dss_cons (ds_if (dt_bool (dw_or (dt_not (dt_val (de_callT o_deed_right (hr.mono (by omega)) (by rfl) (dan_cons (dv 3) (dan_cons (de_tup (dan_cons de_str dan_nil)) dan_nil))))) (dw_or1 (dt_not (dt_val (de_callT o_long_right (hr.mono (by omega)) (by rfl) (dan_cons (dv 1) (dan_cons (de_callT o_world (hr.mono (by omega)) (by rfl) (dan_cons (dv 1) dan_nil)) dan_nil))))))))
    (dss_one (ds_ret de_bl))
    dss_nil)
  (dss_cons (ds_forA [0, 4, 5, 6] PassesOwn.never rfl (di_cl (di_range1 (by rfl) (T.b_range) (da_cons (de_add de_int (de_callV o_take (hr.mono (by omega)) (by rfl) (dan_cons (dv 1) (dan_cons de_int dan_nil)))) da_nil))) (dg_name (i := 4) sc_law.nd rfl (by first | exact .inl rfl | exact .inr rfl))
    (dss_one (ds_if (dt_not (dt_val (de_callT o_deed_right (hr.mono (by omega)) (by rfl) (dan_cons (dv 3) (dan_cons (de_callT o_next (hr.mono (by omega)) (by rfl) (dan_cons (dv 1) (dan_cons (dv 2) (dan_cons (dv 3) dan_nil)))) dan_nil)))))
      (dss_one (ds_ret de_bl))
      dss_nil)))
  (dss_cons (ds_set (i := 5) sc_law.nd rfl (by first | exact .inl rfl | exact .inr rfl) (de_callT o_heap_of (hr.mono (by omega)) (by rfl) (dan_cons (de_dgetG (hu1 hr) (dv 3) de_str) dan_nil)))
  (dss_cons (ds_forA [0, 1, 2, 4, 6] PassesOwn.never rfl (di_cl (di_range1 (by rfl) (T.b_range) (da_cons (de_add (de_lenS (by rfl) (T.b_len) (de_dgetG (hu1 hr) (dv 3) de_str)) de_int) da_nil))) (dg_name (i := 4) sc_law.nd rfl (by first | exact .inl rfl | exact .inr rfl))
    (dss_one (ds_if (dt_not (dt_val (de_callT o_deed_right (hr.mono (by omega)) (by rfl) (dan_cons (dv 3) (dan_cons (de_tup (dan_cons de_str dan_nil)) dan_nil)))))
      (dss_one (ds_ret de_bl))
      dss_nil)))
  (dss_cons (ds_if (dt_neDk0 (hu64 hr) (de_dgetG (hu1 hr) (dv 3) de_str) de_newD)
    (dss_one (ds_ret de_bl))
    dss_nil)
  (dss_cons (ds_forA [0, 1, 2, 4, 5, 6] PassesOwn.never rfl (di_cl (di_list (dv 5))) (dg_name (i := 6) sc_law.nd rfl (by first | exact .inl rfl | exact .inr rfl))
    (dss_one (ds_if (dt_not (dt_val (de_callT o_deed_right (hr.mono (by omega)) (by rfl) (dan_cons (dv 3) (dan_cons (de_tup (dan_cons de_str (dan_cons (dv 6) dan_nil))) dan_nil)))))
      (dss_one (ds_ret de_bl))
      dss_nil)))
  (dss_one (ds_ret (de_and (de_callT o_deed_right (hr.mono (by omega)) (by rfl) (dan_cons (dv 3) (dan_cons (de_tup (dan_cons de_str dan_nil)) dan_nil))) (de_one (de_callT o_deed_right (hr.mono (by omega)) (by rfl) (dan_cons (dv 3) (dan_cons (de_tup (dan_cons de_str dan_nil)) dan_nil))))))))))))))))) ?_
  refine (show ∀ W : WS, W (S.mk (.no :: .mu 2 :: nos 5) [.tab "Book.heap", .tab "_law_heap_of", .rnd fuel0] 2) endLaw → W ⟨.no :: .mu ([("Book.heap", c0, P0), ("_law_heap_of", c1, P1)] : List (Str × Addr × Addr)).length :: nos 5, ([("Book.heap", c0, P0), ("_law_heap_of", c1, P1)] : List (Str × Addr × Addr)).map (fun t => MO.tab t.1) ++ [.rnd fuel0], ([("Book.heap", c0, P0), ("_law_heap_of", c1, P1)] : List (Str × Addr × Addr)).length⟩ endLaw from fun _ h => h) _ ?_
  have hf : fuel0 = 1000000000000 := rfl
  intro _
  refine seqU fun u hu => ?_
  refine ⟨.tab "Book.heap", .tab "_law_heap_of", fuel0, [], rfl, rfl, by unfold fuel0; decide, fun n1 W1 hn1 H1 ⟨wt, wd, wc, wn, wr⟩ => ?_⟩
  show u ⟨[.no, .mu 2, .mu 3, .no, .no, .no, .no], .tab "Book.heap" :: .tab "_law_heap_of" :: .rnd n1 :: bW [] W1 [], 2⟩ endLaw
  rw [hu]; clear hu u
  refine seqU fun u hu => ?_
  refine ⟨_, _, rfl, wd_terms (L := []), W1.rts, W1.lim, W1.most, rfl, H1.tm.len, ?_⟩
  have H0 := KSt.beg (.tab "Book.heap" :: .tab "_law_heap_of" :: .rnd n1 :: bW [] W1 []) [] W1.rts W1.lim W1.most
  rw [List.append_nil, List.cons_append, List.cons_append, List.cons_append, bW_app] at H0
  obtain ⟨tm, htm⟩ : ∃ tm, tm = tmB W1.rts W1.lim W1.most := ⟨_, rfl⟩
  show u ⟨[.no, .mu 2, .mu 3, .mu 13, .no, .no, .no], .tab "Book.heap" :: .tab "_law_heap_of" :: .rnd n1 :: bW [] W1 (begM 11 W1.rts W1.lim W1.most), 2⟩ endLaw
  change KSt (.tab "Book.heap" :: .tab "_law_heap_of" :: .rnd n1 :: bW [] W1 (begM 11 W1.rts W1.lim W1.most)) 11 (tmB W1.rts W1.lim W1.most) (tmB W1.rts W1.lim W1.most) 18 [] [] [] [] [[]] 0 at H0
  rw [← htm] at H0
  obtain ⟨K0, hK0⟩ : ∃ K0, K0 = begM 11 W1.rts W1.lim W1.most := ⟨_, rfl⟩
  rw [← hK0] at H0 ⊢
  clear hK0 htm
  rw [hu]; clear hu u
  refine seqU fun u hu => ?_
  refine onO_mk rfl ?_
  refine ⟨11, 0, 1, tm, tm, 18, [], [], [], [], [[]], 0, .undo, rfl, H0, by decide, rfl, by decide, rfl, trivial, by decide, by decide, by decide, fun ms' kj bp kp rs ks st F H' sk r1 r2 r3 => ?_⟩
  have hd1 : hd0 ks kp := sk.hd rfl
  obtain ⟨tl, rfl⟩ := bW_front F (by decide)
  refine ff ?_
  refine ⟨.tab "Book.heap", .tab "_law_heap_of", n1, bW [] W1 tl, rfl, rfl, by omega, fun n2 W2 hn2 H2 ⟨wt2, wd2, wc2, wn2, wr2⟩ => ?_⟩
  refine ⟨n2, bW [] W1 tl, W2, rfl, rfl, H2, wt2, wd2, wr2, by omega, fun n3 r hn3 => ff ?_⟩
  show u ⟨[.no, .mu 2, .mu 3, .mu 13, .no, .no, .no], .tab "Book.heap" :: .tab "_law_heap_of" :: .rnd n3 :: (bW [] W1 tl ++ r), 2⟩ endLaw
  have H3 := H'.fr (S := []) (FrB.app (r := r)) (fun _ z => by cases z) (fun _ z => by cases z)
  rw [List.cons_append, List.cons_append, List.cons_append, bW_app] at H3
  have H4 := H3.fr (wFr (m := n3) (W' := W1)) (by decide) wNo
  rw [bW_app, hu]; clear hu u H3 H' H0 sk F r3
  generalize tl ++ r = tl at H4 ⊢
  have S0 : WSt n3 0 0 n3 W1 (10 ^ 26) := ⟨by omega, H1, by decide, by omega, (by rw [wr]; exact Nat.zero_le _), by omega, by omega⟩
  refine seqU fun u hu => ?_
  refine ⟨nd1, rfl, by omega, divA 10 (by decide) (by decide), fun a a0 a1 => ⟨rfl, ?_⟩⟩
  try dsimp only [DL.S.sE, DL.S.sM, DL.S.aM, DL.S.cM, DL.st, DL.gt, DL.sm, DL.gm, DL.putM, DL.pick, DL.muks, DL.nthN, DL.bkE, DL.st0, DL.nos, List.cons_append, List.nil_append, List.append_nil, List.drop_succ_cons, List.drop_nil, List.drop_zero, List.drop, DL.a1, DL.a2, DL.a3, DL.cMin3, DL.aNil, DL.aCons, DL.dVar, DL.dC, DL.iI, DL.i1, DL.isB, DL.daI, DL.onE, DL.gN, List.length_cons, List.length_nil, Nat.reduceAdd, Nat.zero_add]
  simp only [List.append_nil]
  refine onO_mk rfl ?_
  refine ⟨by omega, by omega, fun _ => ⟨fun (i : Nat) (s : S) => ∃ (n : Nat) (W : BW) (tl : List MO) (B : Int) (kj : Nat) (bp kp : List Page) (rs : List (Nat × Rec)) (ks : List (Nat × List Page)) (st : List (List Page)) (M : Nat), s = ⟨[.no, .mu 2, .mu 3, .mu 13, .no, .no, .no], .tab "Book.heap" :: .tab "_law_heap_of" :: .rnd n :: bW [] W tl, 2⟩ ∧ WSt n3 1 i n W B ∧ KSt (.tab "Book.heap" :: .tab "_law_heap_of" :: .rnd n :: bW [] W tl) 11 tm tm kj bp kp rs ks st M ∧ M ≤ i ∧ rs.length ≤ i + 1 ∧ st.length ≤ i + 2 ∧ hd0 ks kp, ?_, ?_, ?_⟩⟩
  · exact ⟨n3 - 1, W1, tl, 10 ^ 26, kj, bp, kp, rs, ks, st, 0, by (simp only [DL.clA, DL.clS, DL.killL, DL.limL, DL.limE_mu, DL.limE_da, DL.limE_no, DL.takM, DL.limM, DL.frzS, DL.subL, DL.subE_mu, DL.subE_da, DL.subE_no, DL.subS, DL.subM, DL.S.sE, DL.S.sM, DL.S.aM, DL.S.cM, DL.st, DL.gt, DL.sm, DL.gm, DL.putM, DL.pick, DL.muks, DL.nthN, DL.bkE, DL.st0, DL.nos, List.cons_append, List.nil_append, List.append_nil, List.drop_succ_cons, List.drop_nil, List.drop_zero, List.length_cons, List.length_nil, List.map_cons, List.map_nil, List.map_append, Nat.reduceAdd, Nat.zero_add, Nat.reduceLT, Nat.reduceEqDiff, if_true, if_false, ↓reduceIte, Nat.lt_irrefl, Nat.not_lt_zero] <;> rfl), S0.mono (by omega), H4.fr wFr (by decide) wNo, Nat.le_refl _, r1, r2, hd1⟩
  · clear H4 S0 r1 r2 hd1
    rintro i e s hi ⟨n, W, tl, B, kj, bp, kp, rs, ks, st, M, rfl, SW, H, m0, l1, l2, h0⟩
    have hi2 : i < 51 := by
      have := (List.getElem?_eq_some_iff.mp hi).1
      rw [rng_length] at this
      omega
    clear hi
    have s1 := SW.n
    have s2 := SW.t
    have s3 := SW.d1
    have le := H.le
    refine ⟨.tab "Book.heap", .tab "_law_heap_of", n, [], W, tl, B, 11, kj, tm, kp, rfl, rfl, H.K.g0, H.K.gk, by omega, SW.ok, SW.b19 (by omega), SW.dr, by omega, SW.d0, by omega, by omega, fun m W' d hm N => ?_⟩
    have H2 := H.fr (wFr (m := m) (W' := W')) (by decide) wNo
    refine ⟨11, 0, 1, tm, tm, kj, bp, kp, rs, ks, st, M, d, rfl, H2, by decide, rfl, by decide, rfl, N.ok, by omega, by omega, by omega, fun ms' kj' bp' kp' rs' ks' st' F H' sk r1 r2 r3 => ff ?_⟩
    have lo := H.K.lo
    have gd := growD_le d
    obtain ⟨tl', rfl⟩ := bW_front F (fun x hx => by
      simp only [List.mem_cons, List.not_mem_nil, or_false, List.length_nil] at hx ⊢
      omega)
    exact ⟨m, W', tl', 2 * B, kj', bp', kp', rs', ks', st', M + growD d, by (simp only [DL.clA, DL.clS, DL.killL, DL.limL, DL.limE_mu, DL.limE_da, DL.limE_no, DL.takM, DL.limM, DL.frzS, DL.subL, DL.subE_mu, DL.subE_da, DL.subE_no, DL.subS, DL.subM, DL.S.sE, DL.S.sM, DL.S.aM, DL.S.cM, DL.st, DL.gt, DL.sm, DL.gm, DL.putM, DL.pick, DL.muks, DL.nthN, DL.bkE, DL.st0, DL.nos, List.cons_append, List.nil_append, List.append_nil, List.drop_succ_cons, List.drop_nil, List.drop_zero, List.length_cons, List.length_nil, List.map_cons, List.map_nil, List.map_append, Nat.reduceAdd, Nat.zero_add, Nat.reduceLT, Nat.reduceEqDiff, if_true, if_false, ↓reduceIte, Nat.lt_irrefl, Nat.not_lt_zero] <;> rfl), SW.next N.w hm, H', by omega, by omega, by omega, sk.hd h0⟩
  · clear H4 S0 r1 r2 hd1
    rintro s ⟨n, W, tl, B, kj, bp, kp, rs, ks, st, M, rfl, SW, H, m0, l1, l2, h0⟩
    rw [rng_length] at m0 l1 l2
    rw [hu]; clear hu u
    obtain ⟨MS, hMS⟩ : ∃ MS, MS = MO.tab "Book.heap" :: .tab "_law_heap_of" :: .rnd n :: bW [] W tl := ⟨_, rfl⟩
    have g0 : gm MS 0 = .tab "Book.heap" := by rw [hMS]; rfl
    have g1 : gm MS 1 = .tab "_law_heap_of" := by rw [hMS]; rfl
    rw [← hMS] at H ⊢
    clear hMS SW
    have le := H.le
    have lrk := H.len
    refine seqU fun u hu => ?_
    refine ⟨_, _, rfl, H.K.pages, kj, 1, kp, rfl, H.K.gk, g1, H.K.nd, by omega, ?_⟩
    rw [heapL_eq]
    obtain ⟨ps, hps⟩ : ∃ ps, ps = hpP kp := ⟨_, rfl⟩
    have pso : ∀ x ∈ ps, pgOk x := fun x hx => H.ok x ((hpP_perm kp).mem_iff.mp (hps ▸ hx))
    have psl : ps.length ≤ 51 := by
      rw [hps, (hpP_perm kp).length_eq]
      omega
    show u ⟨[.no, .mu 2, .mu 3, .mu 13, .no, .da (.list ((hpP kp).map pgD)), .no], MS, 2⟩ endLaw
    rw [← hps, hu]; clear hu u hps
    refine seqU fun u hu => ?_
    refine ⟨_, _, rfl, H.K.past, ?_⟩
    dsimp only [aNil, cLenS, DL.a1]
    refine isLstS_mk (s := S.mk _ _ _) H.K.g8 ?_
    have lm : (muS (ks.map (·.1))).length = ks.length := by unfold muS; rw [List.length_map, List.length_map]
    rw [lm]
    obtain ⟨c, hc⟩ : ∃ c, c = ks.length := ⟨_, rfl⟩
    have c0 : c ≤ 52 := by omega
    have cl1 : (rng 0 ((ks.length : Int) + 1).toNat).length = c + 1 := by
      rw [rng_length]
      omega
    refine ⟨by omega, by omega, fun _ => ⟨fun (i : Nat) (s : S) => ∃ (MS : List MO) (kj : Nat) (bp kp : List Page) (rs : List (Nat × Rec)) (ks : List (Nat × List Page)) (st : List (List Page)) (M : Nat), s = ⟨[.no, .no, .no, .mu 13, .no, .da (.list (ps.map pgD)), .no], MS, 2⟩ ∧ gm MS 0 = .tab "Book.heap" ∧ gm MS 1 = .tab "_law_heap_of" ∧ KSt MS 11 tm tm kj bp kp rs ks st M ∧ M ≤ 51 ∧ ks.length = c - i ∧ st.length ≤ 60 + i ∧ hd0 ks kp, ?_, ?_, ?_⟩⟩
    · exact ⟨MS, kj, bp, kp, rs, ks, st, M, by (simp only [DL.clA, DL.clS, DL.killL, DL.limL, DL.limE_mu, DL.limE_da, DL.limE_no, DL.takM, DL.limM, DL.frzS, DL.subL, DL.subE_mu, DL.subE_da, DL.subE_no, DL.subS, DL.subM, DL.S.sE, DL.S.sM, DL.S.aM, DL.S.cM, DL.st, DL.gt, DL.sm, DL.gm, DL.putM, DL.pick, DL.muks, DL.nthN, DL.bkE, DL.st0, DL.nos, List.cons_append, List.nil_append, List.append_nil, List.drop_succ_cons, List.drop_nil, List.drop_zero, List.length_cons, List.length_nil, List.map_cons, List.map_nil, List.map_append, Nat.reduceAdd, Nat.zero_add, Nat.reduceLT, Nat.reduceEqDiff, if_true, if_false, ↓reduceIte, Nat.lt_irrefl, Nat.not_lt_zero] <;> rfl), g0, g1, H, by omega, by omega, by omega, h0⟩
    · clear g0 g1 H le m0 l1 l2 h0 lrk lm
      rintro i e s hi ⟨MS, kj, bp, kp, rs, ks, st, M, rfl, g0, g1, H, m0, l1, l2, h0⟩
      have hi2 : i < c + 1 := by
        have := (List.getElem?_eq_some_iff.mp hi).1
        omega
      clear hi
      have le := H.le
      have lrk := H.len
      refine onO_mk rfl ?_
      refine ⟨11, 0, 1, tm, tm, kj, bp, kp, rs, ks, st, M, .undo, rfl, H, by decide, g0, by decide, g1, trivial, by omega, by omega, by omega, fun ms' kj' bp' kp' rs' ks' st' F H' sk r1 r2 r3 => ff ?_⟩
      have lo := H.K.lo
      have ul := sk.undo_len
      refine ⟨ms', kj', bp', kp', rs', ks', st', M, by (simp only [DL.clA, DL.clS, DL.killL, DL.limL, DL.limE_mu, DL.limE_da, DL.limE_no, DL.takM, DL.limM, DL.frzS, DL.subL, DL.subE_mu, DL.subE_da, DL.subE_no, DL.subS, DL.subM, DL.S.sE, DL.S.sM, DL.S.aM, DL.S.cM, DL.st, DL.gt, DL.sm, DL.gm, DL.putM, DL.pick, DL.muks, DL.nthN, DL.bkE, DL.st0, DL.nos, List.cons_append, List.nil_append, List.append_nil, List.drop_succ_cons, List.drop_nil, List.drop_zero, List.length_cons, List.length_nil, List.map_cons, List.map_nil, List.map_append, Nat.reduceAdd, Nat.zero_add, Nat.reduceLT, Nat.reduceEqDiff, if_true, if_false, ↓reduceIte, Nat.lt_irrefl, Nat.not_lt_zero] <;> rfl), F.at g0 (fun z => nomatch z) ?_, F.at g1 (fun z => nomatch z) ?_, H', m0, by omega, by omega, sk.hd h0⟩
      · simp only [List.mem_cons, List.not_mem_nil, or_false]
        omega
      · simp only [List.mem_cons, List.not_mem_nil, or_false]
        omega
    · clear g0 g1 H le m0 l1 l2 h0 lrk lm
      rintro s ⟨MS, kj, bp, kp, rs, ks, st, M, rfl, g0, g1, H, m0, l1, l2, h0⟩
      rw [cl1] at l1 l2
      have e0 : ks = [] := List.length_eq_zero_iff.mp (by omega)
      have lrk := H.len
      subst e0
      have e1 : kp = [] := hd0_nil h0
      subst e1
      rw [hu]; clear hu u
      refine seqU fun u hu => ?_
      refine ⟨_, _, rfl, H.K.pages, ?_⟩
      dsimp only [dNewD, rdDk0]
      try dsimp only [DL.S.sE, DL.S.sM, DL.S.aM, DL.S.cM, DL.st, DL.gt, DL.sm, DL.gm, DL.putM, DL.pick, DL.muks, DL.nthN, DL.bkE, DL.st0, DL.nos, List.cons_append, List.nil_append, List.append_nil, List.drop_succ_cons, List.drop_nil, List.drop_zero, List.drop, DL.a1, DL.a2, DL.a3, DL.cMin3, DL.aNil, DL.aCons, DL.dVar, DL.dC, DL.iI, DL.i1, DL.isB, DL.daI, DL.onE, DL.gN, List.length_cons, List.length_nil, Nat.reduceAdd, Nat.zero_add]
      refine mu2_mk (s := S.mk _ _ _) (gm_appX H.K.gk (fun z => nomatch z)) (mu2_mk (s := S.mk _ _ _) gm_at0 ⟨rfl, ?_⟩)
      refine ff ?_
      replace H := H.fr (S := []) (FrB.app (r := [.dct []])) (fun _ z => by cases z) (fun _ z => by cases z)
      replace g0 := gm_appX (r := [.dct []]) g0 (fun z => nomatch z)
      replace g1 := gm_appX (r := [.dct []]) g1 (fun z => nomatch z)
      generalize MS ++ [.dct []] = MS at H g0 g1 ⊢
      dsimp only [sNil]
      rw [hu]; clear hu u
      have lrs : rs.length = 0 := lrk
      refine seqU fun u hu => ?_
      refine fun _ => ⟨fun (i : Nat) (s : S) => ∃ (MS : List MO) (kj : Nat) (bp kp : List Page) (rs : List (Nat × Rec)) (ks : List (Nat × List Page)) (st : List (List Page)) (M : Nat), s = ⟨[.no, .no, .no, .mu 13, .no, .no, .no], MS, 2⟩ ∧ gm MS 0 = .tab "Book.heap" ∧ gm MS 1 = .tab "_law_heap_of" ∧ KSt MS 11 tm tm kj bp kp rs ks st M ∧ M ≤ 51 + i ∧ rs.length ≤ i ∧ st.length ≤ 113 + i, ?_, ?_, ?_⟩
      · exact ⟨MS, kj, bp, [], rs, [], st, M, by (simp only [DL.clA, DL.clS, DL.killL, DL.limL, DL.limE_mu, DL.limE_da, DL.limE_no, DL.takM, DL.limM, DL.frzS, DL.subL, DL.subE_mu, DL.subE_da, DL.subE_no, DL.subS, DL.subM, DL.S.sE, DL.S.sM, DL.S.aM, DL.S.cM, DL.st, DL.gt, DL.sm, DL.gm, DL.putM, DL.pick, DL.muks, DL.nthN, DL.bkE, DL.st0, DL.nos, List.cons_append, List.nil_append, List.append_nil, List.drop_succ_cons, List.drop_nil, List.drop_zero, List.length_cons, List.length_nil, List.map_cons, List.map_nil, List.map_append, Nat.reduceAdd, Nat.zero_add, Nat.reduceLT, Nat.reduceEqDiff, if_true, if_false, ↓reduceIte, Nat.lt_irrefl, Nat.not_lt_zero] <;> rfl), g0, g1, H, by omega, by omega, by omega⟩
      · clear g0 g1 H m0 l1 l2 h0 lrk
        rintro i e s hi ⟨MS, kj, bp, kp, rs, ks, st, M, rfl, g0, g1, H, m0, l1, l2⟩
        have hi2 : i < ps.length := by
          have := (List.getElem?_eq_some_iff.mp hi).1
          rw [List.length_map] at this
          exact this
        obtain ⟨p, hp, rfl⟩ : ∃ p, p ∈ ps ∧ e = pgD p := by
          obtain ⟨p, hp, e2⟩ := List.mem_map.mp (List.mem_of_getElem? hi)
          exact ⟨p, hp, e2.symm⟩
        clear hi
        have le := H.le
        refine onO_mk rfl ?_
        refine ⟨11, 0, 1, tm, tm, kj, bp, kp, rs, ks, st, M, .say p, rfl, H, by decide, g0, by decide, g1, pso p hp, by omega, by omega, by omega, fun ms' kj' bp' kp' rs' ks' st' F H' sk r1 r2 r3 => ff ?_⟩
        have lo := H.K.lo
        refine ⟨ms', kj', bp', kp', rs', ks', st', M + 1, by (simp only [DL.clA, DL.clS, DL.killL, DL.limL, DL.limE_mu, DL.limE_da, DL.limE_no, DL.takM, DL.limM, DL.frzS, DL.subL, DL.subE_mu, DL.subE_da, DL.subE_no, DL.subS, DL.subM, DL.S.sE, DL.S.sM, DL.S.aM, DL.S.cM, DL.st, DL.gt, DL.sm, DL.gm, DL.putM, DL.pick, DL.muks, DL.nthN, DL.bkE, DL.st0, DL.nos, List.cons_append, List.nil_append, List.append_nil, List.drop_succ_cons, List.drop_nil, List.drop_zero, List.length_cons, List.length_nil, List.map_cons, List.map_nil, List.map_append, Nat.reduceAdd, Nat.zero_add, Nat.reduceLT, Nat.reduceEqDiff, if_true, if_false, ↓reduceIte, Nat.lt_irrefl, Nat.not_lt_zero] <;> rfl), F.at g0 (fun z => nomatch z) ?_, F.at g1 (fun z => nomatch z) ?_, H', by omega, by omega, by omega⟩
        · simp only [List.mem_cons, List.not_mem_nil, or_false]
          omega
        · simp only [List.mem_cons, List.not_mem_nil, or_false]
          omega
      · clear g0 g1 H m0 l1 l2 h0 lrk
        rintro s ⟨MS, kj, bp, kp, rs, ks, st, M, rfl, g0, g1, H, m0, l1, l2⟩
        rw [List.length_map] at m0 l1 l2
        rw [hu]; clear hu u
        have lo := H.K.lo
        refine onO_mk rfl ?_
        refine ⟨11, 0, 1, tm, tm, kj, bp, kp, rs, ks, st, M, .undo, rfl, H, by decide, g0, by decide, g1, trivial, by omega, by omega, by omega, fun ms2 kj2 bp2 kp2 rs2 ks2 st2 F H2 sk r1 r2 r3 => ?_⟩
        have lo2 := H2.K.lo
        refine tt ?_
        refine onO_mk rfl ?_
        refine ⟨11, 0, 1, tm, tm, kj2, bp2, kp2, rs2, ks2, st2, M, .undo, rfl, H2, by decide, F.at g0 (fun z => nomatch z) ?_, by decide, F.at g1 (fun z => nomatch z) ?_, trivial, by omega, by omega, by omega, fun ms3 kj3 bp3 kp3 rs3 ks3 st3 F3 H3 sk3 r4 r5 r6 => ?_⟩
        · simp only [List.mem_cons, List.not_mem_nil, or_false]
          omega
        · simp only [List.mem_cons, List.not_mem_nil, or_false]
          omega
        exact rfl
end
theorem law_all {f : Addr} {fd : FuncData} {P : Program} {w : World} {K : PySem.W.Frag} {mg : Str → Option Value} {base : Heap} (F : Fun K "law" "law" s_law f fd) (T : Tx K mg) (TB : TbX K mg base) {c0 P0 c1 P1 : Addr} (tc0 : TabC K "Book.heap" c0 P0) (tc1 : TabC K "_law_heap_of" c1 P1) (nd : [P0, P1].Nodup) : FnOkG P w K mg base CX0 11 f fd ["_law_script"] (spLawT K [("Book.heap", c0, P0), ("_law_heap_of", c1, P1)]) := by
  have h_take : Ok P w K mg base 1 "_law_take" s_take ["_law_state", "_law_many"] 2 spTake := o_take' T
  have h_SaidDeed_init := ok_SaidDeed_init (P := P) (w := w) (base := base) T
  have h_SaidDeed_take_back := ok_SaidDeed_take_back (P := P) (w := w) (base := base) T
  have h_UnsaidDeed_take_back := ok_UnsaidDeed_take_back (P := P) (w := w) (base := base) T
  have h_RetoldDeed_take_back := ok_RetoldDeed_take_back (P := P) (w := w) (base := base) T
  have h_Book_init := ok_Book_init (P := P) (w := w) (base := base) T
  have h_Book_ask_number := ok_Book_ask_number (P := P) (w := w) (base := base) T
  have h_Book_ask_new := ok_Book_ask_new (P := P) (w := w) (base := base) T
  have h_due_word := ok_due_word (P := P) (w := w) (base := base) T
  have h_class := ok_class (P := P) (w := w) (base := base) T
  have h_names := ok_names (P := P) (w := w) (base := base) T h_take
  have h_some := ok_some (P := P) (w := w) (base := base) T h_take
  have h_measured := ok_measured (P := P) (w := w) (base := base) T h_take
  have h_UnsaidDeed_init := ok_UnsaidDeed_init (P := P) (w := w) (base := base) T h_SaidDeed_init
  have h_world := ok_world (P := P) (w := w) (base := base) T h_names h_take
  have h_laid := ok_laid (P := P) (w := w) (base := base) T h_some h_take
  have h_of_cask := ok_of_cask (P := P) (w := w) (base := base) T h_measured h_some h_take
  have h_begun := ok_begun (P := P) (w := w) (base := base) T h_Book_init
  have h_Book_heap := ok_Book_heap (P := P) (w := w) (base := base) T TB
  have h_deed := ok_deed (P := P) (w := w) (base := base) T h_laid h_measured h_of_cask h_some h_take
  have h_heap_of := ok_heap_of (P := P) (w := w) (base := base) T TB
  have h_RetoldDeed_init := ok_RetoldDeed_init (P := P) (w := w) (base := base) T h_UnsaidDeed_init
  have h_Book_note := ok_Book_note (P := P) (w := w) (base := base) T h_Book_heap
  have h_page := ok_page (P := P) (w := w) (base := base) T h_deed h_some h_take
  have h_kept_on := ok_kept_on (P := P) (w := w) (base := base) T h_heap_of
  have h_Book_say := ok_Book_say (P := P) (w := w) (base := base) T h_Book_ask_new h_Book_note h_SaidDeed_init
  have h_Book_unsay := ok_Book_unsay (P := P) (w := w) (base := base) T h_Book_ask_number h_Book_note h_UnsaidDeed_init
  have h_Book_undo := ok_Book_undo (P := P) (w := w) (base := base) T h_Book_note h_RetoldDeed_take_back h_SaidDeed_take_back h_UnsaidDeed_take_back
  have h_next := ok_next (P := P) (w := w) (base := base) T h_page h_some h_take
  have h_Book_retell := ok_Book_retell (P := P) (w := w) (base := base) T h_Book_ask_new h_Book_ask_number h_Book_note h_RetoldDeed_init
  have h_tried := ok_tried (P := P) (w := w) (base := base) T h_Book_retell h_Book_say h_Book_undo h_Book_unsay h_class
  have h_deed_right := ok_deed_right (P := P) (w := w) (base := base) T h_Book_heap h_due_word h_kept_on h_tried
  have h_long_right := ok_long_right (P := P) (w := w) (base := base) T h_begun h_deed_right h_page h_some h_take
  exact ok_law' F T tc0 tc1 nd h_begun h_deed_right h_heap_of h_long_right h_next h_take h_world
theorem all_mk {l : PySem.W.OpenLaw} {w : World} {K : PySem.W.Frag} {h : Heap} {mg : Str → Option Value} {fa : Addr} (X : K.In h) (G : h.Ns mainGlobals mg) (hfa : mg "law" = some (.ref fa))
    {f0 : Addr} {od0 an0 : Option Addr} {sl0 : Array (Option Value)} {oc0 kV0 dc0 pm0 cd0 ct0 : Value}
    {f1 : Addr} {od1 an1 : Option Addr} {sl1 : Array (Option Value)} {oc1 kV1 dc1 pm1 cd1 ct1 : Value}
    {f2 : Addr} {od2 an2 : Option Addr} {sl2 : Array (Option Value)} {oc2 kV2 dc2 pm2 cd2 ct2 : Value}
    {f3 : Addr} {od3 an3 : Option Addr} {sl3 : Array (Option Value)} {oc3 kV3 dc3 pm3 cd3 ct3 : Value}
    {f4 : Addr} {od4 an4 : Option Addr} {sl4 : Array (Option Value)} {oc4 kV4 dc4 pm4 cd4 ct4 : Value}
    {f5 : Addr} {od5 an5 : Option Addr} {sl5 : Array (Option Value)} {oc5 kV5 dc5 pm5 cd5 ct5 : Value}
    {f6 : Addr} {od6 an6 : Option Addr} {sl6 : Array (Option Value)} {oc6 kV6 dc6 pm6 cd6 ct6 : Value}
    {f7 : Addr} {od7 an7 : Option Addr} {sl7 : Array (Option Value)} {oc7 kV7 dc7 pm7 cd7 ct7 : Value}
    {f8 : Addr} {od8 an8 : Option Addr} {sl8 : Array (Option Value)} {oc8 kV8 dc8 pm8 cd8 ct8 : Value}
    {f9 : Addr} {od9 an9 : Option Addr} {sl9 : Array (Option Value)} {oc9 kV9 dc9 pm9 ct9 : Value}
    {y9 Q9 : Addr} {cc9 : Value} {cx9 : Option Addr} {cv9 : Array Value} {cs9 : Array (Option Value)}
    {f10 : Addr} {od10 an10 : Option Addr} {sl10 : Array (Option Value)} {oc10 kV10 dc10 pm10 cd10 ct10 : Value}
    {f11 : Addr} {od11 an11 : Option Addr} {sl11 : Array (Option Value)} {oc11 kV11 dc11 pm11 cd11 ct11 : Value}
    {f12 : Addr} {od12 an12 : Option Addr} {sl12 : Array (Option Value)} {oc12 kV12 dc12 pm12 cd12 ct12 : Value}
    {f13 : Addr} {od13 an13 : Option Addr} {sl13 : Array (Option Value)} {oc13 kV13 dc13 pm13 cd13 ct13 : Value}
    {f14 : Addr} {od14 an14 : Option Addr} {sl14 : Array (Option Value)} {oc14 kV14 dc14 pm14 cd14 ct14 : Value}
    {f15 : Addr} {od15 an15 : Option Addr} {sl15 : Array (Option Value)} {oc15 kV15 dc15 pm15 cd15 ct15 : Value}
    {f16 : Addr} {od16 an16 : Option Addr} {sl16 : Array (Option Value)} {oc16 kV16 dc16 pm16 cd16 ct16 : Value}
    {f17 : Addr} {od17 an17 : Option Addr} {sl17 : Array (Option Value)} {oc17 kV17 dc17 pm17 cd17 ct17 : Value}
    {f18 : Addr} {od18 an18 : Option Addr} {sl18 : Array (Option Value)} {oc18 kV18 dc18 pm18 cd18 ct18 : Value}
    {f19 : Addr} {od19 an19 : Option Addr} {sl19 : Array (Option Value)} {oc19 kV19 dc19 pm19 cd19 ct19 : Value}
    {f20 : Addr} {od20 an20 : Option Addr} {sl20 : Array (Option Value)} {oc20 kV20 dc20 pm20 cd20 ct20 : Value}
    {f21 : Addr} {od21 an21 : Option Addr} {sl21 : Array (Option Value)} {oc21 kV21 dc21 pm21 cd21 ct21 : Value}
    {f22 : Addr} {od22 an22 : Option Addr} {sl22 : Array (Option Value)} {oc22 kV22 dc22 pm22 cd22 ct22 : Value}
    {f23 : Addr} {od23 an23 : Option Addr} {sl23 : Array (Option Value)} {oc23 kV23 dc23 pm23 cd23 ct23 : Value}
    {f24 : Addr} {od24 an24 : Option Addr} {sl24 : Array (Option Value)} {oc24 kV24 dc24 pm24 cd24 ct24 : Value}
    {f25 : Addr} {od25 an25 : Option Addr} {sl25 : Array (Option Value)} {oc25 kV25 dc25 pm25 cd25 ct25 : Value}
    {f26 : Addr} {od26 an26 : Option Addr} {sl26 : Array (Option Value)} {oc26 kV26 dc26 pm26 ct26 : Value}
    {y26 Q26 : Addr} {cc26 : Value} {cx26 : Option Addr} {cv26 : Array Value} {cs26 : Array (Option Value)}
    {f27 : Addr} {od27 an27 : Option Addr} {sl27 : Array (Option Value)} {oc27 kV27 dc27 pm27 cd27 ct27 : Value}
    {f28 : Addr} {od28 an28 : Option Addr} {sl28 : Array (Option Value)} {oc28 kV28 dc28 pm28 cd28 ct28 : Value}
    {f29 : Addr} {od29 an29 : Option Addr} {sl29 : Array (Option Value)} {oc29 kV29 dc29 pm29 cd29 ct29 : Value}
    {f30 : Addr} {od30 an30 : Option Addr} {sl30 : Array (Option Value)} {oc30 kV30 dc30 pm30 cd30 ct30 : Value}
    {f31 : Addr} {od31 an31 : Option Addr} {sl31 : Array (Option Value)} {oc31 kV31 dc31 pm31 cd31 ct31 : Value}
    {f32 : Addr} {od32 an32 : Option Addr} {sl32 : Array (Option Value)} {oc32 kV32 dc32 pm32 cd32 ct32 : Value}
    {f33 : Addr} {od33 an33 : Option Addr} {sl33 : Array (Option Value)} {oc33 kV33 dc33 pm33 cd33 ct33 : Value}
    {f34 : Addr} {od34 an34 : Option Addr} {sl34 : Array (Option Value)} {oc34 kV34 dc34 pm34 cd34 ct34 : Value}
    {C_SaidDeed : Addr}
    {C_UnsaidDeed : Addr}
    {C_RetoldDeed : Addr}
    {C_Book : Addr}
    {E_BadRow : Addr}
    {E_BadText : Addr}
    {E_BondError : Addr}
    {E_NoCask : Addr}
    {E_NoDeed : Addr}
    {E_NoPage : Addr}
    {E_Twice : Addr}
    {E_Unfit : Addr}
    (aC_SaidDeed : PySem.W.nsIn K mainGlobals "SaidDeed" = some (some (.ref C_SaidDeed))) (pg_SaidDeed : PySem.W.plainGet K C_SaidDeed Str.empty = true) (hd_SaidDeed : PySem.W.hasDictIn K C_SaidDeed = true) (po_SaidDeed : PySem.W.plainOver K C_SaidDeed = true) (sa_SaidDeed : PySem.W.findIn K (.ref C_SaidDeed) "__setattr__" = some (some (.builtin "object.__setattr__"))) (mk_SaidDeed : PySem.W.makesIn K C_SaidDeed = true) (kc_SaidDeed : PySem.W.keepIn K (.ref C_SaidDeed) = true)
    (aC_UnsaidDeed : PySem.W.nsIn K mainGlobals "UnsaidDeed" = some (some (.ref C_UnsaidDeed))) (pg_UnsaidDeed : PySem.W.plainGet K C_UnsaidDeed Str.empty = true) (hd_UnsaidDeed : PySem.W.hasDictIn K C_UnsaidDeed = true) (po_UnsaidDeed : PySem.W.plainOver K C_UnsaidDeed = true) (sa_UnsaidDeed : PySem.W.findIn K (.ref C_UnsaidDeed) "__setattr__" = some (some (.builtin "object.__setattr__"))) (mk_UnsaidDeed : PySem.W.makesIn K C_UnsaidDeed = true) (kc_UnsaidDeed : PySem.W.keepIn K (.ref C_UnsaidDeed) = true)
    (aC_RetoldDeed : PySem.W.nsIn K mainGlobals "RetoldDeed" = some (some (.ref C_RetoldDeed))) (pg_RetoldDeed : PySem.W.plainGet K C_RetoldDeed Str.empty = true) (hd_RetoldDeed : PySem.W.hasDictIn K C_RetoldDeed = true) (po_RetoldDeed : PySem.W.plainOver K C_RetoldDeed = true) (sa_RetoldDeed : PySem.W.findIn K (.ref C_RetoldDeed) "__setattr__" = some (some (.builtin "object.__setattr__"))) (mk_RetoldDeed : PySem.W.makesIn K C_RetoldDeed = true) (kc_RetoldDeed : PySem.W.keepIn K (.ref C_RetoldDeed) = true)
    (aC_Book : PySem.W.nsIn K mainGlobals "Book" = some (some (.ref C_Book))) (pg_Book : PySem.W.plainGet K C_Book Str.empty = true) (hd_Book : PySem.W.hasDictIn K C_Book = true) (po_Book : PySem.W.plainOver K C_Book = true) (sa_Book : PySem.W.findIn K (.ref C_Book) "__setattr__" = some (some (.builtin "object.__setattr__"))) (mk_Book : PySem.W.makesIn K C_Book = true) (kc_Book : PySem.W.keepIn K (.ref C_Book) = true)
    (n_Book_pages : PySem.W.findIn K (.ref C_Book) "pages" = some none)
    (n_Book_past : PySem.W.findIn K (.ref C_Book) "past" = some none)
    (n_Book_states : PySem.W.findIn K (.ref C_Book) "states" = some none)
    (n_Book_terms : PySem.W.findIn K (.ref C_Book) "terms" = some none)
    (n_RetoldDeed_later : PySem.W.findIn K (.ref C_RetoldDeed) "later" = some none)
    (n_RetoldDeed_number : PySem.W.findIn K (.ref C_RetoldDeed) "number" = some none)
    (n_RetoldDeed_page : PySem.W.findIn K (.ref C_RetoldDeed) "page" = some none)
    (n_SaidDeed_number : PySem.W.findIn K (.ref C_SaidDeed) "number" = some none)
    (n_UnsaidDeed_number : PySem.W.findIn K (.ref C_UnsaidDeed) "number" = some none)
    (n_UnsaidDeed_page : PySem.W.findIn K (.ref C_UnsaidDeed) "page" = some none)
    (aX_BadRow : PySem.W.nsIn K mainGlobals "BadRow" = some (some (.ref E_BadRow)))
    (aX_BadText : PySem.W.nsIn K mainGlobals "BadText" = some (some (.ref E_BadText)))
    (aX_BondError : PySem.W.nsIn K mainGlobals "BondError" = some (some (.ref E_BondError)))
    (aX_NoCask : PySem.W.nsIn K mainGlobals "NoCask" = some (some (.ref E_NoCask)))
    (aX_NoDeed : PySem.W.nsIn K mainGlobals "NoDeed" = some (some (.ref E_NoDeed)))
    (aX_NoPage : PySem.W.nsIn K mainGlobals "NoPage" = some (some (.ref E_NoPage)))
    (aX_Twice : PySem.W.nsIn K mainGlobals "Twice" = some (some (.ref E_Twice)))
    (aX_Unfit : PySem.W.nsIn K mainGlobals "Unfit" = some (some (.ref E_Unfit)))
    (x1_NoDeed : PySem.W.excIn K E_NoDeed [.type "ValueError", .type "Exception", .type "BaseException", .type "object"] "ValueError.__new__" = true) (x2_NoDeed : PySem.W.keepIn K (.ref E_NoDeed) = true) (x3_NoDeed : PySem.W.subIn K (.ref E_NoDeed) (.type "BaseException") = some true) (x4_NoDeed : PySem.W.typeIn K (.ref E_NoDeed) = some (.type "type"))
    (x1_NoPage : PySem.W.excIn K E_NoPage [.type "ValueError", .type "Exception", .type "BaseException", .type "object"] "ValueError.__new__" = true) (x2_NoPage : PySem.W.keepIn K (.ref E_NoPage) = true) (x3_NoPage : PySem.W.subIn K (.ref E_NoPage) (.type "BaseException") = some true) (x4_NoPage : PySem.W.typeIn K (.ref E_NoPage) = some (.type "type"))
    (x1_Twice : PySem.W.excIn K E_Twice [.type "ValueError", .type "Exception", .type "BaseException", .type "object"] "ValueError.__new__" = true) (x2_Twice : PySem.W.keepIn K (.ref E_Twice) = true) (x3_Twice : PySem.W.subIn K (.ref E_Twice) (.type "BaseException") = some true) (x4_Twice : PySem.W.typeIn K (.ref E_Twice) = some (.type "type"))
    (xm_NoDeed_BondError : PySem.W.exmOne K (.ref E_NoDeed) (.ref E_BondError) = some true)
    (y1_NoDeed : PySem.W.findIn K (.ref E_NoDeed) "__getattribute__" = some (some (.builtin "BaseException.__getattribute__"))) (y2_NoDeed : PySem.W.findIn K (.ref E_NoDeed) "__getattr__" = some none) (y4_NoDeed : PySem.W.hasDictIn K E_NoDeed = true) (y5_NoDeed : PySem.W.findIn K (.ref E_NoDeed) "__class__" = some (some (.builtin "object.__class__"))) (y8_NoDeed : PySem.W.mroIn K E_NoDeed (.type "object") = some true)
    (xi_NoDeed_Twice : PySem.W.kitOne K (.ref E_NoDeed) (.ref E_Twice) = some false)
    (xi_NoDeed_NoPage : PySem.W.kitOne K (.ref E_NoDeed) (.ref E_NoPage) = some false)
    (xi_NoDeed_NoDeed : PySem.W.kitOne K (.ref E_NoDeed) (.ref E_NoDeed) = some true)
    (xi_NoDeed_NoCask : PySem.W.kitOne K (.ref E_NoDeed) (.ref E_NoCask) = some false)
    (xi_NoDeed_Unfit : PySem.W.kitOne K (.ref E_NoDeed) (.ref E_Unfit) = some false)
    (xi_NoDeed_ValueError : PySem.W.kitOne K (.ref E_NoDeed) (.type "ValueError") = some true)
    (xi_NoDeed_BadText_BadRow : PySem.W.kitAny K (.ref E_NoDeed) [.ref E_BadText, .ref E_BadRow] = some false)
    (xm_NoPage_BondError : PySem.W.exmOne K (.ref E_NoPage) (.ref E_BondError) = some true)
    (y1_NoPage : PySem.W.findIn K (.ref E_NoPage) "__getattribute__" = some (some (.builtin "BaseException.__getattribute__"))) (y2_NoPage : PySem.W.findIn K (.ref E_NoPage) "__getattr__" = some none) (y4_NoPage : PySem.W.hasDictIn K E_NoPage = true) (y5_NoPage : PySem.W.findIn K (.ref E_NoPage) "__class__" = some (some (.builtin "object.__class__"))) (y8_NoPage : PySem.W.mroIn K E_NoPage (.type "object") = some true)
    (xi_NoPage_Twice : PySem.W.kitOne K (.ref E_NoPage) (.ref E_Twice) = some false)
    (xi_NoPage_NoPage : PySem.W.kitOne K (.ref E_NoPage) (.ref E_NoPage) = some true)
    (xi_NoPage_NoDeed : PySem.W.kitOne K (.ref E_NoPage) (.ref E_NoDeed) = some false)
    (xi_NoPage_NoCask : PySem.W.kitOne K (.ref E_NoPage) (.ref E_NoCask) = some false)
    (xi_NoPage_Unfit : PySem.W.kitOne K (.ref E_NoPage) (.ref E_Unfit) = some false)
    (xi_NoPage_ValueError : PySem.W.kitOne K (.ref E_NoPage) (.type "ValueError") = some true)
    (xi_NoPage_BadText_BadRow : PySem.W.kitAny K (.ref E_NoPage) [.ref E_BadText, .ref E_BadRow] = some false)
    (xm_Twice_BondError : PySem.W.exmOne K (.ref E_Twice) (.ref E_BondError) = some true)
    (y1_Twice : PySem.W.findIn K (.ref E_Twice) "__getattribute__" = some (some (.builtin "BaseException.__getattribute__"))) (y2_Twice : PySem.W.findIn K (.ref E_Twice) "__getattr__" = some none) (y4_Twice : PySem.W.hasDictIn K E_Twice = true) (y5_Twice : PySem.W.findIn K (.ref E_Twice) "__class__" = some (some (.builtin "object.__class__"))) (y8_Twice : PySem.W.mroIn K E_Twice (.type "object") = some true)
    (xi_Twice_Twice : PySem.W.kitOne K (.ref E_Twice) (.ref E_Twice) = some true)
    (xi_Twice_NoPage : PySem.W.kitOne K (.ref E_Twice) (.ref E_NoPage) = some false)
    (xi_Twice_NoDeed : PySem.W.kitOne K (.ref E_Twice) (.ref E_NoDeed) = some false)
    (xi_Twice_NoCask : PySem.W.kitOne K (.ref E_Twice) (.ref E_NoCask) = some false)
    (xi_Twice_Unfit : PySem.W.kitOne K (.ref E_Twice) (.ref E_Unfit) = some false)
    (xi_Twice_ValueError : PySem.W.kitOne K (.ref E_Twice) (.type "ValueError") = some true)
    (xi_Twice_BadText_BadRow : PySem.W.kitAny K (.ref E_Twice) [.ref E_BadText, .ref E_BadRow] = some false)
    (y6 : PySem.W.specialIn K (.builtin "object.__class__") "__get__" = some (some (.builtin "getset_descriptor.__get__"))) (y7 : PySem.W.takesIn K (.builtin "object.__class__") = some true)
    (a0 : PySem.W.findIn K (.ref C_SaidDeed) "__init__" = some (some (.ref f0))) (i0 : PySem.W.isFn K (.ref f0) = true) (l0 : K.lookup f0 = some ⟨oc0, od0, .func (PySem.W.fnOf "__init__" "SaidDeed.__init__" (defArgs s_SaidDeed_init) (defBody s_SaidDeed_init) (defScope s_SaidDeed_init) .none kV0 dc0 pm0 an0 cd0 ct0), sl0⟩) (c0 : PySem.W.codeIn K cd0 "SaidDeed.__init__" = true) (k0 : PySem.W.keepIn K (.ref f0) = true)
    (a1 : PySem.W.findIn K (.ref C_SaidDeed) "take_back" = some (some (.ref f1))) (i1 : PySem.W.isFn K (.ref f1) = true) (l1 : K.lookup f1 = some ⟨oc1, od1, .func (PySem.W.fnOf "take_back" "SaidDeed.take_back" (defArgs s_SaidDeed_take_back) (defBody s_SaidDeed_take_back) (defScope s_SaidDeed_take_back) .none kV1 dc1 pm1 an1 cd1 ct1), sl1⟩) (c1 : PySem.W.codeIn K cd1 "SaidDeed.take_back" = true) (k1 : PySem.W.keepIn K (.ref f1) = true)
    (a2 : PySem.W.findIn K (.ref C_UnsaidDeed) "__init__" = some (some (.ref f2))) (i2 : PySem.W.isFn K (.ref f2) = true) (l2 : K.lookup f2 = some ⟨oc2, od2, .func (PySem.W.fnOf "__init__" "UnsaidDeed.__init__" (defArgs s_UnsaidDeed_init) (defBody s_UnsaidDeed_init) (defScope s_UnsaidDeed_init) .none kV2 dc2 pm2 an2 cd2 ct2), sl2⟩) (c2 : PySem.W.codeIn K cd2 "UnsaidDeed.__init__" = true) (k2 : PySem.W.keepIn K (.ref f2) = true)
    (a3 : PySem.W.findIn K (.ref C_UnsaidDeed) "take_back" = some (some (.ref f3))) (i3 : PySem.W.isFn K (.ref f3) = true) (l3 : K.lookup f3 = some ⟨oc3, od3, .func (PySem.W.fnOf "take_back" "UnsaidDeed.take_back" (defArgs s_UnsaidDeed_take_back) (defBody s_UnsaidDeed_take_back) (defScope s_UnsaidDeed_take_back) .none kV3 dc3 pm3 an3 cd3 ct3), sl3⟩) (c3 : PySem.W.codeIn K cd3 "UnsaidDeed.take_back" = true) (k3 : PySem.W.keepIn K (.ref f3) = true)
    (a4 : PySem.W.findIn K (.ref C_RetoldDeed) "__init__" = some (some (.ref f4))) (i4 : PySem.W.isFn K (.ref f4) = true) (l4 : K.lookup f4 = some ⟨oc4, od4, .func (PySem.W.fnOf "__init__" "RetoldDeed.__init__" (defArgs s_RetoldDeed_init) (defBody s_RetoldDeed_init) (defScope s_RetoldDeed_init) .none kV4 dc4 pm4 an4 cd4 ct4), sl4⟩) (c4 : PySem.W.codeIn K cd4 "RetoldDeed.__init__" = true) (k4 : PySem.W.keepIn K (.ref f4) = true)
    (a5 : PySem.W.findIn K (.ref C_RetoldDeed) "take_back" = some (some (.ref f5))) (i5 : PySem.W.isFn K (.ref f5) = true) (l5 : K.lookup f5 = some ⟨oc5, od5, .func (PySem.W.fnOf "take_back" "RetoldDeed.take_back" (defArgs s_RetoldDeed_take_back) (defBody s_RetoldDeed_take_back) (defScope s_RetoldDeed_take_back) .none kV5 dc5 pm5 an5 cd5 ct5), sl5⟩) (c5 : PySem.W.codeIn K cd5 "RetoldDeed.take_back" = true) (k5 : PySem.W.keepIn K (.ref f5) = true)
    (a6 : PySem.W.findIn K (.ref C_Book) "__init__" = some (some (.ref f6))) (i6 : PySem.W.isFn K (.ref f6) = true) (l6 : K.lookup f6 = some ⟨oc6, od6, .func (PySem.W.fnOf "__init__" "Book.__init__" (defArgs s_Book_init) (defBody s_Book_init) (defScope s_Book_init) .none kV6 dc6 pm6 an6 cd6 ct6), sl6⟩) (c6 : PySem.W.codeIn K cd6 "Book.__init__" = true) (k6 : PySem.W.keepIn K (.ref f6) = true)
    (a7 : PySem.W.findIn K (.ref C_Book) "ask_number" = some (some (.ref f7))) (i7 : PySem.W.isFn K (.ref f7) = true) (l7 : K.lookup f7 = some ⟨oc7, od7, .func (PySem.W.fnOf "ask_number" "Book.ask_number" (defArgs s_Book_ask_number) (defBody s_Book_ask_number) (defScope s_Book_ask_number) .none kV7 dc7 pm7 an7 cd7 ct7), sl7⟩) (c7 : PySem.W.codeIn K cd7 "Book.ask_number" = true) (k7 : PySem.W.keepIn K (.ref f7) = true)
    (a8 : PySem.W.findIn K (.ref C_Book) "ask_new" = some (some (.ref f8))) (i8 : PySem.W.isFn K (.ref f8) = true) (l8 : K.lookup f8 = some ⟨oc8, od8, .func (PySem.W.fnOf "ask_new" "Book.ask_new" (defArgs s_Book_ask_new) (defBody s_Book_ask_new) (defScope s_Book_ask_new) .none kV8 dc8 pm8 an8 cd8 ct8), sl8⟩) (c8 : PySem.W.codeIn K cd8 "Book.ask_new" = true) (k8 : PySem.W.keepIn K (.ref f8) = true)
    (a9 : PySem.W.findIn K (.ref C_Book) "heap" = some (some (.ref f9))) (i9 : PySem.W.isFn K (.ref f9) = true) (l9 : K.lookup f9 = some ⟨oc9, od9, .func (PySem.W.fnOf "heap" "Book.heap" (defArgs s_Book_heap) (defBody s_Book_heap) (defScope s_Book_heap) .none kV9 dc9 pm9 an9 (.ref y9) ct9), sl9⟩) (c9 : PySem.W.codeIn K (.ref y9) "Book.heap" = true) (k9 : PySem.W.keepIn K (.ref f9) = true)
    (v9 : K.lookup y9 = some ⟨cc9, cx9, .fields cv9, cs9⟩) (p9 : cv9[11]? = some (.ref Q9)) (u9 : PySem.W.codeHdIn K y9 Q9 = true) (n9 : K.lookup Q9 = none) (g9 : h.get? Q9 = some { cls := .none, data := .fields #[] })
    (a10 : PySem.W.findIn K (.ref C_Book) "note" = some (some (.ref f10))) (i10 : PySem.W.isFn K (.ref f10) = true) (l10 : K.lookup f10 = some ⟨oc10, od10, .func (PySem.W.fnOf "note" "Book.note" (defArgs s_Book_note) (defBody s_Book_note) (defScope s_Book_note) .none kV10 dc10 pm10 an10 cd10 ct10), sl10⟩) (c10 : PySem.W.codeIn K cd10 "Book.note" = true) (k10 : PySem.W.keepIn K (.ref f10) = true)
    (a11 : PySem.W.findIn K (.ref C_Book) "say" = some (some (.ref f11))) (i11 : PySem.W.isFn K (.ref f11) = true) (l11 : K.lookup f11 = some ⟨oc11, od11, .func (PySem.W.fnOf "say" "Book.say" (defArgs s_Book_say) (defBody s_Book_say) (defScope s_Book_say) .none kV11 dc11 pm11 an11 cd11 ct11), sl11⟩) (c11 : PySem.W.codeIn K cd11 "Book.say" = true) (k11 : PySem.W.keepIn K (.ref f11) = true)
    (a12 : PySem.W.findIn K (.ref C_Book) "unsay" = some (some (.ref f12))) (i12 : PySem.W.isFn K (.ref f12) = true) (l12 : K.lookup f12 = some ⟨oc12, od12, .func (PySem.W.fnOf "unsay" "Book.unsay" (defArgs s_Book_unsay) (defBody s_Book_unsay) (defScope s_Book_unsay) .none kV12 dc12 pm12 an12 cd12 ct12), sl12⟩) (c12 : PySem.W.codeIn K cd12 "Book.unsay" = true) (k12 : PySem.W.keepIn K (.ref f12) = true)
    (a13 : PySem.W.findIn K (.ref C_Book) "retell" = some (some (.ref f13))) (i13 : PySem.W.isFn K (.ref f13) = true) (l13 : K.lookup f13 = some ⟨oc13, od13, .func (PySem.W.fnOf "retell" "Book.retell" (defArgs s_Book_retell) (defBody s_Book_retell) (defScope s_Book_retell) .none kV13 dc13 pm13 an13 cd13 ct13), sl13⟩) (c13 : PySem.W.codeIn K cd13 "Book.retell" = true) (k13 : PySem.W.keepIn K (.ref f13) = true)
    (a14 : PySem.W.findIn K (.ref C_Book) "undo" = some (some (.ref f14))) (i14 : PySem.W.isFn K (.ref f14) = true) (l14 : K.lookup f14 = some ⟨oc14, od14, .func (PySem.W.fnOf "undo" "Book.undo" (defArgs s_Book_undo) (defBody s_Book_undo) (defScope s_Book_undo) .none kV14 dc14 pm14 an14 cd14 ct14), sl14⟩) (c14 : PySem.W.codeIn K cd14 "Book.undo" = true) (k14 : PySem.W.keepIn K (.ref f14) = true)
    (a15 : PySem.W.nsIn K mainGlobals "_law_begin" = some (some (.ref f15))) (l15 : K.lookup f15 = some ⟨oc15, od15, .func (PySem.W.fnOf "_law_begin" "_law_begin" (defArgs s_begin) (defBody s_begin) (defScope s_begin) .none kV15 dc15 pm15 an15 cd15 ct15), sl15⟩) (c15 : PySem.W.codeIn K cd15 "_law_begin" = true) (k15 : PySem.W.keepIn K (.ref f15) = true)
    (a16 : PySem.W.nsIn K mainGlobals "_law_take" = some (some (.ref f16))) (l16 : K.lookup f16 = some ⟨oc16, od16, .func (PySem.W.fnOf "_law_take" "_law_take" (defArgs s_take) (defBody s_take) (defScope s_take) .none kV16 dc16 pm16 an16 cd16 ct16), sl16⟩) (c16 : PySem.W.codeIn K cd16 "_law_take" = true) (k16 : PySem.W.keepIn K (.ref f16) = true)
    (a17 : PySem.W.nsIn K mainGlobals "_law_names" = some (some (.ref f17))) (l17 : K.lookup f17 = some ⟨oc17, od17, .func (PySem.W.fnOf "_law_names" "_law_names" (defArgs s_names) (defBody s_names) (defScope s_names) .none kV17 dc17 pm17 an17 cd17 ct17), sl17⟩) (c17 : PySem.W.codeIn K cd17 "_law_names" = true) (k17 : PySem.W.keepIn K (.ref f17) = true)
    (a18 : PySem.W.nsIn K mainGlobals "_law_world" = some (some (.ref f18))) (l18 : K.lookup f18 = some ⟨oc18, od18, .func (PySem.W.fnOf "_law_world" "_law_world" (defArgs s_world) (defBody s_world) (defScope s_world) .none kV18 dc18 pm18 an18 cd18 ct18), sl18⟩) (c18 : PySem.W.codeIn K cd18 "_law_world" = true) (k18 : PySem.W.keepIn K (.ref f18) = true)
    (a19 : PySem.W.nsIn K mainGlobals "_law_some" = some (some (.ref f19))) (l19 : K.lookup f19 = some ⟨oc19, od19, .func (PySem.W.fnOf "_law_some" "_law_some" (defArgs s_some) (defBody s_some) (defScope s_some) .none kV19 dc19 pm19 an19 cd19 ct19), sl19⟩) (c19 : PySem.W.codeIn K cd19 "_law_some" = true) (k19 : PySem.W.keepIn K (.ref f19) = true)
    (a20 : PySem.W.nsIn K mainGlobals "_law_laid" = some (some (.ref f20))) (l20 : K.lookup f20 = some ⟨oc20, od20, .func (PySem.W.fnOf "_law_laid" "_law_laid" (defArgs s_laid) (defBody s_laid) (defScope s_laid) .none kV20 dc20 pm20 an20 cd20 ct20), sl20⟩) (c20 : PySem.W.codeIn K cd20 "_law_laid" = true) (k20 : PySem.W.keepIn K (.ref f20) = true)
    (a21 : PySem.W.nsIn K mainGlobals "_law_measured" = some (some (.ref f21))) (l21 : K.lookup f21 = some ⟨oc21, od21, .func (PySem.W.fnOf "_law_measured" "_law_measured" (defArgs s_measured) (defBody s_measured) (defScope s_measured) .none kV21 dc21 pm21 an21 cd21 ct21), sl21⟩) (c21 : PySem.W.codeIn K cd21 "_law_measured" = true) (k21 : PySem.W.keepIn K (.ref f21) = true)
    (a22 : PySem.W.nsIn K mainGlobals "_law_of_cask" = some (some (.ref f22))) (l22 : K.lookup f22 = some ⟨oc22, od22, .func (PySem.W.fnOf "_law_of_cask" "_law_of_cask" (defArgs s_of_cask) (defBody s_of_cask) (defScope s_of_cask) .none kV22 dc22 pm22 an22 cd22 ct22), sl22⟩) (c22 : PySem.W.codeIn K cd22 "_law_of_cask" = true) (k22 : PySem.W.keepIn K (.ref f22) = true)
    (a23 : PySem.W.nsIn K mainGlobals "_law_deed" = some (some (.ref f23))) (l23 : K.lookup f23 = some ⟨oc23, od23, .func (PySem.W.fnOf "_law_deed" "_law_deed" (defArgs s_deed) (defBody s_deed) (defScope s_deed) .none kV23 dc23 pm23 an23 cd23 ct23), sl23⟩) (c23 : PySem.W.codeIn K cd23 "_law_deed" = true) (k23 : PySem.W.keepIn K (.ref f23) = true)
    (a24 : PySem.W.nsIn K mainGlobals "_law_page" = some (some (.ref f24))) (l24 : K.lookup f24 = some ⟨oc24, od24, .func (PySem.W.fnOf "_law_page" "_law_page" (defArgs s_page) (defBody s_page) (defScope s_page) .none kV24 dc24 pm24 an24 cd24 ct24), sl24⟩) (c24 : PySem.W.codeIn K cd24 "_law_page" = true) (k24 : PySem.W.keepIn K (.ref f24) = true)
    (a25 : PySem.W.nsIn K mainGlobals "_law_begun" = some (some (.ref f25))) (l25 : K.lookup f25 = some ⟨oc25, od25, .func (PySem.W.fnOf "_law_begun" "_law_begun" (defArgs s_begun) (defBody s_begun) (defScope s_begun) .none kV25 dc25 pm25 an25 cd25 ct25), sl25⟩) (c25 : PySem.W.codeIn K cd25 "_law_begun" = true) (k25 : PySem.W.keepIn K (.ref f25) = true)
    (a26 : PySem.W.nsIn K mainGlobals "_law_heap_of" = some (some (.ref f26))) (l26 : K.lookup f26 = some ⟨oc26, od26, .func (PySem.W.fnOf "_law_heap_of" "_law_heap_of" (defArgs s_heap_of) (defBody s_heap_of) (defScope s_heap_of) .none kV26 dc26 pm26 an26 (.ref y26) ct26), sl26⟩) (c26 : PySem.W.codeIn K (.ref y26) "_law_heap_of" = true) (k26 : PySem.W.keepIn K (.ref f26) = true)
    (v26 : K.lookup y26 = some ⟨cc26, cx26, .fields cv26, cs26⟩) (p26 : cv26[11]? = some (.ref Q26)) (u26 : PySem.W.codeHdIn K y26 Q26 = true) (n26 : K.lookup Q26 = none) (g26 : h.get? Q26 = some { cls := .none, data := .fields #[] })
    (a27 : PySem.W.nsIn K mainGlobals "_law_due_word" = some (some (.ref f27))) (l27 : K.lookup f27 = some ⟨oc27, od27, .func (PySem.W.fnOf "_law_due_word" "_law_due_word" (defArgs s_due_word) (defBody s_due_word) (defScope s_due_word) .none kV27 dc27 pm27 an27 cd27 ct27), sl27⟩) (c27 : PySem.W.codeIn K cd27 "_law_due_word" = true) (k27 : PySem.W.keepIn K (.ref f27) = true)
    (a28 : PySem.W.nsIn K mainGlobals "_law_kept_on" = some (some (.ref f28))) (l28 : K.lookup f28 = some ⟨oc28, od28, .func (PySem.W.fnOf "_law_kept_on" "_law_kept_on" (defArgs s_kept_on) (defBody s_kept_on) (defScope s_kept_on) .none kV28 dc28 pm28 an28 cd28 ct28), sl28⟩) (c28 : PySem.W.codeIn K cd28 "_law_kept_on" = true) (k28 : PySem.W.keepIn K (.ref f28) = true)
    (a29 : PySem.W.nsIn K mainGlobals "_law_tried" = some (some (.ref f29))) (l29 : K.lookup f29 = some ⟨oc29, od29, .func (PySem.W.fnOf "_law_tried" "_law_tried" (defArgs s_tried) (defBody s_tried) (defScope s_tried) .none kV29 dc29 pm29 an29 cd29 ct29), sl29⟩) (c29 : PySem.W.codeIn K cd29 "_law_tried" = true) (k29 : PySem.W.keepIn K (.ref f29) = true)
    (a30 : PySem.W.nsIn K mainGlobals "_law_class" = some (some (.ref f30))) (l30 : K.lookup f30 = some ⟨oc30, od30, .func (PySem.W.fnOf "_law_class" "_law_class" (defArgs s_class) (defBody s_class) (defScope s_class) .none kV30 dc30 pm30 an30 cd30 ct30), sl30⟩) (c30 : PySem.W.codeIn K cd30 "_law_class" = true) (k30 : PySem.W.keepIn K (.ref f30) = true)
    (a31 : PySem.W.nsIn K mainGlobals "_law_deed_right" = some (some (.ref f31))) (l31 : K.lookup f31 = some ⟨oc31, od31, .func (PySem.W.fnOf "_law_deed_right" "_law_deed_right" (defArgs s_deed_right) (defBody s_deed_right) (defScope s_deed_right) .none kV31 dc31 pm31 an31 cd31 ct31), sl31⟩) (c31 : PySem.W.codeIn K cd31 "_law_deed_right" = true) (k31 : PySem.W.keepIn K (.ref f31) = true)
    (a32 : PySem.W.nsIn K mainGlobals "_law_next" = some (some (.ref f32))) (l32 : K.lookup f32 = some ⟨oc32, od32, .func (PySem.W.fnOf "_law_next" "_law_next" (defArgs s_next) (defBody s_next) (defScope s_next) .none kV32 dc32 pm32 an32 cd32 ct32), sl32⟩) (c32 : PySem.W.codeIn K cd32 "_law_next" = true) (k32 : PySem.W.keepIn K (.ref f32) = true)
    (a33 : PySem.W.nsIn K mainGlobals "_law_long_right" = some (some (.ref f33))) (l33 : K.lookup f33 = some ⟨oc33, od33, .func (PySem.W.fnOf "_law_long_right" "_law_long_right" (defArgs s_long_right) (defBody s_long_right) (defScope s_long_right) .none kV33 dc33 pm33 an33 cd33 ct33), sl33⟩) (c33 : PySem.W.codeIn K cd33 "_law_long_right" = true) (k33 : PySem.W.keepIn K (.ref f33) = true)
    (a34 : PySem.W.nsIn K mainGlobals "law" = some (some (.ref f34))) (l34 : K.lookup f34 = some ⟨oc34, od34, .func (PySem.W.fnOf "law" "law" (defArgs s_law) (defBody s_law) (defScope s_law) .none kV34 dc34 pm34 an34 cd34 ct34), sl34⟩) (c34 : PySem.W.codeIn K cd34 "law" = true) (k34 : PySem.W.keepIn K (.ref f34) = true)
    (kr_SaidDeed : PySem.W.readsIn K C_SaidDeed (.type "type") = true) (kg_SaidDeed : PySem.W.specialIn K (.ref C_SaidDeed) "__getattribute__" = some (some (.builtin "type.__getattribute__"))) (kf_SaidDeed : PySem.W.findCls K (.ref C_SaidDeed) (.type "type") "__init__" = some (.val (.ref f0)))
    (kr_UnsaidDeed : PySem.W.readsIn K C_UnsaidDeed (.type "type") = true) (kg_UnsaidDeed : PySem.W.specialIn K (.ref C_UnsaidDeed) "__getattribute__" = some (some (.builtin "type.__getattribute__"))) (kf_UnsaidDeed : PySem.W.findCls K (.ref C_UnsaidDeed) (.type "type") "__init__" = some (.val (.ref f2)))
    (z_ValueError : PySem.W.nsIn K mainGlobals "ValueError" = some none)
    (z_dict : PySem.W.nsIn K mainGlobals "dict" = some none)
    (z_divmod : PySem.W.nsIn K mainGlobals "divmod" = some none)
    (z_int : PySem.W.nsIn K mainGlobals "int" = some none)
    (z_isinstance : PySem.W.nsIn K mainGlobals "isinstance" = some none)
    (z_len : PySem.W.nsIn K mainGlobals "len" = some none)
    (z_list : PySem.W.nsIn K mainGlobals "list" = some none)
    (z_max : PySem.W.nsIn K mainGlobals "max" = some none)
    (z_min : PySem.W.nsIn K mainGlobals "min" = some none)
    (z_range : PySem.W.nsIn K mainGlobals "range" = some none)
    (z_sorted : PySem.W.nsIn K mainGlobals "sorted" = some none)
    (nd : [Q9, Q26].Nodup)
    : LawT l w K 11 "_law_script" mg fa h := by
  have e := hfa.symm.trans (PySem.W.mg_of X G a34)
  cases e
  have FL := fun_mk (st := s_law) l34 c34 k34
  have tc0 : TabC K "Book.heap" y9 Q9 := ⟨_, _, _, _, _, (by unfold fnAt; rw [if_pos rfl, show PySem.W.nsIn K mainGlobals "Book" = _ from aC_Book]; exact a9), l9, rfl, u9⟩
  have tc1 : TabC K "_law_heap_of" y26 Q26 := ⟨_, _, _, _, _, (fnAt_top (by decide)).trans a26, l26, rfl, u26⟩
  have CL_SaidDeed : Cls K C_SaidDeed := ⟨pg_SaidDeed, hd_SaidDeed, po_SaidDeed, sa_SaidDeed⟩
  have CL_UnsaidDeed : Cls K C_UnsaidDeed := ⟨pg_UnsaidDeed, hd_UnsaidDeed, po_UnsaidDeed, sa_UnsaidDeed⟩
  have CL_RetoldDeed : Cls K C_RetoldDeed := ⟨pg_RetoldDeed, hd_RetoldDeed, po_RetoldDeed, sa_RetoldDeed⟩
  have CL_Book : Cls K C_Book := ⟨pg_Book, hd_Book, po_Book, sa_Book⟩
  have F0 := fun_mk (st := s_SaidDeed_init) l0 c0 k0
  have b0 := F0.binds (ps := ["self", "number"]) fun _ _ _ _ _ _ us hl => match us, hl with | [_, _], _ => rfl
  have F1 := fun_mk (st := s_SaidDeed_take_back) l1 c1 k1
  have b1 := F1.binds (ps := ["self", "pages"]) fun _ _ _ _ _ _ us hl => match us, hl with | [_, _], _ => rfl
  have F2 := fun_mk (st := s_UnsaidDeed_init) l2 c2 k2
  have b2 := F2.binds (ps := ["self", "page"]) fun _ _ _ _ _ _ us hl => match us, hl with | [_, _], _ => rfl
  have F3 := fun_mk (st := s_UnsaidDeed_take_back) l3 c3 k3
  have b3 := F3.binds (ps := ["self", "pages"]) fun _ _ _ _ _ _ us hl => match us, hl with | [_, _], _ => rfl
  have F4 := fun_mk (st := s_RetoldDeed_init) l4 c4 k4
  have b4 := F4.binds (ps := ["self", "page", "later"]) fun _ _ _ _ _ _ us hl => match us, hl with | [_, _, _], _ => rfl
  have F5 := fun_mk (st := s_RetoldDeed_take_back) l5 c5 k5
  have b5 := F5.binds (ps := ["self", "pages"]) fun _ _ _ _ _ _ us hl => match us, hl with | [_, _], _ => rfl
  have F6 := fun_mk (st := s_Book_init) l6 c6 k6
  have b6 := F6.binds (ps := ["self", "terms"]) fun _ _ _ _ _ _ us hl => match us, hl with | [_, _], _ => rfl
  have F7 := fun_mk (st := s_Book_ask_number) l7 c7 k7
  have b7 := F7.binds (ps := ["self", "number"]) fun _ _ _ _ _ _ us hl => match us, hl with | [_, _], _ => rfl
  have F8 := fun_mk (st := s_Book_ask_new) l8 c8 k8
  have b8 := F8.binds (ps := ["self", "number"]) fun _ _ _ _ _ _ us hl => match us, hl with | [_, _], _ => rfl
  have F9 := fun_mk (st := s_Book_heap) l9 c9 k9
  have b9 := F9.binds (ps := ["self"]) fun _ _ _ _ _ _ us hl => match us, hl with | [_], _ => rfl
  have F10 := fun_mk (st := s_Book_note) l10 c10 k10
  have b10 := F10.binds (ps := ["self"]) fun _ _ _ _ _ _ us hl => match us, hl with | [_], _ => rfl
  have F11 := fun_mk (st := s_Book_say) l11 c11 k11
  have b11 := F11.binds (ps := ["self", "page"]) fun _ _ _ _ _ _ us hl => match us, hl with | [_, _], _ => rfl
  have F12 := fun_mk (st := s_Book_unsay) l12 c12 k12
  have b12 := F12.binds (ps := ["self", "number"]) fun _ _ _ _ _ _ us hl => match us, hl with | [_, _], _ => rfl
  have F13 := fun_mk (st := s_Book_retell) l13 c13 k13
  have b13 := F13.binds (ps := ["self", "number", "page"]) fun _ _ _ _ _ _ us hl => match us, hl with | [_, _, _], _ => rfl
  have F14 := fun_mk (st := s_Book_undo) l14 c14 k14
  have b14 := F14.binds (ps := ["self"]) fun _ _ _ _ _ _ us hl => match us, hl with | [_], _ => rfl
  have F15 := fun_mk (st := s_begin) l15 c15 k15
  have b15 := F15.binds (ps := ["_law_script"]) fun _ _ _ _ _ _ us hl => match us, hl with | [_], _ => rfl
  have F16 := fun_mk (st := s_take) l16 c16 k16
  have b16 := F16.binds (ps := ["_law_state", "_law_many"]) fun _ _ _ _ _ _ us hl => match us, hl with | [_, _], _ => rfl
  have F17 := fun_mk (st := s_names) l17 c17 k17
  have b17 := F17.binds (ps := ["_law_state", "_law_many"]) fun _ _ _ _ _ _ us hl => match us, hl with | [_, _], _ => rfl
  have F18 := fun_mk (st := s_world) l18 c18 k18
  have b18 := F18.binds (ps := ["_law_state"]) fun _ _ _ _ _ _ us hl => match us, hl with | [_], _ => rfl
  have F19 := fun_mk (st := s_some) l19 c19 k19
  have b19 := F19.binds (ps := ["_law_state", "_law_things"]) fun _ _ _ _ _ _ us hl => match us, hl with | [_, _], _ => rfl
  have F20 := fun_mk (st := s_laid) l20 c20 k20
  have b20 := F20.binds (ps := ["_law_state", "_law_world_here"]) fun _ _ _ _ _ _ us hl => match us, hl with | [_, _], _ => rfl
  have F21 := fun_mk (st := s_measured) l21 c21 k21
  have b21 := F21.binds (ps := ["_law_state", "_law_world_here", "_law_cask"]) fun _ _ _ _ _ _ us hl => match us, hl with | [_, _, _], _ => rfl
  have F22 := fun_mk (st := s_of_cask) l22 c22 k22
  have b22 := F22.binds (ps := ["_law_state", "_law_world_here", "_law_pick", "_law_cask"]) fun _ _ _ _ _ _ us hl => match us, hl with | [_, _, _, _], _ => rfl
  have F23 := fun_mk (st := s_deed) l23 c23 k23
  have b23 := F23.binds (ps := ["_law_state", "_law_world_here"]) fun _ _ _ _ _ _ us hl => match us, hl with | [_, _], _ => rfl
  have F24 := fun_mk (st := s_page) l24 c24 k24
  have b24 := F24.binds (ps := ["_law_state", "_law_world_here"]) fun _ _ _ _ _ _ us hl => match us, hl with | [_, _], _ => rfl
  have F25 := fun_mk (st := s_begun) l25 c25 k25
  have b25 := F25.binds (ps := ["_law_terms"]) fun _ _ _ _ _ _ us hl => match us, hl with | [_], _ => rfl
  have F26 := fun_mk (st := s_heap_of) l26 c26 k26
  have b26 := F26.binds (ps := ["_law_pages"]) fun _ _ _ _ _ _ us hl => match us, hl with | [_], _ => rfl
  have F27 := fun_mk (st := s_due_word) l27 c27 k27
  have b27 := F27.binds (ps := ["_law_kept", "_law_deed_here"]) fun _ _ _ _ _ _ us hl => match us, hl with | [_, _], _ => rfl
  have F28 := fun_mk (st := s_kept_on) l28 c28 k28
  have b28 := F28.binds (ps := ["_law_kept", "_law_deed_here"]) fun _ _ _ _ _ _ us hl => match us, hl with | [_, _], _ => rfl
  have F29 := fun_mk (st := s_tried) l29 c29 k29
  have b29 := F29.binds (ps := ["_law_book", "_law_deed_here"]) fun _ _ _ _ _ _ us hl => match us, hl with | [_, _], _ => rfl
  have F30 := fun_mk (st := s_class) l30 c30 k30
  have b30 := F30.binds (ps := ["_law_caught"]) fun _ _ _ _ _ _ us hl => match us, hl with | [_], _ => rfl
  have F31 := fun_mk (st := s_deed_right) l31 c31 k31
  have b31 := F31.binds (ps := ["_law_kept", "_law_deed_here"]) fun _ _ _ _ _ _ us hl => match us, hl with | [_, _], _ => rfl
  have F32 := fun_mk (st := s_next) l32 c32 k32
  have b32 := F32.binds (ps := ["_law_state", "_law_world_here", "_law_kept"]) fun _ _ _ _ _ _ us hl => match us, hl with | [_, _, _], _ => rfl
  have F33 := fun_mk (st := s_long_right) l33 c33 k33
  have b33 := F33.binds (ps := ["_law_state", "_law_world_here"]) fun _ _ _ _ _ _ us hl => match us, hl with | [_, _], _ => rfl
  have T : Tx K mg := ⟨⟨_, _, _, aC_SaidDeed, PySem.W.mg_of X G aC_SaidDeed, ⟨mk_SaidDeed, a0, i0, kc_SaidDeed⟩, F0, b0⟩,
    ⟨_, _, _, aC_SaidDeed, CL_SaidDeed, ⟨a1, i1, k1⟩, F1, b1⟩,
    ⟨_, _, _, aC_UnsaidDeed, PySem.W.mg_of X G aC_UnsaidDeed, ⟨mk_UnsaidDeed, a2, i2, kc_UnsaidDeed⟩, F2, b2⟩,
    ⟨_, _, _, aC_UnsaidDeed, CL_UnsaidDeed, ⟨a3, i3, k3⟩, F3, b3⟩,
    ⟨_, _, _, aC_RetoldDeed, PySem.W.mg_of X G aC_RetoldDeed, ⟨mk_RetoldDeed, a4, i4, kc_RetoldDeed⟩, F4, b4⟩,
    ⟨_, _, _, aC_RetoldDeed, CL_RetoldDeed, ⟨a5, i5, k5⟩, F5, b5⟩,
    ⟨_, _, _, aC_Book, PySem.W.mg_of X G aC_Book, ⟨mk_Book, a6, i6, kc_Book⟩, F6, b6⟩,
    ⟨_, _, _, aC_Book, CL_Book, ⟨a7, i7, k7⟩, F7, b7⟩,
    ⟨_, _, _, aC_Book, CL_Book, ⟨a8, i8, k8⟩, F8, b8⟩,
    ⟨_, _, _, _, _, ⟨aC_Book, CL_Book, ⟨a9, i9, k9⟩, F9, b9⟩, ⟨_, _, _, _, _, _, _, _, rfl, l9, c9⟩, tc0⟩,
    ⟨_, _, _, aC_Book, CL_Book, ⟨a10, i10, k10⟩, F10, b10⟩,
    ⟨_, _, _, aC_Book, CL_Book, ⟨a11, i11, k11⟩, F11, b11⟩,
    ⟨_, _, _, aC_Book, CL_Book, ⟨a12, i12, k12⟩, F12, b12⟩,
    ⟨_, _, _, aC_Book, CL_Book, ⟨a13, i13, k13⟩, F13, b13⟩,
    ⟨_, _, _, aC_Book, CL_Book, ⟨a14, i14, k14⟩, F14, b14⟩,
    ⟨_, _, F15, PySem.W.mg_of X G a15, k15, b15⟩,
    ⟨_, _, F16, PySem.W.mg_of X G a16, k16, b16⟩,
    ⟨_, _, F17, PySem.W.mg_of X G a17, k17, b17⟩,
    ⟨_, _, F18, PySem.W.mg_of X G a18, k18, b18⟩,
    ⟨_, _, F19, PySem.W.mg_of X G a19, k19, b19⟩,
    ⟨_, _, F20, PySem.W.mg_of X G a20, k20, b20⟩,
    ⟨_, _, F21, PySem.W.mg_of X G a21, k21, b21⟩,
    ⟨_, _, F22, PySem.W.mg_of X G a22, k22, b22⟩,
    ⟨_, _, F23, PySem.W.mg_of X G a23, k23, b23⟩,
    ⟨_, _, F24, PySem.W.mg_of X G a24, k24, b24⟩,
    ⟨_, _, F25, PySem.W.mg_of X G a25, k25, b25⟩,
    ⟨_, _, _, _, ⟨F26, PySem.W.mg_of X G a26, k26, b26⟩, ⟨_, _, _, _, _, _, _, _, rfl, l26, c26⟩, tc1⟩,
    ⟨_, _, F27, PySem.W.mg_of X G a27, k27, b27⟩,
    ⟨_, _, F28, PySem.W.mg_of X G a28, k28, b28⟩,
    ⟨_, _, F29, PySem.W.mg_of X G a29, k29, b29⟩,
    ⟨_, _, F30, PySem.W.mg_of X G a30, k30, b30⟩,
    ⟨_, _, F31, PySem.W.mg_of X G a31, k31, b31⟩,
    ⟨_, _, F32, PySem.W.mg_of X G a32, k32, b32⟩,
    ⟨_, _, F33, PySem.W.mg_of X G a33, k33, b33⟩,
    fun c hc C hC => by cases List.mem_singleton.mp hc; rw [aC_Book] at hC; cases hC; exact ⟨CL_Book, n_Book_pages⟩,
    fun c hc C hC => by cases List.mem_singleton.mp hc; rw [aC_Book] at hC; cases hC; exact ⟨CL_Book, n_Book_past⟩,
    fun c hc C hC => by cases List.mem_singleton.mp hc; rw [aC_Book] at hC; cases hC; exact ⟨CL_Book, n_Book_states⟩,
    fun c hc C hC => by cases List.mem_singleton.mp hc; rw [aC_Book] at hC; cases hC; exact ⟨CL_Book, n_Book_terms⟩,
    fun c hc C hC => by cases List.mem_singleton.mp hc; rw [aC_RetoldDeed] at hC; cases hC; exact ⟨CL_RetoldDeed, n_RetoldDeed_later⟩,
    fun c hc C hC => by cases List.mem_singleton.mp hc; rw [aC_RetoldDeed] at hC; cases hC; exact ⟨CL_RetoldDeed, n_RetoldDeed_number⟩,
    fun c hc C hC => by cases List.mem_singleton.mp hc; rw [aC_RetoldDeed] at hC; cases hC; exact ⟨CL_RetoldDeed, n_RetoldDeed_page⟩,
    (fun c hc C hC => by
      rcases List.mem_cons.mp hc with rfl | hc
      · rw [aC_SaidDeed] at hC; cases hC; exact ⟨CL_SaidDeed, n_SaidDeed_number⟩
      rcases List.mem_cons.mp hc with rfl | hc
      · rw [aC_UnsaidDeed] at hC; cases hC; exact ⟨CL_UnsaidDeed, n_UnsaidDeed_number⟩
      rcases List.mem_cons.mp hc with rfl | hc
      · rw [aC_RetoldDeed] at hC; cases hC; exact ⟨CL_RetoldDeed, n_RetoldDeed_number⟩
      exact nomatch hc),
    (fun c hc C hC => by
      rcases List.mem_cons.mp hc with rfl | hc
      · rw [aC_UnsaidDeed] at hC; cases hC; exact ⟨CL_UnsaidDeed, n_UnsaidDeed_number⟩
      rcases List.mem_cons.mp hc with rfl | hc
      · rw [aC_RetoldDeed] at hC; cases hC; exact ⟨CL_RetoldDeed, n_RetoldDeed_number⟩
      exact nomatch hc),
    (fun c hc C hC => by
      rcases List.mem_cons.mp hc with rfl | hc
      · rw [aC_UnsaidDeed] at hC; cases hC; exact ⟨CL_UnsaidDeed, n_UnsaidDeed_page⟩
      rcases List.mem_cons.mp hc with rfl | hc
      · rw [aC_RetoldDeed] at hC; cases hC; exact ⟨CL_RetoldDeed, n_RetoldDeed_page⟩
      exact nomatch hc),
    ⟨_, _, aC_SaidDeed, PySem.W.mg_of X G aC_SaidDeed, a0, ⟨kr_SaidDeed, kg_SaidDeed⟩, kf_SaidDeed, k0⟩,
    ⟨_, _, aC_UnsaidDeed, PySem.W.mg_of X G aC_UnsaidDeed, a2, ⟨kr_UnsaidDeed, kg_UnsaidDeed⟩, kf_UnsaidDeed, k2⟩,
    PySem.W.mg_none_of X G z_ValueError,
    PySem.W.mg_none_of X G z_dict,
    PySem.W.mg_none_of X G z_divmod,
    PySem.W.mg_none_of X G z_int,
    PySem.W.mg_none_of X G z_isinstance,
    PySem.W.mg_none_of X G z_len,
    PySem.W.mg_none_of X G z_list,
    PySem.W.mg_none_of X G z_max,
    PySem.W.mg_none_of X G z_min,
    PySem.W.mg_none_of X G z_range,
    PySem.W.mg_none_of X G z_sorted,
    ⟨_, PySem.W.mg_of X G aX_NoDeed, aX_NoDeed, x1_NoDeed, x2_NoDeed, x3_NoDeed, x4_NoDeed⟩,
    ⟨_, PySem.W.mg_of X G aX_NoPage, aX_NoPage, x1_NoPage, x2_NoPage, x3_NoPage, x4_NoPage⟩,
    ⟨_, PySem.W.mg_of X G aX_Twice, aX_Twice, x1_Twice, x2_Twice, x3_Twice, x4_Twice⟩,
    ⟨_, PySem.W.mg_of X G aX_BondError, fun p hp D hD => by
      rcases List.mem_cons.mp hp with rfl | hp
      · cases (show PySem.W.nsIn K mainGlobals (Str.ofString "NoDeed") = _ from hD).symm.trans aX_NoDeed; exact xm_NoDeed_BondError
      rcases List.mem_cons.mp hp with rfl | hp
      · cases (show PySem.W.nsIn K mainGlobals (Str.ofString "NoPage") = _ from hD).symm.trans aX_NoPage; exact xm_NoPage_BondError
      rcases List.mem_cons.mp hp with rfl | hp
      · cases (show PySem.W.nsIn K mainGlobals (Str.ofString "Twice") = _ from hD).symm.trans aX_Twice; exact xm_Twice_BondError
      cases hp⟩,
    ⟨_, _, .inr ⟨_, rfl, rfl, PySem.W.mg_of X G aX_Twice⟩, fun p hp D hD => by
      rcases List.mem_cons.mp hp with rfl | hp
      · cases (show PySem.W.nsIn K mainGlobals (Str.ofString "NoDeed") = _ from hD).symm.trans aX_NoDeed; exact ⟨⟨y1_NoDeed, y2_NoDeed, x3_NoDeed, y4_NoDeed, y5_NoDeed, y6, y7, y8_NoDeed⟩, xi_NoDeed_Twice⟩
      rcases List.mem_cons.mp hp with rfl | hp
      · cases (show PySem.W.nsIn K mainGlobals (Str.ofString "NoPage") = _ from hD).symm.trans aX_NoPage; exact ⟨⟨y1_NoPage, y2_NoPage, x3_NoPage, y4_NoPage, y5_NoPage, y6, y7, y8_NoPage⟩, xi_NoPage_Twice⟩
      rcases List.mem_cons.mp hp with rfl | hp
      · cases (show PySem.W.nsIn K mainGlobals (Str.ofString "Twice") = _ from hD).symm.trans aX_Twice; exact ⟨⟨y1_Twice, y2_Twice, x3_Twice, y4_Twice, y5_Twice, y6, y7, y8_Twice⟩, xi_Twice_Twice⟩
      cases hp⟩,
    ⟨_, _, .inr ⟨_, rfl, rfl, PySem.W.mg_of X G aX_NoPage⟩, fun p hp D hD => by
      rcases List.mem_cons.mp hp with rfl | hp
      · cases (show PySem.W.nsIn K mainGlobals (Str.ofString "NoDeed") = _ from hD).symm.trans aX_NoDeed; exact ⟨⟨y1_NoDeed, y2_NoDeed, x3_NoDeed, y4_NoDeed, y5_NoDeed, y6, y7, y8_NoDeed⟩, xi_NoDeed_NoPage⟩
      rcases List.mem_cons.mp hp with rfl | hp
      · cases (show PySem.W.nsIn K mainGlobals (Str.ofString "NoPage") = _ from hD).symm.trans aX_NoPage; exact ⟨⟨y1_NoPage, y2_NoPage, x3_NoPage, y4_NoPage, y5_NoPage, y6, y7, y8_NoPage⟩, xi_NoPage_NoPage⟩
      rcases List.mem_cons.mp hp with rfl | hp
      · cases (show PySem.W.nsIn K mainGlobals (Str.ofString "Twice") = _ from hD).symm.trans aX_Twice; exact ⟨⟨y1_Twice, y2_Twice, x3_Twice, y4_Twice, y5_Twice, y6, y7, y8_Twice⟩, xi_Twice_NoPage⟩
      cases hp⟩,
    ⟨_, _, .inr ⟨_, rfl, rfl, PySem.W.mg_of X G aX_NoDeed⟩, fun p hp D hD => by
      rcases List.mem_cons.mp hp with rfl | hp
      · cases (show PySem.W.nsIn K mainGlobals (Str.ofString "NoDeed") = _ from hD).symm.trans aX_NoDeed; exact ⟨⟨y1_NoDeed, y2_NoDeed, x3_NoDeed, y4_NoDeed, y5_NoDeed, y6, y7, y8_NoDeed⟩, xi_NoDeed_NoDeed⟩
      rcases List.mem_cons.mp hp with rfl | hp
      · cases (show PySem.W.nsIn K mainGlobals (Str.ofString "NoPage") = _ from hD).symm.trans aX_NoPage; exact ⟨⟨y1_NoPage, y2_NoPage, x3_NoPage, y4_NoPage, y5_NoPage, y6, y7, y8_NoPage⟩, xi_NoPage_NoDeed⟩
      rcases List.mem_cons.mp hp with rfl | hp
      · cases (show PySem.W.nsIn K mainGlobals (Str.ofString "Twice") = _ from hD).symm.trans aX_Twice; exact ⟨⟨y1_Twice, y2_Twice, x3_Twice, y4_Twice, y5_Twice, y6, y7, y8_Twice⟩, xi_Twice_NoDeed⟩
      cases hp⟩,
    ⟨_, _, .inr ⟨_, rfl, rfl, PySem.W.mg_of X G aX_NoCask⟩, fun p hp D hD => by
      rcases List.mem_cons.mp hp with rfl | hp
      · cases (show PySem.W.nsIn K mainGlobals (Str.ofString "NoDeed") = _ from hD).symm.trans aX_NoDeed; exact ⟨⟨y1_NoDeed, y2_NoDeed, x3_NoDeed, y4_NoDeed, y5_NoDeed, y6, y7, y8_NoDeed⟩, xi_NoDeed_NoCask⟩
      rcases List.mem_cons.mp hp with rfl | hp
      · cases (show PySem.W.nsIn K mainGlobals (Str.ofString "NoPage") = _ from hD).symm.trans aX_NoPage; exact ⟨⟨y1_NoPage, y2_NoPage, x3_NoPage, y4_NoPage, y5_NoPage, y6, y7, y8_NoPage⟩, xi_NoPage_NoCask⟩
      rcases List.mem_cons.mp hp with rfl | hp
      · cases (show PySem.W.nsIn K mainGlobals (Str.ofString "Twice") = _ from hD).symm.trans aX_Twice; exact ⟨⟨y1_Twice, y2_Twice, x3_Twice, y4_Twice, y5_Twice, y6, y7, y8_Twice⟩, xi_Twice_NoCask⟩
      cases hp⟩,
    ⟨_, _, .inr ⟨_, rfl, rfl, PySem.W.mg_of X G aX_Unfit⟩, fun p hp D hD => by
      rcases List.mem_cons.mp hp with rfl | hp
      · cases (show PySem.W.nsIn K mainGlobals (Str.ofString "NoDeed") = _ from hD).symm.trans aX_NoDeed; exact ⟨⟨y1_NoDeed, y2_NoDeed, x3_NoDeed, y4_NoDeed, y5_NoDeed, y6, y7, y8_NoDeed⟩, xi_NoDeed_Unfit⟩
      rcases List.mem_cons.mp hp with rfl | hp
      · cases (show PySem.W.nsIn K mainGlobals (Str.ofString "NoPage") = _ from hD).symm.trans aX_NoPage; exact ⟨⟨y1_NoPage, y2_NoPage, x3_NoPage, y4_NoPage, y5_NoPage, y6, y7, y8_NoPage⟩, xi_NoPage_Unfit⟩
      rcases List.mem_cons.mp hp with rfl | hp
      · cases (show PySem.W.nsIn K mainGlobals (Str.ofString "Twice") = _ from hD).symm.trans aX_Twice; exact ⟨⟨y1_Twice, y2_Twice, x3_Twice, y4_Twice, y5_Twice, y6, y7, y8_Twice⟩, xi_Twice_Unfit⟩
      cases hp⟩,
    ⟨_, _, .inl ⟨rfl, rfl, rfl, PySem.W.mg_none_of X G z_ValueError⟩, fun p hp D hD => by
      rcases List.mem_cons.mp hp with rfl | hp
      · cases (show PySem.W.nsIn K mainGlobals (Str.ofString "NoDeed") = _ from hD).symm.trans aX_NoDeed; exact ⟨⟨y1_NoDeed, y2_NoDeed, x3_NoDeed, y4_NoDeed, y5_NoDeed, y6, y7, y8_NoDeed⟩, xi_NoDeed_ValueError⟩
      rcases List.mem_cons.mp hp with rfl | hp
      · cases (show PySem.W.nsIn K mainGlobals (Str.ofString "NoPage") = _ from hD).symm.trans aX_NoPage; exact ⟨⟨y1_NoPage, y2_NoPage, x3_NoPage, y4_NoPage, y5_NoPage, y6, y7, y8_NoPage⟩, xi_NoPage_ValueError⟩
      rcases List.mem_cons.mp hp with rfl | hp
      · cases (show PySem.W.nsIn K mainGlobals (Str.ofString "Twice") = _ from hD).symm.trans aX_Twice; exact ⟨⟨y1_Twice, y2_Twice, x3_Twice, y4_Twice, y5_Twice, y6, y7, y8_Twice⟩, xi_Twice_ValueError⟩
      cases hp⟩,
    ⟨[E_BadText, E_BadRow], by
      simp only [List.map_cons, List.map_nil]
      rw [show mg (Str.ofString "BadText") = _ from PySem.W.mg_of X G aX_BadText, show mg (Str.ofString "BadRow") = _ from PySem.W.mg_of X G aX_BadRow], fun p hp D hD => by
      rcases List.mem_cons.mp hp with rfl | hp
      · cases (show PySem.W.nsIn K mainGlobals (Str.ofString "NoDeed") = _ from hD).symm.trans aX_NoDeed; exact ⟨⟨y1_NoDeed, y2_NoDeed, x3_NoDeed, y4_NoDeed, y5_NoDeed, y6, y7, y8_NoDeed⟩, xi_NoDeed_BadText_BadRow⟩
      rcases List.mem_cons.mp hp with rfl | hp
      · cases (show PySem.W.nsIn K mainGlobals (Str.ofString "NoPage") = _ from hD).symm.trans aX_NoPage; exact ⟨⟨y1_NoPage, y2_NoPage, x3_NoPage, y4_NoPage, y5_NoPage, y6, y7, y8_NoPage⟩, xi_NoPage_BadText_BadRow⟩
      rcases List.mem_cons.mp hp with rfl | hp
      · cases (show PySem.W.nsIn K mainGlobals (Str.ofString "Twice") = _ from hD).symm.trans aX_Twice; exact ⟨⟨y1_Twice, y2_Twice, x3_Twice, y4_Twice, y5_Twice, y6, y7, y8_Twice⟩, xi_Twice_BadText_BadRow⟩
      cases hp⟩⟩
  refine ⟨PySem.W.fnOf "law" "law" (defArgs s_law) (defBody s_law) (defScope s_law) .none kV34 dc34 pm34 an34 cd34 ct34, [("Book.heap", y9, Q9), ("_law_heap_of", y26, Q26)], ⟨fun t ht => ?_, fun t ht => ?_, fun t ht => ?_, nd⟩, fun s v => .of_eq rfl, fun base _ _ hB => law_all FL T ⟨fun c P tc => by obtain ⟨rfl, rfl⟩ := tc.inj tc0; exact hB ("Book.heap", _, _) (by simp), fun c P tc => by obtain ⟨rfl, rfl⟩ := tc.inj tc1; exact hB ("_law_heap_of", _, _) (by simp)⟩ tc0 tc1 nd⟩
  · repeat (first | (rcases List.mem_cons.mp ht with rfl | ht; · assumption) | (cases ht))
  · repeat (first | (rcases List.mem_cons.mp ht with rfl | ht; · assumption) | (cases ht))
  · repeat (first | (rcases List.mem_cons.mp ht with rfl | ht; · assumption) | (cases ht))
end K69
open PySem PySem.W PyProof.Rows
set_option maxHeartbeats 0 in
theorem PySem.Challenge.cw_strengthbond_k69_deeds_undone_holds : PySem.Challenge.rw_strengthbond_k69_deeds_undone.Holds := by
  w_on; o_law; k_head; (case hw => w_witness2)
  k_fill
  refine DL.walk_byT (l := PySem.Challenge.rw_strengthbond_k69_deeds_undone) (k := 11) (x := "_law_script") rfl rfl ⟨rfl, by decide, by decide⟩ (fun w h Y => PySem.W.km_in_of Y) ?F
  case F =>
    intro w mg fa h Y KX G hmg
    refine' K69.all_mk KX G hmg ?aC_SaidDeed ?pg_SaidDeed ?hd_SaidDeed ?po_SaidDeed ?sa_SaidDeed ?mk_SaidDeed ?kc_SaidDeed ?aC_UnsaidDeed ?pg_UnsaidDeed ?hd_UnsaidDeed ?po_UnsaidDeed ?sa_UnsaidDeed ?mk_UnsaidDeed ?kc_UnsaidDeed ?aC_RetoldDeed ?pg_RetoldDeed ?hd_RetoldDeed ?po_RetoldDeed ?sa_RetoldDeed ?mk_RetoldDeed ?kc_RetoldDeed ?aC_Book ?pg_Book ?hd_Book ?po_Book ?sa_Book ?mk_Book ?kc_Book ?n_Book_pages ?n_Book_past ?n_Book_states ?n_Book_terms ?n_RetoldDeed_later ?n_RetoldDeed_number ?n_RetoldDeed_page ?n_SaidDeed_number ?n_UnsaidDeed_number ?n_UnsaidDeed_page ?aX_BadRow ?aX_BadText ?aX_BondError ?aX_NoCask ?aX_NoDeed ?aX_NoPage ?aX_Twice ?aX_Unfit ?x1_NoDeed ?x2_NoDeed ?x3_NoDeed ?x4_NoDeed ?x1_NoPage ?x2_NoPage ?x3_NoPage ?x4_NoPage ?x1_Twice ?x2_Twice ?x3_Twice ?x4_Twice ?xm_NoDeed_BondError ?y1_NoDeed ?y2_NoDeed ?y4_NoDeed ?y5_NoDeed ?y8_NoDeed ?xi_NoDeed_Twice ?xi_NoDeed_NoPage ?xi_NoDeed_NoDeed ?xi_NoDeed_NoCask ?xi_NoDeed_Unfit ?xi_NoDeed_ValueError ?xi_NoDeed_BadText_BadRow ?xm_NoPage_BondError ?y1_NoPage ?y2_NoPage ?y4_NoPage ?y5_NoPage ?y8_NoPage ?xi_NoPage_Twice ?xi_NoPage_NoPage ?xi_NoPage_NoDeed ?xi_NoPage_NoCask ?xi_NoPage_Unfit ?xi_NoPage_ValueError ?xi_NoPage_BadText_BadRow ?xm_Twice_BondError ?y1_Twice ?y2_Twice ?y4_Twice ?y5_Twice ?y8_Twice ?xi_Twice_Twice ?xi_Twice_NoPage ?xi_Twice_NoDeed ?xi_Twice_NoCask ?xi_Twice_Unfit ?xi_Twice_ValueError ?xi_Twice_BadText_BadRow ?y6 ?y7 ?a0 ?i0 ?l0 ?c0 ?k0 ?a1 ?i1 ?l1 ?c1 ?k1 ?a2 ?i2 ?l2 ?c2 ?k2 ?a3 ?i3 ?l3 ?c3 ?k3 ?a4 ?i4 ?l4 ?c4 ?k4 ?a5 ?i5 ?l5 ?c5 ?k5 ?a6 ?i6 ?l6 ?c6 ?k6 ?a7 ?i7 ?l7 ?c7 ?k7 ?a8 ?i8 ?l8 ?c8 ?k8 ?a9 ?i9 ?l9 ?c9 ?k9 ?v9 ?p9 ?u9 ?n9 ?g9 ?a10 ?i10 ?l10 ?c10 ?k10 ?a11 ?i11 ?l11 ?c11 ?k11 ?a12 ?i12 ?l12 ?c12 ?k12 ?a13 ?i13 ?l13 ?c13 ?k13 ?a14 ?i14 ?l14 ?c14 ?k14 ?a15 ?l15 ?c15 ?k15 ?a16 ?l16 ?c16 ?k16 ?a17 ?l17 ?c17 ?k17 ?a18 ?l18 ?c18 ?k18 ?a19 ?l19 ?c19 ?k19 ?a20 ?l20 ?c20 ?k20 ?a21 ?l21 ?c21 ?k21 ?a22 ?l22 ?c22 ?k22 ?a23 ?l23 ?c23 ?k23 ?a24 ?l24 ?c24 ?k24 ?a25 ?l25 ?c25 ?k25 ?a26 ?l26 ?c26 ?k26 ?v26 ?p26 ?u26 ?n26 ?g26 ?a27 ?l27 ?c27 ?k27 ?a28 ?l28 ?c28 ?k28 ?a29 ?l29 ?c29 ?k29 ?a30 ?l30 ?c30 ?k30 ?a31 ?l31 ?c31 ?k31 ?a32 ?l32 ?c32 ?k32 ?a33 ?l33 ?c33 ?k33 ?a34 ?l34 ?c34 ?k34 ?kr_SaidDeed ?kg_SaidDeed ?kf_SaidDeed ?kr_UnsaidDeed ?kg_UnsaidDeed ?kf_UnsaidDeed ?z_ValueError ?z_dict ?z_divmod ?z_int ?z_isinstance ?z_len ?z_list ?z_max ?z_min ?z_range ?z_sorted ?nd
    (case aC_SaidDeed => k_is)
    (case pg_SaidDeed => k_is)
    (case hd_SaidDeed => k_is)
    (case po_SaidDeed => k_is)
    (case sa_SaidDeed => k_is)
    (case mk_SaidDeed => k_is)
    (case kc_SaidDeed => k_is)
    (case aC_UnsaidDeed => k_is)
    (case pg_UnsaidDeed => k_is)
    (case hd_UnsaidDeed => k_is)
    (case po_UnsaidDeed => k_is)
    (case sa_UnsaidDeed => k_is)
    (case mk_UnsaidDeed => k_is)
    (case kc_UnsaidDeed => k_is)
    (case aC_RetoldDeed => k_is)
    (case pg_RetoldDeed => k_is)
    (case hd_RetoldDeed => k_is)
    (case po_RetoldDeed => k_is)
    (case sa_RetoldDeed => k_is)
    (case mk_RetoldDeed => k_is)
    (case kc_RetoldDeed => k_is)
    (case aC_Book => k_is)
    (case pg_Book => k_is)
    (case hd_Book => k_is)
    (case po_Book => k_is)
    (case sa_Book => k_is)
    (case mk_Book => k_is)
    (case kc_Book => k_is)
    (case n_Book_pages => k_is)
    (case n_Book_past => k_is)
    (case n_Book_states => k_is)
    (case n_Book_terms => k_is)
    (case n_RetoldDeed_later => k_is)
    (case n_RetoldDeed_number => k_is)
    (case n_RetoldDeed_page => k_is)
    (case n_SaidDeed_number => k_is)
    (case n_UnsaidDeed_number => k_is)
    (case n_UnsaidDeed_page => k_is)
    (case aX_BadRow => k_is)
    (case aX_BadText => k_is)
    (case aX_BondError => k_is)
    (case aX_NoCask => k_is)
    (case aX_NoDeed => k_is)
    (case aX_NoPage => k_is)
    (case aX_Twice => k_is)
    (case aX_Unfit => k_is)
    (case x1_NoDeed => k_exc)
    (case x2_NoDeed => k_is)
    (case x3_NoDeed => k_is)
    (case x4_NoDeed => k_is)
    (case x1_NoPage => k_exc)
    (case x2_NoPage => k_is)
    (case x3_NoPage => k_is)
    (case x4_NoPage => k_is)
    (case x1_Twice => k_exc)
    (case x2_Twice => k_is)
    (case x3_Twice => k_is)
    (case x4_Twice => k_is)
    (case xm_NoDeed_BondError => kernel_rfl)
    (case y1_NoDeed => k_is)
    (case y2_NoDeed => k_is)
    (case y4_NoDeed => k_is)
    (case y5_NoDeed => k_is)
    (case y8_NoDeed => k_is)
    (case xi_NoDeed_Twice => kernel_rfl)
    (case xi_NoDeed_NoPage => kernel_rfl)
    (case xi_NoDeed_NoDeed => kernel_rfl)
    (case xi_NoDeed_NoCask => kernel_rfl)
    (case xi_NoDeed_Unfit => kernel_rfl)
    (case xi_NoDeed_ValueError => kernel_rfl)
    (case xi_NoDeed_BadText_BadRow => kernel_rfl)
    (case xm_NoPage_BondError => kernel_rfl)
    (case y1_NoPage => k_is)
    (case y2_NoPage => k_is)
    (case y4_NoPage => k_is)
    (case y5_NoPage => k_is)
    (case y8_NoPage => k_is)
    (case xi_NoPage_Twice => kernel_rfl)
    (case xi_NoPage_NoPage => kernel_rfl)
    (case xi_NoPage_NoDeed => kernel_rfl)
    (case xi_NoPage_NoCask => kernel_rfl)
    (case xi_NoPage_Unfit => kernel_rfl)
    (case xi_NoPage_ValueError => kernel_rfl)
    (case xi_NoPage_BadText_BadRow => kernel_rfl)
    (case xm_Twice_BondError => kernel_rfl)
    (case y1_Twice => k_is)
    (case y2_Twice => k_is)
    (case y4_Twice => k_is)
    (case y5_Twice => k_is)
    (case y8_Twice => k_is)
    (case xi_Twice_Twice => kernel_rfl)
    (case xi_Twice_NoPage => kernel_rfl)
    (case xi_Twice_NoDeed => kernel_rfl)
    (case xi_Twice_NoCask => kernel_rfl)
    (case xi_Twice_Unfit => kernel_rfl)
    (case xi_Twice_ValueError => kernel_rfl)
    (case xi_Twice_BadText_BadRow => kernel_rfl)
    (case y6 => k_is)
    (case y7 => k_is)
    (case a0 => k_is)
    (case i0 => k_is)
    (case l0 => k_is)
    (case c0 => k_is)
    (case k0 => k_is)
    (case a1 => k_is)
    (case i1 => k_is)
    (case l1 => k_is)
    (case c1 => k_is)
    (case k1 => k_is)
    (case a2 => k_is)
    (case i2 => k_is)
    (case l2 => k_is)
    (case c2 => k_is)
    (case k2 => k_is)
    (case a3 => k_is)
    (case i3 => k_is)
    (case l3 => k_is)
    (case c3 => k_is)
    (case k3 => k_is)
    (case a4 => k_is)
    (case i4 => k_is)
    (case l4 => k_is)
    (case c4 => k_is)
    (case k4 => k_is)
    (case a5 => k_is)
    (case i5 => k_is)
    (case l5 => k_is)
    (case c5 => k_is)
    (case k5 => k_is)
    (case a6 => k_is)
    (case i6 => k_is)
    (case l6 => k_is)
    (case c6 => k_is)
    (case k6 => k_is)
    (case a7 => k_is)
    (case i7 => k_is)
    (case l7 => k_is)
    (case c7 => k_is)
    (case k7 => k_is)
    (case a8 => k_is)
    (case i8 => k_is)
    (case l8 => k_is)
    (case c8 => k_is)
    (case k8 => k_is)
    (case a9 => k_is)
    (case i9 => k_is)
    (case l9 => k_is)
    (case c9 => k_is)
    (case k9 => k_is)
    (case v9 => k_is)
    (case p9 => rfl)
    (case u9 => kernel_rfl)
    (case n9 => kernel_rfl)
    (case g9 => exact PySem.W.km_tabs_of Y _ (by k_mem))
    (case a10 => k_is)
    (case i10 => k_is)
    (case l10 => k_is)
    (case c10 => k_is)
    (case k10 => k_is)
    (case a11 => k_is)
    (case i11 => k_is)
    (case l11 => k_is)
    (case c11 => k_is)
    (case k11 => k_is)
    (case a12 => k_is)
    (case i12 => k_is)
    (case l12 => k_is)
    (case c12 => k_is)
    (case k12 => k_is)
    (case a13 => k_is)
    (case i13 => k_is)
    (case l13 => k_is)
    (case c13 => k_is)
    (case k13 => k_is)
    (case a14 => k_is)
    (case i14 => k_is)
    (case l14 => k_is)
    (case c14 => k_is)
    (case k14 => k_is)
    (case a15 => k_is)
    (case l15 => k_is)
    (case c15 => k_is)
    (case k15 => k_is)
    (case a16 => k_is)
    (case l16 => k_is)
    (case c16 => k_is)
    (case k16 => k_is)
    (case a17 => k_is)
    (case l17 => k_is)
    (case c17 => k_is)
    (case k17 => k_is)
    (case a18 => k_is)
    (case l18 => k_is)
    (case c18 => k_is)
    (case k18 => k_is)
    (case a19 => k_is)
    (case l19 => k_is)
    (case c19 => k_is)
    (case k19 => k_is)
    (case a20 => k_is)
    (case l20 => k_is)
    (case c20 => k_is)
    (case k20 => k_is)
    (case a21 => k_is)
    (case l21 => k_is)
    (case c21 => k_is)
    (case k21 => k_is)
    (case a22 => k_is)
    (case l22 => k_is)
    (case c22 => k_is)
    (case k22 => k_is)
    (case a23 => k_is)
    (case l23 => k_is)
    (case c23 => k_is)
    (case k23 => k_is)
    (case a24 => k_is)
    (case l24 => k_is)
    (case c24 => k_is)
    (case k24 => k_is)
    (case a25 => k_is)
    (case l25 => k_is)
    (case c25 => k_is)
    (case k25 => k_is)
    (case a26 => k_is)
    (case l26 => k_is)
    (case c26 => k_is)
    (case k26 => k_is)
    (case v26 => k_is)
    (case p26 => rfl)
    (case u26 => kernel_rfl)
    (case n26 => kernel_rfl)
    (case g26 => exact PySem.W.km_tabs_of Y _ (by k_mem))
    (case a27 => k_is)
    (case l27 => k_is)
    (case c27 => k_is)
    (case k27 => k_is)
    (case a28 => k_is)
    (case l28 => k_is)
    (case c28 => k_is)
    (case k28 => k_is)
    (case a29 => k_is)
    (case l29 => k_is)
    (case c29 => k_is)
    (case k29 => k_is)
    (case a30 => k_is)
    (case l30 => k_is)
    (case c30 => k_is)
    (case k30 => k_is)
    (case a31 => k_is)
    (case l31 => k_is)
    (case c31 => k_is)
    (case k31 => k_is)
    (case a32 => k_is)
    (case l32 => k_is)
    (case c32 => k_is)
    (case k32 => k_is)
    (case a33 => k_is)
    (case l33 => k_is)
    (case c33 => k_is)
    (case k33 => k_is)
    (case a34 => k_is)
    (case l34 => k_is)
    (case c34 => k_is)
    (case k34 => k_is)
    (case kr_SaidDeed => k_is)
    (case kg_SaidDeed => k_is)
    (case kf_SaidDeed => k_is)
    (case kr_UnsaidDeed => k_is)
    (case kg_UnsaidDeed => k_is)
    (case kf_UnsaidDeed => k_is)
    (case z_ValueError => k_is)
    (case z_dict => k_is)
    (case z_divmod => k_is)
    (case z_int => k_is)
    (case z_isinstance => k_is)
    (case z_len => k_is)
    (case z_list => k_is)
    (case z_max => k_is)
    (case z_min => k_is)
    (case z_range => k_is)
    (case z_sorted => k_is)
    (case nd => decide)
