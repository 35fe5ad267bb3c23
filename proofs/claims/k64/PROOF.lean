import PyProof.Rows.All
import Wide.All
import OpenK.AllK
import Wide.FinOn
import HandS.ForMost
import HandS.Lambda
import HandS.Wide
import HandS.WideBits
import HandS.IsInst
import HandS.Style
import HandS.NoneIn
import HandS.Zip
import HandS.Rev
import HandS.TupAny
import HandS.SortInts
import HandS.Small
import HandS.Ends
import HandS.Words
import HandS.Flt
import KE.DataMinMax
import KE.DataCmp
import KE.DataAny
import KE.SortKeyHeap
import HandS.Deep
import HandS.Steps
import HandS.DictTup
import HandS.ListItems
import HandS.More
import HandS.WordsDict
import KE.GoesEnum
import KE.GoesZip
import HandS.Text
import PyProof.IsRules
import HandS.SortKw
import HandS.Keys
import HandS.TupSets
import HandS.SetFor
import HandS.SetTxt0
import PySem.Challenge.RW_strengthbond_k64_brought_down
set_option Elab.async false
set_option linter.all false
set_option maxRecDepth 100000
set_option maxHeartbeats 4000000
namespace DL
open PySem L2
abbrev D := PyData
/-! ### data read through the heap, off the avoided addresses -/
def LsR (A : Addr → Prop) (H : Hp) (a : Addr) (xs : List V) : Prop := H a = some (.lst xs) ∧ ¬ A a
def TuR (K : PySem.W.Frag) (A : Addr → Prop) (H : Hp) (a : Addr) (xs : List V) : Prop := (H a = some (.tup xs) ∧ ¬ A a) ∨ ∀ H' : Hp, SqT K H' a xs
theorem LsR.sq {K : PySem.W.Frag} {A : Addr → Prop} {H : Hp} {a : Addr} {xs : List V} (h : LsR A H a xs) : SqL K H a xs := .inl (.inl h.1)
theorem TuR.sq {K : PySem.W.Frag} {A : Addr → Prop} {H : Hp} {a : Addr} {xs : List V} (h : TuR K A H a xs) : SqT K H a xs := h.elim (fun q => .inl (.inl q.1)) fun q => q H
/-- a key as data -/
def kD : Key → D
  | .inl i => .int i
  | .inr x => .str x
mutual
inductive Rp (K : PySem.W.Frag) (A : Addr → Prop) (H : Hp) : V → D → Prop
  | non : Rp K A H .non .none
  | bl (b : Bool) : Rp K A H (.bl b) (.bool b)
  | int (i : Int) : Rp K A H (.int i) (.int i)
  | str (x : Str) : Rp K A H (.str x) (.str x)
  | lst {a : Addr} {xs : List V} {ds : List D} : LsR A H a xs → RpL K A H xs ds → Rp K A H (.ref a) (.list ds)
  | tup {a : Addr} {xs : List V} {ds : List D} : TuR K A H a xs → RpL K A H xs ds → Rp K A H (.ref a) (.tuple ds)
  | dct {a : Addr} {o : Obj} {ws : List (Key × V)} {kvs : List (Key × D)} : H a = some (.frz o (.dK ws)) → ¬ A a → RpK K A H ws kvs → Rp K A H (.ref a) (.dict (kvs.map fun z => (kD z.1, z.2)))
inductive RpL (K : PySem.W.Frag) (A : Addr → Prop) (H : Hp) : List V → List D → Prop
  | nil : RpL K A H [] []
  | cons {v : V} {vs : List V} {d : D} {ds : List D} : Rp K A H v d → RpL K A H vs ds → RpL K A H (v :: vs) (d :: ds)
inductive RpK (K : PySem.W.Frag) (A : Addr → Prop) (H : Hp) : List (Key × V) → List (Key × D) → Prop
  | nil : RpK K A H [] []
  | cons {k : Key} {v : V} {vs : List (Key × V)} {d : D} {ds : List (Key × D)} : Rp K A H v d → RpK K A H vs ds → RpK K A H ((k, v) :: vs) ((k, d) :: ds)
end
section
variable {K : PySem.W.Frag} {A A' : Addr → Prop} {H H' : Hp}
/-- what stands off A is kept, and stands off A' -/
def Kp (A : Addr → Prop) (H : Hp) (A' : Addr → Prop) (H' : Hp) : Prop := ∀ a u, ¬ A a → H a = some u → H' a = some u ∧ ¬ A' a
theorem Kp.refl : Kp A H A H := fun _ _ n r => ⟨r, n⟩
theorem Kp.trans {A'' : Addr → Prop} {H'' : Hp} (p : Kp A H A' H') (q : Kp A' H' A'' H'') : Kp A H A'' H'' := fun a u n r => q a u (p a u n r).2 (p a u n r).1
mutual
theorem Rp.mono (h : Kp A H A' H') : ∀ {v : V} {d : D}, Rp K A H v d → Rp K A' H' v d
  | _, _, .non => .non
  | _, _, .bl b => .bl b
  | _, _, .int i => .int i
  | _, _, .str x => .str x
  | _, _, .lst l r => .lst (h _ _ l.2 l.1) (RpL.mono h r)
  | _, _, .tup l r => .tup (l.elim (fun q => .inl (h _ _ q.2 q.1)) .inr) (RpL.mono h r)
  | _, _, .dct l n r => .dct (h _ _ n l).1 (h _ _ n l).2 (RpK.mono h r)
theorem RpL.mono (h : Kp A H A' H') : ∀ {v : List V} {d : List D}, RpL K A H v d → RpL K A' H' v d
  | _, _, .nil => .nil
  | _, _, .cons a b => .cons (Rp.mono h a) (RpL.mono h b)
theorem RpK.mono (h : Kp A H A' H') : ∀ {v : List (Key × V)} {d : List (Key × D)}, RpK K A H v d → RpK K A' H' v d
  | _, _, .nil => .nil
  | _, _, .cons a b => .cons (Rp.mono h a) (RpK.mono h b)
end
mutual
theorem Rp.dp : ∀ {v : V} {d : D}, Rp K A H v d → d.canLay0 = true → Dp K H v d
  | _, _, .non, _ => .non
  | _, _, .bl b, _ => .bl b
  | _, _, .int i, _ => .int i
  | _, _, .str x, _ => .str x
  | _, _, .lst l r, h => .lst l.sq (RpL.dp r (by simpa only [PyData.canLay0] using h))
  | _, _, .tup l r, h => .tup l.sq (RpL.dp r (by simpa only [PyData.canLay0] using h))
  | _, _, .dct _ _ _, h => by simp [PyData.canLay0] at h
theorem RpL.dp : ∀ {v : List V} {d : List D}, RpL K A H v d → PyData.canLayAll0 d = true → DpAll K H v d
  | _, _, .nil, _ => .nil
  | _, _, .cons a b, h => by
    rw [PyData.canLayAll0, Bool.and_eq_true] at h
    exact .cons (Rp.dp a h.1) (RpL.dp b h.2)
end
theorem lay_ints : ∀ ns : List Int, PyData.canLayAll0 (ns.map PyData.int) = true
  | [] => rfl
  | n :: ns => by rw [List.map_cons, PyData.canLayAll0, lay_ints ns]; rfl
theorem RpL.length : ∀ {v : List V} {d : List D}, RpL K A H v d → v.length = d.length
  | _, _, .nil => rfl
  | _, _, .cons _ b => congrArg (· + 1) (RpL.length b)
theorem RpL.get : ∀ {v : List V} {d : List D} {i : Nat} {x : D}, RpL K A H v d → d[i]? = some x → ∃ y, v[i]? = some y ∧ Rp K A H y x
  | _, _, _, _, .nil, e => by simp at e
  | _, _, 0, _, .cons a _, e => ⟨_, rfl, by simp at e; subst e; exact a⟩
  | _, _, i + 1, _, .cons _ b, e => by
    obtain ⟨y, h1, h2⟩ := RpL.get (i := i) b (by simpa using e)
    exact ⟨y, by simpa using h1, h2⟩
theorem RpL.get' : ∀ {v : List V} {d : List D} {i : Nat} {y : V}, RpL K A H v d → v[i]? = some y → ∃ x, d[i]? = some x ∧ Rp K A H y x
  | _, _, _, _, .nil, e => by simp at e
  | _, _, 0, _, .cons a _, e => ⟨_, rfl, by simp at e; subst e; exact a⟩
  | _, _, i + 1, _, .cons _ b, e => by
    obtain ⟨y, h1, h2⟩ := RpL.get' (i := i) b (by simpa using e)
    exact ⟨y, by simpa using h1, h2⟩
theorem RpL.append : ∀ {v w : List V} {d e : List D}, RpL K A H v d → RpL K A H w e → RpL K A H (v ++ w) (d ++ e)
  | _, _, _, _, .nil, r => r
  | _, _, _, _, .cons a b, r => .cons a (RpL.append b r)
theorem RpL.take : ∀ {v : List V} {d : List D} (n : Nat), RpL K A H v d → RpL K A H (v.take n) (d.take n)
  | _, _, 0, _ => .nil
  | _, _, _ + 1, .nil => .nil
  | _, _, n + 1, .cons a b => .cons a (RpL.take n b)
theorem RpL.drop : ∀ {v : List V} {d : List D} (n : Nat), RpL K A H v d → RpL K A H (v.drop n) (d.drop n)
  | _, _, 0, r => r
  | _, _, _ + 1, .nil => .nil
  | _, _, n + 1, .cons _ b => RpL.drop n b
theorem RpL.set {x : V} {u : D} (r : Rp K A H x u) : ∀ {v : List V} {d : List D} (i : Nat), RpL K A H v d → RpL K A H (v.set i x) (d.set i u)
  | _, _, _, .nil => .nil
  | _, _, 0, .cons _ b => .cons r b
  | _, _, i + 1, .cons a b => .cons a (RpL.set r i b)
theorem RpL.reverse : ∀ {v : List V} {d : List D}, RpL K A H v d → RpL K A H v.reverse d.reverse
  | _, _, .nil => .nil
  | _, _, .cons a b => by
    rw [List.reverse_cons, List.reverse_cons]
    exact (RpL.reverse b).append (.cons a .nil)
theorem RpL.ints : ∀ {ns : List Int}, RpL K A H (ns.map V.int) (ns.map PyData.int)
  | [] => .nil
  | n :: ns => .cons (.int n) RpL.ints
theorem RpL.ofInts : ∀ {ns : List Int} {vs : List V}, RpL K A H vs (ns.map PyData.int) → vs = ns.map V.int
  | [], _, .nil => rfl
  | n :: ns, _, .cons (.int _) b => by rw [RpL.ofInts b]; rfl
theorem RpL.ofBools : ∀ {ns : List Bool} {vs : List V}, RpL K A H vs (ns.map PyData.bool) → vs = ns.map V.bl
  | [], _, .nil => rfl
  | n :: ns, _, .cons (.bl _) b => by rw [RpL.ofBools b]; rfl
theorem RpL.ofStrs : ∀ {ns : List Str} {vs : List V}, RpL K A H vs (ns.map PyData.str) → vs = ns.map V.str
  | [], _, .nil => rfl
  | n :: ns, _, .cons (.str _) b => by rw [RpL.ofStrs b]; rfl
theorem RpL.strs : ∀ {ns : List Str}, RpL K A H (ns.map V.str) (ns.map PyData.str)
  | [] => .nil
  | n :: ns => .cons (.str n) RpL.strs
end
/-! ### what a name or a field holds: unknown, data, a thing that changes -/
inductive En where
  | no
  | da (d : D)
  | mu (k : Nat)
/-- an own class's object (by the class's name), a list, a tuple, a dict of texts: of things that may change -/
inductive Sh where
  | obj (c : Str)
  | lst
  | tup
  | dct
inductive MO where
  | gone
  | lst (ds : List D)
  | dct (kvs : List (Key × D))
  | rnd (n : Nat)
  | box (n : Nat)
  | tab (q : Str)
  | ins (C : Sh) (fs : List (Str × En))
structure S where
  es : List En
  ms : List MO
  np : Nat
def gt : List En → Nat → En
  | [], _ => .no
  | x :: _, 0 => x
  | _ :: r, i + 1 => gt r i
def st : List En → Nat → En → List En
  | [], _, _ => []
  | _ :: r, 0, y => y :: r
  | x :: r, i + 1, y => x :: st r i y
def gm : List MO → Nat → MO
  | [], _ => .gone
  | x :: _, 0 => x
  | _ :: r, i + 1 => gm r i
def sm : List MO → Nat → MO → List MO
  | [], _, _ => []
  | _ :: r, 0, y => y :: r
  | x :: r, i + 1, y => x :: sm r i y
def go : List (List Addr) → Nat → List Addr
  | [], _ => []
  | x :: _, 0 => x
  | _ :: r, i + 1 => go r i
def S.sE (s : S) (i : Nat) (x : En) : S := ⟨st s.es i x, s.ms, s.np⟩
def S.sM (s : S) (j : Nat) (m : MO) : S := ⟨s.es, sm s.ms j m, s.np⟩
def S.aM (s : S) (m : MO) : S := ⟨s.es, s.ms ++ [m], s.np⟩
theorem st_length : ∀ (l : List En) (i : Nat) (y : En), (st l i y).length = l.length
  | [], _, _ => rfl
  | _ :: _, 0, _ => rfl
  | _ :: r, i + 1, y => congrArg (· + 1) (st_length r i y)
theorem gt_st : ∀ (l : List En) (i j : Nat) (y : En), gt (st l i y) j = if i = j ∧ i < l.length then y else gt l j
  | [], i, j, y => by simp [st, gt]
  | x :: r, 0, 0, y => by simp [st, gt]
  | x :: r, 0, j + 1, y => by simp [st, gt]
  | x :: r, i + 1, 0, y => by simp [st, gt]
  | x :: r, i + 1, j + 1, y => by
    show gt (st r i y) j = _
    rw [gt_st r i j y]
    simp [gt]
theorem gt_ge : ∀ (l : List En) (i : Nat), l.length ≤ i → gt l i = .no
  | [], _, _ => rfl
  | _ :: r, 0, h => by simp at h
  | _ :: r, i + 1, h => gt_ge r i (by simpa using h)
theorem sm_length : ∀ (l : List MO) (i : Nat) (y : MO), (sm l i y).length = l.length
  | [], _, _ => rfl
  | _ :: _, 0, _ => rfl
  | _ :: r, i + 1, y => congrArg (· + 1) (sm_length r i y)
theorem gm_sm : ∀ (l : List MO) (i j : Nat) (y : MO), gm (sm l i y) j = if i = j ∧ i < l.length then y else gm l j
  | [], i, j, y => by simp [sm, gm]
  | x :: r, 0, 0, y => by simp [sm, gm]
  | x :: r, 0, j + 1, y => by simp [sm, gm]
  | x :: r, i + 1, 0, y => by simp [sm, gm]
  | x :: r, i + 1, j + 1, y => by
    show gm (sm r i y) j = _
    rw [gm_sm r i j y]
    simp [gm]
theorem gm_ge : ∀ (l : List MO) (i : Nat), l.length ≤ i → gm l i = .gone
  | [], _, _ => rfl
  | _ :: r, 0, h => by simp at h
  | _ :: r, i + 1, h => gm_ge r i (by simpa using h)
theorem gm_app : ∀ (l r : List MO) (i : Nat), gm (l ++ r) i = if i < l.length then gm l i else gm r (i - l.length)
  | [], r, i => by simp
  | x :: l, r, 0 => by simp [gm]
  | x :: l, r, i + 1 => by
    show gm (l ++ r) i = _
    rw [gm_app l r i]
    simp [gm]
theorem go_app : ∀ (l r : List (List Addr)) (i : Nat), go (l ++ r) i = if i < l.length then go l i else go r (i - l.length)
  | [], r, i => by simp
  | x :: l, r, 0 => by simp [go]
  | x :: l, r, i + 1 => by
    show go (l ++ r) i = _
    rw [go_app l r i]
    simp [go]
theorem go_ge : ∀ (l : List (List Addr)) (i : Nat), l.length ≤ i → go l i = []
  | [], _, _ => rfl
  | _ :: r, 0, h => by simp at h
  | _ :: r, i + 1, h => go_ge r i (by simpa using h)
theorem go_mem : ∀ (l : List (List Addr)) (i : Nat), i < l.length → go l i ∈ l
  | [], _, h => by simp at h
  | x :: r, 0, _ => List.mem_cons_self
  | x :: r, i + 1, h => List.mem_cons_of_mem _ (go_mem r i (by simpa using h))
theorem go_of_mem : ∀ (l : List (List Addr)) (x : List Addr), x ∈ l → ∃ i, i < l.length ∧ go l i = x
  | [], _, h => by simp at h
  | y :: r, x, h => by
    rcases List.mem_cons.mp h with rfl | h
    · exact ⟨0, by simp, rfl⟩
    · obtain ⟨i, h1, h2⟩ := go_of_mem r x h
      exact ⟨i + 1, by simpa using h1, h2⟩
theorem go_take : ∀ (l : List (List Addr)) (n i : Nat), go (l.take n) i = if i < n then go l i else []
  | [], n, i => by simp [go]
  | x :: r, 0, i => by simp [go]
  | x :: r, n + 1, 0 => by simp [go]
  | x :: r, n + 1, i + 1 => by
    show go (r.take n) i = _
    rw [go_take r n i]
    simp [go]
theorem gm_take : ∀ (l : List MO) (n i : Nat), gm (l.take n) i = if i < n then gm l i else .gone
  | [], n, i => by simp [gm]
  | x :: r, 0, i => by simp [gm]
  | x :: r, n + 1, 0 => by simp [gm]
  | x :: r, n + 1, i + 1 => by
    show gm (r.take n) i = _
    rw [gm_take r n i]
    simp [gm]
section
variable (K : PySem.W.Frag) (A : Addr → Prop) (own : List (List Addr)) (H : Hp)
def ER (v : V) : En → Prop
  | .no => True
  | .da d => Rp K A H v d
  | .mu k => ∃ a r, go own k = a :: r ∧ v = .ref a
def ERL : List V → List En → Prop
  | [], [] => True
  | v :: vs, x :: xs => ER K A own H v x ∧ ERL vs xs
  | _, _ => False
def RKV : List (Key × V) → List (Key × D) → Prop
  | [], [] => True
  | p :: ws, q :: kvs => p.1 = q.1 ∧ Rp K A H p.2 q.2 ∧ RKV ws kvs
  | _, _ => False
def RKE : List (Str × V) → List (Str × En) → Prop
  | [], [] => True
  | p :: ws, q :: kvs => p.1 = q.1 ∧ ER K A own H p.2 q.2 ∧ RKE ws kvs
  | _, _ => False
def turnMax : Int := 2 ^ 60
/-- the code object's table: what it tells are code objects of the name q -/
def TabA (P : Addr) (q : Str) : Prop := ∃ ps : Array Value, H P = some (.tbl ps) ∧ PySem.TriplesOk ps.toList ∧ ∀ (pos : Pos) (cv : Value), PySem.codeAmong pos ps.toList = some cv → ∃ c, cv = .ref c ∧ H c = some (LamX.CodeO c q) ∧ ¬ A c
/-- the def q's own code object and its table -/
def TabC (q : Str) (c P : Addr) : Prop := ∃ (f : Addr) (oc : Value) (od : Option Addr) (fd : FuncData) (osl : Array (Option Value)), PySem.W.nsIn K mainGlobals q = some (some (.ref f)) ∧ K.lookup f = some ⟨oc, od, .func fd, osl⟩ ∧ fd.code = .ref c ∧ PySem.W.codeHdIn K c P = true
def HOb (a : Addr) (r : List Addr) (ws : List (Str × V)) : Sh → Prop
  | .obj c => ∃ C dx, PySem.W.nsIn K mainGlobals c = some (some (.ref C)) ∧ r = [dx] ∧ H a = some (.ins C dx ws) ∧ H dx = some (.own a)
  | .lst => r = [] ∧ H a = some (.lst (ws.map (·.2)))
  | .tup => r = [] ∧ H a = some (.tup (ws.map (·.2)))
  | .dct => r = [] ∧ H a = some (.dK (ws.map fun p => (.inr p.1, p.2)))
def MR : List Addr → MO → Prop
  | _, .gone => True
  | l, .lst ds => ∃ a vs, l = [a] ∧ H a = some (.lst vs) ∧ RpL K A H vs ds
  | l, .dct kvs => ∃ a ws, l = [a] ∧ H a = some (.dK ws) ∧ RKV K A H ws kvs
  | l, .rnd n => ∃ (a c : Addr) (cs : List Int) (t : Int), l = [a, c] ∧ H a = some (.dK [(.inr "cells", .ref c), (.inr "turn", .int t)]) ∧ H c = some (.lst (cs.map V.int)) ∧ 1 ≤ cs.length ∧ cs.length ≤ 63 ∧ 0 ≤ t ∧ t + (n : Int) ≤ turnMax
  | l, .box n => ∃ (a : Addr) (x y z : Int), l = [a] ∧ H a = some (.lst [.int x, .int y, .int z]) ∧ 0 ≤ x ∧ 0 ≤ y ∧ y < 2 ^ 62 ∧ 0 ≤ z ∧ z + (n : Int) ≤ turnMax
  | l, .tab q => ∃ P c, l = [P] ∧ TabC K q c P ∧ TabA A H P (q ++ ".<locals>." ++ "<lambda>")
  | l, .ins C fs => ∃ (a : Addr) (r : List Addr) (ws : List (Str × V)), l = a :: r ∧ HOb K H a r ws C ∧ RKE K A own H ws fs
end
section
variable {K : PySem.W.Frag} {A A' : Addr → Prop} {own own' : List (List Addr)} {H H' : Hp}
/-- further on: what is known of values is kept -/
structure Up (A : Addr → Prop) (own : List (List Addr)) (H : Hp) (A' : Addr → Prop) (own' : List (List Addr)) (H' : Hp) : Prop where
  kp : Kp A H A' H'
  ow : ∀ k a r, go own k = a :: r → go own' k = a :: r
theorem Up.refl : Up A own H A own H := ⟨Kp.refl, fun _ _ _ h => h⟩
theorem Up.trans {A'' : Addr → Prop} {own'' : List (List Addr)} {H'' : Hp} (p : Up A own H A' own' H') (q : Up A' own' H' A'' own'' H'') : Up A own H A'' own'' H'' :=
  ⟨p.kp.trans q.kp, fun k a r h => q.ow k a r (p.ow k a r h)⟩
theorem ER.up (u : Up A own H A' own' H') {v : V} : ∀ {x : En}, ER K A own H v x → ER K A' own' H' v x
  | .no, _ => trivial
  | .da _, h => Rp.mono u.kp h
  | .mu k, ⟨a, r, e, h⟩ => ⟨a, r, u.ow k a r e, h⟩
theorem ERL.up (u : Up A own H A' own' H') : ∀ {vs : List V} {xs : List En}, ERL K A own H vs xs → ERL K A' own' H' vs xs
  | [], [], _ => trivial
  | _ :: _, _ :: _, ⟨h, t⟩ => ⟨h.up u, ERL.up u t⟩
theorem RKV.up (u : Kp A H A' H') : ∀ {ws : List (Key × V)} {kvs : List (Key × D)}, RKV K A H ws kvs → RKV K A' H' ws kvs
  | [], [], _ => trivial
  | _ :: _, _ :: _, ⟨e, h, t⟩ => ⟨e, Rp.mono u h, RKV.up u t⟩
theorem RKE.up (u : Up A own H A' own' H') : ∀ {ws : List (Str × V)} {kvs : List (Str × En)}, RKE K A own H ws kvs → RKE K A' own' H' ws kvs
  | [], [], _ => trivial
  | _ :: _, _ :: _, ⟨e, h, t⟩ => ⟨e, h.up u, RKE.up u t⟩
theorem HOb.up {a : Addr} {r : List Addr} {ws : List (Str × V)} {C : Sh} (h : HOb K H a r ws C) (hl : ∀ b o, b ∈ a :: r → H b = some o → H' b = some o) : HOb K H' a r ws C := by
  cases C with
  | obj C =>
    obtain ⟨C', dx, h0, rfl, h1, h2⟩ := h
    exact ⟨C', dx, h0, rfl, hl _ _ (by simp) h1, hl _ _ (by simp) h2⟩
  | dct => exact ⟨h.1, hl _ _ (by simp) h.2⟩
  | lst => exact ⟨h.1, hl _ _ (by simp) h.2⟩
  | tup => exact ⟨h.1, hl _ _ (by simp) h.2⟩
/-- an object whose own addresses are kept -/
theorem MR.up (u : Up A own H A' own' H') {l : List Addr} {m : MO} (h : MR K A own H l m) (hl : ∀ a o, a ∈ l → H a = some o → H' a = some o) : MR K A' own' H' l m := by
  cases m with
  | gone => trivial
  | lst ds =>
    obtain ⟨a, vs, rfl, h1, h2⟩ := h
    exact ⟨a, vs, rfl, hl _ _ (by simp) h1, RpL.mono u.kp h2⟩
  | dct kvs =>
    obtain ⟨a, ws, rfl, h1, h2⟩ := h
    exact ⟨a, ws, rfl, hl _ _ (by simp) h1, h2.up u.kp⟩
  | rnd n =>
    obtain ⟨a, c, cs, t, rfl, h1, h2, h3⟩ := h
    exact ⟨a, c, cs, t, rfl, hl _ _ (by simp) h1, hl _ _ (by simp) h2, h3⟩
  | box n =>
    obtain ⟨a, x, y, z, rfl, h1, h3⟩ := h
    exact ⟨a, x, y, z, rfl, hl _ _ (by simp) h1, h3⟩
  | tab q =>
    obtain ⟨P, c, rfl, hc, ps, h1, h2, h3⟩ := h
    refine ⟨P, c, rfl, hc, ps, hl _ _ (by simp) h1, h2, fun pos cv e => ?_⟩
    obtain ⟨c', e1, e2, e3⟩ := h3 pos cv e
    exact ⟨c', e1, u.kp _ _ e3 e2⟩
  | ins C fs =>
    obtain ⟨a, r, ws, rfl, h1, h3⟩ := h
    exact ⟨a, r, ws, rfl, h1.up hl, h3.up u⟩
/-- the objects that change, each at its own addresses -/
structure Own (K : PySem.W.Frag) (A : Addr → Prop) (own : List (List Addr)) (H : Hp) (ms : List MO) : Prop where
  ol : own.length = ms.length
  mr : ∀ k, MR K A own H (go own k) (gm ms k)
  dj : ∀ k j a, a ∈ go own k → a ∈ go own j → k = j
  ld : ∀ k, (go own k).Nodup
  oa : ∀ k a, a ∈ go own k → A a
  al : ∀ a, A a → H a ≠ none
structure Bd where
  H0 : Hp
  own0 : List (List Addr)
  A0 : Addr → Prop
structure Rel (K : PySem.W.Frag) (b : Bd) (A : Addr → Prop) (own : List (List Addr)) (H : Hp) (σ : L2.St) (s : S) : Prop extends Own K A own H s.ms where
  len : σ.length = s.es.length
  sl : ∀ i, gt s.es i = .no ∨ ∃ v, σ[i]? = some (some v) ∧ ER K A own H v (gt s.es i)
  ge : ∀ a, b.A0 a → A a
  fr : ∀ a o, (∀ k, a ∉ go b.own0 k) → b.H0 a = some o → H a = some o
  fo : ∀ k a, a ∈ go own k → (∃ j, a ∈ go b.own0 j) ∨ b.H0 a = none
  pre : own.take s.np = b.own0
  npl : s.np ≤ own.length
  lim : ∀ a, A a → b.A0 a ∨ b.H0 a = none
  a0 : ∀ a, b.A0 a → b.H0 a ≠ none
variable {b : Bd} {σ : L2.St} {s : S}
theorem Rel.np (r : Rel K b A own H σ s) : b.own0.length = s.np := by
  rw [← r.pre, List.length_take]
  have := r.npl
  omega
/-- the heap has grown at an untracked place -/
theorem Rel.ext (r : Rel K b A own H σ s) (hx : ∀ a o, H a = some o → H' a = some o) : Rel K b A own H' σ s ∧ Up A own H A own H' := by
  have u : Up A own H A own H' := ⟨fun a o n h => ⟨hx _ _ h, n⟩, fun _ _ _ h => h⟩
  exact ⟨{ r with
    mr := fun k => (r.mr k).up u fun a o _ h => hx a o h
    al := fun a h z => by
      cases q : H a with
      | none => exact r.al a h q
      | some o => rw [hx a o q] at z; cases z
    sl := fun i => (r.sl i).imp id fun ⟨v, e, h⟩ => ⟨v, e, h.up u⟩
    fr := fun a o n h => hx _ _ (r.fr a o n h) }, u⟩
theorem Rel.new (r : Rel K b A own H σ s) {p : Addr} {o : HO} (hp : H p = none) : Rel K b A own (upd H p o) σ s ∧ Up A own H A own (upd H p o) :=
  r.ext fun a u h => by rw [upd_ne (ne_of_none h hp)]; exact h
theorem Rel.freshA (r : Rel K b A own H σ s) {p : Addr} (hp : H p = none) : ¬ A p := fun h => r.al p h hp
theorem Rel.own0A (r : Rel K b A own H σ s) {j : Nat} {a : Addr} (h : a ∈ go b.own0 j) : A a := by
  rw [← r.pre, go_take] at h
  split at h
  · exact r.oa _ _ h
  · cases h
theorem Rel.fresh0 (r : Rel K b A own H σ s) {p : Addr} (hp : H p = none) : b.H0 p = none := by
  cases q : b.H0 p with
  | none => rfl
  | some o =>
    refine absurd (r.fr p o (fun k hk => r.al p (r.own0A hk) hp) q) ?_
    rw [hp]; intro z; cases z
/-- a new object that may change -/
theorem Rel.newMu (r : Rel K b A own H σ s) {p : Addr} {o : HO} (hp : H p = none) (m : MO) (hm : ∀ (A' : Addr → Prop) (own' : List (List Addr)), Up A own H A' own' (upd H p o) → MR K A' own' (upd H p o) [p] m) :
    Rel K b (fun a => A a ∨ a = p) (own ++ [[p]]) (upd H p o) σ { s with ms := s.ms ++ [m] } ∧ Up A own H (fun a => A a ∨ a = p) (own ++ [[p]]) (upd H p o) ∧ go (own ++ [[p]]) s.ms.length = [p] := by
  have hx : ∀ a u, H a = some u → upd H p o a = some u := fun a u h => by rw [upd_ne (ne_of_none h hp)]; exact h
  have gl : ∀ k, go (own ++ [[p]]) k = if k < own.length then go own k else if k = own.length then [p] else [] := fun k => by
    rw [go_app]
    by_cases h : k < own.length
    · rw [if_pos h, if_pos h]
    · rw [if_neg h, if_neg h]
      by_cases h2 : k = own.length
      · subst h2; rw [Nat.sub_self, if_pos rfl]; rfl
      · rw [if_neg h2]; exact go_ge _ _ (by simp; omega)
  have gml : ∀ k, gm (s.ms ++ [m]) k = if k < own.length then gm s.ms k else if k = own.length then m else .gone := fun k => by
    rw [gm_app, ← r.ol]
    by_cases h : k < own.length
    · rw [if_pos h, if_pos h]
    · rw [if_neg h, if_neg h]
      by_cases h2 : k = own.length
      · subst h2; rw [Nat.sub_self, if_pos rfl]; rfl
      · rw [if_neg h2]; exact gm_ge _ _ (by simp; omega)
  have u : Up A own H (fun a => A a ∨ a = p) (own ++ [[p]]) (upd H p o) := ⟨fun a o n h => ⟨hx _ _ h, fun z => by
      rcases z with z | z
      · exact n z
      · subst z
        rw [hp] at h; cases h⟩, fun k a q h => by
      rw [gl]
      by_cases h1 : k < own.length
      · rw [if_pos h1]; exact h
      · rw [go_ge _ _ (by omega)] at h; cases h⟩
  have np : ∀ k, p ∉ go own k := fun k h => r.al p (r.oa k p h) hp
  refine ⟨⟨⟨by simp [r.ol], fun k => ?_, fun k j a h1 h2 => ?_, fun k => ?_, fun k a h => ?_, fun a h => ?_⟩, r.len, fun i => (r.sl i).imp id fun ⟨v, e, h⟩ => ⟨v, e, h.up u⟩, fun a h => .inl (r.ge a h), fun a o n h => hx _ _ (r.fr a o n h), fun k a h => ?_, ?_, ?_, fun a h => ?_, r.a0⟩, u, ?_⟩
  · rw [gl, gml]
    by_cases h1 : k < own.length
    · rw [if_pos h1, if_pos h1]; exact (r.mr k).up u fun a o _ h => hx a o h
    · rw [if_neg h1, if_neg h1]
      by_cases h2 : k = own.length
      · rw [if_pos h2, if_pos h2]; exact hm _ _ u
      · rw [if_neg h2, if_neg h2]; trivial
  · rw [gl] at h1 h2
    by_cases k1 : k < own.length
    · rw [if_pos k1] at h1
      by_cases j1 : j < own.length
      · rw [if_pos j1] at h2; exact r.dj k j a h1 h2
      · rw [if_neg j1] at h2
        by_cases j2 : j = own.length
        · rw [if_pos j2] at h2; cases List.mem_singleton.mp h2; exact (np _ h1).elim
        · rw [if_neg j2] at h2; cases h2
    · rw [if_neg k1] at h1
      by_cases k2 : k = own.length
      · rw [if_pos k2] at h1
        cases List.mem_singleton.mp h1
        by_cases j1 : j < own.length
        · rw [if_pos j1] at h2; exact (np _ h2).elim
        · rw [if_neg j1] at h2
          by_cases j2 : j = own.length
          · omega
          · rw [if_neg j2] at h2; cases h2
      · rw [if_neg k2] at h1; cases h1
  · rw [gl]
    split
    · exact r.ld k
    · split <;> simp
  · rw [gl] at h
    split at h
    · exact .inl (r.oa k a h)
    · split at h
      · exact .inr (List.mem_singleton.mp h)
      · cases h
  · rcases h with h | h
    · intro z
      cases q : H a with
      | none => exact r.al a h q
      | some o => rw [hx a o q] at z; cases z
    · subst h; rw [upd_same]; intro z; cases z
  · rw [gl] at h
    split at h
    · exact r.fo k a h
    · split at h
      · cases List.mem_singleton.mp h
        exact .inr (r.fresh0 hp)
      · cases h
  · rw [List.take_append_of_le_length r.npl]; exact r.pre
  · rw [List.length_append]; have := r.npl; show s.np ≤ _; omega
  · rcases h with h | h
    · exact r.lim a h
    · subst h; exact .inr (r.fresh0 hp)
  · rw [gl, ← r.ol, if_neg (Nat.lt_irrefl _), if_pos rfl]
/-- an object that may change has changed -/
theorem Rel.chg (r : Rel K b A own H σ s) (k : Nat) (m : MO) (hk : ∀ a o, a ∉ go own k → H a = some o → H' a = some o) (ha : ∀ a, a ∈ go own k → H' a ≠ none)
    (hm : Up A own H A own H' → MR K A own H' (go own k) m) (hl : k < s.ms.length) :
    Rel K b A own H' σ { s with ms := sm s.ms k m } ∧ Up A own H A own H' := by
  have u : Up A own H A own H' := ⟨fun a o n h => ⟨hk _ _ (fun z => n (r.oa k a z)) h, n⟩, fun _ _ _ h => h⟩
  refine ⟨⟨⟨by rw [sm_length]; exact r.ol, fun j => ?_, r.dj, r.ld, r.oa, fun a h => ?_⟩, r.len, fun i => (r.sl i).imp id fun ⟨v, e, h⟩ => ⟨v, e, h.up u⟩, r.ge, fun a o n h => ?_, r.fo, r.pre, r.npl, r.lim, r.a0⟩, u⟩
  · rw [gm_sm]
    by_cases h : k = j
    · subst h; rw [if_pos ⟨rfl, hl⟩]; exact hm u
    · rw [if_neg fun z => h z.1]
      exact (r.mr j).up u fun a o h1 h2 => hk a o (fun z => h (r.dj k j a z h1)) h2
  · by_cases q : a ∈ go own k
    · exact ha a q
    · intro z
      cases e : H a with
      | none => exact r.al a h e
      | some o => rw [hk a o q e] at z; cases z
  · by_cases q : a ∈ go own k
    · rcases r.fo k a q with ⟨j, z⟩ | z
      · exact (n j z).elim
      · rw [z] at h; cases h
    · exact hk a o q (r.fr a o n h)
/-- a slot is stored -/
theorem Rel.slot (r : Rel K b A own H σ s) {i : Nat} {v : V} {x : En} (h : ER K A own H v x) : Rel K b A own H (σ.set i (some v)) { s with es := st s.es i x } := by
  refine { r with len := by rw [List.length_set, st_length]; exact r.len, sl := fun j => ?_ }
  show gt (st s.es i x) j = .no ∨ _
  rw [gt_st]
  by_cases e : i = j ∧ i < s.es.length
  · obtain ⟨e1, e2⟩ := e
    subst e1
    refine .inr ⟨v, ?_, ?_⟩
    · rw [List.getElem?_set_self (by rw [r.len]; exact e2)]
    · rw [if_pos ⟨rfl, e2⟩]; exact h
  · rw [if_neg e]
    rcases r.sl j with q | ⟨v', e', q⟩
    · exact .inl q
    · by_cases hij : i = j
      · subst hij
        have : ¬ i < s.es.length := fun z => e ⟨rfl, z⟩
        rw [gt_ge _ _ (by omega)]
        exact .inl rfl
      · exact .inr ⟨v', by rw [List.getElem?_set_ne hij]; exact e', q⟩
end
end DL
namespace DL
open PySem L2
abbrev WE := S → (S → En → Prop) → Prop
abbrev WT := S → (S → Bool → Prop) → Prop
abbrev WA := S → (S → List En → Prop) → Prop
abbrev WG := En → S → (S → Prop) → Prop
structure Dn where
  nx : S → Prop
  rt : S → En → Prop
  bk : S → Prop
  ct : S → Prop
abbrev WS := S → Dn → Prop
section
variable (K : PySem.W.Frag) (b : Bd) (A : Addr → Prop) (own : List (List Addr)) (H : Hp) (σ : L2.St)
def PostE (Ks : S → En → Prop) (Q : VK) : Prop := ∀ (A' : Addr → Prop) (own' : List (List Addr)) (H' : Hp) (v : V) (s' : S) (x : En), Rel K b A' own' H' σ s' → Up A own H A' own' H' → ER K A' own' H' v x → Ks s' x → Q v H'
def PostT (Ks : S → Bool → Prop) (Q : Bool → Hp → Prop) : Prop := ∀ (A' : Addr → Prop) (own' : List (List Addr)) (H' : Hp) (s' : S) (c : Bool), Rel K b A' own' H' σ s' → Up A own H A' own' H' → Ks s' c → Q c H'
def PostA (Ks : S → List En → Prop) (Q : List V → Hp → Prop) : Prop := ∀ (A' : Addr → Prop) (own' : List (List Addr)) (H' : Hp) (vs : List V) (s' : S) (xs : List En), Rel K b A' own' H' σ s' → Up A own H A' own' H' → ERL K A' own' H' vs xs → Ks s' xs → Q vs H'
/-- σ' is σ but for the slots js -/
def Sto (js : List Nat) (σ σ' : L2.St) : Prop := σ'.length = σ.length ∧ ∀ i, i ∉ js → σ'[i]? = σ[i]?
def PostG (js : List Nat) (Ks : S → Prop) (Q : L2.St → Hp → Prop) : Prop := ∀ (A' : Addr → Prop) (own' : List (List Addr)) (H' : Hp) (σ' : L2.St) (s' : S), Rel K b A' own' H' σ' s' → Up A own H A' own' H' → Sto js σ σ' → Ks s' → Q σ' H'
/-- the ends of a block -/
structure Mt (D : Dn) (E : Ends) : Prop where
  nx : ∀ (A' : Addr → Prop) (own' : List (List Addr)) (H' : Hp) (σ' : L2.St) (s' : S), Rel K b A' own' H' σ' s' → Kp A H A' H' → D.nx s' → E.nx σ' H'
  rt : ∀ (A' : Addr → Prop) (own' : List (List Addr)) (H' : Hp) (σ' : L2.St) (s' : S) (v : V) (x : En), Rel K b A' own' H' σ' s' → Kp A H A' H' → ER K A' own' H' v x → D.rt s' x → E.rt v H'
  bk : ∀ (A' : Addr → Prop) (own' : List (List Addr)) (H' : Hp) (σ' : L2.St) (s' : S), Rel K b A' own' H' σ' s' → Kp A H A' H' → D.bk s' → E.bk σ' H'
  ct : ∀ (A' : Addr → Prop) (own' : List (List Addr)) (H' : Hp) (σ' : L2.St) (s' : S), Rel K b A' own' H' σ' s' → Kp A H A' H' → D.ct s' → E.ct σ' H'
end
structure DE (X : Cx) (e : Expr) (w : WE) : Prop where
  ex : ∃ te, PE X e te ∧ ∀ (b : Bd) (A : Addr → Prop) (own : List (List Addr)) (H : Hp) (σ : L2.St) (s : S) (Ks : S → En → Prop) (Q : VK), Rel X.K b A own H σ s → w s Ks → PostE X.K b A own H σ Ks Q → te σ H Q
structure DT (X : Cx) (e : Expr) (w : WT) : Prop where
  ex : ∃ tt, PT X e tt ∧ ∀ (b : Bd) (A : Addr → Prop) (own : List (List Addr)) (H : Hp) (σ : L2.St) (s : S) (Ks : S → Bool → Prop) (Q : Bool → Hp → Prop), Rel X.K b A own H σ s → w s Ks → PostT X.K b A own H σ Ks Q → tt σ H Q
structure DW (X : Cx) (e : Expr) (w : WT) : Prop where
  ex : ∃ tt, PW X e tt ∧ ∀ (b : Bd) (A : Addr → Prop) (own : List (List Addr)) (H : Hp) (σ : L2.St) (s : S) (Ks : S → Bool → Prop) (Q : Bool → Hp → Prop), Rel X.K b A own H σ s → w s Ks → PostT X.K b A own H σ Ks Q → tt σ H Q
structure DA (X : Cx) (es : List Expr) (w : WA) : Prop where
  ex : ∃ ta, PA X es ta ∧ ∀ (b : Bd) (A : Addr → Prop) (own : List (List Addr)) (H : Hp) (σ : L2.St) (s : S) (Ks : S → List En → Prop) (Q : List V → Hp → Prop), Rel X.K b A own H σ s → w s Ks → PostA X.K b A own H σ Ks Q → ta σ H Q
structure DG (X : Cx) (tg : Expr) (js : List Nat) (w : WG) : Prop where
  ex : ∃ g, PG X tg g ∧ ∀ (b : Bd) (A : Addr → Prop) (own : List (List Addr)) (H : Hp) (σ : L2.St) (s : S) (v : V) (x : En) (Ks : S → Prop) (Q : L2.St → Hp → Prop), Rel X.K b A own H σ s → ER X.K A own H v x → w x s Ks → PostG X.K b A own H σ js Ks Q → g v σ H Q
structure DS (X : Cx) (st : Stmt) (w : WS) : Prop where
  ex : ∃ t, PS X st t ∧ ∀ (b : Bd) (A : Addr → Prop) (own : List (List Addr)) (H : Hp) (σ : L2.St) (s : S) (D : Dn) (E : Ends), Rel X.K b A own H σ s → w s D → Mt X.K b A H D E → t E σ H
structure DSs (X : Cx) (st : List Stmt) (w : WS) : Prop where
  ex : ∃ t, PSs X st t ∧ ∀ (b : Bd) (A : Addr → Prop) (own : List (List Addr)) (H : Hp) (σ : L2.St) (s : S) (D : Dn) (E : Ends), Rel X.K b A own H σ s → w s D → Mt X.K b A H D E → t E σ H
section
variable {K : PySem.W.Frag} {b : Bd} {A A' : Addr → Prop} {own own' : List (List Addr)} {H H' : Hp} {σ : L2.St}
theorem PostE.up {Ks : S → En → Prop} {Q : VK} (p : PostE K b A own H σ Ks Q) (u : Up A own H A' own' H') : PostE K b A' own' H' σ Ks Q := fun _ _ _ _ _ _ r u' => p _ _ _ _ _ _ r (u.trans u')
theorem PostE.da {Ks : S → En → Prop} {Q : VK} {v : V} {d : D} {s' : S} (k : PostE K b A own H σ Ks Q) (r : Rel K b A' own' H' σ s') (u : Up A own H A' own' H') (h : Rp K A' H' v d) (q : Ks s' (.da d)) : Q v H' := k _ _ _ _ _ (.da d) r u h q
theorem PostT.up {Ks : S → Bool → Prop} {Q : Bool → Hp → Prop} (p : PostT K b A own H σ Ks Q) (u : Up A own H A' own' H') : PostT K b A' own' H' σ Ks Q := fun _ _ _ _ _ r u' => p _ _ _ _ _ r (u.trans u')
theorem PostA.up {Ks : S → List En → Prop} {Q : List V → Hp → Prop} (p : PostA K b A own H σ Ks Q) (u : Up A own H A' own' H') : PostA K b A' own' H' σ Ks Q := fun _ _ _ _ _ _ r u' => p _ _ _ _ _ _ r (u.trans u')
theorem Mt.up {D : Dn} {E : Ends} (p : Mt K b A H D E) (u : Kp A H A' H') : Mt K b A' H' D E :=
  ⟨fun _ _ _ _ _ r q => p.nx _ _ _ _ _ r (u.trans q), fun _ _ _ _ _ _ _ r q => p.rt _ _ _ _ _ _ _ r (u.trans q), fun _ _ _ _ _ r q => p.bk _ _ _ _ _ r (u.trans q), fun _ _ _ _ _ r q => p.ct _ _ _ _ _ r (u.trans q)⟩
end
section
variable {X : Cx} {a b c e : Expr} {wa wb wc we : WE} {pos : Pos}
/-! ### names, constants -/
def onE (x : En) (k : En → Prop) : Prop := match x with | .no => False | .da d => k (.da d) | .mu j => k (.mu j)
theorem onE_inv {x : En} {k : En → Prop} (h : onE x k) : x ≠ .no ∧ k x := by
  cases x with
  | no => exact h.elim
  | da d => exact ⟨fun z => (nomatch z), h⟩
  | mu j => exact ⟨fun z => (nomatch z), h⟩
def dVar (i : Nat) : WE := fun s Ks => onE (gt s.es i) (Ks s)
theorem dv (i : Nat) {x : Str} {pos : Pos} (hN : X.N[i]? = some x := by rfl) (hv : Vis X.env.scope x := by first | exact Or.inl rfl | exact Or.inr (Or.inl rfl) | exact Or.inr (Or.inr rfl)) (hd : (x == ("__debug__" : Str)) = false := by decide)
    (hcd : (x == ("__classdict__" : Str)) = false := by decide) : DE X (.Name x pos) (dVar i) := ⟨tVar i, pe_var hN hv hd hcd, fun b A own H σ s Ks Q r h k => by
  obtain ⟨n, h⟩ := onE_inv h
  rcases r.sl i with z | ⟨v, e, q⟩
  · exact (n z).elim
  · exact ⟨v, e, k _ _ _ _ _ _ r Up.refl q h⟩⟩
def dC (d : D) : WE := fun s Ks => Ks s (.da d)
theorem de_c {v : V} {d : D} (h : PE X e (tC v)) (hr : ∀ A H, Rp X.K A H v d) : DE X e (dC d) := ⟨_, h, fun b A own H σ s Ks Q r q k => k.da r Up.refl (hr _ _) q⟩
theorem de_int {i : Int} {j pos} : DE X (.Constant (.int i) j pos) (dC (.int i)) := de_c pe_int fun _ _ => .int i
theorem de_bl {c : Bool} {j pos} : DE X (.Constant (.bool c) j pos) (dC (.bool c)) := de_c pe_bl fun _ _ => .bl c
theorem de_non {j pos} : DE X (.Constant .none j pos) (dC .none) := de_c pe_non fun _ _ => .non
theorem de_str {x j pos} : DE X (.Constant (.str x) j pos) (dC (.str x)) := de_c pe_str fun _ _ => .str x
/-- a constant of the module -/
theorem de_gint {x : Str} {i : Int} {pos} (hg : Gl X x) (hm : ∃ t, X.mg x = some (.int i t)) (hd : (x == ("__debug__" : Str)) = false := by decide) : DE X (.Name x pos) (dC (.int i)) :=
  de_c (pe_glob hg hm.choose_spec (show RelV (.int i) _ from ⟨_, rfl⟩) hd) fun _ _ => .int i
theorem de_gstr {x : Str} {i : Str} {pos} (hg : Gl X x) (hm : ∃ t, X.mg x = some (.str i t)) (hd : (x == ("__debug__" : Str)) = false := by decide) : DE X (.Name x pos) (dC (.str i)) :=
  de_c (pe_glob hg hm.choose_spec (show RelV (.str i) _ from ⟨_, rfl⟩) hd) fun _ _ => .str i
/-! ### two values -/
def OpD (K : PySem.W.Frag) (r : R2) (rd : S → En → En → (S → En → Prop) → Prop) : Prop := ∀ (b : Bd) (A : Addr → Prop) (own : List (List Addr)) (H : Hp) (σ : L2.St) (s : S) (vx vy : V) (x y : En) (Ks : S → En → Prop) (Q : VK),
  Rel K b A own H σ s → ER K A own H vx x → ER K A own H vy y → rd s x y Ks → PostE K b A own H σ Ks Q → r vx vy H Q
def d2 (rd : S → En → En → (S → En → Prop) → Prop) (wa wb : WE) : WE := fun s Ks => wa s fun s1 x => wb s1 fun s2 y => rd s2 x y Ks
theorem d2_run {r : R2} {rd : S → En → En → (S → En → Prop) → Prop} {ta tb : TE} (hd : OpD X.K r rd)
    (qa : ∀ (b : Bd) (A : Addr → Prop) (own : List (List Addr)) (H : Hp) (σ : L2.St) (s : S) (Ks : S → En → Prop) (Q : VK), Rel X.K b A own H σ s → wa s Ks → PostE X.K b A own H σ Ks Q → ta σ H Q)
    (qb : ∀ (b : Bd) (A : Addr → Prop) (own : List (List Addr)) (H : Hp) (σ : L2.St) (s : S) (Ks : S → En → Prop) (Q : VK), Rel X.K b A own H σ s → wb s Ks → PostE X.K b A own H σ Ks Q → tb σ H Q)
    (b : Bd) (A : Addr → Prop) (own : List (List Addr)) (H : Hp) (σ : L2.St) (s : S) (Ks : S → En → Prop) (Q : VK) (R : Rel X.K b A own H σ s) (h : d2 rd wa wb s Ks) (k : PostE X.K b A own H σ Ks Q) : tOp r ta tb σ H Q := by
  show ta σ H fun x H1 => tb σ H1 fun y H2 => r x y H2 Q
  refine qa _ _ _ _ _ _ _ _ R h fun A1 o1 H1 v1 s1 x1 R1 U1 E1 h1 => ?_
  refine qb _ _ _ _ _ _ _ _ R1 h1 fun A2 o2 H2 v2 s2 x2 R2 U2 E2 h2 => ?_
  exact hd _ _ _ _ _ _ _ _ _ _ _ _ R2 (E1.up U2) E2 h2 (k.up (U1.trans U2))
theorem de_op {op : Operator} {r : R2} {rd} (ho : OpR X (binaryOp op) r) (hd : OpD X.K r rd) (ha : DE X a wa) (hb : DE X b wb) : DE X (.BinOp a op b pos) (d2 rd wa wb) := by
  obtain ⟨ta, pa, qa⟩ := ha.ex
  obtain ⟨tb, pb, qb⟩ := hb.ex
  exact ⟨_, pe_op ho pa pb, d2_run hd qa qb⟩
theorem de_cmp {op : CmpOp} {r : R2} {rd} (ho : OpR X (compareOp op) r) (hd : OpD X.K r rd) (ha : DE X a wa) (hb : DE X b wb) (hm : behindInMarks op b = false) : DE X (.Compare a [op] [b] pos) (d2 rd wa wb) := by
  obtain ⟨ta, pa, qa⟩ := ha.ex
  obtain ⟨tb, pb, qb⟩ := hb.ex
  exact ⟨_, pe_cmpR ho pa pb hm, d2_run hd qa qb⟩
def isB (x : En) (k : Bool → Prop) : Prop := match x with | .da (.bool c) => k c | _ => False
theorem isB_inv {x : En} {k : Bool → Prop} (h : isB x k) : ∃ c, x = .da (.bool c) ∧ k c := by
  unfold isB at h
  split at h
  · exact ⟨_, rfl, h⟩
  · exact h.elim
def tT (w : WE) : WT := fun s Ks => w s fun s1 x => isB x (Ks s1)
theorem tT_run {te : TE} {w : WE} (qa : ∀ (b : Bd) (A : Addr → Prop) (own : List (List Addr)) (H : Hp) (σ : L2.St) (s : S) (Ks : S → En → Prop) (Q : VK), Rel X.K b A own H σ s → w s Ks → PostE X.K b A own H σ Ks Q → te σ H Q)
    (b : Bd) (A : Addr → Prop) (own : List (List Addr)) (H : Hp) (σ : L2.St) (s : S) (Ks : S → Bool → Prop) (Q : Bool → Hp → Prop) (R : Rel X.K b A own H σ s) (h : tT w s Ks) (k : PostT X.K b A own H σ Ks Q) : te σ H fun x H' => ∃ c, x = .bl c ∧ Q c H' := by
  refine qa _ _ _ _ _ _ _ _ R h fun A1 o1 H1 v1 s1 x1 R1 U1 E1 h1 => ?_
  obtain ⟨c, rfl, h2⟩ := isB_inv h1
  cases E1
  exact ⟨c, rfl, k _ _ _ _ _ R1 U1 h2⟩
theorem dt_cmp {op : CmpOp} {r : R2} {rd} (ho : OpR X (compareOp op) r) (hd : OpD X.K r rd) (ha : DE X a wa) (hb : DE X b wb) (hm : behindInMarks op b = false) : DT X (.Compare a [op] [b] pos) (tT (d2 rd wa wb)) := by
  obtain ⟨ta, pa, qa⟩ := ha.ex
  obtain ⟨tb, pb, qb⟩ := hb.ex
  exact ⟨_, pt_cmpR ho pa pb hm, tT_run (d2_run hd qa qb)⟩
theorem dt_val (h : DE X e we) (he : ∀ whole, isTrue e X.env whole = (do let v ← whole; standAt e.pos; holding [v] (truthy v)) := by intro _; rfl) : DT X e (tT we) := by
  obtain ⟨te, pe, qe⟩ := h.ex
  exact ⟨_, pt_val pe he, tT_run qe⟩
/-! ### tests -/
def tAnd (u w : WT) : WT := fun s Ks => u s fun s1 c => (c = true → w s1 Ks) ∧ (c = false → Ks s1 false)
def tOr (u w : WT) : WT := fun s Ks => u s fun s1 c => (c = true → Ks s1 true) ∧ (c = false → w s1 Ks)
def tNot (u : WT) : WT := fun s Ks => u s fun s1 c => Ks s1 (!c)
variable {wt wu : WT} {rest : List Expr}
theorem dw_and1 (h : DT X a wt) : DW X (.BoolOp .And [a] pos) wt := by
  obtain ⟨ta, pa, qa⟩ := h.ex
  exact ⟨_, pw_and1 pa, qa⟩
theorem dw_or1 (h : DT X a wt) : DW X (.BoolOp .Or [a] pos) wt := by
  obtain ⟨ta, pa, qa⟩ := h.ex
  exact ⟨_, pw_or1 pa, qa⟩
theorem dw_and (h : DT X a wt) (h2 : DW X (.BoolOp .And (b :: rest) pos) wu) : DW X (.BoolOp .And (a :: b :: rest) pos) (tAnd wt wu) := by
  obtain ⟨ta, pa, qa⟩ := h.ex
  obtain ⟨tb, pb, qb⟩ := h2.ex
  refine ⟨_, pw_and pa pb, fun b A own H σ s Ks Q R h k => ?_⟩
  show ta σ H fun c H1 => if c = true then tb σ H1 Q else Q false H1
  refine qa _ _ _ _ _ _ _ _ R h fun A1 o1 H1 s1 c R1 U1 h1 => ?_
  cases c with
  | true => rw [if_pos rfl]; exact qb _ _ _ _ _ _ _ _ R1 (h1.1 rfl) (k.up U1)
  | false => rw [if_neg (by decide)]; exact k _ _ _ _ _ R1 U1 (h1.2 rfl)
theorem dw_or (h : DT X a wt) (h2 : DW X (.BoolOp .Or (b :: rest) pos) wu) : DW X (.BoolOp .Or (a :: b :: rest) pos) (tOr wt wu) := by
  obtain ⟨ta, pa, qa⟩ := h.ex
  obtain ⟨tb, pb, qb⟩ := h2.ex
  refine ⟨_, pw_or pa pb, fun b A own H σ s Ks Q R h k => ?_⟩
  show ta σ H fun c H1 => if c = true then Q true H1 else tb σ H1 Q
  refine qa _ _ _ _ _ _ _ _ R h fun A1 o1 H1 s1 c R1 U1 h1 => ?_
  cases c with
  | true => rw [if_pos rfl]; exact k _ _ _ _ _ R1 U1 (h1.1 rfl)
  | false => rw [if_neg (by decide)]; exact qb _ _ _ _ _ _ _ _ R1 (h1.2 rfl) (k.up U1)
theorem dt_bool (h : DW X a wt) : DT X a wt := by
  obtain ⟨ta, pa, qa⟩ := h.ex
  exact ⟨_, pa.pt, qa⟩
theorem dt_not (h : DT X a wt) : DT X (.UnaryOp .Not a pos) (tNot wt) := by
  obtain ⟨ta, pa, qa⟩ := h.ex
  exact ⟨_, pt_not pa, fun b A own H σ s Ks Q R h k => qa _ _ _ _ _ _ _ _ R h fun A1 o1 H1 s1 c R1 U1 h1 => k _ _ _ _ _ R1 U1 h1⟩
/-! values of and, or, not: truths -/
def dAnd (wa wb : WE) : WE := fun s Ks => wa s fun s1 x => isB x fun c => (c = true → wb s1 Ks) ∧ (c = false → Ks s1 (.da (.bool false)))
def dOr (wa wb : WE) : WE := fun s Ks => wa s fun s1 x => isB x fun c => (c = true → Ks s1 (.da (.bool true))) ∧ (c = false → wb s1 Ks)
def dNot (wa : WE) : WE := fun s Ks => wa s fun s1 x => isB x fun c => Ks s1 (.da (.bool (!c)))
theorem de_one {op} (h : DE X a wa) : DE X (.BoolOp op [a] pos) wa := by
  obtain ⟨ta, pa, qa⟩ := h.ex
  exact ⟨_, pe_one pa, qa⟩
theorem de_and (h : DE X a wa) (h2 : DE X (.BoolOp .And (b :: rest) pos) wb) : DE X (.BoolOp .And (a :: b :: rest) pos) (dAnd wa wb) := by
  obtain ⟨ta, pa, qa⟩ := h.ex
  obtain ⟨tb, pb, qb⟩ := h2.ex
  refine ⟨_, pe_and pa pb, fun b A own H σ s Ks Q R h k => ?_⟩
  show ta σ H fun x H1 => ∃ c, x = .bl c ∧ if c = true then tb σ H1 Q else Q (.bl false) H1
  refine qa _ _ _ _ _ _ _ _ R h fun A1 o1 H1 v1 s1 x1 R1 U1 E1 h1 => ?_
  obtain ⟨c, rfl, h2⟩ := isB_inv h1
  cases E1
  refine ⟨c, rfl, ?_⟩
  cases c with
  | true => rw [if_pos rfl]; exact qb _ _ _ _ _ _ _ _ R1 (h2.1 rfl) (k.up U1)
  | false => rw [if_neg (by decide)]; exact k.da R1 U1 (.bl _) (h2.2 rfl)
theorem de_or (h : DE X a wa) (h2 : DE X (.BoolOp .Or (b :: rest) pos) wb) : DE X (.BoolOp .Or (a :: b :: rest) pos) (dOr wa wb) := by
  obtain ⟨ta, pa, qa⟩ := h.ex
  obtain ⟨tb, pb, qb⟩ := h2.ex
  refine ⟨_, pe_or pa pb, fun b A own H σ s Ks Q R h k => ?_⟩
  show ta σ H fun x H1 => ∃ c, x = .bl c ∧ if c = true then Q (.bl true) H1 else tb σ H1 Q
  refine qa _ _ _ _ _ _ _ _ R h fun A1 o1 H1 v1 s1 x1 R1 U1 E1 h1 => ?_
  obtain ⟨c, rfl, h2⟩ := isB_inv h1
  cases E1
  refine ⟨c, rfl, ?_⟩
  cases c with
  | true => rw [if_pos rfl]; exact k.da R1 U1 (.bl _) (h2.1 rfl)
  | false => rw [if_neg (by decide)]; exact qb _ _ _ _ _ _ _ _ R1 (h2.2 rfl) (k.up U1)
theorem de_not (h : DE X a wa) : DE X (.UnaryOp .Not a pos) (dNot wa) := by
  obtain ⟨ta, pa, qa⟩ := h.ex
  refine ⟨_, pe_not pa, fun b A own H σ s Ks Q R h k => ?_⟩
  refine qa _ _ _ _ _ _ _ _ R h fun A1 o1 H1 v1 s1 x1 R1 U1 E1 h1 => ?_
  obtain ⟨c, rfl, h2⟩ := isB_inv h1
  cases E1
  exact ⟨c, rfl, k.da R1 U1 (.bl _) h2⟩
def dIf (wt : WT) (wa wb : WE) : WE := fun s Ks => wt s fun s1 c => (c = true → wa s1 Ks) ∧ (c = false → wb s1 Ks)
theorem de_if (hc : DT X c wt) (ha : DE X a wa) (hb : DE X b wb) : DE X (.IfExp c a b pos) (dIf wt wa wb) := by
  obtain ⟨tc, pc, qc⟩ := hc.ex
  obtain ⟨ta, pa, qa⟩ := ha.ex
  obtain ⟨tb, pb, qb⟩ := hb.ex
  refine ⟨_, pe_ifExp pc pa pb, fun b A own H σ s Ks Q R h k => ?_⟩
  show tc σ H fun c H1 => if c = true then ta σ H1 Q else tb σ H1 Q
  refine qc _ _ _ _ _ _ _ _ R h fun A1 o1 H1 s1 c R1 U1 h1 => ?_
  cases c with
  | true => rw [if_pos rfl]; exact qa _ _ _ _ _ _ _ _ R1 (h1.1 rfl) (k.up U1)
  | false => rw [if_neg (by decide)]; exact qb _ _ _ _ _ _ _ _ R1 (h1.2 rfl) (k.up U1)
/-! ### ints -/
def iI (x y : En) (k : Int → Int → Prop) : Prop := match x, y with | .da (.int i), .da (.int j) => k i j | _, _ => False
theorem iI_inv {x y : En} {k : Int → Int → Prop} (h : iI x y k) : ∃ i j, x = .da (.int i) ∧ y = .da (.int j) ∧ k i j := by
  unfold iI at h
  split at h
  · exact ⟨_, _, rfl, rfl, h⟩
  · exact h.elim
def i1 (x : En) (k : Int → Prop) : Prop := match x with | .da (.int i) => k i | _ => False
theorem i1_inv {x : En} {k : Int → Prop} (h : i1 x k) : ∃ i, x = .da (.int i) ∧ k i := by
  unfold i1 at h
  split at h
  · exact ⟨_, rfl, h⟩
  · exact h.elim
theorem opd_int {K : PySem.W.Frag} {C : Int → Int → Prop} {g : Int → Int → Int} : OpD K (rI C fun i j => .int (g i j)) (fun s x y Ks => iI x y fun i j => C i j ∧ Ks s (.da (.int (g i j)))) := by
  intro b A own H σ s vx vy x y Ks Q R ex ey h k
  obtain ⟨i, j, rfl, rfl, hc, h⟩ := iI_inv h
  cases ex
  cases ey
  exact ⟨i, j, rfl, rfl, hc, k.da R Up.refl (.int _) h⟩
theorem opd_int0 {K : PySem.W.Frag} {g : Int → Int → Int} : OpD K (rI0 fun i j => .int (g i j)) (fun s x y Ks => iI x y fun i j => Ks s (.da (.int (g i j)))) := by
  intro b A own H σ s vx vy x y Ks Q R ex ey h k
  obtain ⟨i, j, rfl, rfl, h⟩ := iI_inv h
  cases ex
  cases ey
  exact ⟨i, j, rfl, rfl, k.da R Up.refl (.int _) h⟩
theorem opd_intB {K : PySem.W.Frag} {g : Int → Int → Bool} : OpD K (rI0 fun i j => .bl (g i j)) (fun s x y Ks => iI x y fun i j => Ks s (.da (.bool (g i j)))) := by
  intro b A own H σ s vx vy x y Ks Q R ex ey h k
  obtain ⟨i, j, rfl, rfl, h⟩ := iI_inv h
  cases ex
  cases ey
  exact ⟨i, j, rfl, rfl, k.da R Up.refl (.bl _) h⟩
def dAdd : WE → WE → WE := d2 fun s x y Ks => iI x y fun i j => Ks s (.da (.int (i + j)))
def dSub : WE → WE → WE := d2 fun s x y Ks => iI x y fun i j => Ks s (.da (.int (i - j)))
def dMul : WE → WE → WE := d2 fun s x y Ks => iI x y fun i j => CMulX i j ∧ Ks s (.da (.int (i * j)))
def dDiv : WE → WE → WE := d2 fun s x y Ks => iI x y fun i j => CDivW i j ∧ Ks s (.da (.int (i / j)))
def dMod : WE → WE → WE := d2 fun s x y Ks => iI x y fun i j => 0 < j ∧ Ks s (.da (.int (i % j)))
def dPow : WE → WE → WE := d2 fun s x y Ks => iI x y fun i j => CPow i j ∧ Ks s (.da (.int (i ^ j.toNat)))
def dLt : WE → WE → WE := d2 fun s x y Ks => iI x y fun i j => Ks s (.da (.bool (decide (i < j))))
def dLe : WE → WE → WE := d2 fun s x y Ks => iI x y fun i j => Ks s (.da (.bool (decide (i ≤ j))))
def dGt : WE → WE → WE := d2 fun s x y Ks => iI x y fun i j => Ks s (.da (.bool (decide (j < i))))
def dGe : WE → WE → WE := d2 fun s x y Ks => iI x y fun i j => Ks s (.da (.bool (decide (j ≤ i))))
theorem de_add (ha : DE X a wa) (hb : DE X b wb) : DE X (.BinOp a .Add b pos) (dAdd wa wb) := de_op op_add opd_int0 ha hb
theorem de_sub (ha : DE X a wa) (hb : DE X b wb) : DE X (.BinOp a .Sub b pos) (dSub wa wb) := de_op op_sub opd_int0 ha hb
theorem de_mul (ha : DE X a wa) (hb : DE X b wb) : DE X (.BinOp a .Mult b pos) (dMul wa wb) := de_op op_mulX opd_int ha hb
theorem de_div (ha : DE X a wa) (hb : DE X b wb) : DE X (.BinOp a .FloorDiv b pos) (dDiv wa wb) := de_op op_fdivW opd_int ha hb
theorem de_mod (ha : DE X a wa) (hb : DE X b wb) : DE X (.BinOp a .Mod b pos) (dMod wa wb) := de_op op_mod opd_int ha hb
theorem de_pow (ha : DE X a wa) (hb : DE X b wb) : DE X (.BinOp a .Pow b pos) (dPow wa wb) := de_op op_pow opd_int ha hb
theorem de_lt (ha : DE X a wa) (hb : DE X b wb) : DE X (.Compare a [.Lt] [b] pos) (dLt wa wb) := de_cmp op_lt opd_intB ha hb (nomark _)
theorem de_le (ha : DE X a wa) (hb : DE X b wb) : DE X (.Compare a [.LtE] [b] pos) (dLe wa wb) := de_cmp op_le opd_intB ha hb (nomark _)
theorem de_gt (ha : DE X a wa) (hb : DE X b wb) : DE X (.Compare a [.Gt] [b] pos) (dGt wa wb) := de_cmp op_gt opd_intB ha hb (nomark _)
theorem de_ge (ha : DE X a wa) (hb : DE X b wb) : DE X (.Compare a [.GtE] [b] pos) (dGe wa wb) := de_cmp op_ge opd_intB ha hb (nomark _)
theorem dt_lt (ha : DE X a wa) (hb : DE X b wb) : DT X (.Compare a [.Lt] [b] pos) (tT (dLt wa wb)) := dt_cmp op_lt opd_intB ha hb (nomark _)
theorem dt_le (ha : DE X a wa) (hb : DE X b wb) : DT X (.Compare a [.LtE] [b] pos) (tT (dLe wa wb)) := dt_cmp op_le opd_intB ha hb (nomark _)
theorem dt_gt (ha : DE X a wa) (hb : DE X b wb) : DT X (.Compare a [.Gt] [b] pos) (tT (dGt wa wb)) := dt_cmp op_gt opd_intB ha hb (nomark _)
theorem dt_ge (ha : DE X a wa) (hb : DE X b wb) : DT X (.Compare a [.GtE] [b] pos) (tT (dGe wa wb)) := dt_cmp op_ge opd_intB ha hb (nomark _)
def dNeg (wa : WE) : WE := fun s Ks => wa s fun s1 x => i1 x fun i => Ks s1 (.da (.int (-i)))
theorem de_neg (ha : DE X a wa) : DE X (.UnaryOp .USub a pos) (dNeg wa) := by
  obtain ⟨ta, pa, qa⟩ := ha.ex
  refine ⟨_, pe_un un_neg pa, fun b A own H σ s Ks Q R h k => ?_⟩
  refine qa _ _ _ _ _ _ _ _ R h fun A1 o1 H1 v1 s1 x1 R1 U1 E1 h1 => ?_
  obtain ⟨i, rfl, h2⟩ := i1_inv h1
  cases E1
  exact ⟨i, rfl, k.da R1 U1 (.int _) h2⟩
/-! ### what is read of a thing that may change, too -/
def vw (s : S) : En → Option D
  | .da d => some d
  | .mu k => match gm s.ms k with | .lst ds => some (.list ds) | _ => none
  | .no => none
theorem vw_dp {K : PySem.W.Frag} {b : Bd} {A : Addr → Prop} {own : List (List Addr)} {H : Hp} {σ : L2.St} {s : S} (R : Rel K b A own H σ s) {v : V} {x : En} {d : D} (h : ER K A own H v x) (e : vw s x = some d) (hl : d.canLay0 = true) : Dp K H v d := by
  cases x with
  | no => cases e
  | da d' => cases e; exact Rp.dp h hl
  | mu k =>
    obtain ⟨a, r, g, rfl⟩ := h
    have m := R.mr k
    unfold vw at e
    simp only at e
    cases q : gm s.ms k with
    | lst ds =>
      rw [q] at e m
      cases e
      obtain ⟨a', vs, e1, e2, e3⟩ := m
      rw [e1] at g
      cases g
      exact .lst (.inl (.inl e2)) (RpL.dp e3 (by simpa only [PyData.canLay0] using hl))
    | _ => rw [q] at e; cases e
theorem vw_lst {K : PySem.W.Frag} {b : Bd} {A : Addr → Prop} {own : List (List Addr)} {H : Hp} {σ : L2.St} {s : S} (R : Rel K b A own H σ s) {v : V} {x : En} {ds : List D} (h : ER K A own H v x) (e : vw s x = some (.list ds)) :
    ∃ a vs, v = .ref a ∧ SqL K H a vs ∧ RpL K A H vs ds := by
  cases x with
  | no => cases e
  | da d' => cases e; cases h with | lst l r => exact ⟨_, _, rfl, l.sq, r⟩
  | mu k =>
    obtain ⟨a, r, g, rfl⟩ := h
    have m := R.mr k
    unfold vw at e
    simp only at e
    cases q : gm s.ms k with
    | lst ds =>
      rw [q] at e m
      cases e
      obtain ⟨a', vs, e1, e2, e3⟩ := m
      rw [e1] at g
      cases g
      exact ⟨_, _, rfl, .inl (.inl e2), e3⟩
    | _ => rw [q] at e; cases e
theorem vw_tup {K : PySem.W.Frag} {b : Bd} {A : Addr → Prop} {own : List (List Addr)} {H : Hp} {σ : L2.St} {s : S} (R : Rel K b A own H σ s) {v : V} {x : En} {ds : List D} (h : ER K A own H v x) (e : vw s x = some (.tuple ds)) :
    ∃ a vs, v = .ref a ∧ SqT K H a vs ∧ RpL K A H vs ds := by
  cases x with
  | no => cases e
  | da d' => cases e; cases h with | tup l r => exact ⟨_, _, rfl, l.sq, r⟩
  | mu k =>
    unfold vw at e
    simp only at e
    cases q : gm s.ms k with
    | _ => rw [q] at e; cases e
theorem vw_str {K : PySem.W.Frag} {b : Bd} {A : Addr → Prop} {own : List (List Addr)} {H : Hp} {σ : L2.St} {s : S} (R : Rel K b A own H σ s) {v : V} {x : En} {z : Str} (h : ER K A own H v x) (e : vw s x = some (.str z)) : v = .str z := by
  cases x with
  | no => cases e
  | da d' =>
    cases e
    cases (show Rp K A H v (.str z) from h)
    rfl
  | mu k =>
    unfold vw at e
    simp only at e
    cases q : gm s.ms k with
    | _ => rw [q] at e; cases e
/-! ### == -/
def eqS : D → D → Option Bool
  | .int i, .int j => some (decide (i = j))
  | .str i, .str j => some (decide (i = j))
  | .bool i, .bool j => some (decide (i = j))
  | .none, .none => some true
  | .none, .int _ => some false
  | .none, .str _ => some false
  | .none, .bool _ => some false
  | .int _, .none => some false
  | .str _, .none => some false
  | .bool _, .none => some false
  | .int _, .str _ => some false
  | .str _, .int _ => some false
  | .bool _, .str _ => some false
  | .str _, .bool _ => some false
  | _, _ => none
def onO {α : Type} (o : Option α) (k : α → Prop) : Prop := match o with | some x => k x | none => False
theorem onO_inv {α : Type} {o : Option α} {k : α → Prop} (h : onO o k) : ∃ x, o = some x ∧ k x := by
  cases o with
  | none => exact h.elim
  | some x => exact ⟨x, rfl, h⟩
def da2 (x y : En) (k : D → D → Prop) : Prop := match x, y with | .da d, .da e => k d e | _, _ => False
theorem da2_inv {x y : En} {k : D → D → Prop} (h : da2 x y k) : ∃ d e, x = .da d ∧ y = .da e ∧ k d e := by
  unfold da2 at h
  split at h
  · exact ⟨_, _, rfl, rfl, h⟩
  · exact h.elim
def xr (neg c : Bool) : Bool := match neg with | true => !c | false => c
def rdEqS (neg : Bool) : S → En → En → (S → En → Prop) → Prop := fun s x y Ks => da2 x y fun d e => onO (eqS d e) fun c => Ks s (.da (.bool (xr neg c)))
theorem eqS_rel {K : PySem.W.Frag} {A : Addr → Prop} {H : Hp} {d e : D} {c : Bool} {v u : V} (hv : Rp K A H v d) (hu : Rp K A H u e) (h : eqS d e = some c) : scal v u = true ∧ decide (v = u) = c := by
  cases hv <;> cases hu <;> simp only [eqS, Option.some.injEq, reduceCtorEq] at h <;> subst h <;> refine ⟨rfl, ?_⟩ <;> simp
theorem opd_eqS {K : PySem.W.Frag} : OpD K rEq (rdEqS false) := by
  intro b A own H σ s vx vy x y Ks Q R ex ey h k
  obtain ⟨d, e, rfl, rfl, h⟩ := da2_inv h
  obtain ⟨c, hc, h⟩ := onO_inv h
  obtain ⟨h1, h2⟩ := eqS_rel ex ey hc
  refine ⟨h1, ?_⟩
  rw [h2]
  exact k.da R Up.refl (.bl _) h
theorem opd_neS {K : PySem.W.Frag} : OpD K rNe (rdEqS true) := by
  intro b A own H σ s vx vy x y Ks Q R ex ey h k
  obtain ⟨d, e, rfl, rfl, h⟩ := da2_inv h
  obtain ⟨c, hc, h⟩ := onO_inv h
  obtain ⟨h1, h2⟩ := eqS_rel ex ey hc
  refine ⟨h1, ?_⟩
  rw [h2]
  exact k.da R Up.refl (.bl _) h
def dEqS : WE → WE → WE := d2 (rdEqS false)
def dNeS : WE → WE → WE := d2 (rdEqS true)
theorem de_eqS (ha : DE X a wa) (hb : DE X b wb) : DE X (.Compare a [.Eq] [b] pos) (dEqS wa wb) := de_cmp op_eq opd_eqS ha hb (nomark _)
theorem de_neS (ha : DE X a wa) (hb : DE X b wb) : DE X (.Compare a [.NotEq] [b] pos) (dNeS wa wb) := de_cmp op_ne opd_neS ha hb (nomark _)
theorem dt_eqS (ha : DE X a wa) (hb : DE X b wb) : DT X (.Compare a [.Eq] [b] pos) (tT (dEqS wa wb)) := dt_cmp op_eq opd_eqS ha hb (nomark _)
theorem dt_neS (ha : DE X a wa) (hb : DE X b wb) : DT X (.Compare a [.NotEq] [b] pos) (tT (dNeS wa wb)) := dt_cmp op_ne opd_neS ha hb (nomark _)
/-- of data at any depth -/
def vw2 (s : S) (x y : En) (k : D → D → Prop) : Prop := onO (vw s x) fun d => onO (vw s y) fun e => k d e
def rdEqD (neg : Bool) : S → En → En → (S → En → Prop) → Prop := fun s x y Ks => vw2 s x y fun d e => SeqAt.shaped d = true ∧ SeqAt.shaped e = true ∧ Ks s (.da (.bool (xr neg (PyData.eqv d e))))
theorem opd_eqD {K : PySem.W.Frag} : OpD K (rEqD K) (rdEqD false) := by
  intro b A own H σ s vx vy x y Ks Q R ex ey h k
  obtain ⟨d, hd, h⟩ := onO_inv h
  obtain ⟨e, he, h1, h2, h⟩ := onO_inv h
  exact ⟨d, e, vw_dp R ex hd (SeqAt.canLay_of_shaped h1), vw_dp R ey he (SeqAt.canLay_of_shaped h2), h1, h2, k.da R Up.refl (.bl _) h⟩
theorem opd_neD {K : PySem.W.Frag} : OpD K (rNeD K) (rdEqD true) := by
  intro b A own H σ s vx vy x y Ks Q R ex ey h k
  obtain ⟨d, hd, h⟩ := onO_inv h
  obtain ⟨e, he, h1, h2, h⟩ := onO_inv h
  exact ⟨d, e, vw_dp R ex hd (SeqAt.canLay_of_shaped h1), vw_dp R ey he (SeqAt.canLay_of_shaped h2), h1, h2, k.da R Up.refl (.bl _) h⟩
def dEqD : WE → WE → WE := d2 (rdEqD false)
def dNeD : WE → WE → WE := d2 (rdEqD true)
theorem de_eqD (hu : X.A.units + 64 < cLine) (ha : DE X a wa) (hb : DE X b wb) : DE X (.Compare a [.Eq] [b] pos) (dEqD wa wb) := de_cmp (op_eqD hu) opd_eqD ha hb (nomark _)
theorem de_neD (hu : X.A.units + 64 < cLine) (ha : DE X a wa) (hb : DE X b wb) : DE X (.Compare a [.NotEq] [b] pos) (dNeD wa wb) := de_cmp (op_neD hu) opd_neD ha hb (nomark _)
theorem dt_eqD (hu : X.A.units + 64 < cLine) (ha : DE X a wa) (hb : DE X b wb) : DT X (.Compare a [.Eq] [b] pos) (tT (dEqD wa wb)) := dt_cmp (op_eqD hu) opd_eqD ha hb (nomark _)
theorem dt_neD (hu : X.A.units + 64 < cLine) (ha : DE X a wa) (hb : DE X b wb) : DT X (.Compare a [.NotEq] [b] pos) (tT (dNeD wa wb)) := dt_cmp (op_neD hu) opd_neD ha hb (nomark _)
/-- is None, is not None -/
def isNone : D → Bool | .none => true | _ => false
def rdIsN (neg : Bool) : S → En → En → (S → En → Prop) → Prop := fun s x y Ks => match x, y with | .da d, .da .none => Ks s (.da (.bool (xr neg (isNone d)))) | _, _ => False
theorem isN_rel {K : PySem.W.Frag} {A : Addr → Prop} {H : Hp} {d : D} {v : V} (hv : Rp K A H v d) : decide (v = .non) = isNone d := by
  cases hv <;> simp [isNone]
theorem opd_isN {K : PySem.W.Frag} : OpD K (fun x y H Q => y = .non ∧ Q (.bl (decide (x = .non))) H) (rdIsN false) := by
  intro b A own H σ s vx vy x y Ks Q R ex ey h k
  unfold rdIsN at h
  split at h
  · cases ey
    refine ⟨rfl, ?_⟩
    rw [isN_rel ex]
    exact k.da R Up.refl (.bl _) h
  · exact h.elim
theorem opd_notN {K : PySem.W.Frag} : OpD K (fun x y H Q => y = .non ∧ Q (.bl (!decide (x = .non))) H) (rdIsN true) := by
  intro b A own H σ s vx vy x y Ks Q R ex ey h k
  unfold rdIsN at h
  split at h
  · cases ey
    refine ⟨rfl, ?_⟩
    rw [isN_rel ex]
    exact k.da R Up.refl (.bl _) h
  · exact h.elim
def dIsN : WE → WE → WE := d2 (rdIsN false)
def dNotN : WE → WE → WE := d2 (rdIsN true)
theorem de_isN (ha : DE X a wa) (hb : DE X b wb) : DE X (.Compare a [.Is] [b] pos) (dIsN wa wb) := de_cmp op_isN opd_isN ha hb (nomark _)
theorem de_notN (ha : DE X a wa) (hb : DE X b wb) : DE X (.Compare a [.IsNot] [b] pos) (dNotN wa wb) := de_cmp op_notN opd_notN ha hb (nomark _)
theorem dt_isN (ha : DE X a wa) (hb : DE X b wb) : DT X (.Compare a [.Is] [b] pos) (tT (dIsN wa wb)) := dt_cmp op_isN opd_isN ha hb (nomark _)
theorem dt_notN (ha : DE X a wa) (hb : DE X b wb) : DT X (.Compare a [.IsNot] [b] pos) (tT (dNotN wa wb)) := dt_cmp op_notN opd_notN ha hb (nomark _)
end
end DL
namespace DL
open PySem L2
section
variable {X : Cx} {a b c e : Expr} {wa wb wc we : WE} {pos : Pos}
/-! ### items -/
theorem RpL.atI {K : PySem.W.Frag} {A : Addr → Prop} {H : Hp} {vs : List V} {ds : List D} {i : Int} {d : D} (r : RpL K A H vs ds) (h : L2.atI ds i = some d) : ∃ v, L2.atI vs i = some v ∧ Rp K A H v d := by
  unfold L2.atI at h ⊢
  rw [r.length]
  cases q : ixN ds.length i with
  | none => rw [q] at h; cases h
  | some j => rw [q] at h; exact r.get h
def ixD (d : D) (i : Int) (k : D → Prop) : Prop := match d with
  | .list ds => ∃ e, L2.atI ds i = some e ∧ k e
  | .tuple ds => ∃ e, L2.atI ds i = some e ∧ k e
  | .str z => ∃ c, L2.atI z.cps.toList i = some c ∧ z.length ≤ sizeLine ∧ k (.str ⟨#[c]⟩)
  | _ => False
def rdIx : S → En → En → (S → En → Prop) → Prop := fun s x y Ks => onO (vw s x) fun d => i1 y fun i => ixD d i fun e => Ks s (.da e)
theorem opd_ix {K : PySem.W.Frag} : OpD K (rIx K) rdIx := by
  intro b A own H σ s vx vy x y Ks Q R ex ey h k
  obtain ⟨d, hd, h⟩ := onO_inv h
  obtain ⟨i, rfl, h⟩ := i1_inv h
  cases ey
  unfold ixD at h
  split at h
  · obtain ⟨d', h1, h2⟩ := h
    obtain ⟨a, vs, rfl, q, r⟩ := vw_lst R ex hd
    obtain ⟨v, h3, h4⟩ := r.atI h1
    exact .inl ⟨a, vs, i, v, rfl, rfl, q, h3, k.da R Up.refl h4 h2⟩
  · obtain ⟨d', h1, h2⟩ := h
    obtain ⟨a, vs, rfl, q, r⟩ := vw_tup R ex hd
    obtain ⟨v, h3, h4⟩ := r.atI h1
    exact .inr (.inl ⟨a, vs, i, v, rfl, rfl, q, h3, k.da R Up.refl h4 h2⟩)
  · obtain ⟨c, h1, h0, h2⟩ := h
    cases vw_str R ex hd
    exact .inr (.inr ⟨_, i, c, rfl, rfl, h0, h1, k.da R Up.refl (.str _) h2⟩)
  · exact h.elim
def dIx : WE → WE → WE := d2 rdIx
theorem de_ix (ha : DE X a wa) (hb : DE X b wb) (hs : PlainIx b := by exact fun _ _ => rfl) : DE X (.Subscript a b pos) (dIx wa wb) := by
  obtain ⟨ta, pa, qa⟩ := ha.ex
  obtain ⟨tb, pb, qb⟩ := hb.ex
  exact ⟨_, pe_ix ix_seq pa pb hs, d2_run opd_ix qa qb⟩
/-! ### slices -/
abbrev WO := S → (S → Option Int → Prop) → Prop
def PostO (K : PySem.W.Frag) (b : Bd) (A : Addr → Prop) (own : List (List Addr)) (H : Hp) (σ : L2.St) (Ks : S → Option Int → Prop) (Q : Option Int → Hp → Prop) : Prop := ∀ (A' : Addr → Prop) (own' : List (List Addr)) (H' : Hp) (s' : S) (c : Option Int), Rel K b A' own' H' σ s' → Up A own H A' own' H' → Ks s' c → Q c H'
structure DO (X : Cx) (e : Option Expr) (w : WO) : Prop where
  ex : ∃ t, PO X e t ∧ ∀ (b : Bd) (A : Addr → Prop) (own : List (List Addr)) (H : Hp) (σ : L2.St) (s : S) (Ks : S → Option Int → Prop) (Q : Option Int → Hp → Prop), Rel X.K b A own H σ s → w s Ks → PostO X.K b A own H σ Ks Q → t σ H Q
def oNone : WO := fun s Ks => Ks s none
def oSome (w : WE) : WO := fun s Ks => w s fun s1 x => i1 x fun i => Ks s1 (some i)
theorem do_none : DO X none oNone := ⟨_, po_none, fun b A own H σ s Ks Q R h k => k _ _ _ _ _ R Up.refl h⟩
theorem do_some (h : DE X e we) : DO X (some e) (oSome we) := by
  obtain ⟨te, pe, qe⟩ := h.ex
  refine ⟨_, po_some pe, fun b A own H σ s Ks Q R h k => ?_⟩
  refine qe _ _ _ _ _ _ _ _ R h fun A1 o1 H1 v1 s1 x1 R1 U1 E1 h1 => ?_
  obtain ⟨i, rfl, h2⟩ := i1_inv h1
  cases E1
  exact ⟨i, rfl, k _ _ _ _ _ R1 U1 h2⟩
def cutD {α : Type} (xs : List α) (lo hi : Option Int) : List α := (xs.drop (HT.sIx xs.length 0 lo)).take (HT.sIx xs.length xs.length hi - HT.sIx xs.length 0 lo)
theorem RpL.cut {K : PySem.W.Frag} {A : Addr → Prop} {H : Hp} {vs : List V} {ds : List D} (r : RpL K A H vs ds) (lo hi : Option Int) : RpL K A H (cutV vs lo hi) (cutD ds lo hi) := by
  unfold cutV cutD
  rw [r.length]
  exact (r.drop _).take _
def dSl (rd : S → En → Option Int → Option Int → (S → En → Prop) → Prop) (we : WE) (wl wh : WO) : WE := fun s Ks => we s fun s1 x => wl s1 fun s2 l => wh s2 fun s3 u => rd s3 x l u Ks
theorem de_slice {r : V → Option Int → Option Int → Hp → VK → Prop} {rd} {lo hi : Option Expr} {wl wh : WO} {p2 : Pos} (hr : SlR X r)
    (hd : ∀ (b : Bd) (A : Addr → Prop) (own : List (List Addr)) (H : Hp) (σ : L2.St) (s : S) (v : V) (x : En) (l u : Option Int) (Ks : S → En → Prop) (Q : VK), Rel X.K b A own H σ s → ER X.K A own H v x → rd s x l u Ks → PostE X.K b A own H σ Ks Q → r v l u H Q)
    (he : DE X e we) (hl : DO X lo wl) (hh : DO X hi wh) : DE X (.Subscript e (.Slice lo hi none p2) pos) (dSl rd we wl wh) := by
  obtain ⟨te, pe, qe⟩ := he.ex
  obtain ⟨tl, pl, ql⟩ := hl.ex
  obtain ⟨th, ph, qh⟩ := hh.ex
  refine ⟨_, pe_slice hr pe pl ph, fun b A own H σ s Ks Q R h k => ?_⟩
  show te σ H fun x H1 => tl σ H1 fun l H2 => th σ H2 fun u H3 => r x l u H3 Q
  refine qe _ _ _ _ _ _ _ _ R h fun A1 o1 H1 v1 s1 x1 R1 U1 E1 h1 => ?_
  refine ql _ _ _ _ _ _ _ _ R1 h1 fun A2 o2 H2 s2 l R2 U2 h2 => ?_
  refine qh _ _ _ _ _ _ _ _ R2 h2 fun A3 o3 H3 s3 u R3 U3 h3 => ?_
  exact hd _ _ _ _ _ _ _ _ _ _ _ _ R3 (E1.up (U2.trans U3)) h3 (k.up ((U1.trans U2).trans U3))
/-- a new data list at a new place -/
theorem new_lst {K : PySem.W.Frag} {b : Bd} {A : Addr → Prop} {own : List (List Addr)} {H : Hp} {σ : L2.St} {s : S} {Ks : S → En → Prop} {Q : VK} {p : Addr} {vs : List V} {ds : List D} (R : Rel K b A own H σ s) (k : PostE K b A own H σ Ks Q) (r : RpL K A H vs ds) (hp : H p = none) (h : Ks s (.da (.list ds))) : Q (.ref p) (upd H p (.lst vs)) := by
  obtain ⟨R1, U1⟩ := R.new (o := .lst vs) hp
  exact k.da R1 U1 (.lst ⟨upd_same, R.freshA hp⟩ (RpL.mono U1.kp r)) h
theorem new_tup {K : PySem.W.Frag} {b : Bd} {A : Addr → Prop} {own : List (List Addr)} {H : Hp} {σ : L2.St} {s : S} {Ks : S → En → Prop} {Q : VK} {p : Addr} {vs : List V} {ds : List D} (R : Rel K b A own H σ s) (k : PostE K b A own H σ Ks Q) (r : RpL K A H vs ds) (hp : H p = none) (h : Ks s (.da (.tuple ds))) : Q (.ref p) (upd H p (.tup vs)) := by
  obtain ⟨R1, U1⟩ := R.new (o := .tup vs) hp
  exact k.da R1 U1 (.tup (.inl ⟨upd_same, R.freshA hp⟩) (RpL.mono U1.kp r)) h
/-- a new list that may change -/
theorem new_mu {K : PySem.W.Frag} {b : Bd} {A : Addr → Prop} {own : List (List Addr)} {H : Hp} {σ : L2.St} {s : S} {Ks : S → En → Prop} {Q : VK} {p : Addr} {vs : List V} {ds : List D} (R : Rel K b A own H σ s) (k : PostE K b A own H σ Ks Q) (r : RpL K A H vs ds) (hp : H p = none) (h : Ks (s.aM (.lst ds)) (.mu s.ms.length)) : Q (.ref p) (upd H p (.lst vs)) := by
  obtain ⟨R1, U1, g⟩ := R.newMu (o := .lst vs) hp (.lst ds) fun A' own' u => ⟨p, vs, rfl, upd_same, RpL.mono u.kp r⟩
  exact k _ _ _ _ _ (.mu s.ms.length) R1 U1 ⟨p, [], g, rfl⟩ h
def rdSlL : S → En → Option Int → Option Int → (S → En → Prop) → Prop := fun s x l u Ks => onO (vw s x) fun d => match d with | .list ds => Ks s (.da (.list (cutD ds l u))) | _ => False
def rdSlM : S → En → Option Int → Option Int → (S → En → Prop) → Prop := fun s x l u Ks => onO (vw s x) fun d => match d with | .list ds => Ks (s.aM (.lst (cutD ds l u))) (.mu s.ms.length) | _ => False
def rdSlT : S → En → Option Int → Option Int → (S → En → Prop) → Prop := fun s x l u Ks => match x with | .da (.tuple ds) => Ks s (.da (.tuple (cutD ds l u))) | _ => False
def rdSlS : S → En → Option Int → Option Int → (S → En → Prop) → Prop := fun s x l u Ks => match x with | .da (.str z) => z.length ≤ sizeLine ∧ Ks s (.da (.str (cutS z l u))) | _ => False
theorem de_slL {lo hi : Option Expr} {wl wh : WO} {p2 : Pos} (he : DE X e we) (hl : DO X lo wl) (hh : DO X hi wh) : DE X (.Subscript e (.Slice lo hi none p2) pos) (dSl rdSlL we wl wh) :=
  de_slice sl_list (fun b A own H σ s v x l u Ks Q R E h k => by
    obtain ⟨d, hd, h⟩ := onO_inv h
    split at h
    · obtain ⟨a, vs, rfl, q, r⟩ := vw_lst R E hd
      exact ⟨a, vs, rfl, q, fun p hp => new_lst R k (r.cut l u) hp h⟩
    · exact h.elim) he hl hh
theorem de_slM {lo hi : Option Expr} {wl wh : WO} {p2 : Pos} (he : DE X e we) (hl : DO X lo wl) (hh : DO X hi wh) : DE X (.Subscript e (.Slice lo hi none p2) pos) (dSl rdSlM we wl wh) :=
  de_slice sl_list (fun b A own H σ s v x l u Ks Q R E h k => by
    obtain ⟨d, hd, h⟩ := onO_inv h
    split at h
    · obtain ⟨a, vs, rfl, q, r⟩ := vw_lst R E hd
      exact ⟨a, vs, rfl, q, fun p hp => new_mu R k (r.cut l u) hp h⟩
    · exact h.elim) he hl hh
theorem cutD_all {α : Type} (xs : List α) {lo hi : Option Int} (h1 : HT.sIx xs.length 0 lo = 0) (h2 : HT.sIx xs.length xs.length hi = xs.length) : cutD xs lo hi = xs := by
  unfold cutD
  rw [h1, h2, List.drop_zero, Nat.sub_zero, List.take_length]
theorem de_slT {lo hi : Option Expr} {wl wh : WO} {p2 : Pos} (he : DE X e we) (hl : DO X lo wl) (hh : DO X hi wh) : DE X (.Subscript e (.Slice lo hi none p2) pos) (dSl rdSlT we wl wh) :=
  de_slice sl_tupA (fun b A own H σ s v x l u Ks Q R E h k => by
    unfold rdSlT at h
    split at h
    · rename_i ds
      obtain ⟨a, vs, rfl, q, r⟩ := vw_tup R E rfl
      refine ⟨a, vs, rfl, q, fun z => ?_, fun _ p hp => new_tup R k (r.cut l u) hp h⟩
      rw [r.length] at z
      rw [cutD_all _ z.1 z.2] at h
      exact k.da R Up.refl E h
    · exact h.elim) he hl hh
theorem de_slS {lo hi : Option Expr} {wl wh : WO} {p2 : Pos} (he : DE X e we) (hl : DO X lo wl) (hh : DO X hi wh) : DE X (.Subscript e (.Slice lo hi none p2) pos) (dSl rdSlS we wl wh) :=
  de_slice sl_str (fun b A own H σ s v x l u Ks Q R E h k => by
    unfold rdSlS at h
    split at h
    · cases E
      exact ⟨_, rfl, h.1, k.da R Up.refl (.str _) h.2⟩
    · exact h.elim) he hl hh
/-! ### arguments, displays -/
def aNil : WA := fun s Ks => Ks s []
def aCons (we : WE) (wr : WA) : WA := fun s Ks => we s fun s1 x => wr s1 fun s2 xs => Ks s2 (x :: xs)
theorem da_nil : DA X [] aNil := ⟨_, pa_nil, fun b A own H σ s Ks Q R h k => k _ _ _ _ _ [] R Up.refl trivial h⟩
theorem da_cons {es : List Expr} {wr : WA} (h : DE X e we) (t : DA X es wr) (hs : starEach (e :: es) X.env = (false, eval e X.env) :: starEach es X.env := by rfl) : DA X (e :: es) (aCons we wr) := by
  obtain ⟨te, pe, qe⟩ := h.ex
  obtain ⟨tr, pr, qr⟩ := t.ex
  refine ⟨_, pa_cons pe pr hs, fun b A own H σ s Ks Q R h k => ?_⟩
  show te σ H fun x H1 => tr σ H1 fun xs H2 => Q (x :: xs) H2
  refine qe _ _ _ _ _ _ _ _ R h fun A1 o1 H1 v1 s1 x1 R1 U1 E1 h1 => ?_
  refine qr _ _ _ _ _ _ _ _ R1 h1 fun A2 o2 H2 vs s2 xs R2 U2 E2 h2 => ?_
  exact k _ _ _ _ _ (x1 :: xs) R2 (U1.trans U2) ⟨E1.up U2, E2⟩ h2
/-- all of them data -/
def allD : List En → Option (List D)
  | [] => some []
  | .da d :: xs => match allD xs with | some ds => some (d :: ds) | none => none
  | _ :: _ => none
theorem allD_rp {K : PySem.W.Frag} {A : Addr → Prop} {own : List (List Addr)} {H : Hp} : ∀ {vs : List V} {xs : List En} {ds : List D}, ERL K A own H vs xs → allD xs = some ds → RpL K A H vs ds
  | [], [], _, _, e => by cases e; exact .nil
  | v :: vs, .da d :: xs, ds, ⟨h, t⟩, e => by
    unfold allD at e
    cases q : allD xs with
    | none => rw [q] at e; cases e
    | some es => rw [q] at e; cases e; exact .cons h (allD_rp t q)
  | v :: vs, .no :: xs, ds, _, e => by cases e
  | v :: vs, .mu k :: xs, ds, _, e => by cases e
theorem ERL.len {K : PySem.W.Frag} {A : Addr → Prop} {own : List (List Addr)} {H : Hp} : ∀ {vs : List V} {xs : List En}, ERL K A own H vs xs → vs.length = xs.length
  | [], [], _ => rfl
  | _ :: _, _ :: _, ⟨_, t⟩ => congrArg (· + 1) (ERL.len t)
variable {es : List Expr} {wr : WA}
def dTup (wr : WA) : WE := fun s Ks => wr s fun s1 xs => onO (allD xs) fun ds => Ks s1 (.da (.tuple ds))
def dLst (wr : WA) : WE := fun s Ks => wr s fun s1 xs => onO (allD xs) fun ds => Ks s1 (.da (.list ds))
def dLstM (wr : WA) : WE := fun s Ks => wr s fun s1 xs => onO (allD xs) fun ds => Ks (s1.aM (.lst ds)) (.mu s1.ms.length)
theorem allD_len : ∀ {xs : List En} {ds : List D}, allD xs = some ds → ds.length = xs.length
  | [], _, e => by cases e; rfl
  | .da d :: xs, ds, e => by
    unfold allD at e
    cases q : allD xs with
    | none => rw [q] at e; cases e
    | some es => rw [q] at e; cases e; exact congrArg (· + 1) (allD_len q)
  | .no :: xs, ds, e => by cases e
  | .mu k :: xs, ds, e => by cases e
/-- as many values as there are arguments: for the size -/
structure DAn (X : Cx) (es : List Expr) (n : Nat) (w : WA) : Prop where
  ex : ∃ ta, PA X es ta ∧ ∀ (b : Bd) (A : Addr → Prop) (own : List (List Addr)) (H : Hp) (σ : L2.St) (s : S) (Ks : S → List En → Prop) (Q : List V → Hp → Prop), Rel X.K b A own H σ s → w s Ks → PostA X.K b A own H σ (fun s xs => xs.length = n ∧ Ks s xs) Q → ta σ H Q
theorem dan_nil : DAn X [] 0 aNil := ⟨_, pa_nil, fun b A own H σ s Ks Q R h k => k _ _ _ _ _ [] R Up.refl trivial ⟨rfl, h⟩⟩
theorem dan_cons {n : Nat} (h : DE X e we) (t : DAn X es n wr) (hs : starEach (e :: es) X.env = (false, eval e X.env) :: starEach es X.env := by rfl) : DAn X (e :: es) (n + 1) (aCons we wr) := by
  obtain ⟨te, pe, qe⟩ := h.ex
  obtain ⟨tr, pr, qr⟩ := t.ex
  refine ⟨_, pa_cons pe pr hs, fun b A own H σ s Ks Q R h k => ?_⟩
  show te σ H fun x H1 => tr σ H1 fun xs H2 => Q (x :: xs) H2
  refine qe _ _ _ _ _ _ _ _ R h fun A1 o1 H1 v1 s1 x1 R1 U1 E1 h1 => ?_
  refine qr _ _ _ _ _ _ _ _ R1 h1 fun A2 o2 H2 vs s2 xs R2 U2 E2 h2 => ?_
  exact k _ _ _ _ _ (x1 :: xs) R2 (U1.trans U2) ⟨E1.up U2, E2⟩ ⟨congrArg (· + 1) h2.1, h2.2⟩
theorem de_tup {n : Nat} {x1} (h : DAn X es n wr) (hn : n ≤ 1000 := by decide) : DE X (.Tuple es x1 pos) (dTup wr) := by
  obtain ⟨ta, pa, qa⟩ := h.ex
  refine ⟨_, pe_tup pa, fun b A own H σ s Ks Q R h k => ?_⟩
  refine qa _ _ _ _ _ _ _ _ R h fun A1 o1 H1 vs s1 xs R1 U1 E1 h1 => ?_
  obtain ⟨hl, h1⟩ := h1
  obtain ⟨ds, hd, h2⟩ := onO_inv h1
  refine ⟨?_, fun p hp => new_tup R1 (k.up U1) (allD_rp E1 hd) hp h2⟩
  rw [E1.len, hl]
  exact Nat.le_trans hn (by decide)
theorem de_lst {n : Nat} (h : DAn X es n wr) (hn : n ≤ 1000 := by decide) : DE X (.List es pos) (dLst wr) := by
  obtain ⟨ta, pa, qa⟩ := h.ex
  refine ⟨_, pe_lst pa, fun b A own H σ s Ks Q R h k => ?_⟩
  refine qa _ _ _ _ _ _ _ _ R h fun A1 o1 H1 vs s1 xs R1 U1 E1 h1 => ?_
  obtain ⟨hl, h1⟩ := h1
  obtain ⟨ds, hd, h2⟩ := onO_inv h1
  refine ⟨?_, fun p hp => new_lst R1 (k.up U1) (allD_rp E1 hd) hp h2⟩
  rw [E1.len, hl]
  exact Nat.le_trans hn (by decide)
theorem de_lstM {n : Nat} (h : DAn X es n wr) (hn : n ≤ 1000 := by decide) : DE X (.List es pos) (dLstM wr) := by
  obtain ⟨ta, pa, qa⟩ := h.ex
  refine ⟨_, pe_lst pa, fun b A own H σ s Ks Q R h k => ?_⟩
  refine qa _ _ _ _ _ _ _ _ R h fun A1 o1 H1 vs s1 xs R1 U1 E1 h1 => ?_
  obtain ⟨hl, h1⟩ := h1
  obtain ⟨ds, hd, h2⟩ := onO_inv h1
  refine ⟨?_, fun p hp => new_mu R1 (k.up U1) (allD_rp E1 hd) hp h2⟩
  rw [E1.len, hl]
  exact Nat.le_trans hn (by decide)
/-! ### calls of built-ins -/
def CallD (K : PySem.W.Frag) (r : List V → Hp → VK → Prop) (rd : S → List En → (S → En → Prop) → Prop) : Prop := ∀ (b : Bd) (A : Addr → Prop) (own : List (List Addr)) (H : Hp) (σ : L2.St) (s : S) (vs : List V) (xs : List En) (Ks : S → En → Prop) (Q : VK),
  Rel K b A own H σ s → ERL K A own H vs xs → rd s xs Ks → PostE K b A own H σ Ks Q → r vs H Q
def dCall (rd : S → List En → (S → En → Prop) → Prop) (wr : WA) : WE := fun s Ks => wr s fun s1 xs => rd s1 xs Ks
theorem dCall_run {r : List V → Hp → VK → Prop} {rd} {ta : TA} (hd : CallD X.K r rd)
    (qa : ∀ (b : Bd) (A : Addr → Prop) (own : List (List Addr)) (H : Hp) (σ : L2.St) (s : S) (Ks : S → List En → Prop) (Q : List V → Hp → Prop), Rel X.K b A own H σ s → wr s Ks → PostA X.K b A own H σ Ks Q → ta σ H Q)
    (b : Bd) (A : Addr → Prop) (own : List (List Addr)) (H : Hp) (σ : L2.St) (s : S) (Ks : S → En → Prop) (Q : VK) (R : Rel X.K b A own H σ s) (h : dCall rd wr s Ks) (k : PostE X.K b A own H σ Ks Q) : ta σ H fun vs H1 => r vs H1 Q :=
  qa _ _ _ _ _ _ _ _ R h fun A1 o1 H1 vs s1 xs R1 U1 E1 h1 => hd _ _ _ _ _ _ _ _ _ _ R1 E1 h1 (k.up U1)
theorem de_callB {x : Str} {id : String} {p : Pos} {r : List V → Hp → VK → Prop} {rd} (hc : CallR X (.builtin id) r) (hd : CallD X.K r rd) (hg : Gl X x) (hm : X.mg x = none) (hv : bootBuiltins x = some (.builtin id)) (ha : DA X (e :: es) wr) (hn : x ≠ "__name__" := by decide) (hdb : (x == ("__debug__" : Str)) = false := by decide)
    (he : starEach (e :: es) X.env = (false, eval e X.env) :: starEach es X.env := by rfl) (hpl : (backTo pos (starEach es X.env)).any (·.1) = false := by rfl) : DE X (.Call (.Name x p) (e :: es) [] pos) (dCall rd wr) := by
  obtain ⟨ta, pa, qa⟩ := ha.ex
  exact ⟨_, pe_callB hc hg hm hv pa hn hdb he hpl, dCall_run hd qa⟩
theorem de_callTy {x : Str} {T : String} {p : Pos} {r : List V → Hp → VK → Prop} {rd} (hc : CallR X (.type T) r) (hd : CallD X.K r rd) (hg : Gl X x) (hm : X.mg x = none) (hv : bootBuiltins x = some (.type T)) (ha : DA X (e :: es) wr) (hn : x ≠ "__name__" := by decide) (hdb : (x == ("__debug__" : Str)) = false := by decide)
    (he : starEach (e :: es) X.env = (false, eval e X.env) :: starEach es X.env := by rfl) (hpl : (backTo pos (starEach es X.env)).any (·.1) = false := by rfl) : DE X (.Call (.Name x p) (e :: es) [] pos) (dCall rd wr) := by
  obtain ⟨ta, pa, qa⟩ := ha.ex
  exact ⟨_, pe_callTy hc hg hm hv pa hn hdb he hpl, dCall_run hd qa⟩
def a1 (xs : List En) (k : En → Prop) : Prop := match xs with | [x] => k x | _ => False
def a2 (xs : List En) (k : En → En → Prop) : Prop := match xs with | [x, y] => k x y | _ => False
theorem a1_inv {K : PySem.W.Frag} {A : Addr → Prop} {own : List (List Addr)} {H : Hp} {vs : List V} {xs : List En} {k : En → Prop} (e : ERL K A own H vs xs) (h : a1 xs k) : ∃ v x, vs = [v] ∧ ER K A own H v x ∧ k x := by
  unfold a1 at h
  split at h
  · match vs, e with
    | [v], ⟨e1, _⟩ => exact ⟨v, _, rfl, e1, h⟩
  · exact h.elim
theorem a2_inv {K : PySem.W.Frag} {A : Addr → Prop} {own : List (List Addr)} {H : Hp} {vs : List V} {xs : List En} {k : En → En → Prop} (e : ERL K A own H vs xs) (h : a2 xs k) : ∃ v u x y, vs = [v, u] ∧ ER K A own H v x ∧ ER K A own H u y ∧ k x y := by
  unfold a2 at h
  split at h
  · match vs, e with
    | [v, u], ⟨e1, e2, _⟩ => exact ⟨v, u, _, _, rfl, e1, e2, h⟩
  · exact h.elim
/-- len -/
def lenD : D → (Nat → Prop) → Prop
  | .list ds, k => k ds.length
  | .tuple ds, k => k ds.length
  | .str z, k => z.length ≤ sizeLine ∧ k z.length
  | _, _ => False
def cLen : S → List En → (S → En → Prop) → Prop := fun s xs Ks => a1 xs fun x => onO (vw s x) fun d => lenD d fun n => Ks s (.da (.int (n : Int)))
theorem cd_len {K : PySem.W.Frag} : CallD K (fun xs H Q => ∃ x n, xs = [x] ∧ LenV K x H n ∧ Q (.int n) H) cLen := by
  intro b A own H σ s vs xs Ks Q R E h k
  obtain ⟨v, x, rfl, E, h⟩ := a1_inv E h
  obtain ⟨d, hd, h⟩ := onO_inv h
  unfold lenD at h
  split at h
  · obtain ⟨a, vs, rfl, q, r⟩ := vw_lst R E hd
    exact ⟨_, _, rfl, .inl ⟨vs, q, r.length.symm⟩, k.da R Up.refl (.int _) h⟩
  · obtain ⟨a, vs, rfl, q, r⟩ := vw_tup R E hd
    exact ⟨_, _, rfl, .inr ⟨vs, q, r.length.symm⟩, k.da R Up.refl (.int _) h⟩
  · cases vw_str R E hd
    exact ⟨_, _, rfl, ⟨h.1, rfl⟩, k.da R Up.refl (.int _) h.2⟩
  · exact h.elim
theorem de_len {x : Str} {p : Pos} (hg : Gl X "len") (hm : X.mg "len" = none) (ha : DE X a wa)
    (he : starEach (a :: []) X.env = (false, eval a X.env) :: starEach [] X.env := by rfl) : DE X (.Call (.Name "len" p) [a] [] pos) (dCall cLen (aCons wa aNil)) := de_callB call_len cd_len hg hm PySem.boot_len (da_cons ha da_nil he) (he := he)
/-- min, max of two; abs -/
def cMin : S → List En → (S → En → Prop) → Prop := fun s xs Ks => a2 xs fun x y => iI x y fun i j => Ks s (.da (.int (min i j)))
def cMax : S → List En → (S → En → Prop) → Prop := fun s xs Ks => a2 xs fun x y => iI x y fun i j => Ks s (.da (.int (max i j)))
def cAbs : S → List En → (S → En → Prop) → Prop := fun s xs Ks => a1 xs fun x => i1 x fun i => Ks s (.da (.int (i.natAbs : Int)))
theorem cd_min {K : PySem.W.Frag} : CallD K (fun xs H Q => ∃ i j, xs = [.int i, .int j] ∧ Q (.int (if j < i then j else i)) H) cMin := by
  intro b A own H σ s vs xs Ks Q R E h k
  obtain ⟨v, u, x, y, rfl, E1, E2, h⟩ := a2_inv E h
  obtain ⟨i, j, rfl, rfl, h⟩ := iI_inv h
  cases E1; cases E2
  refine ⟨i, j, rfl, ?_⟩
  rw [show (if j < i then j else i) = min i j by omega]
  exact k.da R Up.refl (.int _) h
theorem cd_max {K : PySem.W.Frag} : CallD K (fun xs H Q => ∃ i j, xs = [.int i, .int j] ∧ Q (.int (if j > i then j else i)) H) cMax := by
  intro b A own H σ s vs xs Ks Q R E h k
  obtain ⟨v, u, x, y, rfl, E1, E2, h⟩ := a2_inv E h
  obtain ⟨i, j, rfl, rfl, h⟩ := iI_inv h
  cases E1; cases E2
  refine ⟨i, j, rfl, ?_⟩
  rw [show (if j > i then j else i) = max i j by omega]
  exact k.da R Up.refl (.int _) h
theorem cd_abs {K : PySem.W.Frag} : CallD K (fun xs H Q => ∃ i, xs = [.int i] ∧ Q (.int (if i < 0 then -i else i)) H) cAbs := by
  intro b A own H σ s vs xs Ks Q R E h k
  obtain ⟨v, x, rfl, E1, h⟩ := a1_inv E h
  obtain ⟨i, rfl, h⟩ := i1_inv h
  cases E1
  refine ⟨i, rfl, ?_⟩
  rw [show (if i < 0 then -i else i) = (i.natAbs : Int) by omega]
  exact k.da R Up.refl (.int _) h
theorem de_min {p : Pos} (hc : X.calm = true) (hg : Gl X "min") (hm : X.mg "min" = none) (ha : DE X a wa) (hb : DE X b wb)
    (he : starEach (a :: [b]) X.env = (false, eval a X.env) :: starEach [b] X.env := by rfl) (he2 : starEach (b :: []) X.env = (false, eval b X.env) :: starEach [] X.env := by rfl) (hpl : (backTo pos (starEach [b] X.env)).any (·.1) = false := by rfl) : DE X (.Call (.Name "min" p) [a, b] [] pos) (dCall cMin (aCons wa (aCons wb aNil))) := de_callB (call_min2 hc) cd_min hg hm (by decide +kernel) (da_cons ha (da_cons hb da_nil he2) he) (he := he) (hpl := hpl)
theorem de_max {p : Pos} (hc : X.calm = true) (hg : Gl X "max") (hm : X.mg "max" = none) (ha : DE X a wa) (hb : DE X b wb)
    (he : starEach (a :: [b]) X.env = (false, eval a X.env) :: starEach [b] X.env := by rfl) (he2 : starEach (b :: []) X.env = (false, eval b X.env) :: starEach [] X.env := by rfl) (hpl : (backTo pos (starEach [b] X.env)).any (·.1) = false := by rfl) : DE X (.Call (.Name "max" p) [a, b] [] pos) (dCall cMax (aCons wa (aCons wb aNil))) := de_callB (call_max2 hc) cd_max hg hm (by decide +kernel) (da_cons ha (da_cons hb da_nil he2) he) (he := he) (hpl := hpl)
theorem de_abs {p : Pos} (hg : Gl X "abs") (hm : X.mg "abs" = none) (ha : DE X a wa)
    (he : starEach (a :: []) X.env = (false, eval a X.env) :: starEach [] X.env := by rfl) : DE X (.Call (.Name "abs" p) [a] [] pos) (dCall cAbs (aCons wa aNil)) := de_callB call_abs cd_abs hg hm (by decide +kernel) (da_cons ha da_nil he) (he := he)
/-- divmod -/
def cDivmod : S → List En → (S → En → Prop) → Prop := fun s xs Ks => a2 xs fun x y => iI x y fun i j => CDivW i j ∧ Ks s (.da (.tuple [.int (i / j), .int (i % j)]))
theorem cd_divmod {K : PySem.W.Frag} : CallD K (fun xs H Q => ∃ i j, xs = [.int i, .int j] ∧ CDivP i j ∧ ∀ p, H p = none → Q (.ref p) (upd H p (.tup [.int (i / j), .int (i % j)]))) cDivmod := by
  intro b A own H σ s vs xs Ks Q R E h k
  obtain ⟨v, u, x, y, rfl, E1, E2, h⟩ := a2_inv E h
  obtain ⟨i, j, rfl, rfl, hc, h⟩ := iI_inv h
  cases E1; cases E2
  exact ⟨i, j, rfl, ⟨hc.1, PyProof.noPylong_of_log2 hc.2⟩, fun p hp => new_tup R k (.cons (.int _) (.cons (.int _) .nil)) hp h⟩
theorem de_divmod {p : Pos} (hg : Gl X "divmod") (hm : X.mg "divmod" = none) (ha : DE X a wa) (hb : DE X b wb)
    (he : starEach (a :: [b]) X.env = (false, eval a X.env) :: starEach [b] X.env := by rfl) (he2 : starEach (b :: []) X.env = (false, eval b X.env) :: starEach [] X.env := by rfl) (hpl : (backTo pos (starEach [b] X.env)).any (·.1) = false := by rfl) : DE X (.Call (.Name "divmod" p) [a, b] [] pos) (dCall cDivmod (aCons wa (aCons wb aNil))) := de_callB call_divmodW cd_divmod hg hm (by decide +kernel) (da_cons ha (da_cons hb da_nil he2) he) (he := he) (hpl := hpl)
/-- sum, all, any of a list; sorted of ints -/
def cSum : S → List En → (S → En → Prop) → Prop := fun s xs Ks => a1 xs fun x => ∃ ns : List Int, vw s x = some (.list (ns.map .int)) ∧ Ks s (.da (.int ns.sum))
def cAll : S → List En → (S → En → Prop) → Prop := fun s xs Ks => a1 xs fun x => ∃ ns : List Bool, vw s x = some (.list (ns.map .bool)) ∧ Ks s (.da (.bool (ns.all id)))
def cAny : S → List En → (S → En → Prop) → Prop := fun s xs Ks => a1 xs fun x => ∃ ns : List Bool, vw s x = some (.list (ns.map .bool)) ∧ Ks s (.da (.bool (ns.any id)))
def cMinL : S → List En → (S → En → Prop) → Prop := fun s xs Ks => a1 xs fun x => ∃ ns : List Int, vw s x = some (.list (ns.map .int)) ∧ 0 < ns.length ∧ ∀ m, m ∈ ns → (∀ y, y ∈ ns → m ≤ y) → Ks s (.da (.int m))
def cMaxL : S → List En → (S → En → Prop) → Prop := fun s xs Ks => a1 xs fun x => ∃ ns : List Int, vw s x = some (.list (ns.map .int)) ∧ 0 < ns.length ∧ ∀ m, m ∈ ns → (∀ y, y ∈ ns → y ≤ m) → Ks s (.da (.int m))
def cSortI : S → List En → (S → En → Prop) → Prop := fun s xs Ks => a1 xs fun x => ∃ ns : List Int, vw s x = some (.list (ns.map .int)) ∧ ∀ ns' : List Int, ns'.Perm ns → ns'.Pairwise (· ≤ ·) → Ks s (.da (.list (ns'.map .int)))
theorem cd_sum {K : PySem.W.Frag} : CallD K (rSum K) cSum := by
  intro b A own H σ s vs xs Ks Q R E h k
  obtain ⟨v, x, rfl, E, ns, hd, h⟩ := a1_inv E h
  obtain ⟨a, vs, rfl, q, r⟩ := vw_lst R E hd
  rw [RpL.ofInts r] at q
  exact ⟨a, ns, rfl, q, k.da R Up.refl (.int _) h⟩
theorem cd_all {K : PySem.W.Frag} : CallD K (rAll K) cAll := by
  intro b A own H σ s vs xs Ks Q R E h k
  obtain ⟨v, x, rfl, E, ns, hd, h⟩ := a1_inv E h
  obtain ⟨a, vs, rfl, q, r⟩ := vw_lst R E hd
  rw [RpL.ofBools r] at q
  exact ⟨a, ns, rfl, q, k.da R Up.refl (.bl _) h⟩
theorem cd_any {K : PySem.W.Frag} : CallD K (rAny K) cAny := by
  intro b A own H σ s vs xs Ks Q R E h k
  obtain ⟨v, x, rfl, E, ns, hd, h⟩ := a1_inv E h
  obtain ⟨a, vs, rfl, q, r⟩ := vw_lst R E hd
  rw [RpL.ofBools r] at q
  exact ⟨a, ns, rfl, q, k.da R Up.refl (.bl _) h⟩
theorem cd_minL {K : PySem.W.Frag} : CallD K (rMin K) cMinL := by
  intro b A own H σ s vs xs Ks Q R E h k
  obtain ⟨v, x, rfl, E, ns, hd, h0, h⟩ := a1_inv E h
  obtain ⟨a, vs, rfl, q, r⟩ := vw_lst R E hd
  rw [RpL.ofInts r] at q
  exact ⟨a, ns, rfl, q, h0, fun m m1 m2 => k.da R Up.refl (.int _) (h m m1 m2)⟩
theorem cd_maxL {K : PySem.W.Frag} : CallD K (rMax K) cMaxL := by
  intro b A own H σ s vs xs Ks Q R E h k
  obtain ⟨v, x, rfl, E, ns, hd, h0, h⟩ := a1_inv E h
  obtain ⟨a, vs, rfl, q, r⟩ := vw_lst R E hd
  rw [RpL.ofInts r] at q
  exact ⟨a, ns, rfl, q, h0, fun m m1 m2 => k.da R Up.refl (.int _) (h m m1 m2)⟩
theorem cd_sortI {K : PySem.W.Frag} : CallD K (rSortedI K) cSortI := by
  intro b A own H σ s vs xs Ks Q R E h k
  obtain ⟨v, x, rfl, E, ns, hd, h⟩ := a1_inv E h
  obtain ⟨a, vs, rfl, q, r⟩ := vw_lst R E hd
  rw [RpL.ofInts r] at q
  exact ⟨a, ns, rfl, q, fun ns' p h1 h2 hp => new_lst R k RpL.ints hp (h ns' h1 h2)⟩
theorem de_sum {p : Pos} (hc : X.calm = true) (hg : Gl X "sum") (hm : X.mg "sum" = none) (ha : DE X a wa) (he : starEach (a :: []) X.env = (false, eval a X.env) :: starEach [] X.env := by rfl) : DE X (.Call (.Name "sum" p) [a] [] pos) (dCall cSum (aCons wa aNil)) := de_callB (cr_sum hc) cd_sum hg hm (by decide +kernel) (da_cons ha da_nil he) (he := he)
theorem de_all {p : Pos} (hc : X.calm = true) (hg : Gl X "all") (hm : X.mg "all" = none) (ha : DE X a wa) (he : starEach (a :: []) X.env = (false, eval a X.env) :: starEach [] X.env := by rfl) : DE X (.Call (.Name "all" p) [a] [] pos) (dCall cAll (aCons wa aNil)) := de_callB (cr_all hc) cd_all hg hm (by decide +kernel) (da_cons ha da_nil he) (he := he)
theorem de_any {p : Pos} (hc : X.calm = true) (hg : Gl X "any") (hm : X.mg "any" = none) (ha : DE X a wa) (he : starEach (a :: []) X.env = (false, eval a X.env) :: starEach [] X.env := by rfl) : DE X (.Call (.Name "any" p) [a] [] pos) (dCall cAny (aCons wa aNil)) := de_callB (cr_any hc) cd_any hg hm (by decide +kernel) (da_cons ha da_nil he) (he := he)
theorem de_minL {p : Pos} (hc : X.calm = true) (hg : Gl X "min") (hm : X.mg "min" = none) (ha : DE X a wa) (he : starEach (a :: []) X.env = (false, eval a X.env) :: starEach [] X.env := by rfl) : DE X (.Call (.Name "min" p) [a] [] pos) (dCall cMinL (aCons wa aNil)) := de_callB (cr_min hc) cd_minL hg hm (by decide +kernel) (da_cons ha da_nil he) (he := he)
theorem de_maxL {p : Pos} (hc : X.calm = true) (hg : Gl X "max") (hm : X.mg "max" = none) (ha : DE X a wa) (he : starEach (a :: []) X.env = (false, eval a X.env) :: starEach [] X.env := by rfl) : DE X (.Call (.Name "max" p) [a] [] pos) (dCall cMaxL (aCons wa aNil)) := de_callB (cr_max hc) cd_maxL hg hm (by decide +kernel) (da_cons ha da_nil he) (he := he)
theorem de_sortI {p : Pos} (hg : Gl X "sorted") (hm : X.mg "sorted" = none) (ha : DE X a wa) (he : starEach (a :: []) X.env = (false, eval a X.env) :: starEach [] X.env := by rfl) : DE X (.Call (.Name "sorted" p) [a] [] pos) (dCall cSortI (aCons wa aNil)) := de_callB cr_sortedI cd_sortI hg hm (by decide +kernel) (da_cons ha da_nil he) (he := he)
/-- list(..), tuple(..) of a list or a tuple -/
def seqD : D → Option (List D) | .list ds => some ds | .tuple ds => some ds | _ => none
def cList : S → List En → (S → En → Prop) → Prop := fun s xs Ks => a1 xs fun x => onO (vw s x) fun d => onO (seqD d) fun ds => Ks s (.da (.list ds))
def cListM : S → List En → (S → En → Prop) → Prop := fun s xs Ks => a1 xs fun x => onO (vw s x) fun d => onO (seqD d) fun ds => Ks (s.aM (.lst ds)) (.mu s.ms.length)
def cTuple : S → List En → (S → En → Prop) → Prop := fun s xs Ks => a1 xs fun x => onO (vw s x) fun d => onO (seqD d) fun ds => Ks s (.da (.tuple ds))
theorem cd_list {K : PySem.W.Frag} : CallD K (fun xs H Q => ∃ p ys, xs = [.ref p] ∧ (SqL K H p ys ∨ SqT K H p ys) ∧ ∀ l, H l = none → Q (.ref l) (upd H l (.lst ys))) cList := by
  intro b A own H σ s vs xs Ks Q R E h k
  obtain ⟨v, x, rfl, E, h⟩ := a1_inv E h
  obtain ⟨d, hd, h⟩ := onO_inv h
  obtain ⟨ds, hs, h⟩ := onO_inv h
  unfold seqD at hs
  split at hs <;> cases hs
  · obtain ⟨a, vs, rfl, q, r⟩ := vw_lst R E hd
    exact ⟨a, vs, rfl, .inl q, fun l hl => new_lst R k r hl h⟩
  · obtain ⟨a, vs, rfl, q, r⟩ := vw_tup R E hd
    exact ⟨a, vs, rfl, .inr q, fun l hl => new_lst R k r hl h⟩
theorem cd_listM {K : PySem.W.Frag} : CallD K (fun xs H Q => ∃ p ys, xs = [.ref p] ∧ (SqL K H p ys ∨ SqT K H p ys) ∧ ∀ l, H l = none → Q (.ref l) (upd H l (.lst ys))) cListM := by
  intro b A own H σ s vs xs Ks Q R E h k
  obtain ⟨v, x, rfl, E, h⟩ := a1_inv E h
  obtain ⟨d, hd, h⟩ := onO_inv h
  obtain ⟨ds, hs, h⟩ := onO_inv h
  unfold seqD at hs
  split at hs <;> cases hs
  · obtain ⟨a, vs, rfl, q, r⟩ := vw_lst R E hd
    exact ⟨a, vs, rfl, .inl q, fun l hl => new_mu R k r hl h⟩
  · obtain ⟨a, vs, rfl, q, r⟩ := vw_tup R E hd
    exact ⟨a, vs, rfl, .inr q, fun l hl => new_mu R k r hl h⟩
theorem cd_tuple {K : PySem.W.Frag} : CallD K (fun xs H Q => ∃ p ys, xs = [.ref p] ∧ ((SqL K H p ys ∧ ∀ l, H l = none → Q (.ref l) (upd H l (.tup ys))) ∨ (SqT K H p ys ∧ Q (.ref p) H))) cTuple := by
  intro b A own H σ s vs xs Ks Q R E h k
  obtain ⟨v, x, rfl, E, h⟩ := a1_inv E h
  obtain ⟨d, hd, h⟩ := onO_inv h
  obtain ⟨ds, hs, h⟩ := onO_inv h
  unfold seqD at hs
  split at hs <;> cases hs
  · obtain ⟨a, vs, rfl, q, r⟩ := vw_lst R E hd
    exact ⟨a, vs, rfl, .inl ⟨q, fun l hl => new_tup R k r hl h⟩⟩
  · obtain ⟨a, vs, rfl, q, r⟩ := vw_tup R E hd
    refine ⟨a, vs, rfl, .inr ⟨q, ?_⟩⟩
    cases x with
    | da d => cases hd; exact k.da R Up.refl E h
    | mu j =>
      unfold vw at hd
      simp only at hd
      cases q : gm s.ms j <;> (rw [q] at hd; cases hd)
    | no => cases hd
theorem de_list {p : Pos} (hg : Gl X "list") (hm : X.mg "list" = none) (ha : DE X a wa) (he : starEach (a :: []) X.env = (false, eval a X.env) :: starEach [] X.env := by rfl) : DE X (.Call (.Name "list" p) [a] [] pos) (dCall cList (aCons wa aNil)) := de_callTy call_list_of cd_list hg hm (by decide +kernel) (da_cons ha da_nil he) (he := he)
theorem de_listM {p : Pos} (hg : Gl X "list") (hm : X.mg "list" = none) (ha : DE X a wa) (he : starEach (a :: []) X.env = (false, eval a X.env) :: starEach [] X.env := by rfl) : DE X (.Call (.Name "list" p) [a] [] pos) (dCall cListM (aCons wa aNil)) := de_callTy call_list_of cd_listM hg hm (by decide +kernel) (da_cons ha da_nil he) (he := he)
theorem de_tuple {p : Pos} (hg : Gl X "tuple") (hm : X.mg "tuple" = none) (ha : DE X a wa) (he : starEach (a :: []) X.env = (false, eval a X.env) :: starEach [] X.env := by rfl) : DE X (.Call (.Name "tuple" p) [a] [] pos) (dCall cTuple (aCons wa aNil)) := de_callTy call_tuple_of cd_tuple hg hm (by decide +kernel) (da_cons ha da_nil he) (he := he)
/-- str(int), int(str), int(int) -/
def cStrI : S → List En → (S → En → Prop) → Prop := fun s xs Ks => a1 xs fun x => i1 x fun i => i.natAbs.log2 < 1920 ∧ Ks s (.da (.str (toString i : String)))
end
end DL
namespace DL
open PySem L2
section
variable {X : Cx} {a b c e : Expr} {wa wb wc we : WE} {pos : Pos} {es : List Expr}
/-! ### targets -/
def gN (i : Nat) : WG := fun x s Ks => Ks (s.sE i x)
theorem Sto.refl {js : List Nat} {σ : L2.St} : Sto js σ σ := ⟨rfl, fun _ _ => rfl⟩
theorem Sto.trans {js ks : List Nat} {σ τ υ : L2.St} (h : Sto js σ τ) (k : Sto ks τ υ) : Sto (js ++ ks) σ υ :=
  ⟨k.1.trans h.1, fun i n => (k.2 i fun z => n (List.mem_append_right _ z)).trans (h.2 i fun z => n (List.mem_append_left _ z))⟩
theorem dg_name {i : Nat} {x : Str} (hN : X.N.Nodup) (hi : X.N[i]? = some x) (hx : Loc X.env.scope x) (hf : X.fn x = true ∨ X.env.scope.names.lookup x = some .local := by first | exact .inl rfl | exact .inr rfl | assumption) : DG X (.Name x pos) [i] (gN i) :=
  ⟨_, pg_name hN hi hx hf, fun b A own H σ s v x Ks Q R E h k => k _ _ _ _ _ (R.slot E) Up.refl ⟨List.length_set .., fun j n => List.getElem?_set_ne (fun z => n (by simp [z]))⟩ h⟩
abbrev WGs := List D → S → (S → Prop) → Prop
structure DGs (X : Cx) (ts : List Expr) (js : List Nat) (w : WGs) : Prop where
  ex : ∃ g, PGs X ts g ∧ ∀ (b : Bd) (A : Addr → Prop) (own : List (List Addr)) (H : Hp) (σ : L2.St) (s : S) (vs : List V) (ds : List D) (Ks : S → Prop) (Q : L2.St → Hp → Prop), Rel X.K b A own H σ s → RpL X.K A H vs ds → w ds s Ks → PostG X.K b A own H σ js Ks Q → g vs σ H Q
def gsNil : WGs := fun ds s Ks => match ds with | [] => Ks s | _ => False
def gsCons (g : WG) (r : WGs) : WGs := fun ds s Ks => match ds with | d :: ds => g (.da d) s fun s1 => r ds s1 Ks | [] => False
theorem dgs_nil : DGs X [] [] gsNil := ⟨_, pgs_nil, fun b A own H σ s vs ds Ks Q R E h k => by
  unfold gsNil at h
  split at h
  · cases E; exact ⟨rfl, k _ _ _ _ _ R Up.refl Sto.refl h⟩
  · exact h.elim⟩
theorem dgs_cons {js ks : List Nat} {g : WG} {r : WGs} (h1 : DG X e js g) (h2 : DGs X es ks r) (hs : (assignEach (e :: es) X.env).map (·.2) = assign e X.env :: (assignEach es X.env).map (·.2) := by rfl) : DGs X (e :: es) (js ++ ks) (gsCons g r) := by
  obtain ⟨g1, p1, q1⟩ := h1.ex
  obtain ⟨g2, p2, q2⟩ := h2.ex
  refine ⟨_, pgs_cons p1 p2 hs, fun b A own H σ s vs ds Ks Q R E h k => ?_⟩
  unfold gsCons at h
  split at h
  · cases E with
    | cons e1 e2 =>
      refine ⟨_, _, rfl, ?_⟩
      refine q1 _ _ _ _ _ _ _ _ _ _ R (show ER X.K A own H _ (.da _) from e1) h fun A1 o1 H1 σ1 s1 R1 U1 S1 h1 => ?_
      exact q2 _ _ _ _ _ _ _ _ _ _ R1 (RpL.mono U1.kp e2) h1 fun A2 o2 H2 σ2 s2 R2 U2 S2 h2 => k _ _ _ _ _ R2 (U1.trans U2) (S1.trans S2) h2
  · exact h.elim
def gT (n : Nat) (r : WGs) : WG := fun x s Ks => match x with | .da (.tuple ds) => ds.length = n ∧ r ds s Ks | _ => False
def gL (n : Nat) (r : WGs) : WG := fun x s Ks => onO (vw s x) fun d => match d with | .list ds => ds.length = n ∧ r ds s Ks | _ => False
theorem dg_tup {js : List Nat} {r : WGs} {n : Nat} {kk : Nat} (hc : X.calm = true) (h : DGs X es js r) (hn : (assignEach es X.env).length = n := by rfl) (hst : (assignEach es X.env).findIdx? (·.1) = none := by rfl) : DG X (.Tuple es kk pos) js (gT n r) := by
  obtain ⟨g, p, q⟩ := h.ex
  refine ⟨_, pg_tup hc p hn hst, fun b A own H σ s v x Ks Q R E h k => ?_⟩
  unfold gT at h
  split at h
  · obtain ⟨a, vs, rfl, t, r⟩ := vw_tup R E rfl
    exact ⟨a, vs, rfl, t, r.length.trans h.1, q _ _ _ _ _ _ _ _ _ _ R r h.2 k⟩
  · exact h.elim
theorem dg_lst {js : List Nat} {r : WGs} {n : Nat} {kk : Nat} (hc : X.calm = true) (h : DGs X es js r) (hn : (assignEach es X.env).length = n := by rfl) (hst : (assignEach es X.env).findIdx? (·.1) = none := by rfl) : DG X (.Tuple es kk pos) js (gL n r) := by
  obtain ⟨g, p, q⟩ := h.ex
  refine ⟨_, pg_unl hc p hn hst, fun b A own H σ s v x Ks Q R E h k => ?_⟩
  unfold gL at h
  obtain ⟨d, hd, h⟩ := onO_inv h
  split at h
  · obtain ⟨a, vs, rfl, t, r⟩ := vw_lst R E hd
    exact ⟨a, vs, rfl, t, r.length.trans h.1, q _ _ _ _ _ _ _ _ _ _ R r h.2 k⟩
  · exact h.elim
/-- x[i] = d, x a list that changes -/
def mu1 (s : S) (x : En) (k : Nat → List D → Prop) : Prop := match x with | .mu j => (match gm s.ms j with | .lst ds => k j ds | _ => False) | _ => False
theorem mu1_inv {s : S} {x : En} {k : Nat → List D → Prop} (h : mu1 s x k) : ∃ j ds, x = .mu j ∧ gm s.ms j = .lst ds ∧ k j ds := by
  unfold mu1 at h
  split at h
  · split at h
    · exact ⟨_, _, rfl, by assumption, h⟩
    · exact h.elim
  · exact h.elim
theorem gm_lt {ms : List MO} {j : Nat} (h : gm ms j ≠ .gone) : j < ms.length := Nat.lt_of_not_le fun z => h (gm_ge _ _ z)
/-- a list that changes: read, and written -/
theorem mu_at {K : PySem.W.Frag} {b : Bd} {A : Addr → Prop} {own : List (List Addr)} {H : Hp} {σ : L2.St} {s : S} (R : Rel K b A own H σ s) {v : V} {j : Nat} {ds : List D} (E : ER K A own H v (.mu j)) (g : gm s.ms j = .lst ds) :
    ∃ p vs, v = .ref p ∧ H p = some (.lst vs) ∧ RpL K A H vs ds ∧ go own j = [p] ∧ ∀ vs' ds', RpL K A H vs' ds' → Rel K b A own (upd H p (.lst vs')) σ (s.sM j (.lst ds')) ∧ Up A own H A own (upd H p (.lst vs')) := by
  have m := R.mr j
  rw [g] at m
  obtain ⟨p, vs, e1, e2, e3⟩ := m
  obtain ⟨p', r, e4, rfl⟩ := E
  rw [e1] at e4
  cases e4
  refine ⟨p, vs, rfl, e2, e3, e1, fun vs' ds' r' => ?_⟩
  refine R.chg j (.lst ds') (fun a o n h => ?_) (fun a h => ?_) (fun u => ?_) (gm_lt (by rw [g]; intro z; cases z))
  · rw [upd_ne]; exact h
    intro z; subst z; exact n (by rw [e1]; simp)
  · rw [e1] at h
    cases List.mem_singleton.mp h
    rw [upd_same]; intro z; cases z
  · rw [e1]; exact ⟨p, vs', rfl, upd_same, RpL.mono u.kp r'⟩
def daI (x : En) (k : D → Prop) : Prop := match x with | .da d => k d | _ => False
theorem daI_inv {x : En} {k : D → Prop} (h : daI x k) : ∃ d, x = .da d ∧ k d := by
  unfold daI at h
  split at h
  · exact ⟨_, rfl, h⟩
  · exact h.elim
def gSetL (wo wi : WE) : WG := fun x s Ks => wo s fun s1 o => wi s1 fun s2 i => mu1 s2 o fun j ds => i1 i fun z => daI x fun d => ∃ n, ixN ds.length z = some n ∧ Ks (s2.sM j (.lst (ds.set n d)))
theorem dg_setL (ho : DE X a wa) (hi : DE X b wb) (hh : ∀ v, assign (.Subscript a b pos) X.env v = (do
      let ov ← holding [v] (eval a X.env)
      let iv ← holding [v, ov] (eval b X.env)
      standAt pos
      holding [v, ov, iv] (setItem ov iv v)
      release [v, ov, iv] []) := by intro _; rfl) : DG X (.Subscript a b pos) [] (gSetL wa wb) := by
  obtain ⟨ta, pa, qa⟩ := ho.ex
  obtain ⟨tb, pb, qb⟩ := hi.ex
  refine ⟨_, pg_sub pa pb set_list hh, fun b A own H σ s v x Ks Q R E h k => ?_⟩
  show ta σ H fun o H1 => tb σ H1 fun i H2 => rSetL o i v H2 fun H3 => Q σ H3
  refine qa _ _ _ _ _ _ _ _ R h fun A1 o1 H1 v1 s1 x1 R1 U1 E1 h1 => ?_
  refine qb _ _ _ _ _ _ _ _ R1 h1 fun A2 o2 H2 v2 s2 x2 R2 U2 E2 h2 => ?_
  obtain ⟨j, ds, rfl, g, h2⟩ := mu1_inv h2
  obtain ⟨z, rfl, h2⟩ := i1_inv h2
  obtain ⟨d, rfl, n, hn, h2⟩ := daI_inv h2
  cases E2
  obtain ⟨p, vs, rfl, e2, e3, _, up⟩ := mu_at R2 (E1.up U2) g
  have r : Rp X.K A2 H2 v d := E.up (U1.trans U2)
  obtain ⟨R3, U3⟩ := up (vs.set n v) (ds.set n d) (e3.set r n)
  exact ⟨p, vs, z, n, rfl, rfl, e2, by rw [e3.length]; exact hn, k _ _ _ _ _ R3 ((U1.trans U2).trans U3) Sto.refl h2⟩
/-! ### dicts that change -/
def keyD : D → Option Key | .int i => some (.inl i) | .str x => some (.inr x) | _ => none
def findD (kvs : List (Key × D)) (k : Key) : Option D := (kvs.find? fun kv => decide (kv.1 = k)).map (·.2)
def putD (kvs : List (Key × D)) (k : Key) (d : D) : List (Key × D) :=
  if (kvs.any fun kv => decide (kv.1 = k)) = true then kvs.map (fun kv => if kv.1 = k then (kv.1, d) else kv) else kvs ++ [(k, d)]
theorem keyD_rp {K : PySem.W.Frag} {A : Addr → Prop} {H : Hp} {v : V} {d : D} {k : Key} (r : Rp K A H v d) (h : keyD d = some k) : v = kV k := by
  cases r <;> simp only [keyD, Option.some.injEq, reduceCtorEq] at h <;> subst h <;> rfl
section
variable {K : PySem.W.Frag} {A : Addr → Prop} {H : Hp}
theorem RKV.len : ∀ {ws : List (Key × V)} {kvs : List (Key × D)}, RKV K A H ws kvs → ws.length = kvs.length
  | [], [], _ => rfl
  | _ :: _, _ :: _, ⟨_, _, t⟩ => congrArg (· + 1) (RKV.len t)
theorem RKV.keys : ∀ {ws : List (Key × V)} {kvs : List (Key × D)}, RKV K A H ws kvs → ws.map (·.1) = kvs.map (·.1)
  | [], [], _ => rfl
  | _ :: _, _ :: _, ⟨e, _, t⟩ => by rw [List.map_cons, List.map_cons, e, RKV.keys t]
theorem RKV.vals : ∀ {ws : List (Key × V)} {kvs : List (Key × D)}, RKV K A H ws kvs → RpL K A H (ws.map (·.2)) (kvs.map (·.2))
  | [], [], _ => .nil
  | _ :: _, _ :: _, ⟨_, r, t⟩ => .cons r (RKV.vals t)
theorem RKV.any {k : Key} : ∀ {ws : List (Key × V)} {kvs : List (Key × D)}, RKV K A H ws kvs → (ws.any fun kv => decide (kv.1 = k)) = (kvs.any fun kv => decide (kv.1 = k))
  | [], [], _ => rfl
  | _ :: _, _ :: _, ⟨e, _, t⟩ => by rw [List.any_cons, List.any_cons, e, RKV.any t]
theorem RKV.map {k : Key} {v : V} {d : D} (r : Rp K A H v d) : ∀ {ws : List (Key × V)} {kvs : List (Key × D)}, RKV K A H ws kvs → RKV K A H (ws.map fun kv => if kv.1 = k then (kv.1, v) else kv) (kvs.map fun kv => if kv.1 = k then (kv.1, d) else kv)
  | [], [], _ => trivial
  | p :: _, q :: _, ⟨e, r', t⟩ => by
    rw [List.map_cons, List.map_cons]
    by_cases h : q.1 = k
    · rw [if_pos h, if_pos (e.trans h)]; exact ⟨e, r, RKV.map r t⟩
    · rw [if_neg h, if_neg (fun z => h (e.symm.trans z))]; exact ⟨e, r', RKV.map r t⟩
theorem RKV.snoc {k : Key} {v : V} {d : D} (r : Rp K A H v d) : ∀ {ws : List (Key × V)} {kvs : List (Key × D)}, RKV K A H ws kvs → RKV K A H (ws ++ [(k, v)]) (kvs ++ [(k, d)])
  | [], [], _ => ⟨rfl, r, trivial⟩
  | _ :: _, _ :: _, ⟨e, r', t⟩ => ⟨e, r', RKV.snoc r t⟩
theorem RKV.put {k : Key} {v : V} {d : D} (r : Rp K A H v d) {ws : List (Key × V)} {kvs : List (Key × D)} (h : RKV K A H ws kvs) : RKV K A H (putK ws k v) (putD kvs k d) := by
  unfold putK putD
  rw [h.any]
  split
  · exact h.map r
  · exact h.snoc r
theorem RKV.find {k : Key} : ∀ {ws : List (Key × V)} {kvs : List (Key × D)}, RKV K A H ws kvs → (findD kvs k = none ∧ valV ws k = none) ∨ ∃ d v, findD kvs k = some d ∧ valV ws k = some v ∧ Rp K A H v d
  | [], [], _ => .inl ⟨rfl, rfl⟩
  | p :: ws, q :: kvs, ⟨e, r, t⟩ => by
    unfold findD
    rw [List.find?_cons]
    by_cases h : q.1 = k
    · rw [decide_eq_true h, valV_pos (e.trans h)]; exact .inr ⟨_, _, rfl, rfl, r⟩
    · rw [decide_eq_false h, valV_neg (fun z => h (e.symm.trans z))]; exact RKV.find t
end
def mu2 (s : S) (x : En) (k : Nat → List (Key × D) → Prop) : Prop := match x with | .mu j => (match gm s.ms j with | .dct ds => k j ds | _ => False) | _ => False
theorem mu2_inv {s : S} {x : En} {k : Nat → List (Key × D) → Prop} (h : mu2 s x k) : ∃ j ds, x = .mu j ∧ gm s.ms j = .dct ds ∧ k j ds := by
  unfold mu2 at h
  split at h
  · split at h
    · exact ⟨_, _, rfl, by assumption, h⟩
    · exact h.elim
  · exact h.elim
theorem mud_at {K : PySem.W.Frag} {b : Bd} {A : Addr → Prop} {own : List (List Addr)} {H : Hp} {σ : L2.St} {s : S} (R : Rel K b A own H σ s) {v : V} {j : Nat} {ds : List (Key × D)} (E : ER K A own H v (.mu j)) (g : gm s.ms j = .dct ds) :
    ∃ p vs, v = .ref p ∧ H p = some (.dK vs) ∧ RKV K A H vs ds ∧ go own j = [p] ∧ ∀ vs' ds', RKV K A H vs' ds' → Rel K b A own (upd H p (.dK vs')) σ (s.sM j (.dct ds')) ∧ Up A own H A own (upd H p (.dK vs')) := by
  have m := R.mr j
  rw [g] at m
  obtain ⟨p, vs, e1, e2, e3⟩ := m
  obtain ⟨p', r, e4, rfl⟩ := E
  rw [e1] at e4
  cases e4
  refine ⟨p, vs, rfl, e2, e3, e1, fun vs' ds' r' => ?_⟩
  refine R.chg j (.dct ds') (fun a o n h => ?_) (fun a h => ?_) (fun u => ?_) (gm_lt (by rw [g]; intro z; cases z))
  · rw [upd_ne]; exact h
    intro z; subst z; exact n (by rw [e1]; simp)
  · rw [e1] at h
    cases List.mem_singleton.mp h
    rw [upd_same]; intro z; cases z
  · rw [e1]; exact ⟨p, vs', rfl, upd_same, RKV.up u.kp r'⟩
def gSetD (wo wi : WE) : WG := fun x s Ks => wo s fun s1 o => wi s1 fun s2 i => mu2 s2 o fun j kvs => daI i fun kd => onO (keyD kd) fun key => daI x fun d => kvs.length < sizeLine ∧ Ks (s2.sM j (.dct (putD kvs key d)))
theorem dg_setD (hu : X.A.units + 1 < cLine) (ho : DE X a wa) (hi : DE X b wb) (hh : ∀ v, assign (.Subscript a b pos) X.env v = (do
      let ov ← holding [v] (eval a X.env)
      let iv ← holding [v, ov] (eval b X.env)
      standAt pos
      holding [v, ov, iv] (setItem ov iv v)
      release [v, ov, iv] []) := by intro _; rfl) : DG X (.Subscript a b pos) [] (gSetD wa wb) := by
  obtain ⟨ta, pa, qa⟩ := ho.ex
  obtain ⟨tb, pb, qb⟩ := hi.ex
  refine ⟨_, pg_sub pa pb (set_dict hu) hh, fun b A own H σ s v x Ks Q R E h k => ?_⟩
  show ta σ H fun o H1 => tb σ H1 fun i H2 => rSetD o i v H2 fun H3 => Q σ H3
  refine qa _ _ _ _ _ _ _ _ R h fun A1 o1 H1 v1 s1 x1 R1 U1 E1 h1 => ?_
  refine qb _ _ _ _ _ _ _ _ R1 h1 fun A2 o2 H2 v2 s2 x2 R2 U2 E2 h2 => ?_
  obtain ⟨j, ds, rfl, g, h2⟩ := mu2_inv h2
  obtain ⟨kd, rfl, h2⟩ := daI_inv h2
  obtain ⟨key, hk, h2⟩ := onO_inv h2
  obtain ⟨d, rfl, hl, h2⟩ := daI_inv h2
  obtain ⟨p, vs, rfl, e2, e3, _, up⟩ := mud_at R2 (E1.up U2) g
  have r : Rp X.K A2 H2 v d := E.up (U1.trans U2)
  obtain ⟨R3, U3⟩ := up _ _ (e3.put (k := key) r)
  rw [keyD_rp E2 hk]
  exact ⟨p, _, rfl, DPut.k e2 (by rw [e3.len]; exact hl), k _ _ _ _ _ R3 ((U1.trans U2).trans U3) Sto.refl h2⟩
/-- {} -/
def dNewD : WE := fun s Ks => Ks (s.aM (.dct [])) (.mu s.ms.length)
theorem de_newD : DE X (.Dict [] [] pos) dNewD := ⟨_, pe_dnewK, fun b A own H σ s Ks Q R h k => by
  intro p hp
  obtain ⟨R1, U1, g⟩ := R.newMu (o := .dK []) hp (.dct []) fun A' own' u => ⟨p, [], rfl, upd_same, trivial⟩
  exact k _ _ _ _ _ (.mu s.ms.length) R1 U1 ⟨p, [], g, rfl⟩ h⟩
/-- d.get(k, x), d[k], k in d -/
def dGet2 (wd wk wx : WE) : WE := fun s Ks => wd s fun s1 o => mu2 s1 o fun j _ => wk s1 fun s2 i => wx s2 fun s3 x => mu2 s3 (.mu j) fun _ kvs => daI i fun kd => onO (keyD kd) fun key => daI x fun d => ∃ e, (findD kvs key).getD d = e ∧ Ks s3 (.da e)
theorem de_get2 {apos cpos : Pos} (hu : X.A.units + 1 < cLine) (ho : DE X a wa) (hi : DE X b wb) (hx : DE X c wc) (m : M2 X a "get" apos b c cpos := by exact ⟨rfl, rfl, rfl, rfl⟩) : DE X (.Call (.Attribute a "get" apos) [b, c] [] cpos) (dGet2 wa wb wc) := by
  obtain ⟨ta, pa, qa⟩ := ho.ex
  obtain ⟨tb, pb, qb⟩ := hi.ex
  obtain ⟨tc, pc, qc⟩ := hx.ex
  refine ⟨_, pe_dget2 hu pa pb pc m, fun b A own H σ s Ks Q R h k => ?_⟩
  show ta σ H fun x H1 => ∃ a, x = .ref a ∧ IsD H1 a ∧ tb σ H1 fun y H2 => tc σ H2 fun z H3 => ∃ o, DGet H3 a y o ∧ Q (o.getD z) H3
  refine qa _ _ _ _ _ _ _ _ R h fun A1 o1 H1 v1 s1 x1 R1 U1 E1 h1 => ?_
  obtain ⟨j, kvs, rfl, g, h1⟩ := mu2_inv h1
  obtain ⟨p, vs, rfl, e2, e3, e4, _⟩ := mud_at R1 E1 g
  refine ⟨p, rfl, .inl ⟨_, .inl e2⟩, ?_⟩
  refine qb _ _ _ _ _ _ _ _ R1 h1 fun A2 o2 H2 v2 s2 x2 R2 U2 E2 h2 => ?_
  refine qc _ _ _ _ _ _ _ _ R2 h2 fun A3 o3 H3 v3 s3 x3 R3 U3 E3 h3 => ?_
  obtain ⟨j', kvs', ej, g', h3⟩ := mu2_inv h3
  cases ej
  obtain ⟨kd, rfl, h3⟩ := daI_inv h3
  obtain ⟨key, hk, h3⟩ := onO_inv h3
  obtain ⟨d, rfl, h3⟩ := daI_inv h3
  obtain ⟨_, rfl, h3⟩ := h3
  obtain ⟨p', vs', ep, f2, f3, _, _⟩ := mud_at R3 (E1.up (U2.trans U3)) g'
  cases ep
  have E2' : Rp X.K A3 H3 v2 kd := E2.up U3
  rw [keyD_rp E2' hk]
  refine ⟨_, DGet.k f2, ?_⟩
  rcases f3.find (k := key) with ⟨q1, q2⟩ | ⟨d', v', q1, q2, q3⟩
  · rw [q2]; rw [q1] at h3; exact (k.up ((U1.trans U2).trans U3)).da R3 Up.refl E3 h3
  · rw [q2]; rw [q1] at h3; exact (k.up ((U1.trans U2).trans U3)).da R3 Up.refl q3 h3
def dDget (wd wk : WE) : WE := fun s Ks => wd s fun s1 o => wk s1 fun s2 i => mu2 s2 o fun j kvs => daI i fun kd => onO (keyD kd) fun key => ∃ d, findD kvs key = some d ∧ Ks s2 (.da d)
theorem de_dget (hu : X.A.units + 1 < cLine) (ho : DE X a wa) (hi : DE X b wb) (hs : NoSl b := by exact fun _ _ => rfl) : DE X (.Subscript a b pos) (dDget wa wb) := by
  obtain ⟨ta, pa, qa⟩ := ho.ex
  obtain ⟨tb, pb, qb⟩ := hi.ex
  refine ⟨_, pe_dget hu pa pb hs, fun b A own H σ s Ks Q R h k => ?_⟩
  show ta σ H fun x H1 => tb σ H1 fun y H2 => ∃ a v, x = .ref a ∧ DGet H2 a y (some v) ∧ Q v H2
  refine qa _ _ _ _ _ _ _ _ R h fun A1 o1 H1 v1 s1 x1 R1 U1 E1 h1 => ?_
  refine qb _ _ _ _ _ _ _ _ R1 h1 fun A2 o2 H2 v2 s2 x2 R2 U2 E2 h2 => ?_
  obtain ⟨j, kvs, rfl, g, h2⟩ := mu2_inv h2
  obtain ⟨kd, rfl, h2⟩ := daI_inv h2
  obtain ⟨key, hk, d, hd, h2⟩ := onO_inv h2
  obtain ⟨p, vs, rfl, e2, e3, _, _⟩ := mud_at R2 (E1.up U2) g
  rw [keyD_rp E2 hk]
  rcases e3.find (k := key) with ⟨q1, q2⟩ | ⟨d', v', q1, q2, q3⟩
  · rw [q1] at hd; cases hd
  · rw [q1] at hd; cases hd
    exact ⟨p, v', rfl, by rw [← q2]; exact DGet.k e2, (k.up (U1.trans U2)).da R2 Up.refl q3 h2⟩
def dDin (neg : Bool) (wk wd : WE) : WE := fun s Ks => wk s fun s1 i => wd s1 fun s2 o => mu2 s2 o fun j kvs => daI i fun kd => onO (keyD kd) fun key => Ks s2 (.da (.bool (xr neg (findD kvs key).isSome)))
theorem din_run {ta tb : TE} (qa : ∀ (b : Bd) (A : Addr → Prop) (own : List (List Addr)) (H : Hp) (σ : L2.St) (s : S) (Ks : S → En → Prop) (Q : VK), Rel X.K b A own H σ s → wa s Ks → PostE X.K b A own H σ Ks Q → ta σ H Q)
    (qb : ∀ (b : Bd) (A : Addr → Prop) (own : List (List Addr)) (H : Hp) (σ : L2.St) (s : S) (Ks : S → En → Prop) (Q : VK), Rel X.K b A own H σ s → wb s Ks → PostE X.K b A own H σ Ks Q → tb σ H Q)
    (b : Bd) (A : Addr → Prop) (own : List (List Addr)) (H : Hp) (σ : L2.St) (s : S) (Ks : S → En → Prop) (Q : VK) (R : Rel X.K b A own H σ s) (h : dDin false wb wa s Ks) (k : PostE X.K b A own H σ Ks Q) : tDIn tb ta σ H Q := by
  show tb σ H fun y H1 => ta σ H1 fun x H2 => ∃ a o, x = .ref a ∧ DGet H2 a y o ∧ Q (.bl o.isSome) H2
  refine qb _ _ _ _ _ _ _ _ R h fun A1 o1 H1 v1 s1 x1 R1 U1 E1 h1 => ?_
  refine qa _ _ _ _ _ _ _ _ R1 h1 fun A2 o2 H2 v2 s2 x2 R2 U2 E2 h2 => ?_
  obtain ⟨j, kvs, rfl, g, h2⟩ := mu2_inv h2
  obtain ⟨kd, rfl, h2⟩ := daI_inv h2
  obtain ⟨key, hk, h2⟩ := onO_inv h2
  obtain ⟨p, vs, rfl, e2, e3, _, _⟩ := mud_at R2 E2 g
  rw [keyD_rp (E1.up U2) hk]
  refine ⟨p, _, rfl, DGet.k e2, ?_⟩
  rcases e3.find (k := key) with ⟨q1, q2⟩ | ⟨d', v', q1, q2, q3⟩
  · rw [q2]; rw [q1] at h2; exact (k.up (U1.trans U2)).da R2 Up.refl (.bl _) h2
  · rw [q2]; rw [q1] at h2; exact (k.up (U1.trans U2)).da R2 Up.refl (.bl _) h2
theorem de_din (hu : X.A.units + 1 < cLine) (hi : DE X b wb) (ho : DE X a wa) (hm : behindInMarks .In a = false := by rfl) : DE X (.Compare b [.In] [a] pos) (dDin false wb wa) := by
  obtain ⟨ta, pa, qa⟩ := ho.ex
  obtain ⟨tb, pb, qb⟩ := hi.ex
  exact ⟨_, pe_cmp (pc_din hu pb pa) hm, fun b A own H σ s Ks Q R h k => din_run qa qb b A own H σ s Ks Q R h k⟩
theorem dnotin_run {ta tb : TE} (qa : ∀ (b : Bd) (A : Addr → Prop) (own : List (List Addr)) (H : Hp) (σ : L2.St) (s : S) (Ks : S → En → Prop) (Q : VK), Rel X.K b A own H σ s → wa s Ks → PostE X.K b A own H σ Ks Q → ta σ H Q)
    (qb : ∀ (b : Bd) (A : Addr → Prop) (own : List (List Addr)) (H : Hp) (σ : L2.St) (s : S) (Ks : S → En → Prop) (Q : VK), Rel X.K b A own H σ s → wb s Ks → PostE X.K b A own H σ Ks Q → tb σ H Q)
    (b : Bd) (A : Addr → Prop) (own : List (List Addr)) (H : Hp) (σ : L2.St) (s : S) (Ks : S → En → Prop) (Q : VK) (R : Rel X.K b A own H σ s) (h : dDin true wb wa s Ks) (k : PostE X.K b A own H σ Ks Q) : tDNotIn tb ta σ H Q := by
  show tb σ H fun y H1 => ta σ H1 fun x H2 => ∃ a o, x = .ref a ∧ DGet H2 a y o ∧ Q (.bl (!o.isSome)) H2
  refine qb _ _ _ _ _ _ _ _ R h fun A1 o1 H1 v1 s1 x1 R1 U1 E1 h1 => ?_
  refine qa _ _ _ _ _ _ _ _ R1 h1 fun A2 o2 H2 v2 s2 x2 R2 U2 E2 h2 => ?_
  obtain ⟨j, kvs, rfl, g, h2⟩ := mu2_inv h2
  obtain ⟨kd, rfl, h2⟩ := daI_inv h2
  obtain ⟨key, hk, h2⟩ := onO_inv h2
  obtain ⟨p, vs, rfl, e2, e3, _, _⟩ := mud_at R2 E2 g
  rw [keyD_rp (E1.up U2) hk]
  refine ⟨p, _, rfl, DGet.k e2, ?_⟩
  rcases e3.find (k := key) with ⟨q1, q2⟩ | ⟨d', v', q1, q2, q3⟩
  · rw [q2]; rw [q1] at h2; exact (k.up (U1.trans U2)).da R2 Up.refl (.bl _) h2
  · rw [q2]; rw [q1] at h2; exact (k.up (U1.trans U2)).da R2 Up.refl (.bl _) h2
theorem de_dnotin (hu : X.A.units + 1 < cLine) (hi : DE X b wb) (ho : DE X a wa) (hm : behindInMarks .NotIn a = false := by rfl) : DE X (.Compare b [.NotIn] [a] pos) (dDin true wb wa) := by
  obtain ⟨ta, pa, qa⟩ := ho.ex
  obtain ⟨tb, pb, qb⟩ := hi.ex
  exact ⟨_, pe_cmp (pc_dnotin hu pb pa) hm, fun b A own H σ s Ks Q R h k => dnotin_run qa qb b A own H σ s Ks Q R h k⟩
theorem dt_din (hu : X.A.units + 1 < cLine) (hi : DE X b wb) (ho : DE X a wa) (hm : behindInMarks .In a = false := by rfl) : DT X (.Compare b [.In] [a] pos) (tT (dDin false wb wa)) := by
  obtain ⟨ta, pa, qa⟩ := ho.ex
  obtain ⟨tb, pb, qb⟩ := hi.ex
  exact ⟨_, pt_cmp (pc_din hu pb pa) hm, tT_run fun b A own H σ s Ks Q R h k => din_run qa qb b A own H σ s Ks Q R h k⟩
theorem dt_dnotin (hu : X.A.units + 1 < cLine) (hi : DE X b wb) (ho : DE X a wa) (hm : behindInMarks .NotIn a = false := by rfl) : DT X (.Compare b [.NotIn] [a] pos) (tT (dDin true wb wa)) := by
  obtain ⟨ta, pa, qa⟩ := ho.ex
  obtain ⟨tb, pb, qb⟩ := hi.ex
  exact ⟨_, pt_cmp (pc_dnotin hu pb pa) hm, tT_run fun b A own H σ s Ks Q R h k => dnotin_run qa qb b A own H σ s Ks Q R h k⟩
/-! ### methods of a list that changes -/
def dMet (rd : S → Nat → List D → List En → (S → En → Prop) → Prop) (wo : WE) (wr : WA) : WE := fun s Ks => wo s fun s1 o => mu1 s1 o fun j _ => wr s1 fun s2 xs => mu1 s2 (.mu j) fun _ ds => rd s2 j ds xs Ks
/-- what a method does at a list that changes -/
def MetD (K : PySem.W.Frag) (r : V → List V → Hp → VK → Prop) (rd : S → Nat → List D → List En → (S → En → Prop) → Prop) : Prop := ∀ (b : Bd) (A : Addr → Prop) (own : List (List Addr)) (H : Hp) (σ : L2.St) (s : S) (p : Addr) (j : Nat) (us : List V) (ds : List D) (vs : List V) (xs : List En) (Ks : S → En → Prop) (Q : VK),
  Rel K b A own H σ s → H p = some (.lst us) → RpL K A H us ds → gm s.ms j = .lst ds → (∀ vs' ds', RpL K A H vs' ds' → Rel K b A own (upd H p (.lst vs')) σ (s.sM j (.lst ds')) ∧ Up A own H A own (upd H p (.lst vs'))) → ERL K A own H vs xs → rd s j ds xs Ks → PostE K b A own H σ Ks Q → r (.ref p) vs H Q
theorem de_met {wr : WA} {name : Str} {id : String} {apos cpos : Pos} {r rd} (slot : Slot "list" name id) (hty : typeOf (.builtin id) = pure (.type "method_descriptor")) (hm : MtR X id r) (hd : MetD X.K r rd) (ho : DE X a wa) (ha : DA X (e :: es) wr)
    (hbase : attributeBase a name X.env (eval a X.env) = eval a X.env := by rfl)
    (hfew : ((backTo cpos (starEach (e :: es) X.env)).all (fun x => !x.1) && (backToKw cpos (keywordEach [] X.env)).all (fun x => x.1.isSome)
      && decide ((e :: es).length + ([] : List Keyword).length + (if ([] : List Keyword).isEmpty then 0 else 1) < 30)) = true := by rfl)
    (hline : (apos.endLine == cpos.line) = true := by rfl) (hs : starEach (e :: es) X.env = (false, eval e X.env) :: starEach es X.env := by rfl) (hplain : (backTo cpos (starEach es X.env)).any (·.1) = false := by rfl) :
    DE X (.Call (.Attribute a name apos) (e :: es) [] cpos) (dMet rd wa wr) := by
  obtain ⟨ta, pa, qa⟩ := ho.ex
  obtain ⟨tr, pr, qr⟩ := ha.ex
  refine ⟨_, pe_bm PySem.F.plainAttrs_list slot hty hm pa pr hbase hfew hline hs hplain, fun b A own H σ s Ks Q R h k => ?_⟩
  show ta σ H fun x H1 => tyV X.K "list" x H1 ∧ tr σ H1 fun xs H2 => r x xs H2 Q
  refine qa _ _ _ _ _ _ _ _ R h fun A1 o1 H1 v1 s1 x1 R1 U1 E1 h1 => ?_
  obtain ⟨j, ds, rfl, g, h1⟩ := mu1_inv h1
  obtain ⟨p, us, rfl, e2, e3, e4, _⟩ := mu_at R1 E1 g
  refine ⟨.inl ⟨rfl, us, .inl (.inl e2)⟩, ?_⟩
  refine qr _ _ _ _ _ _ _ _ R1 h1 fun A2 o2 H2 vs s2 xs R2 U2 E2 h2 => ?_
  obtain ⟨j', ds', ej, g', h2⟩ := mu1_inv h2
  cases ej
  obtain ⟨p', us', ep, f2, f3, f4, up⟩ := mu_at R2 (E1.up U2) g'
  cases ep
  exact hd _ _ _ _ _ _ _ _ _ _ _ _ _ _ R2 f2 f3 g' up E2 h2 (k.up (U1.trans U2))
theorem de_met0 {name : Str} {id : String} {apos cpos : Pos} {r rd} (slot : Slot "list" name id) (hty : typeOf (.builtin id) = pure (.type "method_descriptor")) (hm : MtR X id r) (hd : MetD X.K r rd) (ho : DE X a wa)
    (hbase : attributeBase a name X.env (eval a X.env) = eval a X.env := by rfl) (hline : (apos.endLine == cpos.line) = true := by rfl) :
    DE X (.Call (.Attribute a name apos) [] [] cpos) (dMet rd wa aNil) := by
  obtain ⟨ta, pa, qa⟩ := ho.ex
  refine ⟨_, pe_bm0 PySem.F.plainAttrs_list slot hty hm pa hbase hline, fun b A own H σ s Ks Q R h k => ?_⟩
  show ta σ H fun x H1 => tyV X.K "list" x H1 ∧ r x [] H1 Q
  refine qa _ _ _ _ _ _ _ _ R h fun A1 o1 H1 v1 s1 x1 R1 U1 E1 h1 => ?_
  obtain ⟨j, ds, rfl, g, h1⟩ := mu1_inv h1
  have h1 : mu1 s1 (.mu j) (fun _ ds => rd s1 j ds [] Ks) := h1
  obtain ⟨j', ds', ej, g', h1⟩ := mu1_inv h1
  cases ej
  rw [g] at g'
  cases g'
  obtain ⟨p, us, rfl, e2, e3, e4, up⟩ := mu_at R1 E1 g
  exact ⟨.inl ⟨rfl, us, .inl (.inl e2)⟩, hd _ _ _ _ _ _ _ _ _ _ _ _ _ _ R1 e2 e3 g up (show ERL X.K A1 o1 H1 [] [] from trivial) h1 (k.up U1)⟩
def mAppend : S → Nat → List D → List En → (S → En → Prop) → Prop := fun s j ds xs Ks => a1 xs fun x => daI x fun d => ds.length < sizeLine ∧ Ks (s.sM j (.lst (ds ++ [d]))) (.da .none)
theorem md_append {K : PySem.W.Frag} : MetD K rAppend mAppend := by
  intro b A own H σ s p j us ds vs xs Ks Q R hp r g up E h k
  obtain ⟨v, x, rfl, E, h⟩ := a1_inv E h
  obtain ⟨d, rfl, hl, h⟩ := daI_inv h
  obtain ⟨R1, U1⟩ := up _ _ (r.append (.cons (show Rp K A H v d from E) .nil))
  exact ⟨p, us, v, rfl, rfl, hp, by rw [r.length]; exact hl, k.da R1 U1 .non h⟩
theorem de_append {apos cpos : Pos} (ho : DE X a wa) (hi : DE X b wb)
    (hbase : attributeBase a "append" X.env (eval a X.env) = eval a X.env := by rfl)
    (hfew : ((backTo cpos (starEach (b :: []) X.env)).all (fun x => !x.1) && (backToKw cpos (keywordEach [] X.env)).all (fun x => x.1.isSome)
      && decide ((b :: []).length + ([] : List Keyword).length + (if ([] : List Keyword).isEmpty then 0 else 1) < 30)) = true := by rfl)
    (hline : (apos.endLine == cpos.line) = true := by rfl) (hs : starEach (b :: []) X.env = (false, eval b X.env) :: starEach [] X.env := by rfl) :
    DE X (.Call (.Attribute a "append" apos) [b] [] cpos) (dMet mAppend wa (aCons wb aNil)) := de_met PySem.F.slot_list_append PySem.F.type_list_append mt_append md_append ho (da_cons hi da_nil hs) hbase hfew hline hs
end
end DL
namespace DL
open PySem L2
/-! ### more methods -/
section
variable {K : PySem.W.Frag}
def mPop : S → Nat → List D → List En → (S → En → Prop) → Prop := fun s j ds xs Ks => match xs with | [] => ∃ d, ds[ds.length - 1]? = some d ∧ Ks (s.sM j (.lst ds.dropLast)) (.da d) | _ => False
theorem RpL.dropLast {A : Addr → Prop} {H : Hp} {vs : List V} {ds : List D} (r : RpL K A H vs ds) : RpL K A H vs.dropLast ds.dropLast := by
  rw [List.dropLast_eq_take, List.dropLast_eq_take, r.length]
  exact r.take _
theorem md_pop : MetD K rPop mPop := by
  intro b A own H σ s p j us ds vs xs Ks Q R hp r g up E h k
  unfold mPop at h
  split at h
  · obtain ⟨d, e, h⟩ := h
    cases vs with
    | cons _ _ => exact E.elim
    | nil =>
      obtain ⟨v, e', r'⟩ := r.get e
      obtain ⟨R1, U1⟩ := up _ _ r.dropLast
      exact ⟨p, us, v, rfl, rfl, hp, by rw [r.length]; exact e', k.da R1 U1 (Rp.mono U1.kp r') h⟩
  · exact h.elim
def mReverse : S → Nat → List D → List En → (S → En → Prop) → Prop := fun s j ds xs Ks => match xs with | [] => Ks (s.sM j (.lst ds.reverse)) (.da .none) | _ => False
theorem md_reverse : MetD K rReverse mReverse := by
  intro b A own H σ s p j us ds vs xs Ks Q R hp r g up E h k
  unfold mReverse at h
  split at h
  · cases vs with
    | cons _ _ => exact E.elim
    | nil =>
      obtain ⟨R1, U1⟩ := up _ _ r.reverse
      exact ⟨p, us, rfl, rfl, hp, k.da R1 U1 .non h⟩
  · exact h.elim
def mExtend : S → Nat → List D → List En → (S → En → Prop) → Prop := fun s j ds xs Ks => a1 xs fun x => onO (vw s x) fun d => match d with | .list es => ds.length + es.length ≤ sizeLine ∧ Ks (s.sM j (.lst (ds ++ es))) (.da .none) | _ => False
theorem vw_lstH {b : Bd} {A : Addr → Prop} {own : List (List Addr)} {H : Hp} {σ : L2.St} {s : S} (R : Rel K b A own H σ s) {v : V} {x : En} {ds : List D} (h : ER K A own H v x) (e : vw s x = some (.list ds)) :
    ∃ a vs, v = .ref a ∧ H a = some (.lst vs) ∧ RpL K A H vs ds := by
  cases x with
  | no => cases e
  | da d' => cases e; cases h with | lst l r => exact ⟨_, _, rfl, l.1, r⟩
  | mu k =>
    obtain ⟨a, r, g, rfl⟩ := h
    have m := R.mr k
    unfold vw at e
    simp only at e
    cases q : gm s.ms k with
    | lst ds =>
      rw [q] at e m
      cases e
      obtain ⟨a', vs, e1, e2, e3⟩ := m
      rw [e1] at g
      cases g
      exact ⟨_, _, rfl, e2, e3⟩
    | _ => rw [q] at e; cases e
theorem md_extend : MetD K rExtend mExtend := by
  intro b A own H σ s p j us ds vs xs Ks Q R hp r g up E h k
  obtain ⟨v, x, rfl, E, h⟩ := a1_inv E h
  obtain ⟨d, hd, h⟩ := onO_inv h
  split at h
  · obtain ⟨a, vs, rfl, q, r'⟩ := vw_lstH R E hd
    obtain ⟨R1, U1⟩ := up _ _ (r.append r')
    exact ⟨p, a, us, vs, rfl, rfl, hp, q, by rw [r.length, r'.length]; exact h.1, k.da R1 U1 .non h.2⟩
  · exact h.elim
def mInsert : S → Nat → List D → List En → (S → En → Prop) → Prop := fun s j ds xs Ks => a2 xs fun i x => i1 i fun i => daI x fun d => ds.length < sizeLine ∧ 0 ≤ i ∧ i < 2 ^ 63 ∧ Ks (s.sM j (.lst (ds.take i.toNat ++ [d] ++ ds.drop i.toNat))) (.da .none)
theorem md_insert : MetD K (fun x vs H Q => ∃ (l : Addr) (xs : List V) (i : Int) (y : V), x = .ref l ∧ vs = [.int i, y] ∧ H l = some (.lst xs) ∧ xs.length < sizeLine ∧ 0 ≤ i ∧ i < 2 ^ 63 ∧ Q .non (upd H l (.lst (xs.take i.toNat ++ [y] ++ xs.drop i.toNat)))) mInsert := by
  intro b A own H σ s p j us ds vs xs Ks Q R hp r g up E h k
  obtain ⟨v, u, x, y, rfl, E1, E2, h⟩ := a2_inv E h
  obtain ⟨i, rfl, h⟩ := i1_inv h
  obtain ⟨d, rfl, hl, h1, h2, h⟩ := daI_inv h
  cases E1
  obtain ⟨R1, U1⟩ := up _ _ (((r.take i.toNat).append (.cons (show Rp K A H u d from E2) .nil)).append (r.drop i.toNat))
  exact ⟨p, us, i, u, rfl, rfl, hp, by rw [r.length]; exact hl, h1, h2, k.da R1 U1 .non h⟩
def eraseN {α : Type} (l : List α) (n : Nat) : List α := l.take n ++ l.drop (n + 1)
theorem eraseIdx_eq {α : Type} : ∀ (l : List α) (n : Nat), l.eraseIdx n = eraseN l n
  | [], n => by simp [eraseN]
  | x :: l, 0 => by simp [eraseN]
  | x :: l, n + 1 => by
    show x :: l.eraseIdx n = _
    rw [eraseIdx_eq l n]; rfl
def mPopAt : S → Nat → List D → List En → (S → En → Prop) → Prop := fun s j ds xs Ks => a1 xs fun i => i1 i fun i => -(2 ^ 63) ≤ i ∧ i < 2 ^ 63 ∧ ∃ n d, seqIndex? i ds.length = some n ∧ ds[n]? = some d ∧ Ks (s.sM j (.lst (eraseN ds n))) (.da d)
theorem md_popAt : MetD K rPopAt mPopAt := by
  intro b A own H σ s p j us ds vs xs Ks Q R hp r g up E h k
  obtain ⟨v, x, rfl, E, h⟩ := a1_inv E h
  obtain ⟨i, rfl, h1, h2, n, d, h3, h4, h⟩ := i1_inv h
  cases E
  obtain ⟨w, e', r'⟩ := r.get h4
  have re : RpL K A H (us.eraseIdx n) (eraseN ds n) := by
    rw [eraseIdx_eq]; exact (r.take n).append (r.drop (n + 1))
  obtain ⟨R1, U1⟩ := up _ _ re
  exact ⟨p, us, i, n, w, rfl, rfl, hp, h1, h2, by rw [r.length]; exact h3, e', k.da R1 U1 (Rp.mono U1.kp r') h⟩
def mClear : S → Nat → List D → List En → (S → En → Prop) → Prop := fun s j ds xs Ks => match xs with | [] => Ks (s.sM j (.lst [])) (.da .none) | _ => False
theorem md_clear : MetD K rClear mClear := by
  intro b A own H σ s p j us ds vs xs Ks Q R hp r g up E h k
  unfold mClear at h
  split at h
  · cases vs with
    | cons _ _ => exact E.elim
    | nil =>
      obtain ⟨R1, U1⟩ := up [] [] .nil
      exact ⟨p, us, rfl, rfl, hp, k.da R1 U1 .non h⟩
  · exact h.elim
end
/-! ### calls of own defs -/
abbrev SpD := List En → List MO → (List MO → En → Prop) → Prop
/-- the promise of a def, by data -/
def spOf (K : PySem.W.Frag) (n : Nat) (sp : SpD) : Sp := fun vs H Q _ => ∃ (A : Addr → Prop) (own : List (List Addr)) (xs : List En) (ms : List MO) (Ks : List MO → En → Prop), vs.length = n ∧ ERL K A own H vs xs ∧ Own K A own H ms ∧ sp xs ms Ks ∧
  ∀ (A' : Addr → Prop) (own' : List (List Addr)) (H' : Hp) (v : V) (ms' : List MO) (x : En), Own K A' own' H' ms' → own'.take own.length = own → (∀ a, A a → A' a) → (∀ a, A' a → A a ∨ H a = none) → (∀ a o, (∀ k, a ∉ go own k) → H a = some o → H' a = some o) →
    (∀ k a, a ∈ go own' k → (∃ j, a ∈ go own j) ∨ H a = none) → ER K A' own' H' v x → Ks ms' x → Q v H'
def plainM : MO → Bool
  | .lst _ => true
  | .dct _ => true
  | .rnd _ => true
  | .box _ => true
  | _ => false
theorem MR.plain {K : PySem.W.Frag} {A : Addr → Prop} {own own' : List (List Addr)} {H : Hp} {l : List Addr} {m : MO} (h : MR K A own H l m) (p : plainM m = true) : MR K A own' H l m := by
  cases m with
  | gone => cases p
  | ins _ _ => cases p
  | tab _ => cases p
  | lst ds => exact h
  | dct ds => exact h
  | rnd ds => exact h
  | box ds => exact h
def posOf : List Nat → Nat → Option Nat
  | [], _ => none
  | k :: ks, j => if k = j then some 0 else (posOf ks j).map (· + 1)
theorem posOf_some : ∀ {ks : List Nat} {j i : Nat}, posOf ks j = some i → ks[i]? = some j
  | [], _, _, h => by cases h
  | k :: ks, j, i, h => by
    unfold posOf at h
    split at h
    · cases h; subst_vars; rfl
    · cases q : posOf ks j with
      | none => rw [q] at h; cases h
      | some i' => rw [q] at h; cases h; show (k :: ks)[i' + 1]? = some j; rw [List.getElem?_cons_succ]; exact posOf_some (ks := ks) q
def renE (ks : List Nat) : En → Option En
  | .no => some .no
  | .da d => some (.da d)
  | .mu j => match posOf ks j with | some i => some (.mu i) | none => none
def renL (ks : List Nat) : List En → Option (List En)
  | [] => some []
  | x :: xs => match renE ks x with | some y => (match renL ks xs with | some ys => some (y :: ys) | none => none) | none => none
def pick : List Nat → List MO → List MO
  | [], _ => []
  | k :: ks, ms => gm ms k :: pick ks ms
def pickO : List Nat → List (List Addr) → List (List Addr)
  | [], _ => []
  | k :: ks, own => go own k :: pickO ks own
def putM : List Nat → List MO → List MO → List MO
  | k :: ks, m :: r, ms => putM ks r (sm ms k m)
  | _, _, ms => ms
def allP : List MO → Bool
  | [] => true
  | m :: ms => plainM m && allP ms
def nthN : List Nat → Nat → Nat
  | [], _ => 0
  | k :: _, 0 => k
  | _ :: ks, i + 1 => nthN ks i
def bkE (ks : List Nat) (n : Nat) : En → En
  | .mu j => bif Nat.blt j ks.length then .mu (nthN ks j) else .mu (n + (j - ks.length))
  | x => x
theorem pickO_length : ∀ (ks : List Nat) (own : List (List Addr)), (pickO ks own).length = ks.length
  | [], _ => rfl
  | _ :: ks, own => congrArg (· + 1) (pickO_length ks own)
theorem pick_length : ∀ (ks : List Nat) (ms : List MO), (pick ks ms).length = ks.length
  | [], _ => rfl
  | _ :: ks, own => congrArg (· + 1) (pick_length ks own)
theorem go_pickO : ∀ (ks : List Nat) (own : List (List Addr)) (i j : Nat), ks[i]? = some j → go (pickO ks own) i = go own j
  | k :: ks, own, 0, j, h => by cases h; rfl
  | k :: ks, own, i + 1, j, h => go_pickO ks own i j (by simpa using h)
theorem gm_pick : ∀ (ks : List Nat) (ms : List MO) (i j : Nat), ks[i]? = some j → gm (pick ks ms) i = gm ms j
  | k :: ks, own, 0, j, h => by cases h; rfl
  | k :: ks, own, i + 1, j, h => gm_pick ks own i j (by simpa using h)
theorem nthN_get : ∀ (ks : List Nat) (i : Nat), i < ks.length → ks[i]? = some (nthN ks i)
  | k :: ks, 0, _ => rfl
  | k :: ks, i + 1, h => by
    rw [List.getElem?_cons_succ]; exact nthN_get ks i (by simpa using h)
theorem allP_gm : ∀ (ms : List MO) (i : Nat), allP ms = true → i < ms.length → plainM (gm ms i) = true
  | m :: ms, 0, h, _ => (Bool.and_eq_true_iff.mp h).1
  | m :: ms, i + 1, h, l => allP_gm ms i (Bool.and_eq_true_iff.mp h).2 (by simpa using l)
theorem putM_length : ∀ (ks : List Nat) (r ms : List MO), (putM ks r ms).length = ms.length
  | [], _, _ => rfl
  | _ :: _, [], _ => rfl
  | k :: ks, m :: r, ms => by
    show (putM ks r (sm ms k m)).length = _
    rw [putM_length, sm_length]
theorem gm_putM_not : ∀ (ks : List Nat) (r ms : List MO) (j : Nat), j ∉ ks → gm (putM ks r ms) j = gm ms j
  | [], _, _, _, _ => rfl
  | _ :: _, [], _, _, _ => rfl
  | k :: ks, m :: r, ms, j, h => by
    show gm (putM ks r (sm ms k m)) j = _
    rw [gm_putM_not ks r _ j (fun z => h (List.mem_cons_of_mem _ z)), gm_sm, if_neg fun z => h (by rw [z.1]; exact List.mem_cons_self)]
theorem gm_putM : ∀ (ks : List Nat) (r ms : List MO) (i j : Nat), ks.Nodup → ks[i]? = some j → i < r.length → j < ms.length → gm (putM ks r ms) j = gm r i
  | k :: ks, m :: r, ms, 0, j, nd, h, _, hl => by
    cases h
    show gm (putM ks r (sm ms k m)) k = m
    rw [gm_putM_not ks r _ k (List.nodup_cons.mp nd).1, gm_sm, if_pos ⟨rfl, hl⟩]
  | k :: ks, m :: r, ms, i + 1, j, nd, h, hr, hl => by
    show gm (putM ks r (sm ms k m)) j = gm r i
    exact gm_putM ks r _ i j (List.nodup_cons.mp nd).2 (by simpa using h) (by simpa using hr) (by rw [sm_length]; exact hl)
theorem renL_er {K : PySem.W.Frag} {A : Addr → Prop} {own : List (List Addr)} {H : Hp} {ks : List Nat} : ∀ {vs : List V} {xs ys : List En}, ERL K A own H vs xs → renL ks xs = some ys → ERL K A (pickO ks own) H vs ys
  | [], [], _, _, e => by cases e; trivial
  | v :: vs, x :: xs, ys, ⟨h, t⟩, e => by
    unfold renL at e
    cases q : renE ks x with
    | none => rw [q] at e; cases e
    | some y =>
      rw [q] at e
      simp only at e
      cases q2 : renL ks xs with
      | none => rw [q2] at e; cases e
      | some zs =>
        rw [q2] at e
        cases e
        refine ⟨?_, renL_er t q2⟩
        cases x with
        | no => cases q; trivial
        | da d => cases q; exact h
        | mu j =>
          unfold renE at q
          simp only at q
          cases q3 : posOf ks j with
          | none => rw [q3] at q; cases q
          | some i =>
            rw [q3] at q
            cases q
            obtain ⟨a, r, h1, h2⟩ := h
            exact ⟨a, r, by rw [go_pickO ks own i j (posOf_some q3)]; exact h1, h2⟩
def S.cM (s : S) (ks : List Nat) (ms' : List MO) : S := ⟨s.es, putM ks ms' s.ms ++ ms'.drop ks.length, s.np⟩
def CallW (sp : SpD) (ks : List Nat) : S → List En → (S → En → Prop) → Prop := fun s xs Ks => onO (renL ks xs) fun ys => allP (pick ks s.ms) = true ∧ sp ys (pick ks s.ms) fun ms' r => allP ms' = true ∧ Ks (s.cM ks ms') (bkE ks s.ms.length r)
theorem gm_drop : ∀ (l : List MO) (n i : Nat), gm (l.drop n) i = gm l (n + i)
  | l, 0, i => by simp
  | [], n + 1, i => by simp [gm]
  | x :: l, n + 1, i => by
    rw [show n + 1 + i = (n + i) + 1 by omega]
    exact gm_drop l n i
theorem go_drop : ∀ (l : List (List Addr)) (n i : Nat), go (l.drop n) i = go l (n + i)
  | l, 0, i => by simp
  | [], n + 1, i => by simp [go]
  | x :: l, n + 1, i => by
    rw [show n + 1 + i = (n + i) + 1 by omega]
    exact go_drop l n i
theorem callW_run {K : PySem.W.Frag} {sp : SpD} {ks : List Nat} {n : Nat} (nd : ks.Nodup) {b : Bd} {A : Addr → Prop} {own : List (List Addr)} {H : Hp} {σ : L2.St} {s : S} {vs : List V} {xs : List En} {Ks : S → En → Prop} {Q : VK} {E : XK}
    (hn : vs.length = n) (R : Rel K b A own H σ s) (e : ERL K A own H vs xs) (h : CallW sp ks s xs Ks) (k : PostE K b A own H σ Ks Q) : spOf K n sp vs H Q E := by
  obtain ⟨ys, hr, hp, h⟩ := onO_inv h
  have kl : ∀ i j, ks[i]? = some j → j < s.ms.length := fun i j q => gm_lt fun z => by
    have q2 := allP_gm _ i hp (by rw [pick_length]; exact (List.getElem?_eq_some_iff.mp q).1)
    rw [gm_pick ks s.ms i j q, z] at q2
    cases q2
  have ndx : ∀ i i' j, ks[i]? = some j → ks[i']? = some j → i = i' := fun i i' j q q' => nd_ix nd q q'
  refine ⟨A, pickO ks own, ys, pick ks s.ms, _, hn, renL_er e hr, ⟨by rw [pickO_length, pick_length], fun i => ?_, fun i i' a h1 h2 => ?_, fun i => ?_, fun i a h1 => ?_, R.al⟩, h, fun A' own' H' v ms' x O ot ge li fr fo ex hk => ?_⟩
  · by_cases hi : i < ks.length
    · have q := nthN_get ks i hi
      rw [go_pickO ks own i _ q, gm_pick ks s.ms i _ q]
      have := allP_gm _ i hp (by rw [pick_length]; exact hi)
      rw [gm_pick ks s.ms i _ q] at this
      exact (R.mr _).plain this
    · rw [gm_ge _ _ (by rw [pick_length]; omega)]; trivial
  · by_cases hi : i < ks.length
    · by_cases hi' : i' < ks.length
      · rw [go_pickO ks own i _ (nthN_get ks i hi)] at h1
        rw [go_pickO ks own i' _ (nthN_get ks i' hi')] at h2
        have := R.dj _ _ a h1 h2
        exact ndx i i' _ (nthN_get ks i hi) (by rw [nthN_get ks i' hi', this])
      · rw [go_ge _ _ (by rw [pickO_length]; omega)] at h2; cases h2
    · rw [go_ge _ _ (by rw [pickO_length]; omega)] at h1; cases h1
  · by_cases hi : i < ks.length
    · rw [go_pickO ks own i _ (nthN_get ks i hi)]; exact R.ld _
    · rw [go_ge _ _ (by rw [pickO_length]; omega)]; exact List.nodup_nil
  · by_cases hi : i < ks.length
    · rw [go_pickO ks own i _ (nthN_get ks i hi)] at h1; exact R.oa _ _ h1
    · rw [go_ge _ _ (by rw [pickO_length]; omega)] at h1; cases h1
  · obtain ⟨hap, hk⟩ := hk
    rw [pickO_length] at ot
    have ol' : ks.length ≤ own'.length := by
      have := congrArg List.length ot
      rw [List.length_take, pickO_length] at this
      omega
    have gs : ∀ i, i < ks.length → go own' i = go own (nthN ks i) := fun i hi => by
      have q := go_take own' ks.length i
      rw [if_pos hi, ot, go_pickO ks own i _ (nthN_get ks i hi)] at q
      exact q.symm
    -- the own places that the callee holds
    have inA : ∀ a, (∃ j, a ∈ go (pickO ks own) j) → A a := fun a ⟨j, hj⟩ => by
      by_cases hi : j < ks.length
      · rw [go_pickO ks own j _ (nthN_get ks j hi)] at hj; exact R.oa _ _ hj
      · rw [go_ge _ _ (by rw [pickO_length]; omega)] at hj; cases hj
    have notOwn : ∀ a, ¬ A a → ∀ j, a ∉ go (pickO ks own) j := fun a n j hj => n (inA a ⟨j, hj⟩)
    have gl : ∀ k, go (own ++ own'.drop ks.length) k = if k < own.length then go own k else go own' (ks.length + (k - own.length)) := fun k => by rw [go_app, go_drop]
    have newA : ∀ j a, ks.length ≤ j → a ∈ go own' j → H a = none := fun j a hj ha => by
      rcases fo j a ha with ⟨i, hi⟩ | z
      · by_cases hi' : i < ks.length
        · rw [go_pickO ks own i _ (nthN_get ks i hi'), ← gs i hi'] at hi
          have := O.dj _ _ a hi ha
          omega
        · rw [go_ge _ _ (by rw [pickO_length]; omega)] at hi; cases hi
      · exact z
    have u : Up A own H A' (own ++ own'.drop ks.length) H' := ⟨fun a o n q => ⟨fr a o (notOwn a n) q, fun z => by
        rcases li a z with z | z
        · exact n z
        · rw [z] at q; cases q⟩, fun k a r q => by
        rw [gl]
        by_cases hk : k < own.length
        · rw [if_pos hk]; exact q
        · rw [go_ge _ _ (by omega)] at q; cases q⟩
    have pl : (putM ks ms' s.ms).length = own.length := by rw [putM_length, R.ol]
    have ml : ∀ k, gm (putM ks ms' s.ms ++ ms'.drop ks.length) k = if k < own.length then gm (putM ks ms' s.ms) k else gm ms' (ks.length + (k - own.length)) := fun k => by rw [gm_app, pl, gm_drop]
    have oms : own'.length = ms'.length := O.ol
    refine k A' (own ++ own'.drop ks.length) H' v { s with ms := putM ks ms' s.ms ++ ms'.drop ks.length } (bkE ks s.ms.length x) ⟨⟨?_, fun j => ?_, fun i j a h1 h2 => ?_, fun i => ?_, fun i a h1 => ?_, O.al⟩, R.len, fun i => (R.sl i).imp id fun ⟨v, q, r⟩ => ⟨v, q, r.up u⟩, fun a q => ge a (R.ge a q), fun a o n q => ?_, fun i a h1 => ?_, ?_, ?_, fun a q => ?_, R.a0⟩ u ?_ hk
    · rw [List.length_append, List.length_append, List.length_drop, List.length_drop, pl, oms]
    · rw [gl, ml]
      by_cases hj : j < own.length
      · rw [if_pos hj, if_pos hj]
        by_cases hm : j ∈ ks
        · obtain ⟨i, hi⟩ := List.getElem?_of_mem hm
          have hil := (List.getElem?_eq_some_iff.mp hi).1
          have e1 : nthN ks i = j := by
            have := nthN_get ks i hil
            rw [hi] at this; exact (Option.some.inj this).symm
          rw [gm_putM ks ms' s.ms i j nd hi (by omega) (kl i j hi), ← e1, ← gs i hil]
          exact (O.mr i).plain (allP_gm _ _ hap (by omega))
        · rw [gm_putM_not ks ms' s.ms j hm]
          refine (R.mr j).up u fun a o ha q => fr a o (fun i hi => ?_) q
          by_cases hi' : i < ks.length
          · rw [go_pickO ks own i _ (nthN_get ks i hi')] at hi
            have := R.dj _ _ a ha hi
            exact hm (by rw [this]; exact List.mem_of_getElem? (nthN_get ks i hi'))
          · rw [go_ge _ _ (by rw [pickO_length]; omega)] at hi; cases hi
      · rw [if_neg hj, if_neg hj]
        by_cases hl : ks.length + (j - own.length) < ms'.length
        · exact (O.mr _).plain (allP_gm _ _ hap hl)
        · rw [gm_ge _ _ (by omega)]; trivial
    · rw [gl] at h1 h2
      by_cases hi : i < own.length
      · rw [if_pos hi] at h1
        by_cases hj : j < own.length
        · rw [if_pos hj] at h2; exact R.dj _ _ a h1 h2
        · rw [if_neg hj] at h2
          exact absurd (newA _ a (by omega) h2) (R.al a (R.oa _ _ h1))
      · rw [if_neg hi] at h1
        by_cases hj : j < own.length
        · rw [if_pos hj] at h2
          exact absurd (newA _ a (by omega) h1) (R.al a (R.oa _ _ h2))
        · rw [if_neg hj] at h2
          have := O.dj _ _ a h1 h2
          omega
    · rw [gl]
      split
      · exact R.ld _
      · exact O.ld _
    · rw [gl] at h1
      split at h1
      · exact ge a (R.oa _ _ h1)
      · exact O.oa _ _ h1
    · refine fr a o (fun i hi => ?_) (R.fr a o n q)
      by_cases hi' : i < ks.length
      · rw [go_pickO ks own i _ (nthN_get ks i hi')] at hi
        rcases R.fo _ a hi with ⟨j, z⟩ | z
        · exact n j z
        · rw [z] at q; cases q
      · rw [go_ge _ _ (by rw [pickO_length]; omega)] at hi; cases hi
    · rw [gl] at h1
      split at h1
      · exact R.fo _ a h1
      · exact .inr (R.fresh0 (newA _ a (by omega) h1))
    · rw [List.take_append_of_le_length R.npl]; exact R.pre
    · rw [List.length_append]; have := R.npl; show s.np ≤ _; omega
    · rcases li a q with z | z
      · exact R.lim a z
      · exact .inr (R.fresh0 z)
    · cases x with
      | no => trivial
      | da d => exact ex
      | mu j =>
        obtain ⟨a, r, e1, e2⟩ := ex
        show ER K A' (own ++ own'.drop ks.length) H' v (bif Nat.blt j ks.length then .mu (nthN ks j) else .mu (s.ms.length + (j - ks.length)))
        by_cases hj : j < ks.length
        · rw [show Nat.blt j ks.length = true from by simpa using hj]
          refine ⟨a, r, ?_, e2⟩
          have hl := kl j _ (nthN_get ks j hj)
          rw [gl, if_pos (by rw [R.ol]; exact hl), ← gs j hj]; exact e1
        · rw [show Nat.blt j ks.length = false from Bool.eq_false_iff.mpr fun z => hj (by simpa using z)]
          refine ⟨a, r, ?_, e2⟩
          rw [gl, ← R.ol, if_neg (by omega), show ks.length + (own.length + (j - ks.length) - own.length) = j by omega]; exact e1
section
open PySem.Spec PyProof.Rows
/-! ### promises of defs that are called with no builtin at work that watches for itself -/
structure FnOkG (P : Program) (w : World) (K : PySem.W.Frag) (mg : Str → Option Value) (base : Heap) (CX : CXT) (k : Nat) (f : Addr) (fd : FuncData) (ps : List Str) (sp : L2.Sp) : Prop where
  len : ∀ vs H Q E, sp vs H Q E → vs.length = ps.length
  run : ∀ (A : Around) (outer : List Env) (s : Shared) (H : Hp) (args : Args) (us : List Value) (vs : List V) (Q : VK) (E : XK), Room k A → A.guards = some [] → Env0 P w K mg base A outer s H → BindsTo s fd args (ps.zip us) → Vals vs us → sp vs H Q E →
    codeAny (model P w) A (.call (.ref f) args) (CR CX outer P w H s Q E) s
section
variable {P : Program} {w : World} {K : PySem.W.Frag} {mg : Str → Option Value} {base : Heap} {CX : CXT} {k : Nat} {f : Addr} {fd : FuncData} {ps : List Str} {sp : L2.Sp}
theorem FnOk.toG (F : FnOk P w K mg base CX k f fd ps sp) : FnOkG P w K mg base CX k f fd ps sp := ⟨F.len, fun A outer s H args us vs Q E hr _ e0 hb hv hs => F.run A outer s H args us vs Q E hr e0 hb hv hs⟩
theorem FnOkG.mono {j : Nat} (F : FnOkG P w K mg base CX j f fd ps sp) (h : j ≤ k) : FnOkG P w K mg base CX k f fd ps sp := ⟨F.len, fun A outer s H args us vs Q E hr => F.run A outer s H args us vs Q E (hr.mono h)⟩
end
/-- a def by its body -/
theorem fn_byG {CX : CXT} {P : Program} {w : World} {K : PySem.W.Frag} {mg : Str → Option Value} {base : Heap} {k : Nat} {f : Addr} {name qual : Str} {params : Arguments} {body : List Stmt} {scope : Scope} {dV kV doc pm cdv ct oc : Value} {an od : Option Addr}
    {osl : Array (Option Value)} {N ps : List Str} {sp : L2.Sp} (lk : K.lookup f = some ⟨oc, od, .func (PySem.W.fnOf name qual params body scope dV kV doc pm an cdv ct), osl⟩) (hcd : PySem.W.codeIn K cdv qual = true) (S : FnScope N ps scope)
    (len : ∀ vs H Q E, sp vs H Q E → vs.length = ps.length)
    (hb : ∀ (A : Around) (outer : List Env) (s : Shared) (H : Hp) (vs : List V) (Q : VK) (E : XK), Room k (A.deeper (PyProof.Rows.envOfC qual scope s.heap.objs.size f cdv)) → A.guards = some [] → sp vs H Q E →
      ∃ t, PSs (cxOf CX P w K mg base N qual scope f cdv A outer s H E) body t ∧ t { nx := fun _ H' => Q .non H', rt := Q } (start N vs) H) :
    FnOkG P w K mg base CX (k + 1) f (PySem.W.fnOf name qual params body scope dV kV doc pm an cdv ct) ps sp := by
  constructor
  · exact len
  · intro A outer s H args us vs Q E hr hg e0 hbi hv hs
    obtain ⟨t, ht, hq⟩ := hb A outer s H vs Q E (hr.deeper _) hg hs
    have n1 := len _ _ _ _ hs
    have kin : K.In s.heap := e0.mod.kin.keeps fun b o e => (e0.bs b o e).1
    have nol : s.heap.NoLimit := e0.mod.nolimit.keeps fun b o e => (e0.bs b o e).1
    have loc : ∀ z ∈ ps.zip us, scope.names.lookup z.1 = some .local ∨ (scope.names.lookup z.1 = some .cell ∧ ((cellsFrom (s.heap.objs.size + 1) scope.names []).lookup z.1).isSome = true) := fun ⟨x, v⟩ hz =>
      (S.par x (List.of_mem_zip hz).1).imp id fun q => ⟨q, PySem.W.cellsFrom_some _ _ _ (.inl q)⟩
    refine codeAny_call_function hr.depth (kin _ _ lk) rfl S.co S.gen rfl (PySem.W.codeRec_of kin hcd) (hbi _ _ _ _ (wpAny_newFunctionEnv_cells S.kind loc fun env he s1 x => ?_))
    cases he
    refine ⟨nol.keeps x.toInCall.keep, codeAny_func (wpAny_mono (ht.run [] s1 (start N vs) H _ (inv_start S hr.hd e0 n1 hv x) hq) (fun fl s' q => ?_) fun _ _ q => q)⟩
    match fl, q with
    | .ret u, ⟨v, σ', H', J, rv, q⟩ => exact ⟨v, H', J.os, J.bare, J.base, J.hok, rv, q⟩
    | .next, ⟨σ', H', J, q⟩ => exact ⟨V.non, H', J.os, J.bare, J.base, J.hok, rfl, q⟩
    | .brk, ⟨_, _, _, q⟩ => exact False.elim q
    | .cont, ⟨_, _, _, q⟩ => exact False.elim q
/-- the law's call, from an abstract heap H that tracks at most the script -/
theorem law_coreG {P : Program} {w : World} {K : PySem.W.Frag} {mg mb : Str → Option Value} {CX : CXT} {k : Nat} {fa a : Addr} {fd : FuncData} {x : Str} {sp : L2.Sp} {s : Shared} {vs : List Value} {H : Hp}
    (kin : K.In s.heap) (ng : s.heap.Ns mainGlobals mg) (nb : s.heap.Ns builtinsNs mb) (hbb : ∀ x : Str, x ≠ "__name__" → mb x = bootBuiltins x) (nol : s.heap.NoLimit) (hg : s.gens = #[])
    (ha : s.heap.get? a = some { cls := .type "list", data := .seq vs.toArray }) (hr : Room k callerA)
    (F : ∀ base : Heap, K.In base → base.Ns mainGlobals mg → FnOkG P w K mg base CX k fa fd [x] sp) (hbi : ∀ (s : Shared) (u : Value), BindsTo s fd ⟨[u], []⟩ [(x, u)])
    (hO : Only H) (hs : sp [.ref a] H (fun v _ => v = .bl true) fun _ _ _ => False) (hok : HOk P w H s.heap) (hA : ∀ b, H b ≠ none → b = a) (hK : H a ≠ none → K.lookup a = none)
    (hCX : ∀ H e s', CX [] H s (fun _ _ _ => False) e s' → False) :
    codeAny (model P w) callerA (.call (.ref fa) ⟨[.ref a], []⟩) (fun r s' => r = .ok (.ret (.bool true)) ∧ OldK s.heap s'.heap ∧ s'.os = s.os ∧ AllBare s'.gens) s := by
  have free : ∀ b, b ≠ a → H b = none := fun b hb => by
    cases q : H b with
    | none => rfl
    | some u => exact absurd (hA b (by rw [q]; simp)) hb
  have ns : ∀ {b : Addr} {m : Str → Option Value}, s.heap.Ns b m → (hidT s.heap H).Ns b m := fun {b m} ⟨o, es, ep, e, d, r⟩ => by
    have hb : b ≠ a := fun z => by
      subst z
      rw [ha] at e
      cases e
      exact nomatch (show Data.seq vs.toArray _ = Data.dict es ep from d)
    exact ⟨o, es, ep, hidT_get e (free b hb), d, r⟩
  have kb : K.In (hidT s.heap H) := fun b o e => hidT_get (kin b o e) (by
    by_cases hb : b = a
    · subst hb
      cases q : H b with
      | none => rfl
      | some u => rw [hK (by rw [q]; simp)] at e; cases e
    · exact free b hb)
  obtain ⟨mc, l1, l2⟩ := nol
  have e0 : Env0 P w K mg (hidT s.heap H) callerA [] s H := ⟨rfl, ⟨kb, ns ng, ⟨mb, ns nb, hbb⟩, mc, ns l1, l2⟩, fun b o e => of_hidT e, Nat.le_of_eq (hidT_size _ _), trivial, (fun b hb => absurd (show b ∈ ([] : List Addr) from hb) (by simp)), hok, .of_eq hg⟩
  refine codeAny_mono ((F _ kb (ns ng)).run callerA [] s H ⟨[.ref a], []⟩ [.ref a] [.ref a] _ _ hr rfl e0 (hbi s (.ref a)) (.cons rfl .nil) hs) fun r s' h => ?_
  match r, h with
  | .error e, h => exact (hCX H e s' h).elim
  | .ok .next, h => exact False.elim h
  | .ok .brk, h => exact False.elim h
  | .ok .cont, h => exact False.elim h
  | .ok (.ret u), ⟨v, H', os, bare, un, hok', rv, q⟩ =>
    cases (show v = .bl true from q)
    obtain rfl : u = Value.bool true := rv
    refine ⟨rfl, OldK.of_keep fun b o e => ?_, os, bare⟩
    cases q : H b with
    | none => exact un.keep b o e q (fun z => absurd (show b ∈ ([] : List Addr) from z) (by simp)) (by simp)
    | some u =>
      rcases hO b with z | ⟨ob, xs, z⟩
      · rw [q] at z; cases z
      · obtain ⟨e1, _⟩ := hok b _ z
        obtain ⟨e2, _⟩ := hok' b _ (un.frzs b ob _ z)
        rw [e] at e1; cases e1
        exact e2
theorem law_callG {P : Program} {w : World} {K : PySem.W.Frag} {mg mb : Str → Option Value} {CX : CXT} {k : Nat} {fa a : Addr} {fd : FuncData} {x : Str} {sp : L2.Sp} {s : Shared} {vs : List Value} {is : List Int}
    (kin : K.In s.heap) (ng : s.heap.Ns mainGlobals mg) (nb : s.heap.Ns builtinsNs mb) (hbb : ∀ x : Str, x ≠ "__name__" → mb x = bootBuiltins x) (nol : s.heap.NoLimit) (hg : s.gens = #[])
    (ha : s.heap.get? a = some { cls := .type "list", data := .seq vs.toArray }) (hi : IntsAre vs is) (hl : is.length ≤ sizeLine) (hr : Room k callerA)
    (F : ∀ base : Heap, K.In base → base.Ns mainGlobals mg → FnOkG P w K mg base CX k fa fd [x] sp) (hbi : ∀ (s : Shared) (u : Value), BindsTo s fd ⟨[u], []⟩ [(x, u)])
    (hs : ∀ H : Hp, Only H → SqL K H a (is.map V.int) → sp [.ref a] H (fun v _ => v = .bl true) fun _ _ _ => False) (hCX : ∀ H e s', CX [] H s (fun _ _ _ => False) e s' → False) :
    codeAny (model P w) callerA (.call (.ref fa) ⟨[.ref a], []⟩) (fun r s' => r = .ok (.ret (.bool true)) ∧ OldK s.heap s'.heap ∧ s'.os = s.os ∧ AllBare s'.gens) s := by
  have rv := vals_ints hi
  have hsz : vs.length = is.length := hi.length
  cases hk : K.lookup a with
  | some o =>
    have e := kin a o hk
    rw [ha] at e
    cases e
    refine law_coreG kin ng nb hbb nol hg ha hr F hbi (H := fun _ => none) (fun _ => .inl rfl) (hs _ (fun _ => .inl rfl) (.inr ⟨_, vs.toArray, _, hk, rfl, rfl, rfl, by rw [List.size_toArray, hsz]; exact hl, by simpa using rv⟩)) (fun b u z => nomatch (show (none : Option HO) = some u from z)) (fun b z => absurd rfl z) (fun z => absurd rfl z) hCX
  | none =>
    have hO : Only (fun b => if b = a then some (.frz { cls := .type "list", data := .seq vs.toArray } (.lst (is.map V.int))) else none) := fun b => by
      by_cases hb : b = a
      · exact .inr ⟨_, _, if_pos hb⟩
      · exact .inl (if_neg hb)
    refine law_coreG kin ng nb hbb nol hg ha hr F hbi hO (hs _ hO (.inl (.inr ⟨{ cls := .type "list", data := .seq vs.toArray }, if_pos rfl⟩))) (fun b u z => ?_) (fun b z => Classical.byContradiction fun hb => z (if_neg hb)) (fun _ => hk) hCX
    by_cases hb : b = a
    · subst hb
      cases (if_pos rfl).symm.trans z
      exact ⟨ha, by rw [List.length_map]; exact hl, vs, _, rv, ha⟩
    · exact nomatch (if_neg hb).symm.trans z
theorem walk_byG {l : PySem.W.OpenLaw} {n k : Nat} {q : Program} {loose : List Str} {XP : (Str → Option Value) → Heap → Prop} {YP : World → Heap → Prop} {d : DefRec} {K : Params → PySem.W.Frag} {CX : World → CXT} {sp : World → L2.Sp} {x : Str}
    (hn : l.most = some n) (hn2 : n ≤ sizeLine) (hdf : d.params.defaults = []) (hr : Room k callerA) (hY : ∀ (w : World) (h : Heap), YP w h → (K w.params).In h)
    (F : ∀ (w : World) (mg : Str → Option Value) (fa : Addr) (h : Heap), (K w.params).In h → h.Ns mainGlobals mg → mg d.name = some (.ref fa) →
      ∃ fd : FuncData, (∀ (s : Shared) (u : Value), BindsTo s fd ⟨[u], []⟩ [(x, u)]) ∧ ∀ base : Heap, (K w.params).In base → base.Ns mainGlobals mg → FnOkG l.prog w (K w.params) mg base (CX w) k fa fd [x] (sp w))
    (hs : ∀ (w : World) (H : Hp) (a : Addr) (ns : List Int), ns.length ≤ n → Only H → SqL (K w.params) H a (ns.map V.int) → sp w [.ref a] H (fun v _ => v = .bl true) fun _ _ _ => False)
    (hCX : ∀ (w : World) (H : Hp) (s : Shared) (e : Value) (s' : Shared), CX w [] H s (fun _ _ _ => False) e s' → False) :
    PySem.W.WalkO q loose XP YP l.row.toRowW d [] (fun f vs => PySem.call f vs) := by
  refine Att.attach_call hn hdf fun w _ s₁ mg _ fa _ _ _ _ a _ ns G Y _ _ _ hmg hobj hints hlen hg => ?_
  have kin := hY w _ Y
  obtain ⟨fd, hb, hF⟩ := F w mg fa _ kin G.T.g hmg
  exact law_callG kin G.T.g G.T.b G.T.builtins G.T.nolimit hg hobj hints (Nat.le_trans hlen hn2) hr hF hb (fun H hO hS => hs w H a ns hlen hO hS) fun H e s' => hCX w H s₁ e s'
section
variable {X : L2.Cx} {k : Nat} {f : Addr} {fd : FuncData} {ps : List Str} {sp : L2.Sp} {CX : CXT} {ds : List Value} {dvs : List V} {E : XK} {x : Str} {p pos : Pos} {e : Expr} {es : List Expr} {t : TA}
theorem pe_callG (F : FnOkG X.prog X.w X.K X.mg X.base CX k f fd ps sp) (hr : Room k X.A) (hgd : X.A.guards = some []) (hg : Gl X x) (hm : X.mg x = some (.ref f)) (hk : PySem.W.keepIn X.K (.ref f) = true) (hb : Binds X.K fd ps ds) (hd : Vals dvs ds) (hx : Passes CX X E)
    (ha : PA X (e :: es) t) (hdb : (x == ("__debug__" : Str)) = false := by decide) (he : starEach (e :: es) X.env = (false, eval e X.env) :: starEach es X.env := by rfl) (hpl : (backTo pos (starEach es X.env)).any (·.1) = false := by rfl) :
    PE X (.Call (.Name x p) (e :: es) [] pos) (tCall sp dvs E t) := by
  refine ⟨fun pins s σ H Q I h => wpAny_Call_Name_kw (ld_glob I hg hm ?_ hdb)⟩
  refine PySem.W.callWith_K (h₀ := X.base) I.ok.mod.kin hk (thn (ha.run pos pins s σ H _ I h) fun us s1 ⟨vs, H1, I1, r, q⟩ => ⟨I1.kIn, ?_⟩) he hpl
  have r2 : Vals (vs ++ dvs) (us ++ ds) := r.append hd
  have hl : (us ++ ds).length = ps.length := by rw [← r2.length]; exact F.len _ _ _ _ q
  refine wpAny_call (codeAny_mono (F.run X.A X.stack s1 H1 ⟨us, []⟩ (us ++ ds) (vs ++ dvs) Q E hr hgd I1.env0 (hb s1 us I1.kIn hl) r2 q) fun r s' hq => ?_)
  match r, hq with
  | .error e, hq => exact hx pins σ H1 s1 e s' I1 hq
  | .ok (.ret u), hq => exact I1.after hq
  | .ok .next, hq => exact False.elim hq
  | .ok .brk, hq => exact False.elim hq
  | .ok .cont, hq => exact False.elim hq
end
structure RoomG (k : Nat) (A : Around) : Prop where
  r : Room k A
  g : A.guards = some []
theorem RoomG.mono {j k : Nat} {A : Around} (r : RoomG k A) (h : j ≤ k) : RoomG j A := ⟨r.r.mono h, r.g⟩
section
variable {K : PySem.W.Frag} {P : Program} {w : World} {mg : Str → Option Value} {base : Heap}
theorem fun_okG {x qual : Str} {st : Stmt} {f : Addr} {fd : FuncData} {N ps : List Str} {k : Nat} {sp : L2.Sp} (F : Fun K x qual st f fd) (S : FnScope N ps (defScope st)) (len : ∀ vs H Q E, sp vs H Q E → vs.length = ps.length)
    (hb : ∀ (cdv : Value) (A : Around) (outer : List Env) (s : Shared) (H : Hp) (vs : List V) (Q : VK) (E : XK), RoomG k (A.deeper (PyProof.Rows.envOfC qual (defScope st) s.heap.objs.size f cdv)) → sp vs H Q E →
      ∃ t, PSs (cxOf CX0 P w K mg base N qual (defScope st) f cdv A outer s H E).nox (defBody st) t ∧ t { nx := fun _ H' => Q .non H', rt := Q } (start N vs) H) : FnOkG P w K mg base CX0 (k + 1) f fd ps sp := by
  obtain ⟨oc, od, kV, doc, pm, an, cdv, ct, osl, rfl, lk, hcd⟩ := F.ex
  refine fn_byG lk hcd S len fun A outer s H vs Q E hr hg hs => ?_
  obtain ⟨t, h, q⟩ := hb cdv A outer s H vs Q E ⟨hr, hg⟩ hs
  exact ⟨t, h.nox, q⟩
end
end
section
variable {X : Cx} {e : Expr} {es : List Expr} {wr : WA}
theorem de_call {k : Nat} {f : Addr} {fd : FuncData} {ps : List Str} {sp : SpD} {x : Str} {p pos : Pos} (ks : List Nat) {n : Nat} (F : FnOkG X.prog X.w X.K X.mg X.base CX0 k f fd ps (spOf X.K n sp)) (hr : RoomG k X.A) (hg : Gl X x) (hm : X.mg x = some (.ref f)) (hk : PySem.W.keepIn X.K (.ref f) = true) (hb : Binds X.K fd ps [])
    (ha : DAn X (e :: es) n wr) (nd : ks.Nodup := by decide) (hdb : (x == ("__debug__" : Str)) = false := by decide) (he : starEach (e :: es) X.env = (false, eval e X.env) :: starEach es X.env := by rfl) (hpl : (backTo pos (starEach es X.env)).any (·.1) = false := by rfl) :
    DE X (.Call (.Name x p) (e :: es) [] pos) (dCall (CallW sp ks) wr) := by
  obtain ⟨ta, pa, qa⟩ := ha.ex
  refine ⟨_, pe_callG F hr.r hr.g hg hm hk hb .nil (pass0 (X := X)) pa hdb he hpl, fun b A own H σ s Ks Q R h kk => ?_⟩
  show ta σ H fun vs H1 => spOf X.K n sp (vs ++ []) H1 Q E0
  refine qa _ _ _ _ _ _ _ _ R h fun A1 o1 H1 vs s1 xs R1 U1 E1 h1 => ?_
  rw [List.append_nil]
  exact callW_run nd (E1.len.trans h1.1) R1 E1 h1.2 (kk.up U1)
end
end DL
namespace DL
open PySem L2
/-! ### forgetting, and fixing -/
def limE (m : Nat) : En → En
  | .mu k => bif Nat.blt k m then .mu k else .no
  | x => x
def limF (m : Nat) : List (Str × En) → List (Str × En)
  | [] => []
  | (f, x) :: r => (f, limE m x) :: limF m r
def limM (m : Nat) : MO → MO
  | .ins C fs => .ins C (limF m fs)
  | x => x
def limL (m : Nat) : List En → List En
  | [] => []
  | x :: r => limE m x :: limL m r
def takM (m : Nat) : Nat → List MO → List MO
  | 0, _ => []
  | _ + 1, [] => []
  | n + 1, x :: r => limM m x :: takM m n r
def killL : List Nat → List En → List En
  | [], es => es
  | i :: is, es => st (killL is es) i .no
def clS (kl : List Nat) (m : Nat) (s : S) : S := ⟨killL kl (limL m s.es), takM m m s.ms, s.np⟩
theorem limL_length (m : Nat) : ∀ l : List En, (limL m l).length = l.length
  | [] => rfl
  | _ :: r => congrArg (· + 1) (limL_length m r)
theorem killL_length : ∀ (kl : List Nat) (l : List En), (killL kl l).length = l.length
  | [], _ => rfl
  | i :: is, l => by show (st (killL is l) i .no).length = _; rw [st_length, killL_length is l]
theorem gt_limL (m : Nat) : ∀ (l : List En) (i : Nat), gt (limL m l) i = limE m (gt l i)
  | [], _ => rfl
  | _ :: _, 0 => rfl
  | _ :: r, i + 1 => gt_limL m r i
theorem gt_killL : ∀ (kl : List Nat) (l : List En) (i : Nat), gt (killL kl l) i = .no ∨ (i ∉ kl ∧ gt (killL kl l) i = gt l i)
  | [], _, _ => .inr ⟨by simp, rfl⟩
  | j :: js, l, i => by
    show gt (st (killL js l) j .no) i = .no ∨ _
    rw [show killL (j :: js) l = st (killL js l) j .no from rfl, gt_st]
    split
    · exact .inl rfl
    · rename_i h
      rcases gt_killL js l i with q | ⟨q1, q2⟩
      · exact .inl q
      · by_cases e : j = i
        · subst e
          have : ¬ j < (killL js l).length := fun z => h ⟨rfl, z⟩
          exact .inl (gt_ge _ _ (by omega))
        · exact .inr ⟨fun z => (List.mem_cons.mp z).elim (fun z => e z.symm) q1, q2⟩
theorem takM_length (m : Nat) : ∀ (n : Nat) (l : List MO), (takM m n l).length = min n l.length
  | 0, _ => by simp [takM]
  | n + 1, [] => by simp [takM]
  | n + 1, x :: r => by simp [takM, takM_length m n r]
theorem gm_takM (m : Nat) : ∀ (n : Nat) (l : List MO) (i : Nat), gm (takM m n l) i = if i < n then limM m (gm l i) else .gone
  | 0, _, i => by simp [takM, gm]
  | n + 1, [], i => by simp [takM, gm, limM]
  | n + 1, x :: r, 0 => by simp [takM, gm]
  | n + 1, x :: r, i + 1 => by
    show gm (takM m n r) i = _
    rw [gm_takM m n r i]
    simp [gm]
section
variable {K : PySem.W.Frag} {b : Bd} {A : Addr → Prop} {own : List (List Addr)} {H : Hp} {σ : L2.St} {s : S}
theorem ER.lim {v : V} {x : En} {m : Nat} (h : ER K A own H v x) : ER K A (own.take m) H v (limE m x) := by
  cases x with
  | no => trivial
  | da d => exact h
  | mu k =>
    show ER K A (own.take m) H v (bif Nat.blt k m then .mu k else .no)
    by_cases q : k < m
    · rw [show Nat.blt k m = true from by simpa using q]
      obtain ⟨a, r, e1, e2⟩ := h
      exact ⟨a, r, by rw [go_take, if_pos q]; exact e1, e2⟩
    · rw [show Nat.blt k m = false from Bool.eq_false_iff.mpr fun z => q (by simpa using z)]
      trivial
theorem RKE.lim {m : Nat} : ∀ {ws : List (Str × V)} {fs : List (Str × En)}, RKE K A own H ws fs → RKE K A (own.take m) H ws (limF m fs)
  | [], [], _ => trivial
  | _ :: _, (_, _) :: _, ⟨e, h, t⟩ => ⟨e, h.lim, RKE.lim t⟩
theorem MR.lim {l : List Addr} {x : MO} {m : Nat} (h : MR K A own H l x) : MR K A (own.take m) H l (limM m x) := by
  cases x with
  | gone => trivial
  | lst ds => exact h
  | dct kvs => exact h
  | rnd n => exact h
  | box n => exact h
  | tab n => exact h
  | ins C fs =>
    obtain ⟨a, r, ws, rfl, h1, h3⟩ := h
    exact ⟨a, r, ws, rfl, h1, h3.lim⟩
theorem Own.take {ms : List MO} (o : Own K A own H ms) (m : Nat) : Own K A (own.take m) H (takM m m ms) := by
  refine ⟨by rw [List.length_take, takM_length, o.ol], fun k => ?_, fun k j a h1 h2 => ?_, fun k => ?_, fun k a h1 => ?_, o.al⟩
  · rw [go_take, gm_takM]
    split
    · exact (o.mr k).lim
    · trivial
  · rw [go_take] at h1 h2
    split at h1
    · split at h2
      · exact o.dj k j a h1 h2
      · cases h2
    · cases h1
  · rw [go_take]
    split
    · exact o.ld k
    · exact List.nodup_nil
  · rw [go_take] at h1
    split at h1
    · exact o.oa k a h1
    · cases h1
theorem Rel.cl (r : Rel K b A own H σ s) (kl : List Nat) (m : Nat) (hm : s.np ≤ m) : Rel K b A (own.take m) H σ (clS kl m s) := by
  refine ⟨r.toOwn.take m, by show _ = (killL kl (limL m s.es)).length; rw [killL_length, limL_length]; exact r.len, fun i => ?_, r.ge, r.fr, fun k a h => ?_, ?_, ?_, r.lim, r.a0⟩
  · show gt (killL kl (limL m s.es)) i = .no ∨ ∃ v, σ[i]? = some (some v) ∧ ER K A (own.take m) H v (gt (killL kl (limL m s.es)) i)
    rcases gt_killL kl (limL m s.es) i with q | ⟨_, q⟩
    · exact .inl q
    · rw [q, gt_limL]
      rcases r.sl i with z | ⟨v, e, h⟩
      · rw [z]; exact .inl rfl
      · exact .inr ⟨v, e, h.lim⟩
  · rw [go_take] at h
    split at h
    · exact r.fo k a h
    · cases h
  · rw [List.take_take, show min (clS kl m s).np m = s.np from Nat.min_eq_left hm]; exact r.pre
  · rw [List.length_take]; have := r.npl; show s.np ≤ _; omega
/-- slots killed, the others' objects kept: for other slots -/
theorem Rel.slots {σ' : L2.St} {es' : List En} (r : Rel K b A own H σ s) (hl : σ'.length = es'.length) (h : ∀ i, gt es' i = .no ∨ ∃ v, σ'[i]? = some (some v) ∧ ER K A own H v (gt es' i)) : Rel K b A own H σ' { s with es := es' } :=
  { r with len := hl, sl := h }
/-! #### an object that changed is data from here on -/
def subE (k : Nat) (d : D) : En → En
  | .mu j => bif Nat.beq j k then .da d else .mu j
  | x => x
def subF (k : Nat) (d : D) : List (Str × En) → List (Str × En)
  | [] => []
  | (f, x) :: r => (f, subE k d x) :: subF k d r
def subM (k : Nat) (d : D) : MO → MO
  | .ins C fs => .ins C (subF k d fs)
  | x => x
def subL (k : Nat) (d : D) : List En → List En
  | [] => []
  | x :: r => subE k d x :: subL k d r
def subS (k : Nat) (d : D) : List MO → List MO
  | [] => []
  | x :: r => subM k d x :: subS k d r
theorem subL_length (k : Nat) (d : D) : ∀ l : List En, (subL k d l).length = l.length
  | [] => rfl
  | _ :: r => congrArg (· + 1) (subL_length k d r)
theorem subS_length (k : Nat) (d : D) : ∀ l : List MO, (subS k d l).length = l.length
  | [] => rfl
  | _ :: r => congrArg (· + 1) (subS_length k d r)
theorem gt_subL (k : Nat) (d : D) : ∀ (l : List En) (i : Nat), gt (subL k d l) i = subE k d (gt l i)
  | [], _ => rfl
  | _ :: _, 0 => rfl
  | _ :: r, i + 1 => gt_subL k d r i
theorem gm_subS (k : Nat) (d : D) : ∀ (l : List MO) (i : Nat), gm (subS k d l) i = subM k d (gm l i)
  | [], _ => rfl
  | _ :: _, 0 => rfl
  | _ :: r, i + 1 => gm_subS k d r i
def so : List (List Addr) → Nat → List (List Addr)
  | [], _ => []
  | _ :: r, 0 => [] :: r
  | x :: r, i + 1 => x :: so r i
theorem so_length : ∀ (l : List (List Addr)) (i : Nat), (so l i).length = l.length
  | [], _ => rfl
  | _ :: _, 0 => rfl
  | _ :: r, i + 1 => congrArg (· + 1) (so_length r i)
theorem go_so : ∀ (l : List (List Addr)) (i j : Nat), go (so l i) j = if i = j then [] else go l j
  | [], i, j => by simp [so, go]
  | x :: r, 0, 0 => by simp [so, go]
  | x :: r, 0, j + 1 => by simp [so, go]
  | x :: r, i + 1, 0 => by simp [so, go]
  | x :: r, i + 1, j + 1 => by
    show go (so r i) j = _
    rw [go_so r i j]
    simp [go]
theorem take_so : ∀ (l : List (List Addr)) (i n : Nat), n ≤ i → (so l i).take n = l.take n
  | [], _, _, _ => rfl
  | x :: r, i, 0, _ => by simp
  | x :: r, 0, n + 1, h => by omega
  | x :: r, i + 1, n + 1, h => by
    show x :: (so r i).take n = x :: r.take n
    rw [take_so r i n (by omega)]
def frzS (k : Nat) (ds : List D) (s : S) : S := ⟨subL k (.list ds) s.es, sm (subS k (.list ds) s.ms) k .gone, s.np⟩
theorem Rel.frz (r : Rel K b A own H σ s) {k : Nat} {ds : List D} (g : gm s.ms k = .lst ds) (hk : s.np ≤ k) :
    Rel K b (fun a => A a ∧ a ∉ go own k) (so own k) H σ (frzS k ds s) ∧ Kp A H (fun a => A a ∧ a ∉ go own k) H ∧ ∀ v, ER K A own H v (.mu k) → Rp K (fun a => A a ∧ a ∉ go own k) H v (.list ds) := by
  have kp : Kp A H (fun a => A a ∧ a ∉ go own k) H := fun a u n q => ⟨q, fun z => n z.1⟩
  have m := r.mr k
  rw [g] at m
  obtain ⟨p, vs, e1, e2, e3⟩ := m
  have rp : Rp K (fun a => A a ∧ a ∉ go own k) H (.ref p) (.list ds) := .lst ⟨e2, fun z => z.2 (by rw [e1]; simp)⟩ (RpL.mono kp e3)
  have er : ∀ {v : V} {x : En}, ER K A own H v x → ER K (fun a => A a ∧ a ∉ go own k) (so own k) H v (subE k (.list ds) x) := by
    intro v x h
    cases x with
    | no => trivial
    | da d => exact Rp.mono kp h
    | mu j =>
      obtain ⟨a, q, f1, f2⟩ := h
      show ER K _ _ H v (bif Nat.beq j k then .da (.list ds) else .mu j)
      by_cases e : j = k
      · subst e
        rw [show Nat.beq j j = true from by simp]
        rw [e1] at f1; cases f1; subst f2; exact rp
      · rw [show Nat.beq j k = false from Bool.eq_false_iff.mpr fun z => e (by simpa using z)]
        exact ⟨a, q, by rw [go_so, if_neg (Ne.symm e)]; exact f1, f2⟩
  have rke : ∀ {ws : List (Str × V)} {fs : List (Str × En)}, RKE K A own H ws fs → RKE K (fun a => A a ∧ a ∉ go own k) (so own k) H ws (subF k (.list ds) fs) := by
    intro ws fs
    induction fs generalizing ws with
    | nil => intro h; cases ws with
      | nil => trivial
      | cons _ _ => exact h.elim
    | cons x xs ih => intro h; cases ws with
      | nil => exact h.elim
      | cons w ws => exact ⟨h.1, er h.2.1, ih h.2.2⟩
  refine ⟨⟨⟨?_, fun j => ?_, fun i j a h1 h2 => ?_, fun i => ?_, fun i a h1 => ?_, fun a h => r.al a h.1⟩, ?_, fun i => ?_, fun a h => ?_, r.fr, fun i a h1 => ?_, ?_, ?_, fun a h => r.lim a h.1, r.a0⟩, kp, fun v h => ?_⟩
  · show (so own k).length = (sm (subS k (.list ds) s.ms) k .gone).length
    rw [so_length, sm_length, subS_length]; exact r.ol
  · show MR K _ (so own k) H (go (so own k) j) (gm (sm (subS k (.list ds) s.ms) k .gone) j)
    rw [gm_sm, go_so]
    by_cases e : k = j
    · subst e
      have : k < s.ms.length := gm_lt (by rw [g]; intro z; cases z)
      rw [if_pos rfl, if_pos ⟨rfl, by rw [subS_length]; exact this⟩]; trivial
    · rw [if_neg e, if_neg (fun z => e z.1), gm_subS]
      have mj := r.mr j
      cases q : gm s.ms j with
      | gone => trivial
      | lst ds' => rw [q] at mj; obtain ⟨a, vs, h1, h2, h3⟩ := mj; exact ⟨a, vs, h1, h2, RpL.mono kp h3⟩
      | dct ds' => rw [q] at mj; obtain ⟨a, vs, h1, h2, h3⟩ := mj; exact ⟨a, vs, h1, h2, h3.up kp⟩
      | rnd n => rw [q] at mj; exact mj
      | box n => rw [q] at mj; exact mj
      | tab n =>
        rw [q] at mj
        obtain ⟨P, c, h1, hc, ps, h2, h3, h4⟩ := mj
        refine ⟨P, c, h1, hc, ps, h2, h3, fun pos cv e => ?_⟩
        obtain ⟨c', e1, e2, e3⟩ := h4 pos cv e
        exact ⟨c', e1, e2, fun z => e3 z.1⟩
      | ins C fs => rw [q] at mj; obtain ⟨a, dx, ws, h1, h2, h4⟩ := mj; exact ⟨a, dx, ws, h1, h2, rke h4⟩
  · rw [go_so] at h1 h2
    split at h1
    · cases h1
    · split at h2
      · cases h2
      · exact r.dj i j a h1 h2
  · rw [go_so]
    split
    · exact List.nodup_nil
    · exact r.ld i
  · rw [go_so] at h1
    split at h1
    · cases h1
    · rename_i ne
      exact ⟨r.oa i a h1, fun z => ne (r.dj k i a z h1)⟩
  · show σ.length = (subL k (.list ds) s.es).length
    rw [subL_length]; exact r.len
  · show gt (subL k (.list ds) s.es) i = .no ∨ ∃ v, σ[i]? = some (some v) ∧ ER K _ (so own k) H v (gt (subL k (.list ds) s.es) i)
    rw [gt_subL]
    rcases r.sl i with z | ⟨v, e, h⟩
    · rw [z]; exact .inl rfl
    · exact .inr ⟨v, e, er h⟩
  · refine ⟨r.ge a h, fun z => ?_⟩
    rcases r.fo k a z with ⟨j, q⟩ | q
    · rw [← r.pre, go_take] at q
      split at q
      · have := r.dj k j a z q; omega
      · cases q
    · exact r.a0 a h q
  · rw [go_so] at h1
    split at h1
    · cases h1
    · exact r.fo i a h1
  · show (so own k).take s.np = b.own0
    rw [take_so own k s.np hk]; exact r.pre
  · rw [so_length]; exact r.npl
  · obtain ⟨a, q, f1, rfl⟩ := h
    rw [e1] at f1; cases f1; exact rp
end
end DL
namespace DL
open PySem L2
section
variable {X : Cx} {a b c e : Expr} {wa wb wc we : WE} {pos : Pos} {es : List Expr} {wr : WA} {wt : WT} {sts : List Stmt} {w u : WS}
/-! ### blocks -/
def sNil : WS := fun s D => D.nx s
def sSeq (w u : WS) : WS := fun s D => w s { D with nx := fun s1 => u s1 D }
theorem Kp.refl' {A : Addr → Prop} {H : Hp} : Kp A H A H := Kp.refl
theorem dss_nil : DSs X [] sNil := ⟨_, pss_nil, fun b A own H σ s D E R h m => m.nx _ _ _ _ _ R Kp.refl h⟩
theorem dss_cons {st : Stmt} (h1 : DS X st w) (h2 : DSs X sts u) : DSs X (st :: sts) (sSeq w u) := by
  obtain ⟨t1, p1, q1⟩ := h1.ex
  obtain ⟨t2, p2, q2⟩ := h2.ex
  refine ⟨_, pss_cons p1 p2, fun b A own H σ s D E R h m => ?_⟩
  show t1 { E with nx := t2 E } σ H
  exact q1 _ _ _ _ _ _ _ _ R h ⟨fun A' o' H' σ' s' R' k h' => q2 _ _ _ _ _ _ _ _ R' h' (m.up k), m.rt, m.bk, m.ct⟩
theorem dss_one {st : Stmt} (h1 : DS X st w) : DSs X [st] w := by
  obtain ⟨t1, p1, q1⟩ := h1.ex
  exact ⟨_, pss_one p1, q1⟩
/-- a list that has changed is data from here on -/
def frzW (k : Nat) (s : S) (K : S → Prop) : Prop := match gm s.ms k with | .lst ds => s.np ≤ k ∧ K (frzS k ds s) | _ => False
def sFrz (k : Nat) (w : WS) : WS := fun s D => frzW k s fun s1 => w s1 D
theorem dss_frz (k : Nat) (h : DSs X sts w) : DSs X sts (sFrz k w) := by
  obtain ⟨t, p, q⟩ := h.ex
  refine ⟨t, p, fun b A own H σ s D E R h m => ?_⟩
  unfold sFrz frzW at h
  split at h
  · rename_i ds g
    obtain ⟨R1, k1, _⟩ := R.frz g h.1
    exact q _ _ _ _ _ _ _ _ R1 h.2 (m.up k1)
  · exact h.elim
/-- forgetting -/
def sCl (kl : List Nat) (m : Nat) (w : WS) : WS := fun s D => s.np ≤ m ∧ w (clS kl m s) D
theorem dss_cl (kl : List Nat) (m : Nat) (h : DSs X sts w) : DSs X sts (sCl kl m w) := by
  obtain ⟨t, p, q⟩ := h.ex
  exact ⟨t, p, fun b A own H σ s D E R h m' => q _ _ _ _ _ _ _ _ (R.cl kl m h.1) h.2 m'⟩
/-- a word of one's own between statements -/
def sCut (kl : List Nat) (m : Nat) (w u : WS) : WS := fun s D => ∃ M : S → Prop, w s { D with nx := fun s1 => s1.np ≤ m ∧ M (clS kl m s1) } ∧ ∀ s1, M s1 → u s1 D
theorem dss_cut {st : Stmt} (kl : List Nat) (m : Nat) (h1 : DS X st w) (h2 : DSs X sts u) : DSs X (st :: sts) (sCut kl m w u) := by
  obtain ⟨t1, p1, q1⟩ := h1.ex
  obtain ⟨t2, p2, q2⟩ := h2.ex
  refine ⟨_, pss_cons p1 p2, fun b A own H σ s D E R h mt => ?_⟩
  obtain ⟨M, h1, h2⟩ := h
  show t1 { E with nx := t2 E } σ H
  exact q1 _ _ _ _ _ _ _ _ R h1 ⟨fun A' o' H' σ' s' R' k h' => q2 _ _ _ _ _ _ _ _ (R'.cl kl m h'.1) (h2 _ h'.2) (mt.up k), mt.rt, mt.bk, mt.ct⟩
/-! ### statements -/
def sAsg (we : WE) (wg : WG) : WS := fun s D => we s fun s1 x => wg x s1 D.nx
theorem asg_run {te : TE} {g : TG} {js : List Nat} {wg : WG} (qe : ∀ (b : Bd) (A : Addr → Prop) (own : List (List Addr)) (H : Hp) (σ : L2.St) (s : S) (Ks : S → En → Prop) (Q : VK), Rel X.K b A own H σ s → we s Ks → PostE X.K b A own H σ Ks Q → te σ H Q)
    (qg : ∀ (b : Bd) (A : Addr → Prop) (own : List (List Addr)) (H : Hp) (σ : L2.St) (s : S) (v : V) (x : En) (Ks : S → Prop) (Q : L2.St → Hp → Prop), Rel X.K b A own H σ s → ER X.K A own H v x → wg x s Ks → PostG X.K b A own H σ js Ks Q → g v σ H Q)
    (b : Bd) (A : Addr → Prop) (own : List (List Addr)) (H : Hp) (σ : L2.St) (s : S) (D : Dn) (E : Ends) (R : Rel X.K b A own H σ s) (h : sAsg we wg s D) (m : Mt X.K b A H D E) : tAsg te g E σ H := by
  show te σ H fun x H1 => g x σ H1 E.nx
  refine qe _ _ _ _ _ _ _ _ R h fun A1 o1 H1 v1 s1 x1 R1 U1 E1 h1 => ?_
  exact qg _ _ _ _ _ _ _ _ _ _ R1 E1 h1 fun A2 o2 H2 σ2 s2 R2 U2 _ h2 => m.nx _ _ _ _ _ R2 (U1.trans U2).kp h2
theorem ds_asg {tg : Expr} {js : List Nat} {wg : WG} (he : DE X e we) (hg : DG X tg js wg) (hs : swapsWithSole [tg] e pos.line X.env = pure false := by rfl) (hw : swappedStores [tg] e X.env = pure none := by rfl)
    (h1 : (assignEach [tg] X.env).map (·.2) = [assign tg X.env] := by rfl) : DS X (.Assign [tg] e pos) (sAsg we wg) := by
  obtain ⟨te, pe, qe⟩ := he.ex
  obtain ⟨g, pg, qg⟩ := hg.ex
  exact ⟨_, ps_asg pe pg hs hw h1, asg_run qe qg⟩
theorem gN_run (i : Nat) (b : Bd) (A : Addr → Prop) (own : List (List Addr)) (H : Hp) (σ : L2.St) (s : S) (v : V) (x : En) (Ks : S → Prop) (Q : L2.St → Hp → Prop) (R : Rel X.K b A own H σ s) (E : ER X.K A own H v x) (h : gN i x s Ks) (k : PostG X.K b A own H σ [i] Ks Q) : gName i v σ H Q :=
  k _ _ _ _ _ (R.slot E) Up.refl ⟨List.length_set .., fun j n => List.getElem?_set_ne (fun z => n (by simp [z]))⟩ h
theorem ds_set {i : Nat} {x : Str} {pos' : Pos} (hN : X.N.Nodup) (hi : X.N[i]? = some x) (hx : Loc X.env.scope x) (he : DE X e we) (hs : swapsWith e (some (.Name x pos')) pos.line X.env = pure false := by rfl) (hf : X.fn x = true ∨ X.env.scope.names.lookup x = some .local := by first | exact .inl rfl | exact .inr rfl | assumption) :
    DS X (.Assign [.Name x pos'] e pos) (sAsg we (gN i)) := by
  obtain ⟨te, pe, qe⟩ := he.ex
  exact ⟨_, ps_set hN hi hx pe hs hf, asg_run qe (gN_run i)⟩
def sPar (i j : Nat) (wr : WA) : WS := fun s D => wr s fun s1 xs => a2 xs fun x y => D.nx ((s1.sE i x).sE j y)
theorem ds_par {i j : Nat} {x y : Str} {px py pt : Pos} {kt k2 pt2} (hc : X.calm = true) (hN : X.N.Nodup) (hi : X.N[i]? = some x) (hj : X.N[j]? = some y) (hij : i ≠ j)
    (hx : X.env.scope.names.lookup x = some .local) (hy : X.env.scope.names.lookup y = some .local) (ha : DA X [a, b] wr)
    (hw : swappedStores [.Tuple [.Name x px, .Name y py] kt pt] (.Tuple [a, b] k2 pt2) X.env = pure (some [x, y]))
    (hs : swapsWithSole [.Tuple [.Name x px, .Name y py] kt pt] (.Tuple [a, b] k2 pt2) pos.line X.env = pure false := by rfl) :
    DS X (.Assign [.Tuple [.Name x px, .Name y py] kt pt] (.Tuple [a, b] k2 pt2) pos) (sPar i j wr) := by
  obtain ⟨ta, pa, qa⟩ := ha.ex
  refine ⟨_, ps_par hc hN hi hj hij hx hy pa hw hs, fun b A own H σ s D E R h m => ?_⟩
  show ta σ H fun vs H1 => ∃ v w, vs = [v, w] ∧ E.nx ((σ.set i (some v)).set j (some w)) H1
  refine qa _ _ _ _ _ _ _ _ R h fun A1 o1 H1 vs s1 xs R1 U1 E1 h1 => ?_
  obtain ⟨v, w, x, y, rfl, e1, e2, h1⟩ := a2_inv E1 h1
  exact ⟨v, w, rfl, m.nx _ _ _ _ _ ((R1.slot e1).slot e2) U1.kp h1⟩
def a3 (xs : List En) (k : En → En → En → Prop) : Prop := match xs with | [x, y, z] => k x y z | _ => False
theorem a3_inv {K : PySem.W.Frag} {A : Addr → Prop} {own : List (List Addr)} {H : Hp} {vs : List V} {xs : List En} {k : En → En → En → Prop} (e : ERL K A own H vs xs) (h : a3 xs k) : ∃ v u w x y z, vs = [v, u, w] ∧ ER K A own H v x ∧ ER K A own H u y ∧ ER K A own H w z ∧ k x y z := by
  unfold a3 at h
  split at h
  · match vs, e with
    | [v, u, w], ⟨e1, e2, e3, _⟩ => exact ⟨v, u, w, _, _, _, rfl, e1, e2, e3, h⟩
  · exact h.elim
def sPar3 (i j l : Nat) (wr : WA) : WS := fun s D => wr s fun s1 xs => a3 xs fun x y z => D.nx (((s1.sE i x).sE j y).sE l z)
theorem ds_par3 {i j l : Nat} {x y z : Str} {px py pz pt : Pos} {kt k2 pt2} (hc : X.calm = true) (hN : X.N.Nodup) (hi : X.N[i]? = some x) (hj : X.N[j]? = some y) (hl : X.N[l]? = some z) (hij : i ≠ j) (hil : i ≠ l) (hjl : j ≠ l)
    (hx : X.env.scope.names.lookup x = some .local) (hy : X.env.scope.names.lookup y = some .local) (hz : X.env.scope.names.lookup z = some .local) (ha : DA X [a, b, c] wr)
    (hw : swappedStores [.Tuple [.Name x px, .Name y py, .Name z pz] kt pt] (.Tuple [a, b, c] k2 pt2) X.env = pure (some [x, y, z]))
    (hs : swapsWithSole [.Tuple [.Name x px, .Name y py, .Name z pz] kt pt] (.Tuple [a, b, c] k2 pt2) pos.line X.env = pure false := by rfl) :
    DS X (.Assign [.Tuple [.Name x px, .Name y py, .Name z pz] kt pt] (.Tuple [a, b, c] k2 pt2) pos) (sPar3 i j l wr) := by
  obtain ⟨ta, pa, qa⟩ := ha.ex
  refine ⟨_, ps_par3 hc hN hi hj hl hij hil hjl hx hy hz pa hw hs, fun b A own H σ s D E R h m => ?_⟩
  show ta σ H fun vs H1 => ∃ u v w, vs = [u, v, w] ∧ E.nx (((σ.set i (some u)).set j (some v)).set l (some w)) H1
  refine qa _ _ _ _ _ _ _ _ R h fun A1 o1 H1 vs s1 xs R1 U1 E1 h1 => ?_
  obtain ⟨v, u, w, x, y, z, rfl, e1, e2, e3, h1⟩ := a3_inv E1 h1
  exact ⟨v, u, w, rfl, m.nx _ _ _ _ _ (((R1.slot e1).slot e2).slot e3) U1.kp h1⟩
def sAug (i : Nat) (we : WE) (rd : S → En → En → (S → En → Prop) → Prop) : WS := fun s D => onE (gt s.es i) fun x => we s fun s1 y => rd s1 x y fun s2 z => D.nx (s2.sE i z)
theorem ds_aug {i : Nat} {x : Str} {op : Operator} {r : R2} {rd} {pos' : Pos} (hN : X.N.Nodup) (hi : X.N[i]? = some x) (hx : Loc X.env.scope x) (he : DE X e we) (ho : OpR X (inplaceOp op) r) (hd : OpD X.K r rd) (hf : X.fn x = true ∨ X.env.scope.names.lookup x = some .local := by first | exact .inl rfl | exact .inr rfl | assumption) :
    DS X (.AugAssign (.Name x pos') op e pos) (sAug i we rd) := by
  obtain ⟨te, pe, qe⟩ := he.ex
  refine ⟨_, ps_aug hN hi hx pe ho hf, fun b A own H σ s D E R h m => ?_⟩
  show ∃ x, σ[i]? = some (some x) ∧ te σ H fun y H1 => r x y H1 fun z H2 => E.nx (σ.set i (some z)) H2
  obtain ⟨n, h⟩ := onE_inv h
  rcases R.sl i with z | ⟨v, e, q⟩
  · exact (n z).elim
  refine ⟨v, e, ?_⟩
  refine qe _ _ _ _ _ _ _ _ R h fun A1 o1 H1 v1 s1 x1 R1 U1 E1 h1 => ?_
  exact hd _ _ _ _ _ _ _ _ _ _ _ _ R1 (q.up U1) E1 h1 fun A2 o2 H2 v2 s2 x2 R2 U2 E2 h2 => m.nx _ _ _ _ _ (R2.slot E2) (U1.trans U2).kp h2
def sAugAdd (i : Nat) (we : WE) : WS := sAug i we fun s x y Ks => iI x y fun i j => Ks s (.da (.int (i + j)))
def sAugSub (i : Nat) (we : WE) : WS := sAug i we fun s x y Ks => iI x y fun i j => Ks s (.da (.int (i - j)))
theorem ds_augAdd {i : Nat} {x : Str} {pos' : Pos} (hN : X.N.Nodup) (hi : X.N[i]? = some x) (hx : Loc X.env.scope x) (he : DE X e we) (hf : X.fn x = true ∨ X.env.scope.names.lookup x = some .local := by first | exact .inl rfl | exact .inr rfl | assumption) : DS X (.AugAssign (.Name x pos') .Add e pos) (sAugAdd i we) := ds_aug hN hi hx he iop_add opd_int0 hf
theorem ds_augSub {i : Nat} {x : Str} {pos' : Pos} (hN : X.N.Nodup) (hi : X.N[i]? = some x) (hx : Loc X.env.scope x) (he : DE X e we) (hf : X.fn x = true ∨ X.env.scope.names.lookup x = some .local := by first | exact .inl rfl | exact .inr rfl | assumption) : DS X (.AugAssign (.Name x pos') .Sub e pos) (sAugSub i we) := ds_aug hN hi hx he iop_sub opd_int0 hf
def sExp (we : WE) : WS := fun s D => we s fun s1 _ => D.nx s1
theorem ds_exp (he : DE X e we) (hs : swapsWith e none pos.line X.env = pure false := by rfl) : DS X (.Expr e pos) (sExp we) := by
  obtain ⟨te, pe, qe⟩ := he.ex
  exact ⟨_, ps_expr pe hs, fun b A own H σ s D E R h m => qe _ _ _ _ _ _ _ _ R h fun A1 o1 H1 v1 s1 x1 R1 U1 E1 h1 => m.nx _ _ _ _ _ R1 U1.kp h1⟩
def sRet (we : WE) : WS := fun s D => we s D.rt
theorem ds_ret (he : DE X e we) : DS X (.Return (some e) pos) (sRet we) := by
  obtain ⟨te, pe, qe⟩ := he.ex
  exact ⟨_, ps_ret pe, fun b A own H σ s D E R h m => qe _ _ _ _ _ _ _ _ R h fun A1 o1 H1 v1 s1 x1 R1 U1 E1 h1 => m.rt _ _ _ _ _ _ _ R1 U1.kp E1 h1⟩
def sRetN : WS := fun s D => D.rt s (.da .none)
theorem ds_retN : DS X (.Return none pos) sRetN := ⟨_, ps_retN, fun b A own H σ s D E R h m => m.rt _ _ _ _ _ _ (.da .none) R Kp.refl .non h⟩
theorem ds_pass : DS X (.Pass pos) sNil := ⟨_, ps_pass, fun b A own H σ s D E R h m => m.nx _ _ _ _ _ R Kp.refl h⟩
def sBrk : WS := fun s D => D.bk s
def sCnt : WS := fun s D => D.ct s
theorem ds_break : DS X (.Break pos) sBrk := ⟨_, ps_break, fun b A own H σ s D E R h m => m.bk _ _ _ _ _ R Kp.refl h⟩
theorem ds_continue : DS X (.Continue pos) sCnt := ⟨_, ps_continue, fun b A own H σ s D E R h m => m.ct _ _ _ _ _ R Kp.refl h⟩
def sIf (wt : WT) (w u : WS) : WS := fun s D => wt s fun s1 c => (c = true → w s1 D) ∧ (c = false → u s1 D)
theorem ds_if {sts2 : List Stmt} (hc : DT X c wt) (ha : DSs X sts w) (hb : DSs X sts2 u) : DS X (.If c sts sts2 pos) (sIf wt w u) := by
  obtain ⟨tc, pc, qc⟩ := hc.ex
  obtain ⟨ta, pa, qa⟩ := ha.ex
  obtain ⟨tb, pb, qb⟩ := hb.ex
  refine ⟨_, ps_if pc pa pb, fun b A own H σ s D E R h m => ?_⟩
  show tc σ H fun b H1 => if b = true then ta E σ H1 else tb E σ H1
  refine qc _ _ _ _ _ _ _ _ R h fun A1 o1 H1 s1 c R1 U1 h1 => ?_
  cases c with
  | true => rw [if_pos rfl]; exact qa _ _ _ _ _ _ _ _ R1 (h1.1 rfl) (m.up U1.kp)
  | false => rw [if_neg (by decide)]; exact qb _ _ _ _ _ _ _ _ R1 (h1.2 rfl) (m.up U1.kp)
/-! ### what a for walks -/
/-- J walks the data ds from here on -/
def Wk (K : PySem.W.Frag) (b : Bd) (J : It) (ds : List D) (A : Addr → Prop) (H : Hp) : Prop := ∀ (A1 : Addr → Prop) (H1 : Hp), Kp A H A1 H1 → ∀ i, (ds.length ≤ i → J.stop i H1) ∧ (∀ d, ds[i]? = some d → J.go i H1 ∧
  ∀ x H2, J.yld i H1 x H2 → ∀ (own1 : List (List Addr)) (σ : L2.St) (s : S), Rel K b A1 own1 H1 σ s → Rel K b A1 own1 H2 σ s ∧ Up A1 own1 H1 A1 own1 H2 ∧ Rp K A1 H2 x d)
abbrev WI := S → (S → List D → Prop) → Prop
def PostI (K : PySem.W.Frag) (b : Bd) (A : Addr → Prop) (own : List (List Addr)) (H : Hp) (σ : L2.St) (Ks : S → List D → Prop) (Q : It → Hp → Prop) : Prop := ∀ (A' : Addr → Prop) (own' : List (List Addr)) (H' : Hp) (s' : S) (ds : List D) (J : It), Rel K b A' own' H' σ s' → Up A own H A' own' H' → Wk K b J ds A' H' → Ks s' ds → Q J H'
structure DI (X : Cx) (tg e : Expr) (w : WI) : Prop where
  ex : ∃ t, PI X tg e t ∧ ∀ (b : Bd) (A : Addr → Prop) (own : List (List Addr)) (H : Hp) (σ : L2.St) (s : S) (Ks : S → List D → Prop) (Q : It → Hp → Prop), Rel X.K b A own H σ s → w s Ks → PostI X.K b A own H σ Ks Q → t σ H Q
variable {tg : Expr}
def iLst (we : WE) : WI := fun s Ks => we s fun s1 x => daI x fun d => match d with | .list ds => Ks s1 ds | _ => False
def iTpl (we : WE) : WI := fun s Ks => we s fun s1 x => daI x fun d => match d with | .tuple ds => Ks s1 ds | _ => False
theorem wk_list {K : PySem.W.Frag} {b : Bd} {a : Addr} {vs : List V} {ds : List D} {A : Addr → Prop} {H : Hp} (l : LsR A H a vs) (r : RpL K A H vs ds) : Wk K b (Itl K a) ds A H := by
  intro A1 H1 kp i
  have l1 : LsR A1 H1 a vs := kp _ _ l.2 l.1
  have r1 : RpL K A1 H1 vs ds := RpL.mono kp r
  refine ⟨fun hi => ⟨vs, l1.sq, by rw [r1.length]; exact hi⟩, fun d hd => ?_⟩
  obtain ⟨x, hx, rx⟩ := r1.get hd
  refine ⟨⟨vs, x, l1.sq, hx⟩, fun y H2 hy own1 σ s R => ?_⟩
  obtain ⟨rfl, hy⟩ := hy
  have := hy vs l1.sq
  rw [hx] at this
  cases this
  exact ⟨R, Up.refl, rx⟩
theorem wk_tup {K : PySem.W.Frag} {b : Bd} {a : Addr} {vs : List V} {ds : List D} {A : Addr → Prop} {H : Hp} (l : TuR K A H a vs) (r : RpL K A H vs ds) : Wk K b (Itt K a) ds A H := by
  intro A1 H1 kp i
  have l1 : TuR K A1 H1 a vs := l.elim (fun q => .inl (kp _ _ q.2 q.1)) .inr
  have r1 : RpL K A1 H1 vs ds := RpL.mono kp r
  refine ⟨fun hi => ⟨vs, l1.sq, by rw [r1.length]; exact hi⟩, fun d hd => ?_⟩
  obtain ⟨x, hx, rx⟩ := r1.get hd
  refine ⟨⟨vs, x, l1.sq, hx⟩, fun y H2 hy own1 σ s R => ?_⟩
  obtain ⟨rfl, hy⟩ := hy
  have := hy vs l1.sq
  rw [hx] at this
  cases this
  exact ⟨R, Up.refl, rx⟩
theorem di_list (he : DE X e we) : DI X tg e (iLst we) := by
  obtain ⟨te, pe, qe⟩ := he.ex
  refine ⟨_, pi_list pe, fun b A own H σ s Ks Q R h k => ?_⟩
  show te σ H fun x H1 => ∃ a, x = .ref a ∧ (∃ xs, SqL X.K H1 a xs) ∧ Q (Itl X.K a) H1
  refine qe _ _ _ _ _ _ _ _ R h fun A1 o1 H1 v1 s1 x1 R1 U1 E1 h1 => ?_
  obtain ⟨d, rfl, h2⟩ := daI_inv h1
  clear h1
  have h1 := h2
  clear h2
  split at h1
  · cases (show Rp X.K A1 H1 v1 _ from E1) with
    | lst l r => exact ⟨_, rfl, ⟨_, l.sq⟩, k _ _ _ _ _ _ R1 U1 (wk_list l r) h1⟩
  · exact h1.elim
theorem di_tup (he : DE X e we) : DI X tg e (iTpl we) := by
  obtain ⟨te, pe, qe⟩ := he.ex
  refine ⟨_, pi_tup pe, fun b A own H σ s Ks Q R h k => ?_⟩
  show te σ H fun x H1 => ∃ a, x = .ref a ∧ (∃ xs, SqT X.K H1 a xs) ∧ Q (Itt X.K a) H1
  refine qe _ _ _ _ _ _ _ _ R h fun A1 o1 H1 v1 s1 x1 R1 U1 E1 h1 => ?_
  obtain ⟨d, rfl, h2⟩ := daI_inv h1
  clear h1
  have h1 := h2
  clear h2
  split at h1
  · cases (show Rp X.K A1 H1 v1 _ from E1) with
    | tup l r => exact ⟨_, rfl, ⟨_, l.sq⟩, k _ _ _ _ _ _ R1 U1 (wk_tup l r) h1⟩
  · exact h1.elim
/-- lo, lo + 1, .. -/
def rng (lo : Int) (n : Nat) : List D := (List.range n).map fun (i : Nat) => PyData.int (lo + (i : Int))
theorem rng_length (lo : Int) (n : Nat) : (rng lo n).length = n := by simp [rng]
theorem rng_get {lo : Int} {n i : Nat} {d : D} (h : (rng lo n)[i]? = some d) : i < n ∧ d = .int (lo + (i : Int)) := by
  unfold rng at h
  rw [List.getElem?_map] at h
  by_cases q : i < n
  · rw [List.getElem?_range q] at h
    cases h
    exact ⟨q, rfl⟩
  · rw [List.getElem?_eq_none (by simpa using q)] at h
    cases h
theorem wk_rng {K : PySem.W.Frag} {b : Bd} {lo : Int} {n : Nat} {A : Addr → Prop} {H : Hp} : Wk K b (Itr lo n) (rng lo n) A H := by
  intro A1 H1 kp i
  refine ⟨fun hi => by rw [rng_length] at hi; exact hi, fun d hd => ?_⟩
  obtain ⟨h1, rfl⟩ := rng_get hd
  refine ⟨h1, fun y H2 hy own1 σ s R => ?_⟩
  obtain ⟨rfl, rfl⟩ := hy
  exact ⟨R, Up.refl, .int _⟩
def iR1 (wr : WA) : WI := fun s Ks => wr s fun s1 xs => a1 xs fun x => i1 x fun n => -(2 ^ 62) ≤ n ∧ n < 2 ^ 62 ∧ Ks s1 (rng 0 n.toNat)
def iR2 (wr : WA) : WI := fun s Ks => wr s fun s1 xs => a2 xs fun x y => iI x y fun i j => (-(2 ^ 62) ≤ i ∧ i < 2 ^ 62 ∧ -(2 ^ 62) ≤ j ∧ j < 2 ^ 62) ∧ Ks s1 (rng i (j - i).toNat)
theorem di_range1 {p : Pos} (hg : Gl X "range") (hm : X.mg "range" = none) (ha : DA X [a] wr) (hs : starEach [a] X.env = [(false, eval a X.env)] := by rfl) : DI X tg (.Call (.Name "range" p) [a] [] pos) (iR1 wr) := by
  obtain ⟨ta, pa, qa⟩ := ha.ex
  refine ⟨_, pi_range1 hg hm pa hs, fun b A own H σ s Ks Q R h k => ?_⟩
  show ta σ H fun vs H1 => ∃ j : Int, vs = [.int j] ∧ -(2 ^ 62) ≤ j ∧ j < 2 ^ 62 ∧ Q (Itr 0 j.toNat) H1
  refine qa _ _ _ _ _ _ _ _ R h fun A1 o1 H1 vs s1 xs R1 U1 E1 h1 => ?_
  obtain ⟨v, x, rfl, e1, h1⟩ := a1_inv E1 h1
  obtain ⟨n, rfl, b1, b2, h1⟩ := i1_inv h1
  cases e1
  exact ⟨n, rfl, b1, b2, k _ _ _ _ _ _ R1 U1 wk_rng h1⟩
theorem di_range2 {p : Pos} (hg : Gl X "range") (hm : X.mg "range" = none) (ha : DA X [a, b] wr) (hs : starEach [a, b] X.env = [(false, eval a X.env), (false, eval b X.env)] := by rfl) (hs2 : starEach [b] X.env = [(false, eval b X.env)] := by rfl) : DI X tg (.Call (.Name "range" p) [a, b] [] pos) (iR2 wr) := by
  obtain ⟨ta, pa, qa⟩ := ha.ex
  refine ⟨_, pi_range2 hg hm pa hs hs2, fun b A own H σ s Ks Q R h k => ?_⟩
  show ta σ H fun vs H1 => ∃ i j : Int, vs = [.int i, .int j] ∧ (-(2 ^ 62) ≤ i ∧ i < 2 ^ 62 ∧ -(2 ^ 62) ≤ j ∧ j < 2 ^ 62) ∧ Q (Itr i (j - i).toNat) H1
  refine qa _ _ _ _ _ _ _ _ R h fun A1 o1 H1 vs s1 xs R1 U1 E1 h1 => ?_
  obtain ⟨v, u, x, y, rfl, e1, e2, h1⟩ := a2_inv E1 h1
  obtain ⟨i, j, rfl, rfl, b1, h1⟩ := iI_inv h1
  cases e1; cases e2
  exact ⟨i, j, rfl, b1, k _ _ _ _ _ _ R1 U1 wk_rng h1⟩
/-- signs of a text -/
def sgs (z : Str) : List D := z.cps.toList.map fun c => PyData.str ⟨#[c]⟩
def iSgs (we : WE) : WI := fun s Ks => we s fun s1 x => daI x fun d => match d with | .str z => Ks s1 (sgs z) | _ => False
theorem di_str (he : DE X e we) : DI X tg e (iSgs we) := by
  obtain ⟨te, pe, qe⟩ := he.ex
  refine ⟨_, pi_str pe, fun b A own H σ s Ks Q R h k => ?_⟩
  show te σ H fun v H1 => ∃ x, v = .str x ∧ Q (Its x) H1
  refine qe _ _ _ _ _ _ _ _ R h fun A1 o1 H1 v1 s1 x1 R1 U1 E1 h1 => ?_
  obtain ⟨d, rfl, h2⟩ := daI_inv h1
  clear h1
  have h1 := h2
  clear h2
  split at h1
  · rename_i z
    cases (show Rp X.K A1 H1 v1 _ from E1)
    refine ⟨z, rfl, k _ _ _ _ _ _ R1 U1 ?_ h1⟩
    intro A2 H2 kp i
    refine ⟨fun hi => ?_, fun d hd => ?_⟩
    · show z.cps.size ≤ i
      have : (sgs z).length = z.cps.size := by simp [sgs]
      omega
    · unfold sgs at hd
      rw [List.getElem?_map] at hd
      cases q : z.cps.toList[i]? with
      | none => rw [q] at hd; cases hd
      | some c =>
        rw [q] at hd; cases hd
        have q' : z.cps[i]? = some c := by rw [← q]; simp
        refine ⟨(Array.getElem?_eq_some_iff.mp q').1, fun y H3 hy own1 σ s R => ?_⟩
        obtain ⟨rfl, c', e1, rfl⟩ := hy
        rw [q'] at e1; cases e1
        exact ⟨R, Up.refl, .str _⟩
  · exact h1.elim
/-- zip of two lists, of two tuples; enumerate -/
def zipD : List D → List D → List D
  | x :: xs, y :: ys => .tuple [x, y] :: zipD xs ys
  | _, _ => []
theorem zipD_get : ∀ {xs ys : List D} {i : Nat} {d : D}, (zipD xs ys)[i]? = some d → ∃ x y, xs[i]? = some x ∧ ys[i]? = some y ∧ d = .tuple [x, y]
  | [], _, _, _, h => by simp [zipD] at h
  | _ :: _, [], _, _, h => by simp [zipD] at h
  | x :: xs, y :: ys, 0, d, h => ⟨x, y, rfl, rfl, by simp [zipD] at h; exact h.symm⟩
  | x :: xs, y :: ys, i + 1, d, h => by
    obtain ⟨x', y', h1, h2, h3⟩ := zipD_get (xs := xs) (ys := ys) (i := i) (by simpa [zipD] using h)
    exact ⟨x', y', by simpa using h1, by simpa using h2, h3⟩
theorem zipD_length : ∀ (xs ys : List D), (zipD xs ys).length = min xs.length ys.length
  | [], _ => by simp [zipD]
  | _ :: _, [] => by simp [zipD]
  | x :: xs, y :: ys => by simp [zipD, zipD_length xs ys]
def iZip (wr : WA) : WI := fun s Ks => wr s fun s1 xs => da2' xs fun d e => match d, e with | .list ds, .list es => Ks s1 (zipD ds es) | .tuple ds, .tuple es => Ks s1 (zipD ds es) | _, _ => False
where da2' (xs : List En) (k : D → D → Prop) : Prop := a2 xs fun x y => da2 x y k
theorem wk_new {K : PySem.W.Frag} {b : Bd} {A1 : Addr → Prop} {H1 : Hp} {T : Addr} {vs : List V} {ds : List D} (hT : H1 T = none) (r : RpL K A1 H1 vs ds) (own1 : List (List Addr)) (σ : L2.St) (s : S) (R : Rel K b A1 own1 H1 σ s) :
    Rel K b A1 own1 (upd H1 T (.tup vs)) σ s ∧ Up A1 own1 H1 A1 own1 (upd H1 T (.tup vs)) ∧ Rp K A1 (upd H1 T (.tup vs)) (.ref T) (.tuple ds) := by
  obtain ⟨R1, U1⟩ := R.new (o := .tup vs) hT
  exact ⟨R1, U1, .tup (.inl ⟨upd_same, R.freshA hT⟩) (RpL.mono U1.kp r)⟩
theorem di_zip {p tpos : Pos} {elts : List Expr} {kk : Nat} (hg : Gl X "zip") (hm : X.mg "zip" = none) (ha : DA X [a, b] wr)
    (hs : starEach [a, b] X.env = (false, eval a X.env) :: starEach [b] X.env := by rfl) (hpl : (backTo pos (starEach [b] X.env)).any (·.1) = false := by rfl) :
    DI X (.Tuple elts kk tpos) (.Call (.Name "zip" p) [a, b] [] pos) (iZip wr) := by
  obtain ⟨ta, pa, qa⟩ := ha.ex
  refine ⟨_, RZ.pi_zipA hg hm pa hs hpl, fun b A own H σ s Ks Q R h k => ?_⟩
  show ta σ H fun vs H1 => ∃ a b xs ys, vs = [.ref a, .ref b] ∧ ((SqL X.K H1 a xs ∧ SqL X.K H1 b ys ∧ Q (Itz X.K a b) H1) ∨ (SqT X.K H1 a xs ∧ SqT X.K H1 b ys ∧ Q (RZ.ItzT X.K a b) H1))
  refine qa _ _ _ _ _ _ _ _ R h fun A1 o1 H1 vs s1 xs R1 U1 E1 h1 => ?_
  obtain ⟨v, u, x, y, rfl, e1, e2, h1⟩ := a2_inv E1 h1
  obtain ⟨d, e, rfl, rfl, h2⟩ := da2_inv h1
  clear h1
  have h1 := h2
  clear h2
  split at h1
  · rename_i ds es
    cases (show Rp X.K A1 H1 v _ from e1) with
    | lst l r => cases (show Rp X.K A1 H1 u _ from e2) with
      | lst l' r' =>
        refine ⟨_, _, _, _, rfl, .inl ⟨l.sq, l'.sq, k _ _ _ _ _ _ R1 U1 ?_ h1⟩⟩
        intro A2 H2 kp i
        have l2 : LsR A2 H2 _ _ := kp _ _ l.2 l.1
        have l3 : LsR A2 H2 _ _ := kp _ _ l'.2 l'.1
        have r2 := RpL.mono kp r
        have r3 := RpL.mono kp r'
        refine ⟨fun hi => ⟨_, _, l2.sq, l3.sq, by rw [r2.length, r3.length]; rw [zipD_length] at hi; omega⟩, fun d hd => ?_⟩
        obtain ⟨x, y, hx, hy, rfl⟩ := zipD_get hd
        obtain ⟨vx, gx, rx⟩ := r2.get hx
        obtain ⟨vy, gy, ry⟩ := r3.get hy
        refine ⟨⟨_, _, vx, vy, l2.sq, l3.sq, gx, gy⟩, fun z H3 hz own1 σ s R => ?_⟩
        obtain ⟨T, x', y', rfl, hT, rfl, f1, f2⟩ := hz
        have f1 := f1 _ l2.sq
        have f2 := f2 _ l3.sq
        rw [gx] at f1; rw [gy] at f2
        cases f1; cases f2
        exact wk_new hT (.cons rx (.cons ry .nil)) own1 σ s R
  · rename_i ds es
    cases (show Rp X.K A1 H1 v _ from e1) with
    | tup l r => cases (show Rp X.K A1 H1 u _ from e2) with
      | tup l' r' =>
        refine ⟨_, _, _, _, rfl, .inr ⟨l.sq, l'.sq, k _ _ _ _ _ _ R1 U1 ?_ h1⟩⟩
        intro A2 H2 kp i
        have l2 : TuR X.K A2 H2 _ _ := l.elim (fun q => .inl (kp _ _ q.2 q.1)) .inr
        have l3 : TuR X.K A2 H2 _ _ := l'.elim (fun q => .inl (kp _ _ q.2 q.1)) .inr
        have r2 := RpL.mono kp r
        have r3 := RpL.mono kp r'
        refine ⟨fun hi => ⟨_, _, l2.sq, l3.sq, by rw [r2.length, r3.length]; rw [zipD_length] at hi; omega⟩, fun d hd => ?_⟩
        obtain ⟨x, y, hx, hy, rfl⟩ := zipD_get hd
        obtain ⟨vx, gx, rx⟩ := r2.get hx
        obtain ⟨vy, gy, ry⟩ := r3.get hy
        refine ⟨⟨_, _, vx, vy, l2.sq, l3.sq, gx, gy⟩, fun z H3 hz own1 σ s R => ?_⟩
        obtain ⟨T, x', y', rfl, hT, rfl, f1, f2⟩ := hz
        have f1 := f1 _ l2.sq
        have f2 := f2 _ l3.sq
        rw [gx] at f1; rw [gy] at f2
        cases f1; cases f2
        exact wk_new hT (.cons rx (.cons ry .nil)) own1 σ s R
  · exact h1.elim
def enuD : Nat → List D → List D
  | _, [] => []
  | n, x :: xs => .tuple [.int (n : Int), x] :: enuD (n + 1) xs
theorem enuD_get : ∀ {xs : List D} {n i : Nat} {d : D}, (enuD n xs)[i]? = some d → ∃ x, xs[i]? = some x ∧ d = .tuple [.int ((n + i : Nat) : Int), x]
  | [], _, _, _, h => by simp [enuD] at h
  | x :: xs, n, 0, d, h => ⟨x, rfl, by simp [enuD] at h; exact h.symm⟩
  | x :: xs, n, i + 1, d, h => by
    obtain ⟨x', h1, h3⟩ := enuD_get (xs := xs) (n := n + 1) (i := i) (by simpa [enuD] using h)
    exact ⟨x', by simpa using h1, by rw [h3, show n + 1 + i = n + (i + 1) by omega]⟩
theorem enuD_length : ∀ (n : Nat) (xs : List D), (enuD n xs).length = xs.length
  | _, [] => rfl
  | n, x :: xs => congrArg (· + 1) (enuD_length (n + 1) xs)
def iEnu (wr : WA) : WI := fun s Ks => wr s fun s1 xs => a1 xs fun x => daI x fun d => match d with | .list ds => Ks s1 (enuD 0 ds) | _ => False
theorem di_enum {p tpos : Pos} {elts : List Expr} {kk : Nat} (hg : Gl X "enumerate") (hm : X.mg "enumerate" = none) (ha : DA X [a] wr) (hs : starEach [a] X.env = [(false, eval a X.env)] := by rfl) :
    DI X (.Tuple elts kk tpos) (.Call (.Name "enumerate" p) [a] [] pos) (iEnu wr) := by
  obtain ⟨ta, pa, qa⟩ := ha.ex
  refine ⟨_, pi_enum hg hm pa hs, fun b A own H σ s Ks Q R h k => ?_⟩
  show ta σ H fun vs H1 => ∃ a xs, vs = [.ref a] ∧ SqL X.K H1 a xs ∧ Q (Ite X.K a) H1
  refine qa _ _ _ _ _ _ _ _ R h fun A1 o1 H1 vs s1 xs R1 U1 E1 h1 => ?_
  obtain ⟨v, x, rfl, e1, h1⟩ := a1_inv E1 h1
  obtain ⟨d, rfl, h2⟩ := daI_inv h1
  clear h1
  have h1 := h2
  clear h2
  split at h1
  · cases (show Rp X.K A1 H1 v _ from e1) with
    | lst l r =>
      refine ⟨_, _, rfl, l.sq, k _ _ _ _ _ _ R1 U1 ?_ h1⟩
      intro A2 H2 kp i
      have l2 : LsR A2 H2 _ _ := kp _ _ l.2 l.1
      have r2 := RpL.mono kp r
      refine ⟨fun hi => ⟨_, l2.sq, by rw [r2.length]; rw [enuD_length] at hi; exact hi⟩, fun d hd => ?_⟩
      obtain ⟨x, hx, rfl⟩ := enuD_get hd
      obtain ⟨vx, gx, rx⟩ := r2.get hx
      refine ⟨⟨_, vx, l2.sq, gx⟩, fun z H3 hz own1 σ s R => ?_⟩
      obtain ⟨T, x', rfl, hT, rfl, f1⟩ := hz
      have f1 := f1 _ l2.sq
      rw [gx] at f1
      cases f1
      rw [Nat.zero_add]
      exact wk_new hT (.cons (.int _) (.cons rx .nil)) own1 σ s R
  · exact h1.elim
/-! ### for, while -/
def sFor (kl : List Nat) (m : Nat) (wi : WI) (wg : WG) (wb : WS) : WS := fun s D => wi s fun s1 ds => ∃ I : Nat → S → Prop, (s1.np ≤ m ∧ I 0 (clS kl m s1)) ∧
  (∀ i d s2, ds[i]? = some d → I i s2 → wg (.da d) s2 fun s3 => wb s3 { D with nx := fun s4 => s4.np ≤ m ∧ I (i + 1) (clS kl m s4), ct := fun s4 => s4.np ≤ m ∧ I (i + 1) (clS kl m s4), bk := D.nx }) ∧
  (∀ s2, I ds.length s2 → D.nx s2)
theorem ds_for (kl : List Nat) (m : Nat) {wi : WI} {js : List Nat} {wg : WG} {it : Expr} (hp : PassesOwn (model X.prog X.w) X.A X.env X.xe) (hc : X.calm = true) (hi : DI X tg it wi) (hg : DG X tg js wg) (hb : DSs X sts w)
    (hs : ∀ x, foldedSetIterable it X.env x = pure x := by intro _; rfl) : DS X (.For tg it sts [] pos) (sFor kl m wi wg w) := by
  obtain ⟨ti, pi, qi⟩ := hi.ex
  obtain ⟨g, pg, qg⟩ := hg.ex
  obtain ⟨tb, pb, qb⟩ := hb.ex
  refine ⟨_, ps_for hp hc pi pg pb hs, fun b A own H σ s D E R h mt => ?_⟩
  show ti σ H fun J H1 => ∃ W : Nat → Nat → L2.St → Hp → Prop, (∃ m, W 0 m σ H1) ∧ ∀ i m σ H, W i m σ H →
    (J.stop i H ∧ E.nx σ H) ∨ (J.go i H ∧ ∃ N : L2.St → Hp → Prop, (∀ σ' H', N σ' H' → ∃ m', m' < m ∧ W (i + 1) m' σ' H') ∧ ∀ x H', J.yld i H x H' → g x σ H' fun σ2 H2 => tb { E with nx := N, ct := N, bk := E.nx } σ2 H2)
  refine qi _ _ _ _ _ _ _ _ R h fun A1 o1 H1 s1 ds J R1 U1 wk h1 => ?_
  obtain ⟨I, ⟨hm, h0⟩, hs, hd⟩ := h1
  refine ⟨fun i k σ2 H2 => k = ds.length - i ∧ i ≤ ds.length ∧ ∃ (A2 : Addr → Prop) (o2 : List (List Addr)) (s2 : S), Rel X.K b A2 o2 H2 σ2 s2 ∧ Kp A1 H1 A2 H2 ∧ I i s2, ⟨_, rfl, Nat.zero_le _, A1, _, _, R1.cl kl m hm, Kp.refl, h0⟩, ?_⟩
  rintro i k σ2 H2 ⟨rfl, hi, A2, o2, s2, R2, kp, hI⟩
  obtain ⟨wstop, wgo⟩ := wk A2 H2 kp i
  by_cases hlt : i < ds.length
  · obtain ⟨hgo, hy⟩ := wgo ds[i] (List.getElem?_eq_getElem hlt)
    refine .inr ⟨hgo, fun σ' H' => ∃ (A3 : Addr → Prop) (o3 : List (List Addr)) (s3 : S), Rel X.K b A3 o3 H' σ' s3 ∧ Kp A1 H1 A3 H' ∧ I (i + 1) s3, fun σ' H' ⟨A3, o3, s3, r3, k3, i3⟩ => ⟨ds.length - (i + 1), by omega, rfl, hlt, A3, o3, s3, r3, k3, i3⟩, fun x H3 hx => ?_⟩
    obtain ⟨R3, U3, rx⟩ := hy x H3 hx o2 σ2 s2 R2
    refine qg _ _ _ _ _ _ _ _ _ _ R3 (show ER X.K A2 o2 H3 x (.da ds[i]) from rx) (hs i _ s2 (List.getElem?_eq_getElem hlt) hI) fun A4 o4 H4 σ4 s4 R4 U4 _ h4 => ?_
    have kp4 : Kp A1 H1 A4 H4 := (kp.trans U3.kp).trans U4.kp
    exact qb _ _ _ _ _ _ _ _ R4 h4 ⟨fun A5 o5 H5 σ5 s5 R5 k5 h5 => ⟨A5, _, _, R5.cl kl m h5.1, kp4.trans k5, h5.2⟩, fun A5 o5 H5 σ5 s5 v x R5 k5 e5 h5 => mt.rt _ _ _ _ _ _ _ R5 ((U1.kp.trans kp4).trans k5) e5 h5,
      fun A5 o5 H5 σ5 s5 R5 k5 h5 => mt.nx _ _ _ _ _ R5 ((U1.kp.trans kp4).trans k5) h5, fun A5 o5 H5 σ5 s5 R5 k5 h5 => ⟨A5, _, _, R5.cl kl m h5.1, kp4.trans k5, h5.2⟩⟩
  · have e : i = ds.length := by omega
    subst e
    exact .inl ⟨wstop (Nat.le_refl _), mt.nx _ _ _ _ _ R2 (U1.kp.trans kp) (hd _ hI)⟩
def sWhile (kl : List Nat) (m : Nat) (wt : WT) (wb : WS) : WS := fun s D => ∃ (I : S → Prop) (μ : S → Nat), (s.np ≤ m ∧ I (clS kl m s)) ∧
  ∀ s2, I s2 → wt s2 fun s3 c => (c = true → wb s3 { D with nx := fun s4 => s4.np ≤ m ∧ I (clS kl m s4) ∧ μ (clS kl m s4) < μ s2, ct := fun s4 => s4.np ≤ m ∧ I (clS kl m s4) ∧ μ (clS kl m s4) < μ s2, bk := D.nx }) ∧ (c = false → D.nx s3)
theorem ds_while (kl : List Nat) (m : Nat) (hp : PassesOwn (model X.prog X.w) X.A X.env X.xe) (hc : DT X c wt) (hb : DSs X sts w) : DS X (.While c sts [] pos) (sWhile kl m wt w) := by
  obtain ⟨tc, pc, qc⟩ := hc.ex
  obtain ⟨tb, pb, qb⟩ := hb.ex
  refine ⟨_, ps_while hp pc pb, fun b A own H σ s D E R h mt => ?_⟩
  show ∃ W : Nat → L2.St → Hp → Prop, (∃ m, W m σ H) ∧ ∀ m σ H, W m σ H →
    tc σ H fun b H1 => if b = true then ∃ N : L2.St → Hp → Prop, (∀ σ' H', N σ' H' → ∃ m', m' < m ∧ W m' σ' H') ∧ tb { E with nx := N, ct := N, bk := E.nx } σ H1 else E.nx σ H1
  obtain ⟨I, μ, ⟨hm, h0⟩, hs⟩ := h
  refine ⟨fun k σ2 H2 => ∃ (A2 : Addr → Prop) (o2 : List (List Addr)) (s2 : S), k = μ s2 ∧ Rel X.K b A2 o2 H2 σ2 s2 ∧ Kp A H A2 H2 ∧ I s2, ⟨_, A, _, _, rfl, R.cl kl m hm, Kp.refl, h0⟩, ?_⟩
  rintro k σ2 H2 ⟨A2, o2, s2, rfl, R2, kp, hI⟩
  refine qc _ _ _ _ _ _ _ _ R2 (hs s2 hI) fun A3 o3 H3 s3 c R3 U3 h3 => ?_
  have kp3 := kp.trans U3.kp
  cases c with
  | true =>
    rw [if_pos rfl]
    refine ⟨fun σ' H' => ∃ (A4 : Addr → Prop) (o4 : List (List Addr)) (s4 : S), Rel X.K b A4 o4 H' σ' s4 ∧ Kp A H A4 H' ∧ I s4 ∧ μ s4 < μ s2, fun σ' H' ⟨A4, o4, s4, r4, k4, i4, l4⟩ => ⟨_, l4, A4, o4, s4, rfl, r4, k4, i4⟩, ?_⟩
    exact qb _ _ _ _ _ _ _ _ R3 (h3.1 rfl) ⟨fun A5 o5 H5 σ5 s5 R5 k5 h5 => ⟨A5, _, _, R5.cl kl m h5.1, kp3.trans k5, h5.2.1, h5.2.2⟩, fun A5 o5 H5 σ5 s5 v x R5 k5 e5 h5 => mt.rt _ _ _ _ _ _ _ R5 (kp3.trans k5) e5 h5,
      fun A5 o5 H5 σ5 s5 R5 k5 h5 => mt.nx _ _ _ _ _ R5 (kp3.trans k5) h5, fun A5 o5 H5 σ5 s5 R5 k5 h5 => ⟨A5, _, _, R5.cl kl m h5.1, kp3.trans k5, h5.2.1, h5.2.2⟩⟩
  | false => rw [if_neg (by decide)]; exact mt.nx _ _ _ _ _ R3 kp3 (h3.2 rfl)
end
end DL
namespace DL
open PySem L2
/-! ### a rule's meaning, alone -/
def canE (K : PySem.W.Frag) (w : WE) : TE := fun σ H Q => ∃ (b : Bd) (A : Addr → Prop) (own : List (List Addr)) (s : S) (Ks : S → En → Prop), Rel K b A own H σ s ∧ w s Ks ∧ PostE K b A own H σ Ks Q
def canT (K : PySem.W.Frag) (w : WT) : TT := fun σ H Q => ∃ (b : Bd) (A : Addr → Prop) (own : List (List Addr)) (s : S) (Ks : S → Bool → Prop), Rel K b A own H σ s ∧ w s Ks ∧ PostT K b A own H σ Ks Q
def canG (K : PySem.W.Frag) (js : List Nat) (w : WG) : TG := fun v σ H Q => ∃ (b : Bd) (A : Addr → Prop) (own : List (List Addr)) (s : S) (x : En) (Ks : S → Prop), Rel K b A own H σ s ∧ ER K A own H v x ∧ w x s Ks ∧ PostG K b A own H σ js Ks Q
structure DTs (X : Cx) (ifs : List Expr) (w : WT) : Prop where
  ex : ∃ tt, PTs X ifs tt ∧ ∀ (b : Bd) (A : Addr → Prop) (own : List (List Addr)) (H : Hp) (σ : L2.St) (s : S) (Ks : S → Bool → Prop) (Q : Bool → Hp → Prop), Rel X.K b A own H σ s → w s Ks → PostT X.K b A own H σ Ks Q → tt σ H Q
section
variable {X : Cx} {a b c e : Expr} {we : WE} {wt : WT} {wg : WG} {pos : Pos} {js : List Nat}
theorem DE.can (h : DE X e we) : PE X e (canE X.K we) := by
  obtain ⟨te, pe, qe⟩ := h.ex
  exact ⟨fun pins s σ H Q I ⟨b, A, own, s', Ks, R, hw, k⟩ => pe.run pins s σ H Q I (qe _ _ _ _ _ _ _ _ R hw k)⟩
theorem DG.can (h : DG X e js wg) : PG X e (canG X.K js wg) := by
  obtain ⟨te, pe, qe⟩ := h.ex
  exact ⟨fun pins s σ H v u Q I r ⟨b, A, own, s', x, Ks, R, E, hw, k⟩ => pe.run pins s σ H v u Q I r (qe _ _ _ _ _ _ _ _ _ _ R E hw k)⟩
theorem DTs.can {ifs : List Expr} (h : DTs X ifs wt) : PTs X ifs (canT X.K wt) := by
  obtain ⟨te, pe, qe⟩ := h.ex
  exact ⟨fun pins s σ H Q I ⟨b, A, own, s', Ks, R, hw, k⟩ => pe.run pins s σ H Q I (qe _ _ _ _ _ _ _ _ R hw k)⟩
def tYesD : WT := fun s Ks => Ks s true
theorem dts_nil : DTs X [] tYesD := ⟨_, pts_nil, fun b A own H σ s Ks Q R h k => k _ _ _ _ _ R Up.refl h⟩
theorem dts_one (h : DT X c wt) : DTs X [c] wt := by
  obtain ⟨t, p, q⟩ := h.ex
  exact ⟨_, pts_one p, q⟩
/-! ### comprehensions -/
theorem wipe_at (σ : L2.St) : ∀ (vs : List Nat) (i : Nat), (wipe σ vs)[i]? = if i ∈ vs ∧ i < σ.length then some none else σ[i]?
  | [], i => by simp [wipe]
  | v :: vs, i => by
    unfold wipe
    by_cases e : v = i
    · subst e
      by_cases h : v < σ.length
      · rw [List.getElem?_set_self (by rw [wipe_length]; exact h), if_pos ⟨List.mem_cons_self, h⟩]
      · rw [if_neg fun z => h z.2, List.getElem?_eq_none (by rw [List.length_set, wipe_length]; omega), List.getElem?_eq_none (by omega)]
    · rw [List.getElem?_set_ne e, wipe_at σ vs i]
      by_cases h : i ∈ vs ∧ i < σ.length
      · rw [if_pos h, if_pos ⟨List.mem_cons_of_mem _ h.1, h.2⟩]
      · rw [if_neg h, if_neg fun z => h ⟨(List.mem_cons.mp z.1).resolve_left (Ne.symm e), z.2⟩]
theorem wipe_sto {vs js : List Nat} {σ σ' : L2.St} (h : Sto js (wipe σ vs) σ') (hj : ∀ j ∈ js, j ∈ vs) : wipe σ' vs = wipe σ vs := by
  have hl : σ'.length = σ.length := h.1.trans (wipe_length σ vs)
  refine List.ext_getElem? fun i => ?_
  rw [wipe_at, hl]
  by_cases e : i ∈ vs ∧ i < σ.length
  · rw [if_pos e, wipe_at, if_pos e]
  · rw [if_neg e]
    by_cases q : i ∈ vs
    · have : ¬ i < σ.length := fun z => e ⟨q, z⟩
      rw [List.getElem?_eq_none (by omega), List.getElem?_eq_none (by rw [wipe_length]; omega)]
    · exact h.2 i fun z => q (hj i z)
/-- the turns of a comprehension -/
def lcTurns (vs : List Nat) (wg : WG) (wt : WT) (we : WE) (s1 : S) (ds : List D) (Kf : List MO → List D → Prop) : Prop := ∃ I : Nat → List MO → List D → Prop, I 0 s1.ms [] ∧
  (∀ i d ms acc, ds[i]? = some d → I i ms acc → ms.length = s1.ms.length → wg (.da d) ⟨killL vs s1.es, ms ++ [.lst acc], s1.np⟩ fun s2 => wt s2 fun s3 c =>
    (c = true → we s3 fun s4 x => daI x fun y => acc.length < sizeLine ∧ gm s4.ms s1.ms.length = .lst acc ∧ I (i + 1) (takM s1.ms.length s1.ms.length s4.ms) (acc ++ [y])) ∧
    (c = false → gm s3.ms s1.ms.length = .lst acc ∧ I (i + 1) (takM s1.ms.length s1.ms.length s3.ms) acc)) ∧
  (∀ ms acc, I ds.length ms acc → ms.length = s1.ms.length → Kf ms acc)
def dLc (vs : List Nat) (wi : WI) (wg : WG) (wt : WT) (we : WE) : WE := fun s Ks => wi s fun s1 ds => lcTurns vs wg wt we s1 ds fun ms acc => Ks ⟨s1.es, takM s1.ms.length s1.ms.length ms, s1.np⟩ (.da (.list acc))
def dLcM (vs : List Nat) (wi : WI) (wg : WG) (wt : WT) (we : WE) : WE := fun s Ks => wi s fun s1 ds => lcTurns vs wg wt we s1 ds fun ms acc => Ks ⟨s1.es, ms ++ [.lst acc], s1.np⟩ (.mu s1.ms.length)
/-- an object left out at the end, its places kept known -/
theorem Rel.wiped {K : PySem.W.Frag} {b : Bd} {A : Addr → Prop} {own : List (List Addr)} {H : Hp} {σ : L2.St} {s : S} (vs : List Nat) (R : Rel K b A own H σ s) : Rel K b A own H (wipe σ vs) { s with es := killL vs s.es } := by
  refine R.slots (by rw [wipe_length, killL_length]; exact R.len) fun i => ?_
  rcases gt_killL vs s.es i with q | ⟨q1, q2⟩
  · exact .inl q
  · rw [q2]
    rcases R.sl i with z | ⟨v, e, h⟩
    · exact .inl z
    · exact .inr ⟨v, by rw [wipe_out q1]; exact e, h⟩
theorem takM_app (m : Nat) (l r : List MO) (h : l.length = m) : takM m m (l ++ r) = takM m m l := by
  have : ∀ (n : Nat) (l : List MO), l.length = n → takM m n (l ++ r) = takM m n l := by
    intro n
    induction n with
    | zero => intro l _; rfl
    | succ n ih => intro l hl; cases l with
      | nil => cases hl
      | cons x xs => exact congrArg (limM m x :: ·) (ih xs (by simpa using hl))
  exact this m l h
theorem takM_sm (m : Nat) (y : MO) : ∀ (n k : Nat) (l : List MO), n ≤ k → takM m n (sm l k y) = takM m n l
  | 0, _, _, _ => rfl
  | n + 1, _, [], _ => rfl
  | n + 1, 0, x :: r, h => by omega
  | n + 1, k + 1, x :: r, h => by
    show limM m x :: takM m n (sm r k y) = limM m x :: takM m n r
    rw [takM_sm m y n k r (by omega)]
theorem Rel.back {K : PySem.W.Frag} {b : Bd} {A : Addr → Prop} {own : List (List Addr)} {H : Hp} {σ' σ : L2.St} {s : S} {m : Nat} {acc : List PyData} {es : List En} (R : Rel K b A own H σ' s) (hm : s.np ≤ m) (g : gm s.ms m = .lst acc)
    (hl : σ.length = es.length) (h : ∀ i, gt es i = .no ∨ ∃ v, σ[i]? = some (some v) ∧ ER K A (own.take (m + 1)) H v (gt es i)) : Rel K b A (own.take (m + 1)) H σ ⟨es, takM m m s.ms ++ [.lst acc], s.np⟩ := by
  have hml : m < s.ms.length := gm_lt (by rw [g]; intro z; cases z)
  have hol := R.ol
  have tl : (takM m m s.ms).length = m := by rw [takM_length]; omega
  have gl : ∀ k, gm (takM m m s.ms ++ [.lst acc]) k = if k < m then limM m (gm s.ms k) else if k = m then .lst acc else .gone := fun k => by
    rw [gm_app, tl]
    by_cases q : k < m
    · rw [if_pos q, if_pos q, gm_takM, if_pos q]
    · rw [if_neg q, if_neg q]
      by_cases q2 : k = m
      · subst q2; rw [Nat.sub_self, if_pos rfl]; rfl
      · rw [if_neg q2]; exact gm_ge _ _ (by simp; omega)
  refine ⟨⟨?_, fun k => ?_, fun k j a h1 h2 => ?_, fun k => ?_, fun k a h1 => ?_, R.al⟩, hl, h, R.ge, R.fr, fun k a h1 => ?_, ?_, ?_, R.lim, R.a0⟩
  · rw [List.length_append, tl, List.length_take]; show _ = m + 1; omega
  · rw [go_take, gl]
    by_cases q : k < m
    · rw [if_pos (show k < m + 1 by omega), if_pos q]
      refine (R.mr k).lim.up ⟨Kp.refl, fun k a r e => ?_⟩ fun a o _ e => e
      rw [go_take] at e ⊢
      split at e
      · rw [if_pos (by omega)]; exact e
      · cases e
    · rw [if_neg q]
      by_cases q2 : k = m
      · subst q2
        rw [if_pos (by omega), if_pos rfl]
        have := R.mr k
        rw [g] at this
        exact this.plain rfl
      · rw [if_neg (by omega), if_neg q2]; trivial
  · rw [go_take] at h1 h2
    split at h1
    · split at h2
      · exact R.dj k j a h1 h2
      · cases h2
    · cases h1
  · rw [go_take]
    split
    · exact R.ld k
    · exact List.nodup_nil
  · rw [go_take] at h1
    split at h1
    · exact R.oa k a h1
    · cases h1
  · rw [go_take] at h1
    split at h1
    · exact R.fo k a h1
    · cases h1
  · rw [List.take_take, show min s.np (m + 1) = s.np by omega]; exact R.pre
  · rw [List.length_take]; have := R.npl; show s.np ≤ _; omega
theorem lc_run {K : PySem.W.Frag} {wi : TI} {wI : WI} {vs : List Nat} (hj : ∀ j ∈ js, j ∈ vs)
    (qi : ∀ (b : Bd) (A : Addr → Prop) (own : List (List Addr)) (H : Hp) (σ : L2.St) (s : S) (Ks : S → List D → Prop) (Q : It → Hp → Prop), Rel K b A own H σ s → wI s Ks → PostI K b A own H σ Ks Q → wi σ H Q)
    (Kf : S → List MO → List D → Prop) (b : Bd) (A : Addr → Prop) (own : List (List Addr)) (H : Hp) (σ : L2.St) (s : S) (Q : VK) (R : Rel K b A own H σ s)
    (h : wI s fun s1 ds => lcTurns vs wg wt we s1 ds (Kf s1))
    (k : ∀ (A' : Addr → Prop) (own' : List (List Addr)) (H' : Hp) (s1 : S) (ms : List MO) (acc : List D) (v : V), Rel K b A' own' H' σ ⟨s1.es, ms ++ [.lst acc], s1.np⟩ → Up A own H A' own' H' → ms.length = s1.ms.length → ER K A' own' H' v (.mu s1.ms.length) →
      (∃ (A'' : Addr → Prop) (own'' : List (List Addr)), Rel K b A'' own'' H' σ ⟨s1.es, takM s1.ms.length s1.ms.length ms, s1.np⟩ ∧ Up A own H A'' own'' H' ∧ Rp K A'' H' v (.list acc)) → Kf s1 ms acc → Q v H') :
    tLc wi (canG K js wg) (canT K wt) (canE K we) vs σ H Q := by
  show wi σ H fun J H1 => ∀ D, H1 D = none → ∃ W : Nat → Nat → Hp → Prop, (∃ m, W 0 m (upd H1 D (.lst []))) ∧ ∀ i m H, W i m H →
    (J.stop i H ∧ Q (.ref D) H) ∨ (J.go i H ∧ ∃ Nx : Hp → Prop, (∀ H', Nx H' → ∃ m', m' < m ∧ W (i + 1) m' H') ∧ ∀ x H', J.yld i H x H' → canG K js wg x (wipe σ vs) H' fun σ2 H2 => wipe σ2 vs = wipe σ vs ∧ canT K wt σ2 H2 fun b H3 =>
      if b = true then canE K we σ2 H3 fun y H4 => ∃ acc, H4 D = some (.lst acc) ∧ acc.length < sizeLine ∧ Nx (upd H4 D (.lst (acc ++ [y]))) else Nx H3)
  refine qi _ _ _ _ _ _ _ _ R h fun A1 o1 H1 s1 ds J R1 U1 wk h1 => ?_
  obtain ⟨I, h0, hs, hd⟩ := h1
  intro D hD
  obtain ⟨R0, U0, g0⟩ := R1.newMu (o := .lst []) hD (.lst []) fun A' own' u => ⟨D, [], rfl, upd_same, .nil⟩
  -- what holds ahead of each turn
  refine ⟨fun i n H2 => n = ds.length - i ∧ i ≤ ds.length ∧ ∃ (A2 : Addr → Prop) (o2 : List (List Addr)) (ms : List MO) (acc : List PyData), Rel K b A2 o2 H2 σ ⟨s1.es, ms ++ [.lst acc], s1.np⟩ ∧ Up A1 o1 H1 A2 o2 H2 ∧ ms.length = s1.ms.length ∧ go o2 s1.ms.length = [D] ∧ I i ms acc,
    ⟨_, rfl, Nat.zero_le _, _, _, s1.ms, [], R0, U0, rfl, g0, h0⟩, ?_⟩
  rintro i n H2 ⟨rfl, hi, A2, o2, ms, acc, R2, U2, ml, g2, hI⟩
  have npm : s1.np ≤ ms.length := by rw [ml, ← R1.ol]; exact R1.npl
  obtain ⟨wstop, wgo⟩ := wk A2 H2 U2.kp i
  by_cases hlt : i < ds.length
  · obtain ⟨hgo, hy⟩ := wgo ds[i] (List.getElem?_eq_getElem hlt)
    refine .inr ⟨hgo, fun H' => ∃ (A3 : Addr → Prop) (o3 : List (List Addr)) (ms3 : List MO) (acc3 : List PyData), Rel K b A3 o3 H' σ ⟨s1.es, ms3 ++ [.lst acc3], s1.np⟩ ∧ Up A1 o1 H1 A3 o3 H' ∧ ms3.length = s1.ms.length ∧ go o3 s1.ms.length = [D] ∧ I (i + 1) ms3 acc3,
      fun H' ⟨A3, o3, ms3, acc3, r3, u3, l3, g3, i3⟩ => ⟨ds.length - (i + 1), by omega, rfl, hlt, A3, o3, ms3, acc3, r3, u3, l3, g3, i3⟩, fun x H3 hx => ?_⟩
    obtain ⟨R3, U3, rx⟩ := hy x H3 hx o2 σ _ R2
    have R3w := R3.wiped vs
    -- back from a state of the turn to the next one
    have back : ∀ (A5 : Addr → Prop) (o5 : List (List Addr)) (H5 : Hp) (σ4 : L2.St) (s5 : S) (acc5 : List PyData), Rel K b A5 o5 H5 σ4 s5 → Up A2 o2 H3 A5 o5 H5 → gm s5.ms s1.ms.length = .lst acc5 →
        Rel K b A5 (o5.take (s1.ms.length + 1)) H5 σ ⟨s1.es, takM s1.ms.length s1.ms.length s5.ms ++ [.lst acc5], s1.np⟩ ∧ Up A1 o1 H1 A5 (o5.take (s1.ms.length + 1)) H5 ∧ (takM s1.ms.length s1.ms.length s5.ms).length = s1.ms.length ∧ go (o5.take (s1.ms.length + 1)) s1.ms.length = [D] := by
      intro A5 o5 H5 σ4 s5 acc5 R5 U5 g5
      have npe : s5.np = s1.np := R5.np.symm.trans R1.np
      have go5 : go o5 s1.ms.length = [D] := U5.ow _ _ _ g2
      have u : Up A1 o1 H1 A5 (o5.take (s1.ms.length + 1)) H5 := ⟨(U2.kp.trans U3.kp).trans U5.kp, fun k a r e => by
        have hk : k < o1.length := Nat.lt_of_not_le fun z => by rw [go_ge _ _ z] at e; cases e
        rw [go_take, if_pos (by have := R1.ol; omega)]
        exact U5.ow _ _ _ (U2.ow _ _ _ e)⟩
      have hml : s1.ms.length < s5.ms.length := gm_lt (by rw [g5]; intro z; cases z)
      refine ⟨?_, u, by rw [takM_length]; omega, by rw [go_take, if_pos (by omega)]; exact go5⟩
      have := R5.back (σ := σ) (es := s1.es) (by rw [npe]; omega) g5 R1.len fun j => (R1.sl j).imp id fun ⟨v, e, q⟩ => ⟨v, e, q.up u⟩
      rw [npe] at this
      exact this
    refine ⟨b, A2, o2, ⟨killL vs s1.es, ms ++ [.lst acc], s1.np⟩, .da ds[i], _, R3w, rx, hs i _ ms acc (List.getElem?_eq_getElem hlt) hI ml, fun A4 o4 H4 σ2 s2 R4 U4 S4 h4 => ⟨wipe_sto S4 hj, b, A4, o4, s2, _, R4, h4, fun A5 o5 H5 s3 c R5 U5 h5 => ?_⟩⟩
    cases c with
    | false =>
      rw [if_neg (by decide)]
      obtain ⟨g5, i5⟩ := h5.2 rfl
      obtain ⟨r, u, l, g⟩ := back A5 o5 H5 σ2 s3 acc R5 (U4.trans U5) g5
      exact ⟨_, _, _, _, r, u, l, g, i5⟩
    | true =>
      rw [if_pos rfl]
      refine ⟨b, A5, o5, s3, _, R5, h5.1 rfl, fun A6 o6 H6 v s4 x R6 U6 E6 h6 => ?_⟩
      obtain ⟨y, rfl, hl, g6, i6⟩ := daI_inv h6
      have go6 : go o6 s1.ms.length = [D] := ((U4.trans U5).trans U6).ow _ _ _ g2
      obtain ⟨p, us, ep, e2, e3, _, up⟩ := mu_at R6 (v := .ref D) ⟨D, [], go6, rfl⟩ g6
      cases ep
      obtain ⟨R7, U7⟩ := up _ _ (e3.append (.cons (show Rp K A6 H6 v y from E6) .nil))
      refine ⟨us, e2, by rw [e3.length]; exact hl, ?_⟩
      have hml : s1.ms.length < s4.ms.length := gm_lt (by rw [g6]; intro z; cases z)
      obtain ⟨r, u, l, g⟩ := back A6 o6 _ σ2 _ (acc ++ [y]) R7 (((U4.trans U5).trans U6).trans U7) (by show gm (sm s4.ms s1.ms.length _) s1.ms.length = _; rw [gm_sm, if_pos ⟨rfl, hml⟩])
      refine ⟨_, _, _, _, r, u, l, g, ?_⟩
      show I (i + 1) (takM _ _ (sm s4.ms s1.ms.length _)) _
      rw [takM_sm _ _ _ _ _ (Nat.le_refl _)]
      exact i6
  · have e : i = ds.length := by omega
    subst e
    refine .inl ⟨wstop (Nat.le_refl _), k _ _ _ s1 ms acc _ R2 (U1.trans U2) ml ⟨D, [], g2, rfl⟩ ?_ (hd ms acc hI ml)⟩
    -- the list as data
    have g3 : gm (ms ++ [.lst acc]) s1.ms.length = .lst acc := by rw [gm_app, ml, if_neg (Nat.lt_irrefl _), Nat.sub_self]; rfl
    have mm := R2.mr s1.ms.length
    rw [show gm (⟨s1.es, ms ++ [.lst acc], s1.np⟩ : S).ms s1.ms.length = .lst acc from g3] at mm
    obtain ⟨p, us, e1, e2, e3⟩ := mm
    rw [g2] at e1
    cases e1
    have kp : Kp A2 H2 (fun a => A2 a ∧ a ≠ D) H2 := fun a u n q => ⟨q, fun z => n z.1⟩
    have u1 : Up A1 o1 H1 (fun a => A2 a ∧ a ≠ D) (o2.take s1.ms.length) H2 := ⟨U2.kp.trans kp, fun k a r e => by
      have hk : k < o1.length := Nat.lt_of_not_le fun z => by rw [go_ge _ _ z] at e; cases e
      rw [go_take, if_pos (by have := R1.ol; omega)]
      exact U2.ow _ _ _ e⟩
    have hol : o2.length = s1.ms.length + 1 := by
      have := R2.ol
      rw [show (⟨s1.es, ms ++ [.lst acc], s1.np⟩ : S).ms = ms ++ [.lst acc] from rfl, List.length_append, ml] at this
      exact this
    have ne : ∀ k a, k < s1.ms.length → a ∈ go o2 k → a ≠ D := fun k a hk h z => by
      subst z
      have := R2.dj k s1.ms.length a h (by rw [g2]; simp)
      omega
    have up2 : Up A2 (o2.take s1.ms.length) H2 (fun a => A2 a ∧ a ≠ D) (o2.take s1.ms.length) H2 := ⟨kp, fun _ _ _ e => e⟩
    refine ⟨fun a => A2 a ∧ a ≠ D, o2.take s1.ms.length, ⟨⟨?_, fun j => ?_, fun i j a h1 h2 => ?_, fun i => ?_, fun i a h1 => ?_, fun a h => R2.al a h.1⟩, R1.len, fun j => (R1.sl j).imp id fun ⟨v, e, q⟩ => ⟨v, e, q.up u1⟩, fun a h => ⟨R2.ge a h, fun z => ?_⟩, R2.fr, fun i a h1 => ?_, ?_, ?_, fun a h => R2.lim a h.1, R2.a0⟩, U1.trans u1, .lst ⟨e2, fun z => z.2 rfl⟩ (RpL.mono kp e3)⟩
    · show (o2.take s1.ms.length).length = (takM s1.ms.length s1.ms.length ms).length
      rw [List.length_take, takM_length]; omega
    · show MR K _ (o2.take s1.ms.length) H2 (go (o2.take s1.ms.length) j) (gm (takM s1.ms.length s1.ms.length ms) j)
      rw [go_take, gm_takM]
      by_cases q : j < s1.ms.length
      · rw [if_pos q, if_pos q]
        have mj := R2.mr j
        rw [show gm (⟨s1.es, ms ++ [.lst acc], s1.np⟩ : S).ms j = gm ms j from by show gm (ms ++ [.lst acc]) j = _; rw [gm_app, ml, if_pos q]] at mj
        exact mj.lim.up up2 fun a o _ e => e
      · rw [if_neg q, if_neg q]; trivial
    · rw [go_take] at h1 h2
      split at h1
      · split at h2
        · exact R2.dj i j a h1 h2
        · cases h2
      · cases h1
    · rw [go_take]
      split
      · exact R2.ld i
      · exact List.nodup_nil
    · rw [go_take] at h1
      split at h1
      · rename_i hi'
        exact ⟨R2.oa i a h1, ne i a hi' h1⟩
      · cases h1
    · subst z
      exact R2.a0 a h (by
        rcases R2.fo s1.ms.length a (by rw [g2]; simp) with ⟨j, q⟩ | q
        · rw [← R2.pre, go_take] at q
          split at q
          · rename_i hj'
            have := R2.dj _ _ a q (by rw [g2]; simp)
            have npl := R1.npl
            have := R1.ol
            have : (⟨s1.es, ms ++ [.lst acc], s1.np⟩ : S).np = s1.np := rfl
            omega
          · cases q
        · exact q)
    · rw [go_take] at h1
      split at h1
      · exact R2.fo i a h1
      · cases h1
    · have npl := R1.npl
      have := R1.ol
      show (o2.take s1.ms.length).take s1.np = b.own0
      rw [List.take_take, show min s1.np s1.ms.length = s1.np by omega]; exact R2.pre
    · have npl := R1.npl
      have := R1.ol
      show s1.np ≤ (o2.take s1.ms.length).length
      rw [List.length_take]; omega
theorem de_lc {elt tg iter : Expr} {ifs : List Expr} {scope : Scope} (own : List (Str × Nat)) {wI : WI} (hc : X.calm = true) (hN : X.N.Nodup) (hi : DI X tg iter wI) (ok : BlkOk X.N X.env.scope scope own) (hj : ∀ j ∈ js, j ∈ own.map (·.2))
    (hg : ∀ (s : Shared) (H : Hp) (C : Addr) (cl : List (Str × Addr)) (fp : List Addr), DG (X.blk s H scope (compEnvC scope cl C X.env) fp) tg js wg) (ht : ∀ (s : Shared) (H : Hp) (C : Addr) (cl : List (Str × Addr)) (fp : List Addr), DTs (X.blk s H scope (compEnvC scope cl C X.env) fp) ifs wt)
    (he : ∀ (s : Shared) (H : Hp) (C : Addr) (cl : List (Str × Addr)) (fp : List Addr), DE (X.blk s H scope (compEnvC scope cl C X.env) fp) elt we) (hs : ∀ x, foldedSetIterable iter X.env x = pure x := by intro _; rfl) :
    DE X (.ListComp elt [⟨tg, iter, ifs, 0⟩] scope pos) (dLc (own.map (·.2)) wI wg wt we) := by
  obtain ⟨ti, pi, qi⟩ := hi.ex
  refine ⟨_, pe_lc (g := canG X.K js wg) (tt := canT X.K wt) (te := canE X.K we) hc hN pi ok (fun s H C cl fp => (hg s H C cl fp).can) (fun s H C cl fp => (ht s H C cl fp).can) (fun s H C cl fp => (he s H C cl fp).can) hs, fun b A own' H σ s Ks Q R h k => ?_⟩
  exact lc_run hj qi (fun s1 ms acc => Ks ⟨s1.es, takM s1.ms.length s1.ms.length ms, s1.np⟩ (.da (.list acc))) b A own' H σ s Q R h fun A' own' H' s1 ms acc v R1 U1 ml E1 ⟨A2, o2, R2, U2, r⟩ hk => k.da R2 U2 r hk
theorem de_lcM {elt tg iter : Expr} {ifs : List Expr} {scope : Scope} (own : List (Str × Nat)) {wI : WI} (hc : X.calm = true) (hN : X.N.Nodup) (hi : DI X tg iter wI) (ok : BlkOk X.N X.env.scope scope own) (hj : ∀ j ∈ js, j ∈ own.map (·.2))
    (hg : ∀ (s : Shared) (H : Hp) (C : Addr) (cl : List (Str × Addr)) (fp : List Addr), DG (X.blk s H scope (compEnvC scope cl C X.env) fp) tg js wg) (ht : ∀ (s : Shared) (H : Hp) (C : Addr) (cl : List (Str × Addr)) (fp : List Addr), DTs (X.blk s H scope (compEnvC scope cl C X.env) fp) ifs wt)
    (he : ∀ (s : Shared) (H : Hp) (C : Addr) (cl : List (Str × Addr)) (fp : List Addr), DE (X.blk s H scope (compEnvC scope cl C X.env) fp) elt we) (hs : ∀ x, foldedSetIterable iter X.env x = pure x := by intro _; rfl) :
    DE X (.ListComp elt [⟨tg, iter, ifs, 0⟩] scope pos) (dLcM (own.map (·.2)) wI wg wt we) := by
  obtain ⟨ti, pi, qi⟩ := hi.ex
  refine ⟨_, pe_lc (g := canG X.K js wg) (tt := canT X.K wt) (te := canE X.K we) hc hN pi ok (fun s H C cl fp => (hg s H C cl fp).can) (fun s H C cl fp => (ht s H C cl fp).can) (fun s H C cl fp => (he s H C cl fp).can) hs, fun b A own' H σ s Ks Q R h k => ?_⟩
  exact lc_run hj qi (fun s1 ms acc => Ks (S.mk s1.es (ms ++ [MO.lst acc]) s1.np) (.mu s1.ms.length)) b A own' H σ s Q R h fun A' own' H' s1 ms acc v R1 U1 ml E1 _ hk => k _ _ _ _ _ (.mu s1.ms.length) R1 U1 E1 hk
/-- name = [..] -/
theorem ds_setLc {i : Nat} {y : Str} {py spos : Pos} {elt tg iter : Expr} {ifs : List Expr} {scope : Scope} (own : List (Str × Nat)) {wI : WI} (hc : X.calm = true) (hN : X.N.Nodup) (hy : X.N[i]? = some y) (hyl : X.env.scope.names.lookup y = some .local)
    (hsw : swapsWith (.ListComp elt [⟨tg, iter, ifs, 0⟩] scope pos) (some (.Name y py)) spos.line X.env = pure true) (hi : DI X tg iter wI) (ok : BlkOk X.N X.env.scope scope own) (hj : ∀ j ∈ js, j ∈ own.map (·.2))
    (hg : ∀ (s : Shared) (H : Hp) (C : Addr) (cl : List (Str × Addr)) (fp : List Addr), DG (X.blk s H scope (compEnvC scope cl C X.env) fp) tg js wg) (ht : ∀ (s : Shared) (H : Hp) (C : Addr) (cl : List (Str × Addr)) (fp : List Addr), DTs (X.blk s H scope (compEnvC scope cl C X.env) fp) ifs wt)
    (he : ∀ (s : Shared) (H : Hp) (C : Addr) (cl : List (Str × Addr)) (fp : List Addr), DE (X.blk s H scope (compEnvC scope cl C X.env) fp) elt we) (hs : ∀ x, foldedSetIterable iter X.env x = pure x := by intro _; rfl) :
    DS X (.Assign [.Name y py] (.ListComp elt [⟨tg, iter, ifs, 0⟩] scope pos) spos) (sAsg (dLc (own.map (·.2)) wI wg wt we) (gN i)) := by
  obtain ⟨ti, pi, qi⟩ := hi.ex
  refine ⟨_, ps_setLc (g := canG X.K js wg) (tt := canT X.K wt) (te := canE X.K we) hc hN hy hyl hsw pi ok (fun s H C cl fp => (hg s H C cl fp).can) (fun s H C cl fp => (ht s H C cl fp).can) (fun s H C cl fp => (he s H C cl fp).can) hs, asg_run (fun b A own' H σ s Ks Q R h k => ?_) (gN_run i)⟩
  exact lc_run hj qi (fun s1 ms acc => Ks ⟨s1.es, takM s1.ms.length s1.ms.length ms, s1.np⟩ (.da (.list acc))) b A own' H σ s Q R h fun A' own' H' s1 ms acc v R1 U1 ml E1 ⟨A2, o2, R2, U2, r⟩ hk => k.da R2 U2 r hk
theorem ds_setLcM {i : Nat} {y : Str} {py spos : Pos} {elt tg iter : Expr} {ifs : List Expr} {scope : Scope} (own : List (Str × Nat)) {wI : WI} (hc : X.calm = true) (hN : X.N.Nodup) (hy : X.N[i]? = some y) (hyl : X.env.scope.names.lookup y = some .local)
    (hsw : swapsWith (.ListComp elt [⟨tg, iter, ifs, 0⟩] scope pos) (some (.Name y py)) spos.line X.env = pure true) (hi : DI X tg iter wI) (ok : BlkOk X.N X.env.scope scope own) (hj : ∀ j ∈ js, j ∈ own.map (·.2))
    (hg : ∀ (s : Shared) (H : Hp) (C : Addr) (cl : List (Str × Addr)) (fp : List Addr), DG (X.blk s H scope (compEnvC scope cl C X.env) fp) tg js wg) (ht : ∀ (s : Shared) (H : Hp) (C : Addr) (cl : List (Str × Addr)) (fp : List Addr), DTs (X.blk s H scope (compEnvC scope cl C X.env) fp) ifs wt)
    (he : ∀ (s : Shared) (H : Hp) (C : Addr) (cl : List (Str × Addr)) (fp : List Addr), DE (X.blk s H scope (compEnvC scope cl C X.env) fp) elt we) (hs : ∀ x, foldedSetIterable iter X.env x = pure x := by intro _; rfl) :
    DS X (.Assign [.Name y py] (.ListComp elt [⟨tg, iter, ifs, 0⟩] scope pos) spos) (sAsg (dLcM (own.map (·.2)) wI wg wt we) (gN i)) := by
  obtain ⟨ti, pi, qi⟩ := hi.ex
  refine ⟨_, ps_setLc (g := canG X.K js wg) (tt := canT X.K wt) (te := canE X.K we) hc hN hy hyl hsw pi ok (fun s H C cl fp => (hg s H C cl fp).can) (fun s H C cl fp => (ht s H C cl fp).can) (fun s H C cl fp => (he s H C cl fp).can) hs, asg_run (fun b A own' H σ s Ks Q R h k => ?_) (gN_run i)⟩
  exact lc_run hj qi (fun s1 ms acc => Ks (S.mk s1.es (ms ++ [MO.lst acc]) s1.np) (.mu s1.ms.length)) b A own' H σ s Q R h fun A' own' H' s1 ms acc v R1 U1 ml E1 _ hk => k _ _ _ _ _ (.mu s1.ms.length) R1 U1 E1 hk
end
end DL
namespace DL
open PySem L2
/-! ### the def's own theorem -/
def nos : Nat → List En
  | 0 => []
  | n + 1 => .no :: nos n
theorem nos_length : ∀ n, (nos n).length = n
  | 0 => rfl
  | n + 1 => congrArg (· + 1) (nos_length n)
theorem gt_nos : ∀ n i, gt (nos n) i = .no
  | 0, _ => rfl
  | n + 1, 0 => rfl
  | n + 1, i + 1 => gt_nos n i
def endD (Ks : List MO → En → Prop) : Dn where
  nx := fun s => Ks (takM s.np s.np s.ms) (.da .none)
  rt := fun s x => match x with | .mu j => Ks s.ms (.mu j) | .da d => Ks (takM s.np s.np s.ms) (.da d) | .no => False
  bk := fun _ => False
  ct := fun _ => False
section
variable {P : Program} {w : World} {K : PySem.W.Frag} {mg : Str → Option Value} {base : Heap}
theorem start_at {A : Addr → Prop} {own : List (List Addr)} {H : Hp} (N : List Str) : ∀ {vs : List V} {xs : List En}, ERL K A own H vs xs → ∀ (n i : Nat), gt (xs ++ nos n) i = .no ∨ ∃ v, (vs.map some ++ List.replicate n none)[i]? = some (some v) ∧ ER K A own H v (gt (xs ++ nos n) i)
  | [], [], _, n, i => .inl (gt_nos n i)
  | v :: vs, x :: xs, ⟨h, _⟩, n, 0 => .inr ⟨v, rfl, h⟩
  | v :: vs, x :: xs, ⟨_, t⟩, n, i + 1 => start_at N t n i
theorem fn_data {x qual : Str} {st : Stmt} {f : Addr} {fd : FuncData} {N ps : List Str} {k : Nat} {sp : SpD} (F : Fun K x qual st f fd) (Sc : FnScope N ps (defScope st)) (W : WS)
    (hb : ∀ (cdv : Value) (A : Around) (outer : List Env) (s : Shared) (H : Hp) (E : XK), RoomG k (A.deeper (PyProof.Rows.envOfC qual (defScope st) s.heap.objs.size f cdv)) → DSs (cxOf CX0 P w K mg base N qual (defScope st) f cdv A outer s H E).nox (defBody st) W)
    (hsp : ∀ xs ms Ks, sp xs ms Ks → xs.length = ps.length → W ⟨xs ++ nos (N.length - ps.length), ms, ms.length⟩ (endD Ks)) : FnOkG P w K mg base CX0 (k + 1) f fd ps (spOf K ps.length sp) := by
  refine fun_okG F Sc (fun vs H Q E h => ?_) (fun cdv A outer s H vs Q E hr h => ?_)
  · obtain ⟨_, _, _, _, _, hn, _⟩ := h
    exact hn
  · obtain ⟨Av, own, xs, ms, Ks, hn, he, ho, hs, k1⟩ := h
    obtain ⟨t, pt, qt⟩ := (hb cdv A outer s H E hr).ex
    have hxl : xs.length = ps.length := he.len.symm.trans hn
    have hN : ps.length ≤ N.length := by
      have := congrArg List.length Sc.pre
      rw [List.length_take] at this
      omega
    refine ⟨t, pt, ?_⟩
    have R : Rel K ⟨H, own, Av⟩ Av own H (start N vs) ⟨xs ++ nos (N.length - ps.length), ms, ms.length⟩ := by
      refine ⟨ho, ?_, fun i => ?_, fun a h => h, fun a o n h => h, fun k a h => .inl ⟨k, h⟩, ?_, ?_, fun a h => .inl h, ho.al⟩
      · show (vs.map some ++ List.replicate (N.length - vs.length) none).length = _
        simp [nos_length, hn, hxl]
      · show gt (xs ++ nos (N.length - ps.length)) i = .no ∨ ∃ v, (vs.map some ++ List.replicate (N.length - vs.length) none)[i]? = some (some v) ∧ _
        rw [hn]
        exact start_at N he _ i
      · show own.take ms.length = own
        rw [← ho.ol]; exact List.take_length
      · show ms.length ≤ own.length
        rw [ho.ol]; exact Nat.le_refl _
    have fin : ∀ (A' : Addr → Prop) (own' : List (List Addr)) (H' : Hp) (σ' : L2.St) (s' : S) (v : V) (x : En), Rel K ⟨H, own, Av⟩ A' own' H' σ' s' → ER K A' own' H' v x → (match x with | .mu j => Ks s'.ms (.mu j) | .da d => Ks (takM s'.np s'.np s'.ms) (.da d) | .no => False) → Q v H' := by
      intro A' own' H' σ' s' v x R' ex hx
      have np : own.length = s'.np := R'.np
      have hpre : own'.take own.length = own := by rw [np]; exact R'.pre
      cases x with
      | no => exact hx.elim
      | mu j => exact k1 A' own' H' v s'.ms (.mu j) R'.toOwn hpre R'.ge R'.lim (fun a o n h => R'.fr a o n h) R'.fo ex hx
      | da d =>
        refine k1 A' (own'.take s'.np) H' v (takM s'.np s'.np s'.ms) (.da d) (R'.toOwn.take _) ?_ R'.ge R'.lim (fun a o n h => R'.fr a o n h) (fun k a h => ?_) ex hx
        · rw [np, List.take_take, Nat.min_self]; exact R'.pre
        · rw [go_take] at h
          split at h
          · exact R'.fo k a h
          · cases h
    refine qt _ _ _ _ _ _ (endD Ks) _ R (hsp xs ms Ks hs hxl) ⟨fun A' own' H' σ' s' R' _ h => fin A' own' H' σ' s' .non (.da .none) R' .non h, fun A' own' H' σ' s' v x R' _ ex h => fin A' own' H' σ' s' v x R' ex h, fun _ _ _ _ _ _ _ h => h.elim, fun _ _ _ _ _ _ _ h => h.elim⟩
end
/-! ### isinstance -/
def tyD : D → String
  | .none => "NoneType"
  | .bool _ => "bool"
  | .int _ => "int"
  | .str _ => "str"
  | .list _ => "list"
  | .tuple _ => "tuple"
  | .dict _ => "dict"
inductive Ty where | int | bool | str | list | tuple
def Ty.nm : Ty → String
  | .int => "int"
  | .bool => "bool"
  | .str => "str"
  | .list => "list"
  | .tuple => "tuple"
def isT : Ty → D → Bool
  | .int, .int _ => true
  | .int, .bool _ => true
  | .bool, .bool _ => true
  | .str, .str _ => true
  | .list, .list _ => true
  | .tuple, .tuple _ => true
  | _, _ => false
theorem rp_ty {K : PySem.W.Frag} {A : Addr → Prop} {H : Hp} {v : V} {d : D} (r : Rp K A H v d) : TyX K H v (.type (tyD d)) := by
  cases r with
  | non => exact .base .non
  | bl c => exact .base (.bl c)
  | int i => exact .base (.int i)
  | str x => exact .base (.str x)
  | lst l r => exact .base (.lst l.1)
  | tup l r =>
    rcases l with l | l
    · exact .base (.tup l.1)
    · rcases l (fun _ => none) with (h | ⟨o, h⟩) | ⟨o, its, n, h, c, _⟩
      · cases h
      · cases h
      · exact .kTuple h c
  | dct l n r => exact .fDict l
theorem isT_kit (T : Ty) {K : PySem.W.Frag} {A : Addr → Prop} {H : Hp} {v : V} {d : D} (r : Rp K A H v d) : PySem.W.kitOne K (.type (tyD d)) (.type T.nm) = some (isT T d) := by
  refine kit_ty ?_
  have key : ∀ T : Ty, kitB "NoneType" T.nm = some false ∧ kitB "bool" T.nm = some (isT T (.bool true)) ∧ kitB "int" T.nm = some (isT T (.int 0)) ∧ kitB "str" T.nm = some (isT T (.str "")) ∧ kitB "list" T.nm = some (isT T (.list [])) ∧ kitB "tuple" T.nm = some (isT T (.tuple [])) ∧ kitB "dict" T.nm = some false := by
    intro T
    cases T <;> decide +kernel
  obtain ⟨k0, k1, k2, k3, k4, k5, k6⟩ := key T
  cases r with
  | non => rw [show isT T .none = false from by cases T <;> rfl]; exact k0
  | bl c => rw [show isT T (.bool c) = isT T (.bool true) from by cases T <;> rfl]; exact k1
  | int i => rw [show isT T (.int i) = isT T (.int 0) from by cases T <;> rfl]; exact k2
  | str x => rw [show isT T (.str x) = isT T (.str "") from by cases T <;> rfl]; exact k3
  | @lst _ _ ds l r => rw [show isT T (.list ds) = isT T (.list []) from by cases T <;> rfl]; exact k4
  | @tup _ _ ds l r => rw [show isT T (.tuple ds) = isT T (.tuple []) from by cases T <;> rfl]; exact k5
  | @dct _ _ _ kvs l n r => rw [show isT T (.dict (kvs.map fun z => (kD z.1, z.2))) = false from by cases T <;> rfl]; exact k6
theorem vw_ty {K : PySem.W.Frag} {b : Bd} {A : Addr → Prop} {own : List (List Addr)} {H : Hp} {σ : L2.St} {s : S} (R : Rel K b A own H σ s) {v : V} {x : En} {d : D} (h : ER K A own H v x) (e : vw s x = some d) : TyX K H v (.type (tyD d)) ∧ ∃ A' v', Rp K A' H v' d := by
  cases x with
  | no => cases e
  | da d' => cases e; exact ⟨rp_ty h, A, v, h⟩
  | mu k =>
    obtain ⟨a, vs, rfl, h1, r⟩ : ∃ a vs, v = .ref a ∧ H a = some (.lst vs) ∧ ∃ ds, d = .list ds ∧ RpL K A H vs ds := by
      obtain ⟨a, r, g, rfl⟩ := h
      have m := R.mr k
      unfold vw at e
      simp only at e
      cases q : gm s.ms k with
      | lst ds =>
        rw [q] at e m
        cases e
        obtain ⟨a', vs, e1, e2, e3⟩ := m
        rw [e1] at g
        cases g
        exact ⟨_, _, rfl, e2, ds, rfl, e3⟩
      | _ => rw [q] at e; cases e
    obtain ⟨ds, rfl, r⟩ := r
    refine ⟨.base (.lst h1), fun _ => False, .ref a, .lst ⟨h1, fun z => z⟩ ?_⟩
    exact RpL.mono (A := A) (H := H) (fun b u n q => ⟨q, fun z => z⟩) r
section
variable {X : Cx} {a b c e : Expr} {wa wb wc we : WE} {pos : Pos}
def dIsi (T : Ty) (wa : WE) : WE := fun s Ks => wa s fun s1 x => onO (vw s1 x) fun d => Ks s1 (.da (.bool (isT T d)))
theorem pe_type {x : Str} {T : String} {p : Pos} (hg : Gl X x) (hm : X.mg x = none) (hv : bootBuiltins x = some (.type T)) (hn : x ≠ "__name__" := by decide) (hd : (x == ("__debug__" : Str)) = false := by decide) : PE X (.Name x p) (tC (.ty T)) := pe_bltn hg hm hv (show RelV (.ty T) (.type T) from rfl) hn hd
theorem de_isi {x : Str} (T : Ty) {p p2 : Pos} (hg : Gl X "isinstance") (hm : X.mg "isinstance" = none) (hg2 : Gl X x) (hm2 : X.mg x = none) (hv2 : bootBuiltins x = some (.type T.nm)) (ha : DE X a wa)
    (hn : x ≠ "__name__" := by decide) (hd : (x == ("__debug__" : Str)) = false := by decide)
    (he : starEach (a :: [.Name x p2]) X.env = (false, eval a X.env) :: starEach [.Name x p2] X.env := by rfl) (hpl : (backTo pos (starEach [.Name x p2] X.env)).any (·.1) = false := by rfl) (he2 : starEach (.Name x p2 :: []) X.env = (false, eval (.Name x p2) X.env) :: starEach [] X.env := by rfl) :
    DE X (.Call (.Name "isinstance" p) [a, .Name x p2] [] pos) (dIsi T wa) := by
  obtain ⟨ta, pa, qa⟩ := ha.ex
  refine ⟨_, pe_callB call_isi hg hm (by decide +kernel) (pa_cons pa (pa_cons (pe_type hg2 hm2 hv2 hn hd) pa_nil he2) he) (he := he) (hpl := hpl), fun b A own H σ s Ks Q R h k => ?_⟩
  show ta σ H fun x H1 => rIsi X.K [x, .ty T.nm] H1 Q
  refine qa _ _ _ _ _ _ _ _ R h fun A1 o1 H1 v1 s1 x1 R1 U1 E1 h1 => ?_
  obtain ⟨d, hd, h1⟩ := onO_inv h1
  obtain ⟨t1, A', v', r'⟩ := vw_ty R1 E1 hd
  exact ⟨v1, .ty T.nm, _, _, _, rfl, .ty T.nm, t1, isT_kit T r', k.da R1 U1 (.bl _) h1⟩
def dIsi2 (T U : Ty) (wa : WE) : WE := fun s Ks => wa s fun s1 x => onO (vw s1 x) fun d => Ks s1 (.da (.bool (isT T d || isT U d)))
theorem de_isi2 {x y : Str} (T U : Ty) {p p2 p3 p4 : Pos} {kk : Nat} (hg : Gl X "isinstance") (hm : X.mg "isinstance" = none) (hg2 : Gl X x) (hm2 : X.mg x = none) (hv2 : bootBuiltins x = some (.type T.nm)) (hg3 : Gl X y) (hm3 : X.mg y = none) (hv3 : bootBuiltins y = some (.type U.nm)) (ha : DE X a wa)
    (hn : x ≠ "__name__" := by decide) (hd : (x == ("__debug__" : Str)) = false := by decide) (hn3 : y ≠ "__name__" := by decide) (hd3 : (y == ("__debug__" : Str)) = false := by decide)
    (he : starEach (a :: [.Tuple [.Name x p2, .Name y p3] kk p4]) X.env = (false, eval a X.env) :: starEach [.Tuple [.Name x p2, .Name y p3] kk p4] X.env := by rfl) (hpl : (backTo pos (starEach [.Tuple [.Name x p2, .Name y p3] kk p4] X.env)).any (·.1) = false := by rfl)
    (he2 : starEach (.Tuple [.Name x p2, .Name y p3] kk p4 :: []) X.env = (false, eval (.Tuple [.Name x p2, .Name y p3] kk p4) X.env) :: starEach [] X.env := by rfl)
    (he3 : starEach (.Name x p2 :: [.Name y p3]) X.env = (false, eval (.Name x p2) X.env) :: starEach [.Name y p3] X.env := by rfl) (he4 : starEach (.Name y p3 :: []) X.env = (false, eval (.Name y p3) X.env) :: starEach [] X.env := by rfl) :
    DE X (.Call (.Name "isinstance" p) [a, .Tuple [.Name x p2, .Name y p3] kk p4] [] pos) (dIsi2 T U wa) := by
  obtain ⟨ta, pa, qa⟩ := ha.ex
  refine ⟨_, pe_callB call_isiT hg hm (by decide +kernel) (pa_cons pa (pa_cons (pe_tup (pa_cons (pe_type hg2 hm2 hv2 hn hd) (pa_cons (pe_type hg3 hm3 hv3 hn3 hd3) pa_nil he4) he3)) pa_nil he2) he) (he := he) (hpl := hpl), fun b A own H σ s Ks Q R h k => ?_⟩
  show ta σ H fun x H1 => (([.ty T.nm, .ty U.nm] : List V).length ≤ sizeLine ∧ ∀ p, H1 p = none → rIsiT X.K [x, .ref p] (upd H1 p (.tup [.ty T.nm, .ty U.nm])) Q)
  refine qa _ _ _ _ _ _ _ _ R h fun A1 o1 H1 v1 s1 x1 R1 U1 E1 h1 => ⟨by show 2 ≤ sizeLine; decide, fun p hp => ?_⟩
  obtain ⟨d, hd, h1⟩ := onO_inv h1
  obtain ⟨R2, U2⟩ := R1.new (o := .tup [.ty T.nm, .ty U.nm]) hp
  obtain ⟨t1, A', v', r'⟩ := vw_ty R2 (E1.up U2) hd
  refine ⟨v1, p, [.ty T.nm, .ty U.nm], _, [.type T.nm, .type U.nm], _, rfl, upd_same, .cons (.ty T.nm) (.cons (.ty U.nm) .nil), t1, ?_, k.da R2 (U1.trans U2) (.bl (isT T d || isT U d)) h1⟩
  refine kitAny_cons (isT_kit T r') (fun e => ?_) (fun e => by rw [e]; rfl)
  refine kitAny_cons (isT_kit U r') (fun e2 => ?_) (fun e2 => by rw [e2, Bool.or_true])
  rw [e, e2]; exact kitAny_nil
end
end DL
namespace DL
open PySem L2 PySem.Spec PyProof.Rows
section
variable {X : Cx} {tg e : Expr} {we : WE}
/-- iter of a list or of a tuple, by the value -/
theorem pie_of {pins : List (Addr × Obj)} {σ : L2.St} {H : Hp} {s : Shared} {Q : It → Hp → Prop} {o : Obj} {J : It} {tn : Nat → Heap → Prop}
    (I : Inv X pins σ H s) (T : Turn X.prog X.w X.K tg J [s.heap.objs.size] s.heap.objs.size tn)
    (t0 : tn 0 (s.heap.push o)) (q : Q J H) :
    PIE X pins σ tg Q (.ref s.heap.objs.size) { s with heap := s.heap.push o } := by
  have fr : H s.heap.objs.size = none := I.hok.fresh (Nat.le_refl _)
  have I2 : Inv X pins σ H { s with heap := s.heap.push o } :=
    I.kept (t' := s.toks) fun b u h => Heap.get?_push_of_some _ h
  refine ⟨_, _, _, _, H, rfl, I2, T, t0, ?_, q⟩
  intro b hb
  cases List.mem_singleton.mp hb
  exact I.fpOk (Nat.le_refl _) fr
def iSeqV (K : PySem.W.Frag) (te : TE) : TI := fun σ H R => te σ H fun x H1 => ∃ a, x = .ref a ∧
  (((∃ xs, SqL K H1 a xs) ∧ R (Itl K a) H1) ∨ ((∃ xs, SqT K H1 a xs) ∧ R (Itt K a) H1))
theorem pi_seq {te : TE} (h : PE X e te) : PI X tg e (iSeqV X.K te) := by
  constructor
  intro pins s σ H R I hw
  refine thn (h.run pins s σ H _ I hw) ?_
  rintro v s1 ⟨x, H1, I1, r1, a, rfl, q⟩
  cases r1
  rcases q with ⟨⟨xs, hx⟩, q⟩ | ⟨⟨xs, hx⟩, q⟩
  · obtain ⟨its, _, p, _⟩ := I1.list hx
    refine wpAny_pyIter_list p.isList ?_
    exact pie_of I1 (turn_list a _) ⟨_, Heap.get?_push_size _ rfl, rfl, rfl⟩ q
  · obtain ⟨its, _, p, _⟩ := I1.tuple hx
    refine wpAny_pyIter_tuple (items := its.toArray) p ?_
    exact pie_of I1 (turn_tuple a _) ⟨_, Heap.get?_push_size _ rfl, rfl, rfl⟩ q
def iSeq (we : WE) : WI := fun s Ks => we s fun s1 x => daI x fun d => onO (seqD d) fun ds => Ks s1 ds
theorem di_seq (he : DE X e we) : DI X tg e (iSeq we) := by
  obtain ⟨te, pe, qe⟩ := he.ex
  refine ⟨_, pi_seq pe, fun b A own H σ s Ks Q R h k => ?_⟩
  show te σ H fun x H1 => ∃ a, x = .ref a ∧ (((∃ xs, SqL X.K H1 a xs) ∧ Q (Itl X.K a) H1) ∨ ((∃ xs, SqT X.K H1 a xs) ∧ Q (Itt X.K a) H1))
  refine qe _ _ _ _ _ _ _ _ R h fun A1 o1 H1 v1 s1 x1 R1 U1 E1 h1 => ?_
  obtain ⟨d, rfl, h2⟩ := daI_inv h1
  obtain ⟨ds, hd, h2⟩ := onO_inv h2
  clear h1
  have E1 : Rp X.K A1 H1 v1 d := E1
  cases E1 with
  | lst l r => cases hd; exact ⟨_, rfl, .inl ⟨⟨_, l.sq⟩, k _ _ _ _ _ _ R1 U1 (wk_list l r) h2⟩⟩
  | tup l r => cases hd; exact ⟨_, rfl, .inr ⟨⟨_, l.sq⟩, k _ _ _ _ _ _ R1 U1 (wk_tup l r) h2⟩⟩
  | non => cases hd
  | dct _ _ _ => cases hd
  | bl c => cases hd
  | int i => cases hd
  | str x => cases hd
end
section
variable {X : Cx} {a b c e : Expr} {wa wb wc we : WE} {pos : Pos} {es : List Expr}
/-- a < b < c -/
def dChain (rd rd' : S → En → En → (S → En → Prop) → Prop) (wa wb wc : WE) : WE := fun s Ks => wa s fun s1 x => wb s1 fun s2 y => rd s2 x y fun s3 z => isB z fun k =>
  (k = true → wc s3 fun s4 w => rd' s4 y w Ks) ∧ (k = false → Ks s3 (.da (.bool false)))
theorem chain_run {r r' : R2} {rd rd'} {ta tb tc : TE} (hd : OpD X.K r rd) (hd' : OpD X.K r' rd')
    (qa : ∀ (b : Bd) (A : Addr → Prop) (own : List (List Addr)) (H : Hp) (σ : L2.St) (s : S) (Ks : S → En → Prop) (Q : VK), Rel X.K b A own H σ s → wa s Ks → PostE X.K b A own H σ Ks Q → ta σ H Q)
    (qb : ∀ (b : Bd) (A : Addr → Prop) (own : List (List Addr)) (H : Hp) (σ : L2.St) (s : S) (Ks : S → En → Prop) (Q : VK), Rel X.K b A own H σ s → wb s Ks → PostE X.K b A own H σ Ks Q → tb σ H Q)
    (qc : ∀ (b : Bd) (A : Addr → Prop) (own : List (List Addr)) (H : Hp) (σ : L2.St) (s : S) (Ks : S → En → Prop) (Q : VK), Rel X.K b A own H σ s → wc s Ks → PostE X.K b A own H σ Ks Q → tc σ H Q)
    (b : Bd) (A : Addr → Prop) (own : List (List Addr)) (H : Hp) (σ : L2.St) (s : S) (Ks : S → En → Prop) (Q : VK) (R : Rel X.K b A own H σ s) (h : dChain rd rd' wa wb wc s Ks) (k : PostE X.K b A own H σ Ks Q) : tChain r r' ta tb tc σ H Q := by
  show ta σ H fun x H1 => tb σ H1 fun y H2 => r x y H2 fun z H3 => ∃ k, z = .bl k ∧ (if k = true then tc σ H3 fun w' H4 => r' y w' H4 Q else Q (.bl false) H3)
  refine qa _ _ _ _ _ _ _ _ R h fun A1 o1 H1 v1 s1 x1 R1 U1 E1 h1 => ?_
  refine qb _ _ _ _ _ _ _ _ R1 h1 fun A2 o2 H2 v2 s2 x2 R2 U2 E2 h2 => ?_
  refine hd _ _ _ _ _ _ _ _ _ _ _ _ R2 (E1.up U2) E2 h2 fun A3 o3 H3 v3 s3 x3 R3 U3 E3 h3 => ?_
  obtain ⟨q, rfl, h4⟩ := isB_inv h3
  cases E3
  refine ⟨q, rfl, ?_⟩
  cases q with
  | true =>
    rw [if_pos rfl]
    refine qc _ _ _ _ _ _ _ _ R3 (h4.1 rfl) fun A4 o4 H4 v4 s4 x4 R4 U4 E4 h5 => ?_
    exact hd' _ _ _ _ _ _ _ _ _ _ _ _ R4 (E2.up (U3.trans U4)) E4 h5 (k.up (((U1.trans U2).trans U3).trans U4))
  | false => rw [if_neg (by decide)]; exact k.da R3 ((U1.trans U2).trans U3) (.bl _) (h4.2 rfl)
theorem de_chain {op op' : CmpOp} {r r' : R2} {rd rd'} (ho : OpR X (compareOp op) r) (ho' : OpR X (compareOp op') r') (hd : OpD X.K r rd) (hd' : OpD X.K r' rd') (ha : DE X a wa) (hb : DE X b wb) (hc : DE X c wc)
    (hm : lastMarks [op, op'] [b, c] = false := by with_unfolding_all rfl) : DE X (.Compare a [op, op'] [b, c] pos) (dChain rd rd' wa wb wc) := by
  obtain ⟨ta, pa, qa⟩ := ha.ex
  obtain ⟨tb, pb, qb⟩ := hb.ex
  obtain ⟨tc, pc, qc⟩ := hc.ex
  exact ⟨_, pe_chain ho ho' pa pb pc hm, chain_run hd hd' qa qb qc⟩
theorem dt_chain {op op' : CmpOp} {r r' : R2} {rd rd'} (ho : OpR X (compareOp op) r) (ho' : OpR X (compareOp op') r') (hd : OpD X.K r rd) (hd' : OpD X.K r' rd') (ha : DE X a wa) (hb : DE X b wb) (hc : DE X c wc)
    (hm : lastMarks [op, op'] [b, c] = false := by with_unfolding_all rfl) : DT X (.Compare a [op, op'] [b, c] pos) (tT (dChain rd rd' wa wb wc)) := by
  obtain ⟨ta, pa, qa⟩ := ha.ex
  obtain ⟨tb, pb, qb⟩ := hb.ex
  obtain ⟨tc, pc, qc⟩ := hc.ex
  exact ⟨_, pt_chain ho ho' pa pb pc hm, tT_run (chain_run hd hd' qa qb qc)⟩
/-! ### texts -/
def dAddS : WE → WE → WE := d2 fun s x y Ks => match x, y with | .da (.str i), .da (.str j) => i.length + j.length ≤ sizeLine ∧ Ks s (.da (.str (i ++ j))) | _, _ => False
theorem opd_addS {K : PySem.W.Frag} : OpD K (fun x y H Q => ∃ i j, x = .str i ∧ y = .str j ∧ i.length + j.length ≤ sizeLine ∧ Q (.str (i ++ j)) H) (fun s x y Ks => match x, y with | .da (.str i), .da (.str j) => i.length + j.length ≤ sizeLine ∧ Ks s (.da (.str (i ++ j))) | _, _ => False) := by
  intro b A own H σ s vx vy x y Ks Q R ex ey h k
  split at h
  · cases ex; cases ey
    exact ⟨_, _, rfl, rfl, h.1, k.da R Up.refl (.str _) h.2⟩
  · exact h.elim
theorem de_addS (ha : DE X a wa) (hb : DE X b wb) : DE X (.BinOp a .Add b pos) (dAddS wa wb) := de_op op_add_str opd_addS ha hb
/-- list + list: a new one -/
def dCat : WE → WE → WE := d2 fun s x y Ks => vw2 s x y fun d e => match d, e with | .list i, .list j => i.length + j.length ≤ sizeLine ∧ Ks s (.da (.list (i ++ j))) | _, _ => False
def dCatM : WE → WE → WE := d2 fun s x y Ks => vw2 s x y fun d e => match d, e with | .list i, .list j => i.length + j.length ≤ sizeLine ∧ Ks (s.aM (.lst (i ++ j))) (.mu s.ms.length) | _, _ => False
theorem opd_cat {K : PySem.W.Frag} : OpD K rCat (fun s x y Ks => vw2 s x y fun d e => match d, e with | .list i, .list j => i.length + j.length ≤ sizeLine ∧ Ks s (.da (.list (i ++ j))) | _, _ => False) := by
  intro b A own H σ s vx vy x y Ks Q R ex ey h k
  obtain ⟨d, hd, h⟩ := onO_inv h
  obtain ⟨e, he, h⟩ := onO_inv h
  split at h
  · obtain ⟨p, vs, rfl, q, r⟩ := vw_lstH R ex hd
    obtain ⟨p', vs', rfl, q', r'⟩ := vw_lstH R ey he
    exact ⟨p, p', vs, vs', rfl, rfl, q, q', by rw [r.length, r'.length]; exact h.1, fun z hz => new_lst R k (r.append r') hz h.2⟩
  · exact h.elim
theorem opd_catM {K : PySem.W.Frag} : OpD K rCat (fun s x y Ks => vw2 s x y fun d e => match d, e with | .list i, .list j => i.length + j.length ≤ sizeLine ∧ Ks (s.aM (.lst (i ++ j))) (.mu s.ms.length) | _, _ => False) := by
  intro b A own H σ s vx vy x y Ks Q R ex ey h k
  obtain ⟨d, hd, h⟩ := onO_inv h
  obtain ⟨e, he, h⟩ := onO_inv h
  split at h
  · obtain ⟨p, vs, rfl, q, r⟩ := vw_lstH R ex hd
    obtain ⟨p', vs', rfl, q', r'⟩ := vw_lstH R ey he
    exact ⟨p, p', vs, vs', rfl, rfl, q, q', by rw [r.length, r'.length]; exact h.1, fun z hz => new_mu R k (r.append r') hz h.2⟩
  · exact h.elim
theorem de_cat (ha : DE X a wa) (hb : DE X b wb) : DE X (.BinOp a .Add b pos) (dCat wa wb) := de_op op_cat opd_cat ha hb
theorem de_catM (ha : DE X a wa) (hb : DE X b wb) : DE X (.BinOp a .Add b pos) (dCatM wa wb) := de_op op_cat opd_catM ha hb
end
/-! ### the law's draws -/
/-- a number drawn below many; the fuel is one less -/
def spTake : SpD := fun xs ms Ks => match xs, ms with
  | [.mu 0, .da (.int many)], [.rnd n] => 1 ≤ n ∧ CDivW 0 many ∧ ∀ d, 0 ≤ d → d < many → Ks [.rnd (n - 1)] (.da (.int d))
  | _, _ => False
def spTakeH : Sp := fun vs H Q _ => ∃ (a c : Addr) (cs : List Int) (t many : Int), vs = [.ref a, .int many] ∧ H a = some (.dK [(.inr "cells", .ref c), (.inr "turn", .int t)]) ∧ H c = some (.lst (cs.map V.int)) ∧
  1 ≤ cs.length ∧ cs.length ≤ 63 ∧ 0 ≤ t ∧ t + 1 ≤ turnMax ∧ CDivW 0 many ∧
  ∀ (H' : Hp) (cs' : List Int) (d : Int), (∀ b o, b ≠ a → b ≠ c → H b = some o → H' b = some o) → H' a = some (.dK [(.inr "cells", .ref c), (.inr "turn", .int (t + 1))]) → H' c = some (.lst (cs'.map V.int)) → cs'.length = cs.length → 0 ≤ d → d < many → Q (.int d) H'
theorem spTake_imp {K : PySem.W.Frag} {vs : List V} {H : Hp} {Q : VK} {E : XK} (h : spOf K 2 spTake vs H Q E) : spTakeH vs H Q E := by
  obtain ⟨A, own, xs, ms, Ks, hn, he, ho, hs, k⟩ := h
  unfold spTake at hs
  split at hs
  · rename_i many n
    obtain ⟨h1, h2, h3⟩ := hs
    match vs, he with
    | [v, u], ⟨e1, e2, _⟩ =>
      cases e2
      obtain ⟨a, r, g, rfl⟩ := e1
      have m := ho.mr 0
      obtain ⟨a', c, cs, t, e1, ha, hc, l1, l2, t0, t1⟩ := (show MR K A own H (go own 0) (.rnd n) from m)
      rw [e1] at g
      cases g
      refine ⟨a, c, cs, t, many, rfl, ha, hc, l1, l2, t0, by omega, h2, fun H' cs' d fr ha' hc' hl d0 d1 => ?_⟩
      have ol : own.length = 1 := ho.ol
      have own_eq : own = [[a, c]] := by
        match own, ol, e1 with
        | [l], _, e => exact congrArg (fun x => [x]) e
      subst own_eq
      refine k A [[a, c]] H' (.int d) [.rnd (n - 1)] (.da (.int d)) ⟨rfl, fun j => ?_, ho.dj, ho.ld, ho.oa, fun b hb => ?_⟩ rfl (fun _ h => h) (fun _ h => .inl h) (fun b o hb q => fr b o (fun z => hb 0 (by subst z; exact List.mem_cons_self)) (fun z => hb 0 (by subst z; exact List.mem_cons_of_mem _ List.mem_cons_self)) q) (fun j b hb => .inl ⟨j, hb⟩) (.int d) (h3 d d0 d1)
      · match j with
        | 0 => exact ⟨a, c, cs', t + 1, rfl, ha', hc', by omega, by omega, by omega, by omega⟩
        | j + 1 => trivial
      · by_cases q : b = a
        · subst q; rw [ha']; intro z; cases z
        · by_cases q2 : b = c
          · subst q2; rw [hc']; intro z; cases z
          · intro z
            cases e : H b with
            | none => exact ho.al b hb e
            | some o => rw [fr b o q q2 e] at z; cases z
  · exact hs.elim
/-- the script's state made -/
def spBeginH (K : PySem.W.Frag) : Sp := fun vs H Q _ => ∃ (s : Addr) (ns : List Int), vs = [.ref s] ∧ SqL K H s (ns.map V.int) ∧
  ∀ (H' : Hp) (a c : Addr) (cs : List Int), (∀ b o, H b = some o → H' b = some o) → H' a = some (.dK [(.inr "cells", .ref c), (.inr "turn", .int 0)]) → H' c = some (.lst (cs.map V.int)) → H a = none → H c = none → a ≠ c → 1 ≤ cs.length → cs.length ≤ 63 → Q (.ref a) H'
/-- the law's own promise -/
def spLawH (K : PySem.W.Frag) : Sp := fun vs H Q _ => ∃ (a : Addr) (ns : List Int), vs = [.ref a] ∧ SqL K H a (ns.map V.int) ∧ ns.length ≤ 63 ∧ ∀ H', Q (.bl true) H'
def fuel0 : Nat := 1000000000000
def endLaw : Dn where
  nx := fun _ => False
  rt := fun _ x => x = .da (.bool true)
  bk := fun _ => False
  ct := fun _ => False
end DL
namespace DL
open PySem L2 PySem.Spec PyProof.Rows
/-! ### ways -/
section
variable {p : Prop} [Decidable p] {A B : Prop}
theorem bT (h : p) (a : A) : (decide p = true → A) ∧ (decide p = false → B) := ⟨fun _ => a, fun z => absurd h (of_decide_eq_false z)⟩
theorem bF (h : ¬ p) (b : B) : (decide p = true → A) ∧ (decide p = false → B) := ⟨fun z => absurd (of_decide_eq_true z) h, fun _ => b⟩
theorem bS (a : p → A) (b : ¬ p → B) : (decide p = true → A) ∧ (decide p = false → B) := ⟨fun z => a (of_decide_eq_true z), fun z => b (of_decide_eq_false z)⟩
theorem nF (h : p) (b : B) : ((!decide p) = true → A) ∧ ((!decide p) = false → B) := ⟨fun z => (by rw [decide_eq_true h] at z; cases z), fun _ => b⟩
theorem nT (h : ¬ p) (a : A) : ((!decide p) = true → A) ∧ ((!decide p) = false → B) := ⟨fun _ => a, fun z => by rw [decide_eq_false h] at z; cases z⟩
theorem nS (a : ¬ p → A) (b : p → B) : ((!decide p) = true → A) ∧ ((!decide p) = false → B) := ⟨fun z => a fun h => (by rw [decide_eq_true h] at z; cases z), fun z => b (Classical.byContradiction fun h => by rw [decide_eq_false h] at z; cases z)⟩
theorem tt (a : A) : (true = true → A) ∧ (true = false → B) := ⟨fun _ => a, fun z => by cases z⟩
theorem ff (b : B) : (false = true → A) ∧ (false = false → B) := ⟨fun z => (by cases z), fun _ => b⟩
end
theorem nd1 {k : Nat} : ([k] : List Nat).Nodup := List.nodup_cons.mpr ⟨List.not_mem_nil, List.nodup_nil⟩
theorem ip {a b : Nat} (h : a ≤ b) : (10 : Int) ^ a ≤ 10 ^ b := by
  have h2 : ((10 ^ a : Nat) : Int) ≤ ((10 ^ b : Nat) : Int) := Int.ofNat_le.mpr (Nat.pow_le_pow_right (by decide) h)
  simpa using h2
theorem mulA {a b : Int} (x y : Nat) (ha : a.natAbs < 2 ^ x) (hb : b.natAbs < 2 ^ y) (h : x + y ≤ 134217728 := by decide) : CMulX a b := mulx_ok ha hb h
theorem divA {a b : Int} (x : Nat) (h : 0 < b) (hb : b.natAbs < 2 ^ x) (h0 : 0 < x := by decide) (h9 : x ≤ 9000 := by decide) : CDivW a b := wide_div h hb h0 h9
theorem pw10 {k : Int} (h : 0 ≤ k) (h2 : k ≤ 1000000) : CPow 10 k := ⟨h, h2, by decide⟩
/-! ### calls by facts of the top -/
def muks : List En → List Nat
  | [] => []
  | .mu k :: r => k :: muks r
  | _ :: r => muks r
def CallV (sp : SpD) : S → List En → (S → En → Prop) → Prop := fun s xs Ks => (muks xs).Nodup ∧ CallW sp (muks xs) s xs Ks
structure At (K : PySem.W.Frag) (mg : Str → Option Value) (x : Str) (st : Stmt) (ps : List Str) (f : Addr) (fd : FuncData) : Prop where
  F : Fun K x x st f fd
  g : mg x = some (.ref f)
  kp : PySem.W.keepIn K (.ref f) = true
  b : Binds K fd ps []
structure Ok (P : Program) (w : World) (K : PySem.W.Frag) (mg : Str → Option Value) (base : Heap) (k : Nat) (x : Str) (st : Stmt) (ps : List Str) (n : Nat) (sp : SpD) : Prop where
  ex : ∃ f fd, At K mg x st ps f fd ∧ FnOkG P w K mg base CX0 k f fd ps (spOf K n sp)
section
variable {X : Cx} {e : Expr} {es : List Expr} {wr : WA}
theorem de_callV {k : Nat} {st : Stmt} {ps : List Str} {sp : SpD} {x : Str} {p pos : Pos} {n : Nat} (O : Ok X.prog X.w X.K X.mg X.base k x st ps n sp) (hr : RoomG k X.A) (hg : Gl X x)
    (ha : DAn X (e :: es) n wr) (hdb : (x == ("__debug__" : Str)) = false := by decide) (he : starEach (e :: es) X.env = (false, eval e X.env) :: starEach es X.env := by rfl) (hpl : (backTo pos (starEach es X.env)).any (·.1) = false := by rfl) :
    DE X (.Call (.Name x p) (e :: es) [] pos) (dCall (CallV sp) wr) := by
  obtain ⟨f, fd, a, F⟩ := O.ex
  obtain ⟨ta, pa, qa⟩ := ha.ex
  refine ⟨_, pe_callG F hr.r hr.g hg a.g a.kp a.b .nil (pass0 (X := X)) pa hdb he hpl, fun b A own H σ s Ks Q R h kk => ?_⟩
  show ta σ H fun vs H1 => spOf X.K n sp (vs ++ []) H1 Q E0
  refine qa _ _ _ _ _ _ _ _ R h fun A1 o1 H1 vs s1 xs R1 U1 E1 h1 => ?_
  rw [List.append_nil]
  exact callW_run h1.2.1 (E1.len.trans h1.1) R1 E1 h1.2.2 (kk.up U1)
/-- the slot's object fixed, if it is one -/
def sFrzV (i : Nat) (w : WS) : WS := fun s D => match gt s.es i with | .mu k => frzW k s fun s1 => w s1 D | _ => w s D
theorem dss_frzV {sts : List Stmt} {w : WS} (i : Nat) (h : DSs X sts w) : DSs X sts (sFrzV i w) := by
  obtain ⟨t, p, q⟩ := h.ex
  refine ⟨t, p, fun b A own H σ s D E R h m => ?_⟩
  unfold sFrzV at h
  split at h
  · rename_i k _
    unfold frzW at h
    split at h
    · rename_i ds g
      obtain ⟨R1, k1, _⟩ := R.frz g h.1
      exact q _ _ _ _ _ _ _ _ R1 h.2 (m.up k1)
    · exact h.elim
  · exact q _ _ _ _ _ _ _ _ R h m
end
section
variable {P : Program} {w : World} {K : PySem.W.Frag} {mg : Str → Option Value} {base : Heap}
theorem hu64 {k : Nat} {A : Around} (hr : RoomG k A) : A.units + 64 < cLine := by have := hr.r.un; omega
theorem hu1 {k : Nat} {A : Around} (hr : RoomG k A) : A.units + 1 < cLine := by have := hr.r.un; omega
theorem hu1R {k : Nat} {A : Around} (hr : Room k A) : A.units + 1 < cLine := by have := hr.un; omega
/-- the law: its state begun, then the rest by the D-layer -/
theorem ok_law {x qual : Str} {st : Stmt} {f fB : Addr} {fd fdB : FuncData} {N : List Str} {k : Nat} {rest : List Stmt} {W : WS} {p1 p2 p3 p4 p5 : Pos} {n : Nat}
    (F : Fun K x qual st f fd) (Sc : FnScope N ["_law_script"] (defScope st))
    (hbd : defBody st = .Assign [.Name "_law_state" p1] (.Call (.Name "_law_begin" p2) [.Name "_law_script" p3] [] p4) p5 :: rest)
    (hN : N = ("_law_script" : Str) :: ("_law_state" : Str) :: N.drop 2) (hn : (N.drop 2).length = n)
    (hloc : Loc (defScope st) ("_law_state" : Str)) (hs0 : Vis (defScope st) ("_law_script" : Str))
    (hgl : (defScope st).names.lookup ("_law_begin" : Str) = some .globalImplicit)
    (GB : FnOk P w K mg base CX0 k fB fdB ["_law_script"] (spBeginH K)) (FB : PySem.W.keepIn K (.ref fB) = true) (bB : Binds K fdB ["_law_script"] []) (gB : mg "_law_begin" = some (.ref fB))
    (hb : ∀ (cdv : Value) (A : Around) (outer : List Env) (s : Shared) (H : Hp) (E : XK), RoomG k (A.deeper (PyProof.Rows.envOfC qual (defScope st) s.heap.objs.size f cdv)) → DSs (cxOf CX0 P w K mg base N qual (defScope st) f cdv A outer s H E).nox rest W)
    (hW : W ⟨.no :: .mu 0 :: nos n, [.rnd fuel0], 0⟩ endLaw) : FnOkG P w K mg base CX0 (k + 1) f fd ["_law_script"] (spLawH K) := by
  refine fun_okG F Sc (fun vs H Q E h => ?_) (fun cdv A outer s H vs Q E hr h => ?_)
  · obtain ⟨a, ns, rfl, _⟩ := h
    rfl
  · obtain ⟨a, ns, rfl, hS, hlen, q⟩ := h
    obtain ⟨t, pt, qt⟩ := (hb cdv A outer s H E hr).ex
    have e0 : N[0]? = some ("_law_script" : Str) := by rw [hN]; rfl
    have e1 : N[1]? = some ("_law_state" : Str) := by rw [hN]; rfl
    rw [hbd]
    refine ⟨_, pss_cons (ps_set (i := 1) Sc.nd e1 hloc (pe_call GB hr.r hgl gB FB bB .nil pass0 (pa_cons (pe_var e0 hs0) pa_nil)) (hf := .inl rfl)) pt, ?_⟩
    have hst : L2.start N [V.ref a] = some (V.ref a) :: none :: List.replicate n none := by
      unfold L2.start
      rw [hN]
      simp [List.replicate_succ, hn]
    rw [hst]
    refine ⟨.ref a, rfl, a, ns, rfl, hS, fun H1 ad c cs hx ha hc na nc hac l1 l2 => ?_⟩
    refine qt ⟨H, [], fun _ => False⟩ (fun b => b = ad ∨ b = c) [[ad, c]] H1 _ ⟨.no :: .mu 0 :: nos n, [.rnd fuel0], 0⟩ endLaw _ ⟨⟨rfl, fun j => ?_, fun j j' b h1 h2 => ?_, fun j => ?_, fun j b hb => ?_, fun b hb => ?_⟩, ?_, fun i => ?_, fun _ h => h.elim, fun b o _ h => hx b o h, fun j b hb => ?_, rfl, Nat.zero_le _, fun b hb => ?_, fun _ h => h.elim⟩ hW ?_
    · match j with
      | 0 => exact ⟨ad, c, cs, 0, rfl, ha, hc, l1, l2, by omega, by decide⟩
      | j + 1 => trivial
    · match j, j', h1, h2 with
      | 0, 0, _, _ => rfl
      | 0, j' + 1, _, h2 => cases h2
      | j + 1, _, h1, _ => cases h1
    · match j with
      | 0 => exact List.nodup_cons.mpr ⟨by simpa using hac, by simp⟩
      | j + 1 => exact List.nodup_nil
    · match j, hb with
      | 0, hb =>
        rcases List.mem_cons.mp hb with rfl | hb
        · exact .inl rfl
        · exact .inr (List.mem_singleton.mp hb)
      | j + 1, hb => cases hb
    · rcases hb with rfl | rfl
      · rw [ha]; intro z; cases z
      · rw [hc]; intro z; cases z
    · show (((some (V.ref a) :: none :: List.replicate n none).set 1 (some (V.ref ad))).length = _)
      simp [nos_length]
    · match i with
      | 0 => exact .inl rfl
      | 1 => exact .inr ⟨.ref ad, rfl, ad, [c], rfl, rfl⟩
      | i + 2 => exact .inl (gt_nos n i)
    · match j, hb with
      | 0, hb =>
        rcases List.mem_cons.mp hb with rfl | hb
        · exact .inr na
        · cases List.mem_singleton.mp hb; exact .inr nc
      | j + 1, hb => cases hb
    · rcases hb with rfl | rfl
      · exact .inr na
      · exact .inr nc
    · refine ⟨fun A' own' H' σ' s' R' _ h => h.elim, fun A' own' H' σ' s' v x R' _ ex h => ?_, fun _ _ _ _ _ _ _ h => h.elim, fun _ _ _ _ _ _ _ h => h.elim⟩
      cases (show x = .da (.bool true) from h)
      cases ex
      exact q H'
def st0 (xs : List En) (n0 : Nat) (ms : List MO) (np : Nat) : S := ⟨xs ++ nos n0, ms, np⟩
theorem ok_data {x : Str} {st : Stmt} {N ps : List Str} {k n n0 : Nat} {sp : SpD} (hF : ∃ f fd, At K mg x st ps f fd) (Sc : FnScope N ps (defScope st)) (W : WS)
    (hb : ∀ (f : Addr) (cdv : Value) (A : Around) (outer : List Env) (s : Shared) (H : Hp) (E : XK), RoomG k (A.deeper (PyProof.Rows.envOfC x (defScope st) s.heap.objs.size f cdv)) → DSs (cxOf CX0 P w K mg base N x (defScope st) f cdv A outer s H E).nox (defBody st) W)
    (hsp : ∀ xs ms Ks, sp xs ms Ks → xs.length = n → W (st0 xs n0 ms ms.length) (endD Ks)) (hn : ps.length = n := by rfl) (hn0 : N.length - ps.length = n0 := by rfl) : Ok P w K mg base (k + 1) x st ps n sp := by
  obtain ⟨f, fd, a⟩ := hF
  subst hn
  subst hn0
  exact ⟨f, fd, a, fn_data a.F Sc W (hb f) hsp⟩
end
end DL
namespace DL
open PySem L2 PySem.Spec PyProof.Rows
/-! ### a law's own sameness -/
mutual
/-- data that a law's sameness takes; bo: truths, too -/
def okS (bo : Bool) : D → Bool
  | .none => true
  | .bool _ => bo
  | .int _ => true
  | .str x => PyData.canLay0 (.str x)
  | .list ds => okSs bo ds && decide (ds.length ≤ sizeLine)
  | .tuple ds => okSs bo ds && decide (ds.length ≤ sizeLine)
  | .dict _ => false
def okSs (bo : Bool) : List D → Bool
  | [] => true
  | d :: r => okS bo d && okSs bo r
end
mutual
theorem okS_lay {bo : Bool} : ∀ {d : D}, okS bo d = true → d.canLay0 = true
  | .none, _ => by simp [PyData.canLay0]
  | .bool _, _ => by simp [PyData.canLay0]
  | .int _, _ => by simp [PyData.canLay0]
  | .str x, h => by simpa [okS] using h
  | .list ds, h => by
    simp only [okS, Bool.and_eq_true] at h
    simpa [PyData.canLay0] using okSs_lay h.1
  | .tuple ds, h => by
    simp only [okS, Bool.and_eq_true] at h
    simpa [PyData.canLay0] using okSs_lay h.1
  | .dict _, h => by simp [okS] at h
theorem okSs_lay {bo : Bool} : ∀ {ds : List D}, okSs bo ds = true → PyData.canLayAll0 ds = true
  | [], _ => by simp [PyData.canLayAll0]
  | d :: r, h => by
    simp only [okSs, Bool.and_eq_true] at h
    simp [PyData.canLayAll0, okS_lay h.1, okSs_lay h.2]
end
theorem okSs_get {bo : Bool} : ∀ {ds : List D} {i : Nat} {d : D}, okSs bo ds = true → ds[i]? = some d → okS bo d = true
  | [], _, _, _, h => by simp at h
  | x :: r, 0, d, h, e => by
    simp only [okSs, Bool.and_eq_true] at h
    simp at e; subst e; exact h.1
  | x :: r, i + 1, d, h, e => by
    simp only [okSs, Bool.and_eq_true] at h
    exact okSs_get h.2 (by simpa using e)
theorem okSs_of {bo : Bool} : ∀ {ds : List D}, (∀ d ∈ ds, okS bo d = true) → okSs bo ds = true
  | [], _ => rfl
  | x :: r, h => by
    simp only [okSs, Bool.and_eq_true]
    exact ⟨h _ (by simp), okSs_of fun d q => h d (by simp [q])⟩
theorem depth_get : ∀ {ds : List D} {i : Nat} {d : D}, ds[i]? = some d → d.depth ≤ PyData.depthAll ds
  | [], _, _, h => by simp at h
  | x :: r, 0, d, e => by
    simp at e; subst e; simp only [PyData.depthAll]; omega
  | x :: r, i + 1, d, e => by
    have := depth_get (ds := r) (by simpa using e)
    simp only [PyData.depthAll]; omega
theorem depth_of {n : Nat} : ∀ {ds : List D}, (∀ d ∈ ds, d.depth ≤ n) → PyData.depthAll ds ≤ n
  | [], _ => by simp [PyData.depthAll]
  | x :: r, h => by
    have h1 := h x (by simp)
    have h2 := depth_of (n := n) (ds := r) fun d q => h d (by simp [q])
    simp only [PyData.depthAll]; omega
/-- the same data: True -/
def spSame (bo : Bool) (n : Nat) : SpD := fun xs ms Ks => match xs, ms with
  | [.da d, .da e], [] => d = e ∧ okS bo d = true ∧ d.depth < n ∧ n ≤ 60 ∧ Ks [] (.da (.bool true))
  | _, _ => False
theorem shaped_of {bo : Bool} {d : D} (h : okS bo d = true) (hd : d.depth ≤ 64) : SeqAt.shaped d = true := by
  show (d.canLay0 && decide (d.depth ≤ 64)) = true
  rw [okS_lay h, decide_eq_true hd]; rfl
theorem Ok.none {P : Program} {w : World} {K : PySem.W.Frag} {mg : Str → Option Value} {base : Heap} {x : Str} {st : Stmt} {ps : List Str} {n : Nat} {sp : SpD} (hF : ∃ f fd, At K mg x st ps f fd) (h : ∀ xs ms Ks, ¬ sp xs ms Ks) : Ok P w K mg base 0 x st ps n sp := by
  obtain ⟨f, fd, a⟩ := hF
  refine ⟨f, fd, a, ⟨fun vs H Q E q => ?_, fun A outer s H args us vs Q E hr _ he hb hv hs => ?_⟩⟩
  · obtain ⟨_, _, _, _, _, _, _, _, q, _⟩ := q
    exact (h _ _ _ q).elim
  · obtain ⟨_, _, _, _, _, _, _, _, q, _⟩ := hs
    exact (h _ _ _ q).elim
theorem nFr {α : Type} {a : α} [Decidable (a = a)] {A B : Prop} (b : B) : ((!decide (a = a)) = true → A) ∧ ((!decide (a = a)) = false → B) := nF rfl b
theorem bTr {α : Type} {a : α} [Decidable (a = a)] {A B : Prop} (x : A) : (decide (a = a) = true → A) ∧ (decide (a = a) = false → B) := bT rfl x
theorem xT {c : Bool} {A B : Prop} (h : c = true) (a : A) : (c = true → A) ∧ (c = false → B) := ⟨fun _ => a, fun z => by rw [h] at z; cases z⟩
theorem xF {c : Bool} {A B : Prop} (h : c = false) (b : B) : (c = true → A) ∧ (c = false → B) := ⟨fun z => (by rw [h] at z; cases z), fun _ => b⟩
theorem xnF {c : Bool} {A B : Prop} (h : c = true) (b : B) : ((!c) = true → A) ∧ ((!c) = false → B) := ⟨fun z => (by rw [h] at z; cases z), fun _ => b⟩
theorem xnT {c : Bool} {A B : Prop} (h : c = false) (a : A) : ((!c) = true → A) ∧ ((!c) = false → B) := ⟨fun _ => a, fun z => by rw [h] at z; cases z⟩
theorem onO_mk {α : Type} {o : Option α} {f : α → Prop} {x : α} (h : o = some x) (k : f x) : onO o f := by subst h; exact k
/-- all of these calls told True -/
theorem all_true : ∀ n : Nat, (List.replicate n true).all id = true
  | 0 => rfl
  | n + 1 => by rw [List.replicate_succ, List.all_cons, all_true n]; rfl
end DL
namespace DL
open PySem L2 PySem.Spec PyProof.Rows
section
variable {X : Cx} {a b c e : Expr} {wa wb wc we : WE} {pos : Pos} {es : List Expr} {wr : WA}
/-- xs[::-1] of a list: new data -/
def dRevL (we : WE) : WE := fun s Ks => we s fun s1 x => onO (vw s1 x) fun d => match d with | .list ds => Ks s1 (.da (.list ds.reverse)) | _ => False
theorem de_revL {k : Nat} {p1 p2 p3 : Pos} (he : DE X e we) : DE X (.Subscript e (.Slice none none (some (.UnaryOp .USub (.Constant (.int 1) k p1) p2)) p3) pos) (dRevL we) := by
  obtain ⟨te, pe, qe⟩ := he.ex
  refine ⟨_, pe_revL pe, fun b A own H σ s Ks Q R h k => ?_⟩
  show te σ H fun x H1 => ∃ a xs, x = .ref a ∧ SqL X.K H1 a xs ∧ ∀ p, H1 p = none → Q (.ref p) (upd H1 p (.lst xs.reverse))
  refine qe _ _ _ _ _ _ _ _ R h fun A1 o1 H1 v1 s1 x1 R1 U1 E1 h1 => ?_
  obtain ⟨d, hd, h1⟩ := onO_inv h1
  split at h1
  · obtain ⟨a, vs, rfl, q, r⟩ := vw_lst R1 E1 hd
    exact ⟨a, vs, rfl, q, fun p hp => new_lst R1 (k.up U1) r.reverse hp h1⟩
  · exact h1.elim
end
end DL
namespace DL
open PySem L2 PySem.Spec PyProof.Rows
/-! ### a call that only reads: objects that change are lent as data; what comes back is a number, a truth, a text or None -/
def viL (s : S) : List En → Option (List En)
  | [] => some []
  | x :: r => match vw s x with
    | some d => (match viL s r with | some ys => some (.da d :: ys) | none => none)
    | none => none
def scD : D → Bool
  | .none => true
  | .bool _ => true
  | .int _ => true
  | .str _ => true
  | _ => false
theorem Rp.scal {K : PySem.W.Frag} {A A' : Addr → Prop} {H H' : Hp} {v : V} {d : D} (r : Rp K A H v d) (h : scD d = true) : Rp K A' H' v d := by
  cases r with
  | non => exact .non
  | bl c => exact .bl c
  | int i => exact .int i
  | str x => exact .str x
  | lst l r => cases h
  | tup l r => cases h
  | dct l n r => cases h
theorem vi_er {K : PySem.W.Frag} {b : Bd} {A : Addr → Prop} {own : List (List Addr)} {H : Hp} {σ : L2.St} {s : S} (R : Rel K b A own H σ s) {v : V} {x : En} {d : D} (h : ER K A own H v x) (e : vw s x = some d) : Rp K (fun _ => False) H v d := by
  have kp : Kp A H (fun _ => False) H := fun _ _ _ r => ⟨r, fun z => z⟩
  cases x with
  | no => cases e
  | da d' => cases e; exact Rp.mono kp h
  | mu k =>
    obtain ⟨a, r, g, rfl⟩ := h
    have m := R.mr k
    unfold vw at e
    simp only at e
    cases q : gm s.ms k with
    | lst ds =>
      rw [q] at e m
      cases e
      obtain ⟨a', vs, e1, e2, e3⟩ := m
      rw [e1] at g
      cases g
      exact .lst ⟨e2, fun z => z⟩ (RpL.mono kp e3)
    | gone => rw [q] at e; cases e
    | dct _ => rw [q] at e; cases e
    | rnd _ => rw [q] at e; cases e
    | box _ => rw [q] at e; cases e
    | tab _ => rw [q] at e; cases e
    | ins _ _ => rw [q] at e; cases e
theorem vi_erl {K : PySem.W.Frag} {b : Bd} {A : Addr → Prop} {own : List (List Addr)} {H : Hp} {σ : L2.St} {s : S} (R : Rel K b A own H σ s) : ∀ {vs : List V} {xs ys : List En}, ERL K A own H vs xs → viL s xs = some ys → ERL K (fun _ => False) [] H vs ys
  | [], [], _, _, e => by cases e; trivial
  | v :: vs, x :: xs, ys, ⟨h, t⟩, e => by
    unfold viL at e
    split at e
    · rename_i d q
      split at e
      · rename_i zs q2
        cases e
        exact ⟨vi_er R h q, vi_erl R t q2⟩
      · cases e
    · cases e
def CallB (sp : SpD) : S → List En → (S → En → Prop) → Prop := fun s xs Ks => onO (viL s xs) fun ys => sp ys [] fun _ r => daI r fun d => scD d = true ∧ Ks s (.da d)
theorem Own.none (K : PySem.W.Frag) (H : Hp) : Own K (fun _ => False) [] H [] := ⟨rfl, fun _ => trivial, fun _ _ _ h => (by cases h), fun _ => List.nodup_nil, fun _ _ h => (by cases h), fun _ h => h.elim⟩
section
variable {X : Cx} {e : Expr} {es : List Expr} {wr : WA}
theorem de_callB' {k : Nat} {st : Stmt} {ps : List Str} {sp : SpD} {x : Str} {p pos : Pos} {n : Nat} (O : Ok X.prog X.w X.K X.mg X.base k x st ps n sp) (hr : RoomG k X.A) (hg : Gl X x)
    (ha : DAn X (e :: es) n wr) (hdb : (x == ("__debug__" : Str)) = false := by decide) (he : starEach (e :: es) X.env = (false, eval e X.env) :: starEach es X.env := by rfl) (hpl : (backTo pos (starEach es X.env)).any (·.1) = false := by rfl) :
    DE X (.Call (.Name x p) (e :: es) [] pos) (dCall (CallB sp) wr) := by
  obtain ⟨f, fd, a, F⟩ := O.ex
  obtain ⟨ta, pa, qa⟩ := ha.ex
  refine ⟨_, pe_callG F hr.r hr.g hg a.g a.kp a.b .nil (pass0 (X := X)) pa hdb he hpl, fun b A own H σ s Ks Q R h kk => ?_⟩
  show ta σ H fun vs H1 => spOf X.K n sp (vs ++ []) H1 Q E0
  refine qa _ _ _ _ _ _ _ _ R h fun A1 o1 H1 vs s1 xs R1 U1 E1 h1 => ?_
  rw [List.append_nil]
  obtain ⟨ys, hy, h2⟩ := onO_inv h1.2
  refine ⟨fun _ => False, [], ys, [], _, E1.len.trans h1.1, vi_erl R1 E1 hy, Own.none _ _, h2, fun A' own' H' v ms' r _ _ _ _ fr _ er hk => ?_⟩
  obtain ⟨d, rfl, hs, hk⟩ := daI_inv hk
  obtain ⟨R2, U2⟩ := R1.ext (H' := H') fun a o q => fr a o (fun k z => by cases z) q
  exact kk.da R2 (U1.trans U2) (Rp.scal er hs) hk
end
end DL
namespace DL
open PySem L2 PySem.Spec PyProof.Rows
section
variable {X : Cx} {a b c e : Expr} {wa wb wc we : WE} {pos : Pos} {es : List Expr} {wr : WA}
/-- min of three numbers -/
def cMin3 : S → List En → (S → En → Prop) → Prop := fun s xs Ks => a3 xs fun x y z => iI x y fun i j => i1 z fun k => Ks s (.da (.int (min (min i j) k)))
theorem cd_min3 {K : PySem.W.Frag} : CallD K (rNuC3 nuMin3) cMin3 := by
  intro b A own H σ s vs xs Ks Q R E h k
  match xs, vs, E, h with
  | [x, y, z], [v, u, w], ⟨e1, e2, e3, _⟩, h =>
    have h : iI x y fun i j => i1 z fun k => Ks s (.da (.int (min (min i j) k))) := h
    obtain ⟨i, j, rfl, rfl, h⟩ := iI_inv h
    obtain ⟨l, rfl, h⟩ := i1_inv h
    cases e1; cases e2; cases e3
    refine ⟨_, _, _, .int (min (min i j) l), rfl, ?_, k.da R Up.refl (.int _) h⟩
    show ((Option.map (fun c => if c = true then V.int j else V.int i) (some (decide (j < i)))).bind fun m => (nuLt (.int l) m).map fun c => if c = true then V.int l else m) = _
    by_cases h1 : j < i
    · rw [decide_eq_true h1]
      show (Option.map (fun c => if c = true then V.int l else V.int j) (some (decide (l < j)))) = _
      by_cases h2 : l < j
      · rw [decide_eq_true h2]; show some (V.int l) = _; congr 2; omega
      · rw [decide_eq_false h2]; show some (V.int j) = _; congr 2; omega
    · rw [decide_eq_false h1]
      show (Option.map (fun c => if c = true then V.int l else V.int i) (some (decide (l < i)))) = _
      by_cases h2 : l < i
      · rw [decide_eq_true h2]; show some (V.int l) = _; congr 2; omega
      · rw [decide_eq_false h2]; show some (V.int i) = _; congr 2; omega
theorem de_min3 {p : Pos} (hc : X.calm = true) (hg : Gl X "min") (hm : X.mg "min" = none) (ha : DE X a wa) (hb : DE X b wb) (hcc : DE X c wc)
    (he : starEach (a :: [b, c]) X.env = (false, eval a X.env) :: starEach [b, c] X.env := by rfl) (he2 : starEach (b :: [c]) X.env = (false, eval b X.env) :: starEach [c] X.env := by rfl) (he3 : starEach (c :: []) X.env = (false, eval c X.env) :: starEach [] X.env := by rfl)
    (hpl : (backTo pos (starEach [b, c] X.env)).any (·.1) = false := by rfl) : DE X (.Call (.Name "min" p) [a, b, c] [] pos) (dCall cMin3 (aCons wa (aCons wb (aCons wc aNil)))) :=
  de_callB (call_min3Nu hc) cd_min3 hg hm (by decide +kernel) (da_cons ha (da_cons hb (da_cons hcc da_nil he3) he2) he) (he := he) (hpl := hpl)
/-- the first place of a number in a list of numbers -/
def dIndexI (wa wb : WE) : WE := fun s Ks => wa s fun s1 x => ∃ ns : List Int, x = .da (.list (ns.map .int)) ∧ wb s1 fun s2 y => i1 y fun v => ∃ j : Nat, ns[j]? = some v ∧ (∀ m, m < j → ns[m]? ≠ some v) ∧ Ks s2 (.da (.int (j : Nat)))
theorem de_indexI {apos cpos : Pos} (ho : DE X a wa) (hi : DE X b wb)
    (hbase : attributeBase a "index" X.env (eval a X.env) = eval a X.env := by rfl)
    (hfew : ((backTo cpos (starEach (b :: []) X.env)).all (fun x => !x.1) && (backToKw cpos (keywordEach [] X.env)).all (fun x => x.1.isSome)
      && decide ((b :: []).length + ([] : List Keyword).length + (if ([] : List Keyword).isEmpty then 0 else 1) < 30)) = true := by rfl)
    (hline : (apos.endLine == cpos.line) = true := by rfl) (hs : starEach (b :: []) X.env = (false, eval b X.env) :: starEach [] X.env := by rfl) (hplain : (backTo cpos (starEach [] X.env)).any (·.1) = false := by rfl) :
    DE X (.Call (.Attribute a "index" apos) [b] [] cpos) (dIndexI wa wb) := by
  obtain ⟨ta, pa, qa⟩ := ho.ex
  obtain ⟨tr, pr, qr⟩ := (da_cons hi da_nil hs).ex
  refine ⟨_, pe_bm PySem.F.plainAttrs_list PySem.F.slot_list_index PySem.F.type_list_index mt_index pa pr hbase hfew hline hs hplain, fun b A own H σ s Ks Q R h k => ?_⟩
  show ta σ H fun x H1 => tyV X.K "list" x H1 ∧ tr σ H1 fun xs H2 => rIndex X.K x xs H2 Q
  refine qa _ _ _ _ _ _ _ _ R h fun A1 o1 H1 v1 s1 x1 R1 U1 E1 h1 => ?_
  obtain ⟨ns, rfl, h1⟩ := h1
  obtain ⟨p, us, rfl, l1, r1⟩ : ∃ p us, v1 = .ref p ∧ LsR A1 H1 p us ∧ RpL X.K A1 H1 us (ns.map .int) := by
    cases (show Rp X.K A1 H1 v1 (.list (ns.map .int)) from E1) with
    | lst l r => exact ⟨_, _, rfl, l, r⟩
  obtain rfl := RpL.ofInts r1
  refine ⟨.inl ⟨rfl, _, l1.sq⟩, ?_⟩
  refine qr _ _ _ _ _ _ (fun s2 xs => a1 xs fun y => i1 y fun v => ∃ j : Nat, ns[j]? = some v ∧ (∀ m, m < j → ns[m]? ≠ some v) ∧ Ks s2 (.da (.int (j : Nat)))) _ R1 h1 fun A2 o2 H2 vs s2 xs R2 U2 E2 h2 => ?_
  obtain ⟨v, y, rfl, E3, h2⟩ := a1_inv E2 h2
  obtain ⟨z, rfl, j, hj, hlt, h2⟩ := i1_inv h2
  cases E3
  have l2 : LsR A2 H2 p (ns.map V.int) := U2.kp _ _ l1.2 l1.1
  refine ⟨p, ns.map V.int, .int z, j, .int z, rfl, rfl, l2.sq, rfl, ?_, ?_, ?_, fun m z' hm hz => ?_, (k.up (U1.trans U2)).da R2 Up.refl (.int _) h2⟩
  · rw [List.all_map]; exact List.all_eq_true.mpr fun _ _ => rfl
  · rw [List.getElem?_map, hj]; rfl
  · show (z == z) = true
    simp
  · rw [List.getElem?_map] at hz
    cases q : ns[m]? with
    | none => rw [q] at hz; cases hz
    | some z2 =>
      rw [q] at hz
      cases hz
      show (z2 == z) = false
      have := hlt m hm
      rw [q] at this
      simp
      intro e
      exact this (by rw [e])
end
end DL
namespace DL
open PySem L2 PySem.Spec PyProof.Rows
section
variable {X : Cx} {a b c e : Expr} {wa wb wc we : WE} {pos : Pos} {es : List Expr} {wr : WA}
/-! ### int(..) of a number, a truth, a text -/
def cInt : S → List En → (S → En → Prop) → Prop := fun s xs Ks => a1 xs fun x => daI x fun d => match d with
  | .int i => Ks s (.da (.int i))
  | .bool k => Ks s (.da (.int (if k = true then 1 else 0)))
  | .str z => ∃ n, PySem.intText? z = some n ∧ z.length ≤ 640 ∧ Ks s (.da (.int n))
  | _ => False
def rInt : List V → Hp → VK → Prop := fun xs H Q => ((∃ i, xs = [.int i] ∧ Q (.int i) H) ∨ ∃ k, xs = [.bl k] ∧ Q (.int (if k then 1 else 0)) H) ∨ ∃ a n, xs = [.str a] ∧ PySem.intText? a = some n ∧ a.length ≤ 640 ∧ Q (.int n) H
theorem cr_int : CallR X (.type "int") rInt := fun pins s σ H vs us Q I r h => h.elim (fun h => call_int1 pins s σ H vs us Q I r h) fun h => call_int_str pins s σ H vs us Q I r h
theorem cd_int {K : PySem.W.Frag} : CallD K rInt cInt := by
  intro b A own H σ s vs xs Ks Q R E h k
  obtain ⟨v, x, rfl, e1, h⟩ := a1_inv E h
  obtain ⟨d, rfl, h⟩ := daI_inv h
  cases d with
  | int i => cases e1; exact .inl (.inl ⟨i, rfl, k.da R Up.refl (.int i) h⟩)
  | bool c => cases e1; exact .inl (.inr ⟨c, rfl, k.da R Up.refl (.int _) h⟩)
  | str z =>
    cases e1
    obtain ⟨n, h1, h2, h3⟩ := h
    exact .inr ⟨z, n, rfl, h1, h2, k.da R Up.refl (.int n) h3⟩
  | none => exact h.elim
  | list _ => exact h.elim
  | tuple _ => exact h.elim
  | dict _ => exact h.elim
theorem de_int1 {p : Pos} (hg : Gl X "int") (hm : X.mg "int" = none) (ha : DE X a wa) (he : starEach (a :: []) X.env = (false, eval a X.env) :: starEach [] X.env := by rfl) : DE X (.Call (.Name "int" p) [a] [] pos) (dCall cInt (aCons wa aNil)) := de_callTy cr_int cd_int hg hm (by decide +kernel) (da_cons ha da_nil he) (he := he)
/-! ### str(..) of a number, a text -/
def cStr1 : S → List En → (S → En → Prop) → Prop := fun s xs Ks => a1 xs fun x => i1 x fun i => i.natAbs.log2 < 1920 ∧ Ks s (.da (.str (toString i)))
theorem cd_strI {K : PySem.W.Frag} : CallD K (fun xs H Q => ∃ i, xs = [.int i] ∧ i.natAbs.log2 < 1920 ∧ Q (.str (toString i)) H) cStr1 := by
  intro b A own H σ s vs xs Ks Q R E h k
  obtain ⟨v, x, rfl, e1, h⟩ := a1_inv E h
  obtain ⟨i, rfl, h1, h2⟩ := i1_inv h
  cases e1
  exact ⟨i, rfl, h1, k.da R Up.refl (.str _) h2⟩
theorem de_strI {p : Pos} (hg : Gl X "str") (hm : X.mg "str" = none) (ha : DE X a wa) (he : starEach (a :: []) X.env = (false, eval a X.env) :: starEach [] X.env := by rfl) : DE X (.Call (.Name "str" p) [a] [] pos) (dCall cStr1 (aCons wa aNil)) := de_callTy call_str_int cd_strI hg hm (by decide +kernel) (da_cons ha da_nil he) (he := he)
/-! ### min, max of data -/
def fitD (ds : List D) : Prop := PyData.canLayAll0 ds = true ∧ PyData.depthAll ds ≤ 60
theorem vals_back : ∀ {xs : List V} {us : List Value} {i : Nat} {u : Value}, Vals xs us → us[i]? = some u → ∃ x, xs[i]? = some x ∧ RelV x u
  | _, _, _, _, .nil, h => by simp at h
  | _, _, 0, _, .cons r _, h => by simp at h; subst h; exact ⟨_, rfl, r⟩
  | _, _, i + 1, _, .cons _ t, h => by
    obtain ⟨x, h1, h2⟩ := vals_back (i := i) t (by simpa using h)
    exact ⟨x, by simpa using h1, h2⟩
theorem plain_mem : ∀ {xs : List PyData} {x : PyData}, PyData.plainAll xs = true → x ∈ xs → x.plain = true
  | _ :: _, _, h, hx => by
    rw [PyData.plainAll, Bool.and_eq_true] at h
    rcases List.mem_cons.mp hx with rfl | hx
    · exact h.1
    · exact plain_mem h.2 hx
def cMinD : S → List En → (S → En → Prop) → Prop := fun s xs Ks => a1 xs fun x => ∃ (d : D) (ds : List D), vw s x = some (.list (d :: ds)) ∧ PySem.W.AlikeAll (d :: ds) ∧ fitD (d :: ds) ∧ Ks s (.da (PySem.W.minD d ds))
def rMinD (K : PySem.W.Frag) : List V → Hp → VK → Prop := fun vs H Q => ∃ (a : Addr) (xs : List V) (d : D) (ds : List D), vs = [.ref a] ∧ SqL K H a xs ∧ DpAll K H xs (d :: ds) ∧ PySem.W.AlikeAll (d :: ds) ∧ fitD (d :: ds) ∧ ∀ (i : Nat) v, xs[i]? = some v → (d :: ds)[i]? = some (PySem.W.minD d ds) → Q v H
theorem cr_minD (hc : X.calm = true) (hu : X.A.units + 64 < cLine) : CallR X (.builtin "min") (rMinD X.K) := by
  intro pins s σ H vs us Q I r h
  obtain ⟨a, xs, d, ds, rfl, hs, hd, hal, ⟨hf1, hf2⟩, q⟩ := h
  obtain ⟨its, rv, hl, hz⟩ := I.list hs
  rw [Vals.ref1 r]
  obtain ⟨as, hr⟩ := Dp.readsAll I (d :: ds) xs its hd rv
  refine PySem.W.min_list_data (I.ok.hd hc) hl.isList (vs := its.toArray) hr hal (by omega) fun i v h' tk bs hv hrd hk => ?_
  have hv' : its[i]? = some v := by simpa using hv
  obtain ⟨x, hx, rx⟩ := vals_back rv hv'
  refine ⟨x, H, I.kept hk, rx, q i x hx ?_⟩
  obtain ⟨bs', r1, hi, hm2, _⟩ := PySem.W.readsAll_at hr i v hv'
  have pl : PyData.plainAll (d :: ds) = true := PyData.plainAll_of_canLay0 _ hf1
  have e := PySem.SeqAt.plain_unique _ _ v _ _ (plain_mem pl hm2) (Reads.keeps hk r1) hrd
  rw [List.getElem?_eq_getElem hi]
  rw [List.getD_eq_getElem?_getD, List.getElem?_eq_getElem hi] at e
  exact congrArg some e
theorem vw_lstAll {K : PySem.W.Frag} {b : Bd} {A : Addr → Prop} {own : List (List Addr)} {H : Hp} {σ : L2.St} {s : S} (R : Rel K b A own H σ s) {v : V} {x : En} {ds : List D} (h : ER K A own H v x) (e : vw s x = some (.list ds)) :
    ∃ a vs, v = .ref a ∧ SqL K H a vs ∧ RpL K A H vs ds := vw_lst R h e
theorem cd_minD {K : PySem.W.Frag} : CallD K (rMinD K) cMinD := by
  intro b A own H σ s vs xs Ks Q R E h k
  obtain ⟨v, x, rfl, e1, h⟩ := a1_inv E h
  obtain ⟨d, ds, hd, hal, hf, h⟩ := h
  obtain ⟨a, us, rfl, q, r⟩ := vw_lst R e1 hd
  refine ⟨a, us, d, ds, rfl, q, r.dp hf.1, hal, hf, fun i v hv hi => ?_⟩
  obtain ⟨y, hy, ry⟩ := r.get hi
  rw [hv] at hy
  cases hy
  exact k.da R Up.refl ry h
theorem de_minD {p : Pos} (hc : X.calm = true) (hu : X.A.units + 64 < cLine) (hg : Gl X "min") (hm : X.mg "min" = none) (ha : DE X a wa) (he : starEach (a :: []) X.env = (false, eval a X.env) :: starEach [] X.env := by rfl) : DE X (.Call (.Name "min" p) [a] [] pos) (dCall cMinD (aCons wa aNil)) := de_callB (cr_minD hc hu) cd_minD hg hm (by decide +kernel) (da_cons ha da_nil he) (he := he)
/-! ### x in a list, in a tuple -/
def rInS (K : PySem.W.Frag) (neg : Bool) : R2 := fun x y H Q => ∃ (d : D) (ds : List D), Dp K H x d ∧ (Dp K H y (.list ds) ∨ Dp K H y (.tuple ds)) ∧ fitD [d] ∧ fitD ds ∧ Q (.bl (xr neg (ds.any fun z => PyData.eqv z d))) H
theorem fit_room {A : Around} {d : D} {ds : List D} (h : fitD [d]) (hu : A.units + 64 < cLine) : A.units + 1 + min (PyData.depthAll ds) d.depth < cLine := by
  have h2 := h.2
  simp only [PyData.depthAll] at h2
  have : min (PyData.depthAll ds) d.depth ≤ d.depth := Nat.min_le_right _ _
  omega
theorem fit_one {d : D} (h : fitD [d]) : d.canLay0 = true := by
  have := h.1
  simp only [PyData.canLayAll0, Bool.and_eq_true] at this
  exact this.1
theorem op_inS2 (hu : X.A.units + 64 < cLine) : OpR X (compareOp .In) (rInS X.K false) := by
  intro pins s σ H x y v u Q I rx ry h
  obtain ⟨d, ds, hd, he, fd, fs, q⟩ := h
  obtain ⟨as, r1⟩ := Dp.reads I d x v hd rx
  rcases he with he | he
  · obtain ⟨bs, r2⟩ := Dp.reads I (.list ds) y u he ry
    exact SeqAt.in_list_reads r2 r1 fs.1 (fit_one fd) (fit_room fd hu) ⟨.bl _, H, I, rfl, q⟩
  · obtain ⟨bs, r2⟩ := Dp.reads I (.tuple ds) y u he ry
    exact SeqAt.in_tuple_reads r2 r1 fs.1 (fit_one fd) (fit_room fd hu) ⟨.bl _, H, I, rfl, q⟩
theorem op_notInS2 (hu : X.A.units + 64 < cLine) : OpR X (compareOp .NotIn) (rInS X.K true) := by
  intro pins s σ H x y v u Q I rx ry h
  obtain ⟨d, ds, hd, he, fd, fs, q⟩ := h
  obtain ⟨as, r1⟩ := Dp.reads I d x v hd rx
  rcases he with he | he
  · obtain ⟨bs, r2⟩ := Dp.reads I (.list ds) y u he ry
    exact SeqAt.notIn_list_reads r2 r1 fs.1 (fit_one fd) (fit_room fd hu) ⟨.bl _, H, I, rfl, q⟩
  · obtain ⟨bs, r2⟩ := Dp.reads I (.tuple ds) y u he ry
    exact SeqAt.notIn_tuple_reads r2 r1 fs.1 (fit_one fd) (fit_room fd hu) ⟨.bl _, H, I, rfl, q⟩
def rdInD (neg : Bool) : S → En → En → (S → En → Prop) → Prop := fun s x y Ks => vw2 s x y fun d e => onO (seqD e) fun ds => fitD [d] ∧ fitD ds ∧ Ks s (.da (.bool (xr neg (ds.any fun z => PyData.eqv z d))))
theorem opd_inD {K : PySem.W.Frag} {neg : Bool} : OpD K (rInS K neg) (rdInD neg) := by
  intro b A own H σ s vx vy x y Ks Q R e1 e2 h k
  obtain ⟨d, hd, h⟩ := onO_inv h
  obtain ⟨e, he, h⟩ := onO_inv h
  obtain ⟨ds, hs, f1, f2, h⟩ := onO_inv h
  refine ⟨d, ds, vw_dp R e1 hd (by have := f1.1; rw [PyData.canLayAll0, Bool.and_eq_true] at this; exact this.1), ?_, f1, f2, k.da R Up.refl (.bl _) h⟩
  have q := vw_dp R e2 he
  cases e with
  | list es => cases hs; exact .inl (q (by simpa only [PyData.canLay0] using f2.1))
  | tuple es => cases hs; exact .inr (q (by simpa only [PyData.canLay0] using f2.1))
  | _ => cases hs
theorem de_inD (hu : X.A.units + 64 < cLine) (ha : DE X a wa) (hb : DE X b wb) (hm : behindInMarks .In b = false := by rfl) : DE X (.Compare a [.In] [b] pos) (d2 (rdInD false) wa wb) := de_cmp (op_inS2 hu) opd_inD ha hb hm
theorem de_notinD (hu : X.A.units + 64 < cLine) (ha : DE X a wa) (hb : DE X b wb) (hm : behindInMarks .NotIn b = false := by rfl) : DE X (.Compare a [.NotIn] [b] pos) (d2 (rdInD true) wa wb) := de_cmp (op_notInS2 hu) opd_inD ha hb hm
theorem dt_inD (hu : X.A.units + 64 < cLine) (ha : DE X a wa) (hb : DE X b wb) (hm : behindInMarks .In b = false := by rfl) : DT X (.Compare a [.In] [b] pos) (tT (d2 (rdInD false) wa wb)) := dt_cmp (op_inS2 hu) opd_inD ha hb hm
theorem dt_notinD (hu : X.A.units + 64 < cLine) (ha : DE X a wa) (hb : DE X b wb) (hm : behindInMarks .NotIn b = false := by rfl) : DT X (.Compare a [.NotIn] [b] pos) (tT (d2 (rdInD true) wa wb)) := dt_cmp (op_notInS2 hu) opd_inD ha hb hm
/-! ### sorted(..) of a list of data -/
def sortD (ds : List D) : List D := ds.mergeSort (PySem.W.dataLe false id)
def canSort (ds : List D) : Prop := PySem.W.AllAlike ds ∧ PySem.W.Sortable ds ∧ fitD ds
def rSortedD (K : PySem.W.Frag) : List V → Hp → VK → Prop := fun vs H Q => ∃ (a : Addr) (zs : List (V × D)), vs = [.ref a] ∧ SqL K H a (zs.map (·.1)) ∧ DpAll K H (zs.map (·.1)) (zs.map (·.2)) ∧ canSort (zs.map (·.2)) ∧
  ∀ p, H p = none → Q (.ref p) (upd H p (.lst ((zs.mergeSort (PySem.W.dataLe false (·.2))).map (·.1))))
theorem each_vals {h : Heap} : ∀ {zs : List (V × D)} {us : List Value} {as : List Addr}, Vals (zs.map (·.1)) us → ReadsAll h us (zs.map (·.2)) as → PySem.W.EachIs (fun (u : Value) (z : V × D) => RelV z.1 u) us zs ∧ PySem.W.EachIs (fun (u : Value) (z : V × D) => ∃ as, Reads h u z.2 as) us zs
  | [], _, _, .nil, _ => ⟨.nil, .nil⟩
  | z :: zs, _, _, .cons r t, .cons r2 t2 => by
    obtain ⟨h1, h2⟩ := each_vals t t2
    exact ⟨.cons r h1, .cons ⟨_, r2⟩ h2⟩
theorem vals_each : ∀ {zs : List (V × D)} {us : List Value}, PySem.W.EachIs (fun (u : Value) (z : V × D) => RelV z.1 u) us zs → Vals (zs.map (·.1)) us
  | _, _, .nil => .nil
  | _, _, .cons r t => .cons r (vals_each t)
theorem depth_le_all {ds : List D} {d : D} (h : d ∈ ds) : d.depth ≤ PyData.depthAll ds := by
  obtain ⟨i, hi⟩ := List.getElem?_of_mem h
  exact depth_get hi
theorem cr_sortedD (hu : X.A.units + 64 < cLine) : CallR X (.builtin "sorted") (rSortedD X.K) := by
  intro pins s σ H vs us Q I r h
  obtain ⟨a, zs, rfl, hs, hd, ⟨c1, c2, c3, c4⟩, q⟩ := h
  obtain ⟨its, rv, hl, hz⟩ := I.list hs
  rw [Vals.ref1 r]
  obtain ⟨as, hr⟩ := Dp.readsAll I _ _ its hd rv
  obtain ⟨h1, h2⟩ := each_vals rv hr
  refine PySem.W.sorted_data (enc := fun z : V × D => z.2) hl.isList h1 h2 c1 c2 (by rw [List.length_map] at hz; exact hz) (fun z hm => ?_) fun out h3 h4 => ?_
  · have := depth_le_all (List.mem_map_of_mem (f := fun z : V × D => z.2) hm)
    omega
  · obtain ⟨ep, he'⟩ := PyProof.Rows.sortedAll_at s.heap its out.toArray
    refine ⟨.ref _, upd H (s.heap.objs.size + 1) (.lst ((zs.mergeSort (PySem.W.dataLe false (·.2))).map (·.1))), I.laid (t' := s.toks) (fun _ _ => PyProof.Rows.sortedAll_old) (Nat.le_succ _) ⟨?_, out, ep, vals_each h4, he'⟩, rfl, q _ (I.hok.fresh (Nat.le_succ _))⟩
    rw [List.length_map, List.length_mergeSort]
    rw [List.length_map] at hz
    exact hz
theorem rpl_zip {K : PySem.W.Frag} {A : Addr → Prop} {H : Hp} : ∀ {vs : List V} {ds : List D}, RpL K A H vs ds → ∃ zs : List (V × D), zs.map (·.1) = vs ∧ zs.map (·.2) = ds ∧ ∀ z ∈ zs, Rp K A H z.1 z.2
  | _, _, .nil => ⟨[], rfl, rfl, fun _ h => by cases h⟩
  | _, _, .cons r t => by
    obtain ⟨zs, e1, e2, h⟩ := rpl_zip t
    refine ⟨(_, _) :: zs, by rw [List.map_cons, e1], by rw [List.map_cons, e2], fun z hz => ?_⟩
    rcases List.mem_cons.mp hz with rfl | hz
    · exact r
    · exact h z hz
theorem rpl_map {K : PySem.W.Frag} {A : Addr → Prop} {H : Hp} : ∀ {zs : List (V × D)}, (∀ z ∈ zs, Rp K A H z.1 z.2) → RpL K A H (zs.map (·.1)) (zs.map (·.2))
  | [], _ => .nil
  | z :: zs, h => .cons (h z (by simp)) (rpl_map fun y hy => h y (by simp [hy]))
theorem map_sort (zs : List (V × D)) : (zs.mergeSort (PySem.W.dataLe false (·.2))).map (·.2) = sortD (zs.map (·.2)) :=
  List.map_mergeSort fun _ _ _ _ => rfl
def cSortD : S → List En → (S → En → Prop) → Prop := fun s xs Ks => a1 xs fun x => ∃ ds : List D, vw s x = some (.list ds) ∧ canSort ds ∧ Ks s (.da (.list (sortD ds)))
def cSortDM : S → List En → (S → En → Prop) → Prop := fun s xs Ks => a1 xs fun x => ∃ ds : List D, vw s x = some (.list ds) ∧ canSort ds ∧ Ks (s.aM (.lst (sortD ds))) (.mu s.ms.length)
theorem sortD_run {K : PySem.W.Frag} {b : Bd} {A : Addr → Prop} {own : List (List Addr)} {H : Hp} {σ : L2.St} {s : S} {v : V} {x : En} {ds : List D} {Q : VK} (R : Rel K b A own H σ s) (e1 : ER K A own H v x) (hd : vw s x = some (.list ds)) (hc : canSort ds)
    (q : ∀ vs p, RpL K A H vs (sortD ds) → H p = none → Q (.ref p) (upd H p (.lst vs))) : rSortedD K [v] H Q := by
  obtain ⟨a, us, rfl, hs, r⟩ := vw_lst R e1 hd
  obtain ⟨zs, rfl, rfl, hz⟩ := rpl_zip r
  refine ⟨a, zs, rfl, hs, r.dp hc.2.2.1, hc, fun p hp => q _ p ?_ hp⟩
  rw [← map_sort]
  exact rpl_map fun z hm => hz z ((List.mergeSort_perm _ _).mem_iff.mp hm)
theorem cd_sortD {K : PySem.W.Frag} : CallD K (rSortedD K) cSortD := by
  intro b A own H σ s vs xs Ks Q R E h k
  obtain ⟨v, x, rfl, e1, ds, hd, hc, h⟩ := a1_inv E h
  exact sortD_run R e1 hd hc fun vs p r hp => new_lst R k r hp h
theorem cd_sortDM {K : PySem.W.Frag} : CallD K (rSortedD K) cSortDM := by
  intro b A own H σ s vs xs Ks Q R E h k
  obtain ⟨v, x, rfl, e1, ds, hd, hc, h⟩ := a1_inv E h
  exact sortD_run R e1 hd hc fun vs p r hp => new_mu R k r hp h
theorem de_sortD {p : Pos} (hu : X.A.units + 64 < cLine) (hg : Gl X "sorted") (hm : X.mg "sorted" = none) (ha : DE X a wa) (he : starEach (a :: []) X.env = (false, eval a X.env) :: starEach [] X.env := by rfl) : DE X (.Call (.Name "sorted" p) [a] [] pos) (dCall cSortD (aCons wa aNil)) := de_callB (cr_sortedD hu) cd_sortD hg hm (by decide +kernel) (da_cons ha da_nil he) (he := he)
theorem de_sortDM {p : Pos} (hu : X.A.units + 64 < cLine) (hg : Gl X "sorted") (hm : X.mg "sorted" = none) (ha : DE X a wa) (he : starEach (a :: []) X.env = (false, eval a X.env) :: starEach [] X.env := by rfl) : DE X (.Call (.Name "sorted" p) [a] [] pos) (dCall cSortDM (aCons wa aNil)) := de_callB (cr_sortedD hu) cd_sortDM hg hm (by decide +kernel) (da_cons ha da_nil he) (he := he)
end
end DL
namespace DL
open PySem L2 PySem.Spec PyProof.Rows
/-! ### sorted(d.items()), the values ints -/
def itemI (z : Key × Int) : D := .tuple [kD z.1, .int z.2]
def rSortIts : V → Hp → VK → Prop := fun x H Q => ∃ (d : Addr) (kis : List (Key × Int)), x = .ref d ∧ H d = some (.dK (kis.map fun z => (z.1, V.int z.2))) ∧ canSort (kis.map itemI) ∧
  ∀ (H' : Hp) (p : Addr) (ps : List (Addr × Key × Int)), (∀ b o, H b = some o → H' b = some o) → H p = none → ps.map (·.2) = kis.mergeSort (PySem.W.dataLe false itemI) → H' p = some (.lst (ps.map fun z => V.ref z.1)) →
    (∀ z ∈ ps, H z.1 = none ∧ z.1 ≠ p ∧ H' z.1 = some (.tup [kV z.2.1, .int z.2.2])) → Q (.ref p) H'
def tSortIts (te : TE) : TE := fun σ H Q => te σ H fun x H1 => rSortIts x H1 Q
section
variable {X : Cx} {e : Expr} {te : TE} {p apos cpos pos : Pos}
theorem relV_kD {k : Key} {u : Value} (h : RelV (kV k) u) (hp : Heap) : Reads hp u (kD k) [] := by
  cases k with
  | inl i => obtain ⟨t, rfl⟩ := h; exact .int i t
  | inr x => obtain ⟨t, rfl⟩ := h; exact .str x t
theorem each_zip : ∀ {as : List Addr} {kis : List (Key × Int)}, as.length = kis.length → PySem.W.EachIs (fun (u : Value) (z : Addr × Key × Int) => u = .ref z.1) (as.map Value.ref) (as.zip kis)
  | [], [], _ => .nil
  | a :: as, k :: kis, h => .cons rfl (each_zip (Nat.succ.inj h))
  | [], _ :: _, h => by cases h
  | _ :: _, [], h => by cases h
theorem each_ref : ∀ {ps : List (Addr × Key × Int)} {us : List Value}, PySem.W.EachIs (fun (u : Value) (z : Addr × Key × Int) => u = .ref z.1) us ps → us = ps.map fun z => Value.ref z.1
  | _, _, .nil => rfl
  | _, _, .cons r t => by rw [r, each_ref t]; rfl
theorem each_of {R : Value → Addr × Key × Int → Prop} : ∀ {as : List Addr} {kis : List (Key × Int)}, as.length = kis.length → (∀ (j : Nat) a k, as[j]? = some a → kis[j]? = some k → R (.ref a) (a, k)) → PySem.W.EachIs R (as.map Value.ref) (as.zip kis)
  | [], [], _, _ => .nil
  | a :: as, k :: kis, h, q => .cons (q 0 a k rfl rfl) (each_of (Nat.succ.inj h) fun j a k h1 h2 => q (j + 1) a k (by simpa using h1) (by simpa using h2))
  | [], _ :: _, h, _ => by cases h
  | _ :: _, [], h, _ => by cases h
theorem map_zip_snd : ∀ {as : List Addr} {kis : List (Key × Int)}, as.length = kis.length → (as.zip kis).map (·.2) = kis
  | [], [], _ => rfl
  | a :: as, k :: kis, h => by rw [List.zip_cons_cons, List.map_cons, map_zip_snd (Nat.succ.inj h)]
  | [], _ :: _, h => by cases h
  | _ :: _, [], h => by cases h
theorem pairs_at {K : Type} [DecidableEq K] {P : Program} {w : World} {knd : PySem.KeyKind P w K} : ∀ {es : List DictEntry} {kvs : List (K × Value)}, Pairs knd es kvs → ∀ {j : Nat} {e : DictEntry}, es[j]? = some e → ∃ k v, kvs[j]? = some (k, v) ∧ knd.is k e.key = true ∧ e.val = v
  | _, _, .nil, _, _, h => by simp at h
  | _, _, .cons h1 h2 t, 0, _, h => by simp at h; subst h; exact ⟨_, _, rfl, h1, h2⟩
  | _, _, .cons _ _ t, j + 1, _, h => by
    obtain ⟨k, v, e1, e2⟩ := pairs_at t (j := j) (by simpa using h)
    exact ⟨k, v, by simpa using e1, e2⟩
theorem pairs_len {K : Type} [DecidableEq K] {P : Program} {w : World} {knd : PySem.KeyKind P w K} : ∀ {es : List DictEntry} {kvs : List (K × Value)}, Pairs knd es kvs → es.length = kvs.length
  | _, _, .nil => rfl
  | _, _, .cons _ _ t => congrArg (· + 1) (pairs_len t)
theorem cr_items {pins : List (Addr × Obj)} {σ : L2.St} {H : Hp} {s : Shared} {Q : VK} {d r : Addr} {kis : List (Key × Int)} (hc : X.calm = true) (hu : X.A.units + 64 < cLine) (I : Inv X pins σ H s) (view : s.heap.IsItemsView r d) (hd : H d = some (.dK (kis.map fun z => (z.1, V.int z.2)))) (hcs : canSort (kis.map itemI))
    (q : ∀ (H' : Hp) (p : Addr) (ps : List (Addr × Key × Int)), (∀ b o, H b = some o → H' b = some o) → H p = none → ps.map (·.2) = kis.mergeSort (PySem.W.dataLe false itemI) → H' p = some (.lst (ps.map fun z => V.ref z.1)) →
      (∀ z ∈ ps, H z.1 = none ∧ z.1 ≠ p ∧ H' z.1 = some (.tup [kV z.2.1, .int z.2.2])) → Q (.ref p) H') : wpAny (model X.prog X.w) X.A (call (.builtin "sorted") [.ref r]) (EP X pins σ Q) X.xe s := by
  obtain ⟨hz, hs0, vs, kv, hdo⟩ := I.hok d _ hd
  obtain ⟨o, es, ep, ho, hx, hdat, hks, hps, hnd⟩ := id hdo
  have l0 : es.size = kis.length := by
    have h1 := pairs_len hps
    have h2 := Paired.length kv
    rw [List.length_map] at h2
    rw [Array.length_toList] at h1
    omega
  have hz' : kis.length ≤ sizeLine := by rw [List.length_map] at hz; exact hz
  refine DT.sortedI (es := es) (ep := ep) (I.ok.hd hc) view ⟨o, ho, hx, hdat⟩ (by omega) fun h' tk as hk hlt hl hG => ?_
  have lak : as.length = kis.length := by omega
  have nd : as.Nodup := List.Pairwise.imp (fun h => Nat.ne_of_lt h) hG.rise
  have pr : ∀ (j : Nat) (b : Addr), as[j]? = some b → ∃ (k : Key) (i : Int) (uk ui : Value), kis[j]? = some (k, i) ∧ RelV (kV k) uk ∧ RelV (.int i) ui ∧ h'.get? b = some { cls := .type "tuple", data := .seq #[uk, ui] } := by
    intro j b hj
    obtain ⟨en, he, hg⟩ := hG.pairs j b hj
    obtain ⟨k, v, e1, e2, e3⟩ := pairs_at hps (j := j) (e := en) (by simpa using he)
    obtain ⟨y, hy, ry, rv⟩ := DX.pget kv e1
    rw [List.getElem?_map] at hy
    cases q : kis[j]? with
    | none => rw [q] at hy; cases hy
    | some z =>
      rw [q] at hy
      cases hy
      refine ⟨z.1, z.2, en.key, en.val, rfl, ?_, by rw [e3]; exact rv, hg⟩
      rw [show z.1 = k from ry]
      exact relV_key (show keyIs k en.key = true from e2)
  have hob : (h'.push { cls := .type "list", data := .seq (as.map Value.ref).toArray }).get? h'.objs.size = some (seqObj "list" (as.map Value.ref).toArray 0) := Heap.get?_push_size _ rfl
  have kb : ∀ b o, s.heap.get? b = some o → (h'.push { cls := .type "list", data := .seq (as.map Value.ref).toArray }).get? b = some o := fun b o e => Heap.get?_push_of_some _ (hk b o e)
  have ne0 : ∀ b o, h'.get? b = some o → b ≠ h'.objs.size := fun b o e => Nat.ne_of_lt (Heap.lt_size e)
  generalize hh2 : h'.push { cls := .type "list", data := .seq (as.map Value.ref).toArray } = h2 at hob kb ⊢
  have ka : ∀ b o, h'.get? b = some o → h2.get? b = some o := fun b o e => by rw [← hh2]; exact Heap.get?_push_of_some _ e
  have rd : PySem.W.EachIs (fun (v : Value) (z : Addr × Key × Int) => ∃ xs, Reads h2 v (itemI z.2) xs ∧ h'.objs.size ∉ xs) (as.map Value.ref) (as.zip kis) := each_of lak fun j a k h1 h2' => by
    obtain ⟨k', i', uk, ui, e1, e2, e3, e4⟩ := pr j a h1
    rw [h2'] at e1
    cases e1
    obtain ⟨t, rfl⟩ := e3
    have r := relV_kD e2 h2
    refine ⟨_, Reads.tuple (ka _ _ e4) rfl rfl (.cons r (.cons (.int i' t) .nil)), by simp⟩
  have hms : (as.zip kis).map (fun z => itemI z.2) = kis.map itemI := by
    rw [show (as.zip kis).map (fun z => itemI z.2) = ((as.zip kis).map (·.2)).map itemI by rw [List.map_map]; rfl, map_zip_snd lak]
  refine PySem.W.list_sort_data (s := { s with heap := h2, toks := tk }) (vs := as.map Value.ref) (R := fun (u : Value) (z : Addr × Key × Int) => u = .ref z.1) (enc := fun z : Addr × Key × Int => itemI z.2) hob (each_zip lak) rd (by rw [hms]; exact hcs.1) (by rw [hms]; exact hcs.2.1) (by rw [List.length_zip, lak, Nat.min_self]; exact hz') (fun z hz => ?_) fun out h3 h4 => ?_
  · show X.A.units + 1 + 1 + PyData.depth (.tuple [kD z.2.1, .int z.2.2]) < cLine
    have : PyData.depth (.tuple [kD z.2.1, .int z.2.2]) ≤ 1 := by
      cases z.2.1 <;> simp [kD, PyData.depth, PyData.depthAll]
    omega
  · have hout := each_ref h4
    generalize hp : (as.zip kis).mergeSort (PySem.W.dataLe false fun z : Addr × Key × Int => itemI z.2) = ps at hout h4
    have pz : ps.Perm (as.zip kis) := by rw [← hp]; exact List.mergeSort_perm _ _
    have hmap : ps.map (·.2) = kis.mergeSort (PySem.W.dataLe false itemI) := by
      have e := List.map_mergeSort (f := fun z : Addr × Key × Int => z.2) (r := PySem.W.dataLe false fun z : Addr × Key × Int => itemI z.2) (s := PySem.W.dataLe false itemI) (l := as.zip kis) fun _ _ _ _ => rfl
      rw [map_zip_snd lak] at e
      rw [← hp]
      exact e
    have idx : ∀ z ∈ ps, ∃ j : Nat, as[j]? = some z.1 ∧ kis[j]? = some z.2 := by
      intro z' hz'
      obtain ⟨j, hj⟩ := List.mem_iff_getElem?.mp (pz.mem_iff.mp hz')
      exact ⟨j, List.getElem?_zip_eq_some.mp hj⟩
    have kF : ∀ b o, b ≠ h'.objs.size → h2.get? b = some o → (sortedHeap h2 h'.objs.size (as.map Value.ref) out.toArray).get? b = some o := fun b o hb e => (PyProof.Rows.sortedHeap_old hb (Heap.lt_size e)).trans e
    have kS : ∀ b o, s.heap.get? b = some o → (sortedHeap h2 h'.objs.size (as.map Value.ref) out.toArray).get? b = some o := fun b o e => kF b o (ne0 _ _ (hk b o e)) (kb b o e)
    obtain ⟨eF, heF⟩ := PyProof.Rows.sortedHeap_at (vs := as.map Value.ref) (out := out.toArray) hob
    have I1 : Inv X pins σ H { s with heap := sortedHeap h2 h'.objs.size (as.map Value.ref) out.toArray, toks := tk } := I.kept (t' := tk) kS
    have hn0 : H h'.objs.size = none := I.hok.fresh (Nat.le_of_lt hlt)
    have hlen : (ps.map fun z => V.ref z.1).length ≤ sizeLine := by
      have e := pz.length_eq
      rw [List.length_zip, lak, Nat.min_self] at e
      rw [List.length_map]
      omega
    have rv : Vals (ps.map fun z => V.ref z.1) out := by
      rw [hout]
      exact vals_maps (fun z : Addr × Key × Int => V.ref z.1) (fun z => Value.ref z.1) ps fun _ _ => rfl
    have I2 : Inv X pins σ (upd H h'.objs.size (.lst (ps.map fun z => V.ref z.1))) { s with heap := sortedHeap h2 h'.objs.size (as.map Value.ref) out.toArray, toks := tk } :=
      I1.take (h' := sortedHeap h2 h'.objs.size (as.map Value.ref) out.toArray) (t' := tk) (fun b ob _ e => e) (I.fpOk (Nat.le_of_lt hlt) hn0) ⟨hlen, out, eF, rv, heF⟩
    obtain ⟨H2, I3, g, qt⟩ := DX.takeT (P := fun b vs => ∃ (j : Nat) (k : Key) (i : Int), as[j]? = some b ∧ kis[j]? = some (k, i) ∧ vs = [kV k, .int i]) I as _ I2 nd fun b hb => by
      obtain ⟨j, hj⟩ := List.mem_iff_getElem?.mp hb
      obtain ⟨k, i, uk, ui, e1, e2, e3, e4⟩ := pr j b hj
      have hbl : s.heap.objs.size ≤ b := Nat.le_of_lt (hG.above b hb)
      refine ⟨hbl, ?_, [kV k, .int i], ⟨j, k, i, hj, e1, rfl⟩, fun H3 => ⟨(by rw [sizeLine_eq]; show 2 ≤ 16777216; omega), [uk, ui], .cons e2 (.cons e3 .nil), ⟨_, kF _ _ (ne0 _ _ e4) (ka _ _ e4), rfl, 0, rfl⟩⟩⟩
      rw [upd_ne (ne0 _ _ e4)]
      exact I.hok.fresh hbl
    have gr : ∀ b o, H b = some o → H2 b = some o := fun b o e => g b o (by rw [upd_ne (ne_of_none e hn0)]; exact e)
    refine ⟨.ref h'.objs.size, H2, I3, rfl, q H2 h'.objs.size ps gr hn0 hmap (g _ _ upd_same) fun z' hz' => ?_⟩
    obtain ⟨i, i1, i2⟩ := idx z' hz'
    obtain ⟨vs', ⟨j, k, iv, j1, j2, ev⟩, hH⟩ := qt z'.1 (List.mem_of_getElem? i1)
    have eij : i = j := (List.getElem?_inj (List.getElem?_eq_some_iff.mp i1).1 nd).mp (i1.trans j1.symm)
    subst eij
    have ee : (k, iv) = z'.2 := Option.some.inj (j2.symm.trans i2)
    obtain ⟨_, _, _, _, _, _, _, e4⟩ := pr i z'.1 i1
    refine ⟨I.hok.fresh (Nat.le_of_lt (hG.above _ (List.mem_of_getElem? i1))), ne0 _ _ e4, ?_⟩
    rw [ev] at hH
    rw [← ee]
    exact hH
theorem pe_sortIts (hc : X.calm = true) (hu : X.A.units + 64 < cLine) (he : PE X e te) (hg : Gl X "sorted") (hm : X.mg "sorted" = none) (hbase : attributeBase e "items" X.env (eval e X.env) = eval e X.env := by rfl) (hline : (apos.endLine == cpos.line) = true := by rfl)
    (hs : starEach [.Call (.Attribute e "items" apos) [] [] cpos] X.env = (false, eval (.Call (.Attribute e "items" apos) [] [] cpos) X.env) :: starEach [] X.env := by rfl) :
    PE X (.Call (.Name "sorted" p) [.Call (.Attribute e "items" apos) [] [] cpos] [] pos) (tSortIts te) := by
  refine ⟨fun pins s σ H Q I hq => ?_⟩
  refine wpAny_Call_Name_kw (ld_blt I hg hm (u := .builtin "sorted") (by decide +kernel) ?_)
  refine PyProof.Rows.callWith_builtin1 ?_ hs rfl
  rw [hs]
  show wpAny _ _ (spliced ((false, eval (.Call (.Attribute e "items" apos) [] [] cpos) X.env) :: backTo pos (starEach [] X.env))) _ _ s
  refine Calls.spliced_cons ?_
  refine wpAny_Call_method (T := "dict") (id := "dict.items") hbase rfl hline F.plainAttrs_dict F.slot_dict_items F.type_dict_items (thn (he.run pins s σ H _ I hq) fun u s1 ⟨x, H1, I1, rx, d, kis, ex, hd, hcs, q⟩ => ?_)
  subst ex
  obtain rfl : u = Value.ref d := rx
  obtain ⟨hz, hs0, vs, kv, hdo⟩ := I1.hok d _ hd
  have I2 : Inv X pins σ H1 { s1 with heap := s1.heap.push { cls := .type "dict_items", data := .fields #[.ref d] } } := I1.kept (t' := s1.toks) fun b ob q => Heap.get?_push_of_some _ q
  refine ⟨hdo.typeIs, hdo.mapOf.noDict, ?_⟩
  show wpAny _ _ (callWith cpos (.builtin "dict.items") [.ref d] [] []) _ X.xe s1
  refine method_meetsIn F.slot_dict_items F.entry_dict_items rfl (PySem.evalArgs_none ⟨rfl, hdo.typeIs, F.args_dict_items_1 _, _, meets_dict_items (mixKind X.prog X.w) d hs0, ⟨vs, hdo⟩, ?_⟩)
  refine Calls.spliced_nil ?_
  exact cr_items hc hu I2 ⟨_, Heap.get?_push_size _ rfl, rfl, rfl⟩ hd hcs q
end
section
variable {X : Cx} {a b c e : Expr} {wa wb wc we : WE} {pos : Pos}
def dctI (kis : List (Key × Int)) : List (Key × D) := kis.map fun z => (z.1, PyData.int z.2)
def sortIt (kis : List (Key × Int)) : List (Key × Int) := kis.mergeSort (PySem.W.dataLe false itemI)
theorem rkv_ints {K : PySem.W.Frag} {A : Addr → Prop} {H : Hp} : ∀ {ws : List (Key × V)} {kis : List (Key × Int)}, RKV K A H ws (dctI kis) → ws = kis.map fun z => (z.1, V.int z.2)
  | [], [], _ => rfl
  | w :: ws, z :: kis, ⟨e, r, t⟩ => by
    have r : Rp K A H w.2 (.int z.2) := r
    have h2 : w.2 = .int z.2 := by
      generalize w.2 = v at r
      cases r; rfl
    have h1 : w.1 = z.1 := e
    rw [List.map_cons, ← rkv_ints (kis := kis) t, ← h1, ← h2]
def dSortIts (wo : WE) : WE := fun s Ks => wo s fun s1 o => mu2 s1 o fun _ kvs => ∃ kis : List (Key × Int), kvs = dctI kis ∧ canSort (kis.map itemI) ∧ Ks s1 (.da (.list ((sortIt kis).map itemI)))
theorem de_sortIts {p apos cpos : Pos} (hc : X.calm = true) (hu : X.A.units + 64 < cLine) (hg : Gl X "sorted") (hm : X.mg "sorted" = none) (he : DE X e we) (hbase : attributeBase e "items" X.env (eval e X.env) = eval e X.env := by rfl) (hline : (apos.endLine == cpos.line) = true := by rfl)
    (hs : starEach [.Call (.Attribute e "items" apos) [] [] cpos] X.env = (false, eval (.Call (.Attribute e "items" apos) [] [] cpos) X.env) :: starEach [] X.env := by rfl) :
    DE X (.Call (.Name "sorted" p) [.Call (.Attribute e "items" apos) [] [] cpos] [] pos) (dSortIts we) := by
  obtain ⟨te, pe, qe⟩ := he.ex
  refine ⟨_, pe_sortIts hc hu pe hg hm hbase hline hs, fun b A own H σ s Ks Q R h k => ?_⟩
  show te σ H fun x H1 => rSortIts x H1 Q
  refine qe _ _ _ _ _ _ _ _ R h fun A1 o1 H1 v1 s1 x1 R1 U1 E1 h1 => ?_
  obtain ⟨j, kvs, rfl, g, kis, rfl, hcs, h1⟩ := mu2_inv h1
  obtain ⟨d, vs, rfl, e2, e3, e4, _⟩ := mud_at R1 E1 g
  rw [rkv_ints e3] at e2
  refine ⟨d, kis, rfl, e2, hcs, fun H' p ps hk hp hps hl ht => ?_⟩
  obtain ⟨R2, U2⟩ := R1.ext hk
  refine k.da R2 (U1.trans U2) (.lst ⟨hl, R1.freshA hp⟩ ?_) h1
  show RpL X.K A1 H' (ps.map fun z => V.ref z.1) ((sortIt kis).map itemI)
  rw [sortIt, ← hps, List.map_map]
  clear hps hl h1
  induction ps with
  | nil => exact .nil
  | cons z zs ih =>
    obtain ⟨t1, t2, t3⟩ := ht z (by simp)
    refine .cons (.tup (.inl ⟨t3, R1.freshA t1⟩) (.cons ?_ (.cons (.int _) .nil))) (ih fun y hy => ht y (by simp [hy]))
    cases z.2.1 with
    | inl i => exact .int i
    | inr x => exact .str x
/-- sorted(d), list(d), len(d) -/
def kInts : List (Key × D) → Option (List Int)
  | [] => some []
  | (.inl i, _) :: r => match kInts r with | some is => some (i :: is) | none => none
  | _ :: _ => none
theorem kInts_map : ∀ {kvs : List (Key × D)} {is : List Int}, kInts kvs = some is → kvs.map (·.1) = is.map Sum.inl
  | [], _, h => by cases h; rfl
  | (.inl i, d) :: r, _, h => by
    unfold kInts at h
    split at h
    · rename_i is q
      cases h
      rw [List.map_cons, List.map_cons, kInts_map q]
    · cases h
  | (.inr x, d) :: r, _, h => by cases h
def cSortK : S → List En → (S → En → Prop) → Prop := fun s xs Ks => a1 xs fun o => mu2 s o fun _ kvs => onO (kInts kvs) fun is => is.length < 64 ∧ ∀ is' : List Int, is'.Perm is → is'.Pairwise (· ≤ ·) → Ks s (.da (.list (is'.map .int)))
def rSortK : List V → Hp → VK → Prop := fun xs H Q => ∃ (a : Addr) (kvs : List (Key × V)) (ks : List Int), xs = [.ref a] ∧ Rd H a (.dK kvs) ∧ kvs.map (·.1) = ks.map Sum.inl ∧ ks.length < 64 ∧
    ∀ (ys : List Int) (p : Addr), ys.Perm ks → ys.Pairwise (· ≤ ·) → H p = none → Q (.ref p) (upd H p (.lst (ys.map V.int)))
theorem cd_sortK {K : PySem.W.Frag} : CallD K rSortK cSortK := by
  intro b A own H σ s vs xs Ks Q R E h k
  obtain ⟨v, x, rfl, e1, h⟩ := a1_inv E h
  obtain ⟨j, kvs, rfl, g, h⟩ := mu2_inv h
  obtain ⟨is, hi, hl, h⟩ := onO_inv h
  obtain ⟨d, vs, rfl, e2, e3, e4, _⟩ := mud_at R e1 g
  exact ⟨d, vs, is, rfl, .inl e2, e3.keys.trans (kInts_map hi), hl, fun ys p h1 h2 hp => new_lst R k RpL.ints hp (h ys h1 h2)⟩
theorem de_sortK {p : Pos} (hc : X.calm = true) (hg : Gl X "sorted") (hm : X.mg "sorted" = none) (ha : DE X a wa) (he : starEach (a :: []) X.env = (false, eval a X.env) :: starEach [] X.env := by rfl) : DE X (.Call (.Name "sorted" p) [a] [] pos) (dCall cSortK (aCons wa aNil)) := de_callB (call_sortedDI hc) cd_sortK hg hm (by decide +kernel) (da_cons ha da_nil he) (he := he)
def cListK : S → List En → (S → En → Prop) → Prop := fun s xs Ks => a1 xs fun o => mu2 s o fun _ kvs => Ks s (.da (.list (kvs.map fun z => kD z.1)))
def cListKM : S → List En → (S → En → Prop) → Prop := fun s xs Ks => a1 xs fun o => mu2 s o fun _ kvs => Ks (s.aM (.lst (kvs.map fun z => kD z.1))) (.mu s.ms.length)
def rListK : List V → Hp → VK → Prop := fun xs H Q => ∃ (a : Addr) (kvs : List (Key × V)), xs = [.ref a] ∧ Rd H a (.dK kvs) ∧ ∀ p, H p = none → Q (.ref p) (upd H p (.lst (kvs.map fun kv => kV kv.1)))
theorem rkv_keysV {K : PySem.W.Frag} {A : Addr → Prop} {H : Hp} : ∀ {ws : List (Key × V)} {kvs : List (Key × D)}, RKV K A H ws kvs → RpL K A H (ws.map fun kv => kV kv.1) (kvs.map fun z => kD z.1)
  | [], [], _ => .nil
  | w :: ws, z :: kvs, ⟨e, _, t⟩ => by
    refine .cons ?_ (rkv_keysV t)
    show Rp K A H (kV w.1) (kD z.1)
    rw [show w.1 = z.1 from e]
    cases z.1 with
    | inl i => exact .int i
    | inr x => exact .str x
theorem cd_listK {K : PySem.W.Frag} : CallD K rListK cListK := by
  intro b A own H σ s vs xs Ks Q R E h k
  obtain ⟨v, x, rfl, e1, h⟩ := a1_inv E h
  obtain ⟨j, kvs, rfl, g, h⟩ := mu2_inv h
  obtain ⟨d, vs, rfl, e2, e3, e4, _⟩ := mud_at R e1 g
  exact ⟨d, vs, rfl, .inl e2, fun p hp => new_lst R k (rkv_keysV e3) hp h⟩
theorem cd_listKM {K : PySem.W.Frag} : CallD K rListK cListKM := by
  intro b A own H σ s vs xs Ks Q R E h k
  obtain ⟨v, x, rfl, e1, h⟩ := a1_inv E h
  obtain ⟨j, kvs, rfl, g, h⟩ := mu2_inv h
  obtain ⟨d, vs, rfl, e2, e3, e4, _⟩ := mud_at R e1 g
  exact ⟨d, vs, rfl, .inl e2, fun p hp => new_mu R k (rkv_keysV e3) hp h⟩
theorem de_listK {p : Pos} (hc : X.calm = true) (hg : Gl X "list") (hm : X.mg "list" = none) (ha : DE X a wa) (he : starEach (a :: []) X.env = (false, eval a X.env) :: starEach [] X.env := by rfl) : DE X (.Call (.Name "list" p) [a] [] pos) (dCall cListK (aCons wa aNil)) := de_callTy (call_listD hc) cd_listK hg hm (by decide +kernel) (da_cons ha da_nil he) (he := he)
theorem de_listKM {p : Pos} (hc : X.calm = true) (hg : Gl X "list") (hm : X.mg "list" = none) (ha : DE X a wa) (he : starEach (a :: []) X.env = (false, eval a X.env) :: starEach [] X.env := by rfl) : DE X (.Call (.Name "list" p) [a] [] pos) (dCall cListKM (aCons wa aNil)) := de_callTy (call_listD hc) cd_listKM hg hm (by decide +kernel) (da_cons ha da_nil he) (he := he)
def cLenD : S → List En → (S → En → Prop) → Prop := fun s xs Ks => a1 xs fun o => mu2 s o fun _ kvs => Ks s (.da (.int (kvs.length : Int)))
theorem cd_lenD {K : PySem.W.Frag} : CallD K (fun xs H Q => ∃ a kvs, xs = [V.ref a] ∧ H a = some (.dK kvs) ∧ Q (.int kvs.length) H) cLenD := by
  intro b A own H σ s vs xs Ks Q R E h k
  obtain ⟨v, x, rfl, e1, h⟩ := a1_inv E h
  obtain ⟨j, kvs, rfl, g, h⟩ := mu2_inv h
  obtain ⟨d, vs, rfl, e2, e3, e4, _⟩ := mud_at R e1 g
  refine ⟨d, vs, rfl, e2, ?_⟩
  rw [e3.len]
  exact k.da R Up.refl (.int _) h
theorem de_lenD {p : Pos} (hg : Gl X "len") (hm : X.mg "len" = none) (ha : DE X a wa) (he : starEach (a :: []) X.env = (false, eval a X.env) :: starEach [] X.env := by rfl) : DE X (.Call (.Name "len" p) [a] [] pos) (dCall cLenD (aCons wa aNil)) := de_callB call_lenD cd_lenD hg hm PySem.boot_len (da_cons ha da_nil he) (he := he)
end
end DL
namespace DL
open PySem L2 PySem.Spec PyProof.Rows
section
variable {X : Cx} {a b c e : Expr} {wa wb wc we : WE} {pos : Pos}
/-- x, y = a, b where a name is a cell: by a tuple -/
theorem ds_parG {i j : Nat} {x y : Str} {px py pt : Pos} {kt k2 pt2} {wr : WA} (hc : X.calm = true) (hN : X.N.Nodup) (hi : X.N[i]? = some x) (hj : X.N[j]? = some y)
    (hx : Loc X.env.scope x) (hy : Loc X.env.scope y) (ha : DAn X [a, b] 2 wr)
    (hs : swapsWithSole [.Tuple [.Name x px, .Name y py] kt pt] (.Tuple [a, b] k2 pt2) pos.line X.env = pure false := by rfl) (hw : swappedStores [.Tuple [.Name x px, .Name y py] kt pt] (.Tuple [a, b] k2 pt2) X.env = pure none := by rfl)
    (h1 : (assignEach [.Tuple [.Name x px, .Name y py] kt pt] X.env).map (·.2) = [assign (.Tuple [.Name x px, .Name y py] kt pt) X.env] := by rfl)
    (hn : (assignEach [.Name x px, .Name y py] X.env).length = 2 := by rfl) (hst : (assignEach [.Name x px, .Name y py] X.env).findIdx? (·.1) = none := by rfl)
    (hf : X.fn x = true ∨ X.env.scope.names.lookup x = some .local := by first | exact .inl rfl | exact .inr rfl | assumption) (hf2 : X.fn y = true ∨ X.env.scope.names.lookup y = some .local := by first | exact .inl rfl | exact .inr rfl | assumption) :
    DS X (.Assign [.Tuple [.Name x px, .Name y py] kt pt] (.Tuple [a, b] k2 pt2) pos) (sPar i j wr) := by
  obtain ⟨ta, pa, qa⟩ := ha.ex
  refine ⟨_, ps_asg (pe_tup pa) (pg_tup hc (pgs_cons (pg_name hN hi hx hf) (pgs_cons (pg_name hN hj hy hf2) pgs_nil)) hn hst) hs hw h1, fun b A own H σ s D E R h m => ?_⟩
  show ta σ H fun vs H1 => vs.length ≤ sizeLine ∧ ∀ p, H1 p = none → _
  refine qa _ _ _ _ _ _ _ _ R h fun A1 o1 H1 vs s1 xs R1 U1 E1 h1 => ?_
  obtain ⟨hl, h1⟩ := h1
  obtain ⟨v, w, x, y, rfl, e1, e2, h1⟩ := a2_inv E1 h1
  refine ⟨by show 2 ≤ sizeLine; decide, fun p hp => ?_⟩
  obtain ⟨R2, U2⟩ := R1.new (o := .tup [v, w]) hp
  refine ⟨p, [v, w], rfl, .inl (.inl upd_same), rfl, v, [w], rfl, ?_⟩
  exact ⟨w, [], rfl, rfl, m.nx _ _ _ _ _ ((R2.slot (e1.up U2)).slot (e2.up U2)) (U1.trans U2).kp h1⟩
end
end DL
namespace DL
open PySem L2 PySem.Spec PyProof.Rows
/-! ### enumerate over a tuple -/
section
variable {prog : Program} {w : World} {A : Around} {E : Value → Shared → Prop} {s : Shared}
theorem meets_enumT {v : Value} {o : Obj} {H : Heap → Prop} (B : Begins v o H) :
    Meets (Builtin.«enumerate.__new__» ⟨[.type "enumerate", v], []⟩) (fun _ R s => H s.heap ∧
      R (.ok (.ret (.ref (s.heap.push o).objs.size))) { s with heap := (s.heap.push o).push { cls := .type "enumerate", data := .fields #[.none, .bool false, .ref s.heap.objs.size, rawInt 0, .none, .none] } }) :=
  .of_wp fun prog w A R s h => by
    obtain ⟨hp, g, d, tk, os⟩ := s; obtain ⟨h1, h⟩ := h
    have hsub := sub_enumerate
    have q1 : ∀ {A' : Around} {E : Value → Shared → Prop} {Q : Value → Shared → Prop}, Q (.ref hp.objs.size) ⟨hp.push o, g, d, tk, os⟩ → wpAny (model prog w) A' (pyIter v) Q E ⟨hp, g, d, tk, os⟩ :=
      fun q => B.iter prog w _ _ ⟨hp, g, d, tk, os⟩ _ h1 q
    wp_walk using q1
    refine wpAny_stack_any fun st => wpAny_pure ?_
    split
    · rename_i c _ _ _ _ _
      cases (c == Value.type "enumerate")
      · wp_walk using q1
        exact ⟨_, rfl, h⟩
      · wp_walk using q1
        exact ⟨_, rfl, h⟩
    · wp_walk using q1
      exact ⟨_, rfl, h⟩
theorem call_enumT {v : Value} {o : Obj} {H : Heap → Prop} {Q : Value → Shared → Prop} (B : Begins v o H) (h1 : H s.heap)
    (h : ∀ h', IsEnum h' (s.heap.objs.size + 1) s.heap.objs.size 0 .none → h'.get? s.heap.objs.size = some o → h'.objs.size = s.heap.objs.size + 2 →
      (∀ b o, s.heap.get? b = some o → h'.get? b = some o) → Q (.ref (s.heap.objs.size + 1)) { s with heap := h' }) :
    wpAny (model prog w) A (call (.type "enumerate") [v]) Q E s := by
  refine callType_new F.called_enumerate (by decide) (F.typeCall_enumerate_1 _) (F.newCall_enumerate_1 _) (fun obj => F.args_object_init_2 obj _) F.entry_enumerate_new
    (meets_enumT B) ⟨h1, ?_⟩
  have hz : (s.heap.push o).objs.size = s.heap.objs.size + 1 := Heap.size_push ..
  show _ ∧ _
  rw [hz]
  have he : IsEnum ((s.heap.push o).push { cls := .type "enumerate", data := .fields #[.none, .bool false, .ref s.heap.objs.size, rawInt 0, .none, .none] }) (s.heap.objs.size + 1) s.heap.objs.size 0 .none := by
    have := Heap.get?_push_size (s.heap.push o) (o := { cls := .type "enumerate", data := .fields #[.none, .bool false, .ref s.heap.objs.size, rawInt 0, .none, .none] }) rfl
    rw [hz] at this; exact this
  refine ⟨⟨_, he, rfl⟩, h _ he (Heap.get?_push_of_some _ (Heap.get?_push_size _ B.free)) (by rw [Heap.size_push, hz]) fun b o x => Heap.get?_push_of_some _ (Heap.get?_push_of_some _ x)⟩
end
def IteT (K : PySem.W.Frag) (a : Addr) : It :=
  ⟨fun i H => ∃ (xs : List V) (x : V), SqT K H a xs ∧ xs[i]? = some x, fun i H v H' => ∃ T x, v = .ref T ∧ H T = none ∧ H' = upd H T (.tup [.int (i : Nat), x]) ∧ ∀ xs, SqT K H a xs → xs[i]? = some x, fun i H => ∃ xs : List V, SqT K H a xs ∧ xs.length ≤ i⟩
theorem turn_enumT {P : Program} {w : World} {K : PySem.W.Frag} {elts : List Expr} {kk : Nat} {tpos : Pos} (a e it : Addr) :
    Turn P w K (.Tuple elts kk tpos) (IteT K a) [e, it] e (fun i h => (∃ old, IsEnum h e it ((i : Nat) : Int) old) ∧ h.IsTupleIter it a i ∧ e ≠ it) where
  mem := by simp
  obj := fun i h st b hb => by
    obtain ⟨⟨old, he⟩, ⟨o, ho, hc, hd⟩, _⟩ := st
    have e' : b = e ∨ b = it := by simpa using hb
    rcases e' with z | z
    · rw [z]; exact ⟨_, he, fun v q => nomatch q⟩
    · rw [z]; exact ⟨o, ho, fun v q => by rw [hd] at q; cases q⟩
  keep := fun i h h' st k => let ⟨⟨old, he⟩, hi, hne⟩ := st; ⟨⟨old, k e (by simp) _ he⟩, hi.at fun o q => k it (by simp) o q, hne⟩
  item := by
    intro X hP hw hK hc i pins s σ H E I hf st hg
    subst hP hw hK
    obtain ⟨⟨old, he⟩, hit, hne⟩ := st
    obtain ⟨xs, x, hq, hx⟩ := hg
    obtain ⟨its, rv, p, hz⟩ := I.tuple hq
    obtain ⟨u, hu, ru⟩ := rv.get hx
    have hp : s.heap.IsTuple a its.toArray := p
    have hel : e < s.heap.objs.size := Heap.lt_size he
    have hil : it < s.heap.objs.size := by obtain ⟨_, q, _⟩ := hit; exact Heap.lt_size q
    have hit0 : a ≠ it := fun z => by
      obtain ⟨o1, q1, c1, _⟩ := hit
      obtain ⟨o2, q2, c2, _⟩ := hp
      rw [z, q1] at q2
      cases q2
      rw [c1] at c2
      injection c2 with c2
      exact absurd c2 (by decide)
    have hae : e ≠ a := fun z => by
      obtain ⟨o2, q2, c2, _⟩ := hp
      rw [← z, he] at q2
      cases q2
      injection c2 with c2
      exact absurd c2 (by decide)
    have hlt : i < its.toArray.size := by
      have := (List.getElem?_eq_some_iff.mp hu).1
      simpa using this
    refine wpAny_pyNext_enum_itemC (Draws.tuple (A := X.A.in1) (show X.A.in1.handled = none from I.ok.hd hc) it a hit0 its.toArray) he ⟨hit, hp⟩ hlt hne (by simp [hne, hae]) fun u' h' tk hu' ho hst' hT hsz hk => ?_
    have eu : u' = u := by
      have q : its[i]? = some u' := by simpa using hu'
      rw [hu] at q
      exact (Option.some.inj q).symm
    subst eu
    refine ⟨_, rfl, wpAny_letOwnedTupleGo_enum (s := { s with heap := h', toks := tk + 1 }) ho fun h'' he' sb => ?_⟩
    have hT2 : h''.get? s.heap.objs.size = some { cls := .type "tuple", data := .seq #[.int i tk, u'] } := (sb.2 _ (Nat.ne_of_gt hel)).trans hT
    have new : ObjOk X.prog X.w (upd H s.heap.objs.size (.tup [.int (i : Nat), x])) h'' s.heap.objs.size (.tup [.int (i : Nat), x]) :=
      ⟨by show 2 ≤ sizeLine; decide, [.int i tk, u'], .cons ⟨_, rfl⟩ (.cons ru .nil), ⟨_, hT2, rfl, _, rfl⟩⟩
    have I1 : Inv X pins σ (upd H s.heap.objs.size (.tup [.int (i : Nat), x])) { s with heap := h'', toks := tk + 1 } :=
      I.turnedNew (ch := [e, it]) (fun b ob hb q => (sb.2 b (fun z => hb (by simp [z]))).trans (hk b ob (fun z => hb (by simp [z])) (fun z => hb (by simp [z])) q)) hf (Nat.le_refl _) new
    refine ⟨.ref s.heap.objs.size, _, I1, rfl, ⟨_, x, rfl, I.hok.fresh (Nat.le_refl _), rfl, fun ys hy => by rw [I.tuple_inj hy hq]; exact hx⟩, ⟨⟨u', ?_⟩, hst'.1.at fun o q => (sb.2 it (Ne.symm hne)).trans q, hne⟩, fun b hb => ?_⟩
    · have e1 : ((i + 1 : Nat) : Int) = (i : Int) + 1 := by omega
      rw [e1]; exact he'
    · have hb' : b < s.heap.objs.size := by
        have e' : b = e ∨ b = it := by simpa using hb
        rcases e' with z | z
        · rw [z]; exact hel
        · rw [z]; exact hil
      rw [upd_ne (Nat.ne_of_lt hb')]
      exact (hf b hb).1
  done := by
    intro X hP hw hK hc i pins s σ H E I hf st hg
    subst hP hw hK
    obtain ⟨⟨old, he⟩, hit, hne⟩ := st
    obtain ⟨xs, hq, hx⟩ := hg
    obtain ⟨its, rv, p, hz⟩ := I.tuple hq
    have hp : s.heap.IsTuple a its.toArray := p
    obtain ⟨f0, f1, f2, f3, f4, f5⟩ := hf it (by simp)
    have hl := rv.length
    refine wpAny_pyNext_enum_endD (n := i) (St := fun j h => j = i ∧ h.IsTupleIter it a i ∧ h.IsTuple a its.toArray) (fp := [it, a]) (P := fun _ _ => True) ⟨fun j h st => ?_, fun j h h' st hk => ?_, fun j s Q E hi st hQ => ?_, fun s Q E st hE => ?_⟩ he ⟨rfl, hit, hp⟩ fun h' eb => ⟨rfl, I.turned (t' := s.toks) (fun b o hb q => eb b o hb q) f0 f1 f3 f4 f5⟩
    · obtain ⟨_, ⟨o, ho, _⟩, _⟩ := st; exact ⟨o, ho⟩
    · exact ⟨st.1, st.2.1.at fun o e => hk it (by simp) o e, st.2.2.at fun o e => hk a (by simp) o e⟩
    · exact absurd hi (by rw [st.1]; exact Nat.lt_irrefl _)
    · exact wpAny_nextOf_tuple_end (I.ok.hd hc) st.2.1 st.2.2 (by simp; omega) hE
  self := fun A i s Q E st h => let ⟨⟨_, he⟩, _⟩ := st; wpAny_pyIter_enum he h
/-- enumerate over a list or a tuple -/
def iEnumA (K : PySem.W.Frag) (ta : TA) : TI := fun σ H R => ta σ H fun vs H1 => ∃ a xs, vs = [.ref a] ∧ ((SqL K H1 a xs ∧ R (Ite K a) H1) ∨ (SqT K H1 a xs ∧ R (IteT K a) H1))
theorem pi_enumA {X : Cx} {e : Expr} {ta : TA} {p pos tpos : Pos} {elts : List Expr} {kk : Nat} (hg : Gl X "enumerate") (hm : X.mg "enumerate" = none) (ha : PA X [e] ta) (hs : starEach [e] X.env = [(false, eval e X.env)] := by rfl) :
    PI X (.Tuple elts kk tpos) (.Call (.Name "enumerate" p) [e] [] pos) (iEnumA X.K ta) := by
  refine ⟨fun pins s σ H R I h => ?_⟩
  refine Call_ (ld_blt I hg hm boot_enumerate (PyProof.Rows.callWith_type1 (thn (ha.run pos pins s σ H _ I h) fun us s1 ⟨vs, H1, I1, r1, q1⟩ => ?_) hs rfl))
  obtain ⟨a, xs, ex, q⟩ := q1
  subst ex
  cases r1 with
  | cons r rr =>
    cases rr
    cases r
    have hfp : ∀ b, b ∈ [s1.heap.objs.size + 1, s1.heap.objs.size] → FpOk X pins H1 b := fun b hb => by
      have e' : b = s1.heap.objs.size + 1 ∨ b = s1.heap.objs.size := by simpa using hb
      have hle : s1.heap.objs.size ≤ b := by
        rcases e' with z | z
        · rw [z]; exact Nat.le_add_right _ _
        · rw [z]; exact Nat.le_refl _
      exact I1.fpOk hle (I1.hok.fresh hle)
    rcases q with ⟨hq, q⟩ | ⟨hq, q⟩
    · obtain ⟨its, rv, p', hz⟩ := I1.list hq
      refine call_enumerate_list p'.isList fun h' he hit hsz hk => wpAny_pyIter_enum he ?_
      have I2 : Inv X pins σ H1 { s1 with heap := h' } := I1.kept (t' := s1.toks) hk
      exact ⟨s1.heap.objs.size + 1, [s1.heap.objs.size + 1, s1.heap.objs.size], _, _, H1, rfl, I2, turn_enum a (s1.heap.objs.size + 1) s1.heap.objs.size, ⟨⟨.none, he⟩, hit, Nat.succ_ne_self _⟩, hfp, q⟩
    · obtain ⟨its, rv, p', hz⟩ := I1.tuple hq
      have hp : s1.heap.IsTuple a its.toArray := p'
      refine call_enumT (begins_tuple a its.toArray) hp fun h' he hit hsz hk => wpAny_pyIter_enum he ?_
      have I2 : Inv X pins σ H1 { s1 with heap := h' } := I1.kept (t' := s1.toks) hk
      exact ⟨s1.heap.objs.size + 1, [s1.heap.objs.size + 1, s1.heap.objs.size], _, _, H1, rfl, I2, turn_enumT a (s1.heap.objs.size + 1) s1.heap.objs.size, ⟨⟨.none, he⟩, ⟨_, hit, rfl, rfl⟩, Nat.succ_ne_self _⟩, hfp, q⟩
section
variable {X : Cx} {a b c e : Expr} {wr : WA} {pos : Pos}
def iEnuA (wr : WA) : WI := fun s Ks => wr s fun s1 xs => a1 xs fun x => daI x fun d => match d with | .list ds => Ks s1 (enuD 0 ds) | .tuple ds => Ks s1 (enuD 0 ds) | _ => False
theorem di_enumA {p tpos : Pos} {elts : List Expr} {kk : Nat} (hg : Gl X "enumerate") (hm : X.mg "enumerate" = none) (ha : DA X [a] wr) (hs : starEach [a] X.env = [(false, eval a X.env)] := by rfl) :
    DI X (.Tuple elts kk tpos) (.Call (.Name "enumerate" p) [a] [] pos) (iEnuA wr) := by
  obtain ⟨ta, pa, qa⟩ := ha.ex
  refine ⟨_, pi_enumA hg hm pa hs, fun b A own H σ s Ks Q R h k => ?_⟩
  show ta σ H fun vs H1 => ∃ a xs, vs = [.ref a] ∧ ((SqL X.K H1 a xs ∧ Q (Ite X.K a) H1) ∨ (SqT X.K H1 a xs ∧ Q (IteT X.K a) H1))
  refine qa _ _ _ _ _ _ _ _ R h fun A1 o1 H1 vs s1 xs R1 U1 E1 h1 => ?_
  obtain ⟨v, x, rfl, e1, h1⟩ := a1_inv E1 h1
  obtain ⟨d, rfl, h2⟩ := daI_inv h1
  clear h1
  have h1 := h2
  clear h2
  split at h1
  · cases (show Rp X.K A1 H1 v _ from e1) with
    | lst l r =>
      refine ⟨_, _, rfl, .inl ⟨l.sq, k _ _ _ _ _ _ R1 U1 ?_ h1⟩⟩
      intro A2 H2 kp i
      have l2 : LsR A2 H2 _ _ := kp _ _ l.2 l.1
      have r2 := RpL.mono kp r
      refine ⟨fun hi => ⟨_, l2.sq, by rw [r2.length]; rw [enuD_length] at hi; exact hi⟩, fun d hd => ?_⟩
      obtain ⟨x, hx, rfl⟩ := enuD_get hd
      obtain ⟨vx, gx, rx⟩ := r2.get hx
      refine ⟨⟨_, vx, l2.sq, gx⟩, fun z H3 hz own1 σ s R => ?_⟩
      obtain ⟨T, x', rfl, hT, rfl, f1⟩ := hz
      have f1 := f1 _ l2.sq
      rw [gx] at f1
      cases f1
      rw [Nat.zero_add]
      exact wk_new hT (.cons (.int _) (.cons rx .nil)) own1 σ s R
  · cases (show Rp X.K A1 H1 v _ from e1) with
    | tup l r =>
      refine ⟨_, _, rfl, .inr ⟨l.sq, k _ _ _ _ _ _ R1 U1 ?_ h1⟩⟩
      intro A2 H2 kp i
      have l2 : TuR X.K A2 H2 _ _ := l.elim (fun q => .inl (kp _ _ q.2 q.1)) .inr
      have r2 := RpL.mono kp r
      refine ⟨fun hi => ⟨_, l2.sq, by rw [r2.length]; rw [enuD_length] at hi; exact hi⟩, fun d hd => ?_⟩
      obtain ⟨x, hx, rfl⟩ := enuD_get hd
      obtain ⟨vx, gx, rx⟩ := r2.get hx
      refine ⟨⟨_, vx, l2.sq, gx⟩, fun z H3 hz own1 σ s R => ?_⟩
      obtain ⟨T, x', rfl, hT, rfl, f1⟩ := hz
      have f1 := f1 _ l2.sq
      rw [gx] at f1
      cases f1
      rw [Nat.zero_add]
      exact wk_new hT (.cons (.int _) (.cons rx .nil)) own1 σ s R
  · exact h1.elim
end
end DL
namespace DL
open PySem L2 PySem.Spec PyProof.Rows
/-! ### a dict that changes no more is data -/
def dictD (kvs : List (Key × D)) : D := .dict (kvs.map fun z => (kD z.1, z.2))
section
variable {K : PySem.W.Frag} {A A' : Addr → Prop} {own own' : List (List Addr)} {H H' : Hp} {b : Bd} {σ : L2.St} {s : S}
theorem RKV.rpK : ∀ {ws : List (Key × V)} {kvs : List (Key × D)}, RKV K A H ws kvs → RpK K A H ws kvs
  | [], [], _ => .nil
  | (k, v) :: ws, (k', d) :: kvs, ⟨e, h, t⟩ => by
    have e : k = k' := e
    subst e
    exact .cons h (RKV.rpK t)
theorem RpK.rkv : ∀ {ws : List (Key × V)} {kvs : List (Key × D)}, RpK K A H ws kvs → RKV K A H ws kvs
  | _, _, .nil => trivial
  | _, _, .cons h t => ⟨rfl, h, RpK.rkv t⟩
theorem RpK.get : ∀ {ws : List (Key × V)} {kvs : List (Key × D)} {i : Nat} {k : Key} {d : D}, RpK K A H ws kvs → kvs[i]? = some (k, d) → ∃ v, ws[i]? = some (k, v) ∧ Rp K A H v d
  | _, _, _, _, _, .nil, e => by simp at e
  | _, _, 0, _, _, .cons a _, e => by
    simp at e
    obtain ⟨rfl, rfl⟩ := e
    exact ⟨_, rfl, a⟩
  | _, _, i + 1, _, _, .cons _ b, e => by
    obtain ⟨y, h1, h2⟩ := RpK.get (i := i) b (by simpa using e)
    exact ⟨y, by simpa using h1, h2⟩
theorem RpK.length : ∀ {ws : List (Key × V)} {kvs : List (Key × D)}, RpK K A H ws kvs → ws.length = kvs.length
  | _, _, .nil => rfl
  | _, _, .cons _ b => congrArg (· + 1) (RpK.length b)
/-- what reads as a dict -/
theorem rp_dict {v : V} {es : List (D × D)} (r : Rp K A H v (.dict es)) : ∃ a o ws kvs, v = .ref a ∧ es = kvs.map (fun z => (kD z.1, z.2)) ∧ H a = some (.frz o (.dK ws)) ∧ ¬ A a ∧ RpK K A H ws kvs := by
  generalize hd : PyData.dict es = d at r
  cases r with
  | dct l n q => cases hd; exact ⟨_, _, _, _, rfl, rfl, l, n, q⟩
  | non => cases hd
  | bl c => cases hd
  | int i => cases hd
  | str x => cases hd
  | lst l q => cases hd
  | tup l q => cases hd
def frzDS (k : Nat) (kvs : List (Key × D)) (s : S) : S := ⟨subL k (dictD kvs) s.es, sm (subS k (dictD kvs) s.ms) k .gone, s.np⟩
theorem Rel.frzD (r : Rel K b A own H σ s) {k : Nat} {kvs : List (Key × D)} (g : gm s.ms k = .dct kvs) (hk : s.np ≤ k) :
    ∃ p ws, H p = some (.dK ws) ∧ go own k = [p] ∧ RKV K A H ws kvs ∧ ∀ od, Rel K b (fun a => A a ∧ a ∉ go own k) (so own k) (upd H p (.frz od (.dK ws))) σ (frzDS k kvs s) ∧ Kp A H (fun a => A a ∧ a ∉ go own k) (upd H p (.frz od (.dK ws))) := by
  have m := r.mr k
  rw [g] at m
  obtain ⟨p, ws, e1, e2, e3⟩ := m
  have pA : A p := r.oa k p (by rw [e1]; simp)
  refine ⟨p, ws, e2, e1, e3, fun od => ?_⟩
  have kp : Kp A H (fun a => A a ∧ a ∉ go own k) (upd H p (.frz od (.dK ws))) := fun a u n q => ⟨by rw [upd_ne (fun z => n (by rw [z]; exact pA))]; exact q, fun z => n z.1⟩
  generalize hH : upd H p (.frz od (.dK ws)) = H1 at kp
  have h1p : H1 p = some (.frz od (.dK ws)) := by rw [← hH]; exact upd_same
  have h1n : ∀ a, a ≠ p → H1 a = H a := fun a n => by rw [← hH]; exact upd_ne n
  have rp : Rp K (fun a => A a ∧ a ∉ go own k) H1 (.ref p) (dictD kvs) := .dct h1p (fun z => z.2 (by rw [e1]; simp)) (RKV.rpK (e3.up kp))
  have er : ∀ {v : V} {x : En}, ER K A own H v x → ER K (fun a => A a ∧ a ∉ go own k) (so own k) H1 v (subE k (dictD kvs) x) := by
    intro v x h
    cases x with
    | no => trivial
    | da d => exact Rp.mono kp h
    | mu j =>
      obtain ⟨a, q, f1, f2⟩ := h
      show ER K _ _ H1 v (bif Nat.beq j k then .da (dictD kvs) else .mu j)
      by_cases e : j = k
      · subst e
        rw [show Nat.beq j j = true from by simp]
        rw [e1] at f1; cases f1; subst f2; exact rp
      · rw [show Nat.beq j k = false from Bool.eq_false_iff.mpr fun z => e (by simpa using z)]
        exact ⟨a, q, by rw [go_so, if_neg (Ne.symm e)]; exact f1, f2⟩
  have rke : ∀ {ws : List (Str × V)} {fs : List (Str × En)}, RKE K A own H ws fs → RKE K (fun a => A a ∧ a ∉ go own k) (so own k) H1 ws (subF k (dictD kvs) fs) := by
    intro ws fs
    induction fs generalizing ws with
    | nil => intro h; cases ws with
      | nil => trivial
      | cons _ _ => exact h.elim
    | cons x xs ih => intro h; cases ws with
      | nil => exact h.elim
      | cons w ws => exact ⟨h.1, er h.2.1, ih h.2.2⟩
  refine ⟨⟨⟨?_, fun j => ?_, fun i j a h1 h2 => ?_, fun i => ?_, fun i a h1 => ?_, fun a h z => ?_⟩, ?_, fun i => ?_, fun a h => ?_, fun a o hn h0 => ?_, fun i a h1 => ?_, ?_, ?_, fun a h => r.lim a h.1, r.a0⟩, kp⟩
  · show (so own k).length = (sm (subS k (dictD kvs) s.ms) k .gone).length
    rw [so_length, sm_length, subS_length]; exact r.ol
  · show MR K _ (so own k) H1 (go (so own k) j) (gm (sm (subS k (dictD kvs) s.ms) k .gone) j)
    rw [gm_sm, go_so]
    by_cases e : k = j
    · subst e
      have : k < s.ms.length := gm_lt (by rw [g]; intro z; cases z)
      rw [if_pos rfl, if_pos ⟨rfl, by rw [subS_length]; exact this⟩]; trivial
    · rw [if_neg e, if_neg (fun z => e z.1), gm_subS]
      have mj := r.mr j
      have ne : ∀ a, a ∈ go own j → H1 a = H a := fun a ha => h1n a fun z => e (r.dj k j p (by rw [e1]; simp) (by rw [← z]; exact ha))
      cases q : gm s.ms j with
      | gone => trivial
      | lst ds' => rw [q] at mj; obtain ⟨a, vs, h1, h2, h3⟩ := mj; exact ⟨a, vs, h1, (ne a (by rw [h1]; simp)).trans h2, RpL.mono kp h3⟩
      | dct ds' => rw [q] at mj; obtain ⟨a, vs, h1, h2, h3⟩ := mj; exact ⟨a, vs, h1, (ne a (by rw [h1]; simp)).trans h2, h3.up kp⟩
      | rnd n => rw [q] at mj; obtain ⟨a, c, cs, t, h1, h2, h3, h4⟩ := mj; exact ⟨a, c, cs, t, h1, (ne a (by rw [h1]; simp)).trans h2, (ne c (by rw [h1]; simp)).trans h3, h4⟩
      | box n => rw [q] at mj; obtain ⟨a, x, y, z, h1, h2, h4⟩ := mj; exact ⟨a, x, y, z, h1, (ne a (by rw [h1]; simp)).trans h2, h4⟩
      | tab n =>
        rw [q] at mj
        obtain ⟨P, c, h1, hc, ps, h2, h3, h4⟩ := mj
        refine ⟨P, c, h1, hc, ps, (ne P (by rw [h1]; simp)).trans h2, h3, fun pos cv e => ?_⟩
        obtain ⟨c', e5, e6, e7⟩ := h4 pos cv e
        exact ⟨c', e5, kp _ _ e7 e6⟩
      | ins C fs => rw [q] at mj; obtain ⟨a, dx, ws, h1, h2, h4⟩ := mj; exact ⟨a, dx, ws, h1, h2.up (fun b o hb e => (ne b (by rw [h1]; exact hb)).trans e), rke h4⟩
  · rw [go_so] at h1 h2
    split at h1
    · cases h1
    · split at h2
      · cases h2
      · exact r.dj i j a h1 h2
  · rw [go_so]
    split
    · exact List.nodup_nil
    · exact r.ld i
  · rw [go_so] at h1
    split at h1
    · cases h1
    · rename_i ne
      exact ⟨r.oa i a h1, fun z => ne (r.dj k i a z h1)⟩
  · by_cases e : a = p
    · subst e; rw [h1p] at z; cases z
    · rw [h1n a e] at z; exact r.al a h.1 z
  · show σ.length = (subL k (dictD kvs) s.es).length
    rw [subL_length]; exact r.len
  · show gt (subL k (dictD kvs) s.es) i = .no ∨ ∃ v, σ[i]? = some (some v) ∧ ER K _ (so own k) H1 v (gt (subL k (dictD kvs) s.es) i)
    rw [gt_subL]
    rcases r.sl i with z | ⟨v, e, h⟩
    · rw [z]; exact .inl rfl
    · exact .inr ⟨v, e, er h⟩
  · refine ⟨r.ge a h, fun z => ?_⟩
    rcases r.fo k a z with ⟨j, q⟩ | q
    · rw [← r.pre, go_take] at q
      split at q
      · have := r.dj k j a z q; omega
      · cases q
    · exact r.a0 a h q
  · have ne : a ≠ p := fun z => by
      rcases r.fo k p (by rw [e1]; simp) with ⟨j, q⟩ | q
      · exact hn j (by rw [z]; exact q)
      · rw [z, q] at h0; cases h0
    rw [h1n a ne]
    exact r.fr a o hn h0
  · rw [go_so] at h1
    split at h1
    · cases h1
    · exact r.fo i a h1
  · show (so own k).take s.np = b.own0
    rw [take_so own k s.np hk]; exact r.pre
  · rw [so_length]; exact r.npl
end
/-- locked for good -/
def tFz (t : TS) : TS := fun D σ H => ∃ d u, H d = some u ∧ Mut (some u) ∧ ∀ od, t D σ (upd H d (.frz od u))
section
variable {X : Cx} {a b c e : Expr} {wa wb wc we : WE} {pos : Pos} {sts : List Stmt} {w : WS}
theorem pss_fz {t : TS} (h : PSs X sts t) : PSs X sts (tFz t) := by
  refine ⟨fun pins s σ H D I hw => ?_⟩
  obtain ⟨d, u, hd, mu, hw⟩ := hw
  obtain ⟨od, I1⟩ := I.lock hd mu
  exact h.run pins s σ _ _ I1 (hw od)
def sFrzD (i : Nat) (w : WS) : WS := fun s D => match gt s.es i with | .mu k => (match gm s.ms k with | .dct kvs => s.np ≤ k ∧ w (frzDS k kvs s) D | _ => False) | _ => False
theorem dss_frzD (i : Nat) (h : DSs X sts w) : DSs X sts (sFrzD i w) := by
  obtain ⟨t, p, q⟩ := h.ex
  refine ⟨_, pss_fz p, fun b A own H σ s D E R h m => ?_⟩
  unfold sFrzD at h
  split at h
  · split at h
    · rename_i kvs g
      obtain ⟨p, ws, h1, _, _, h2⟩ := R.frzD g h.1
      refine ⟨p, _, h1, trivial, fun od => ?_⟩
      obtain ⟨R1, k1⟩ := h2 od
      exact q _ _ _ _ _ _ _ _ R1 h.2 (m.up k1)
    · exact h.elim
  · exact h.elim
/-! #### its items, its keys -/
def iItD (we : WE) : WI := fun s Ks => we s fun s1 x => daI x fun d => match d with | .dict es => Ks s1 (es.map fun z => .tuple [z.1, z.2]) | _ => False
theorem rp_key {K : PySem.W.Frag} {A : Addr → Prop} {H : Hp} (k : Key) : Rp K A H (kV k) (kD k) := by
  cases k with
  | inl i => exact .int i
  | inr x => exact .str x
theorem di_itD {apos cpos tpos : Pos} {elts : List Expr} {kk : Nat} (he : DE X e we) (hbase : attributeBase e "items" X.env (eval e X.env) = eval e X.env := by rfl) (hline : (apos.endLine == cpos.line) = true := by rfl) :
    DI X (.Tuple elts kk tpos) (.Call (.Attribute e "items" apos) [] [] cpos) (iItD we) := by
  obtain ⟨te, pe, qe⟩ := he.ex
  refine ⟨_, pi_items pe hbase hline, fun b A own H σ s Ks Q R h k => ?_⟩
  show te σ H fun x H1 => ∃ d o kvs, x = .ref d ∧ H1 d = some (.frz o (.dK kvs)) ∧ Q (Iti d o kvs) H1
  refine qe _ _ _ _ _ _ _ _ R h fun A1 o1 H1 v1 s1 x1 R1 U1 E1 h1 => ?_
  obtain ⟨d, rfl, h2⟩ := daI_inv h1
  clear h1
  cases d with
  | dict es =>
    obtain ⟨a, o, ws, kvs, rfl, rfl, l, n, q⟩ := rp_dict (show Rp X.K A1 H1 v1 (.dict es) from E1)
    refine ⟨a, o, ws, rfl, l, k _ _ _ _ _ _ R1 U1 ?_ h2⟩
    intro A2 H2 kp i
    obtain ⟨l2, n2⟩ := kp _ _ n l
    have q2 := RpK.mono kp q
    refine ⟨fun hi => ⟨l2, by rw [q2.length]; rw [List.length_map, List.length_map] at hi; exact hi⟩, fun d hd => ?_⟩
    rw [List.getElem?_map, List.getElem?_map] at hd
    cases hk : kvs[i]? with
    | none => rw [hk] at hd; cases hd
    | some z =>
      rw [hk] at hd
      cases hd
      obtain ⟨v, gv, rv⟩ := q2.get (k := z.1) (d := z.2) hk
      refine ⟨⟨l2, (List.getElem?_eq_some_iff.mp gv).1⟩, fun y H3 hy own1 σ s R => ?_⟩
      obtain ⟨T, k', v', e1, rfl, hT, rfl⟩ := hy
      rw [gv] at e1
      cases e1
      exact wk_new hT (.cons (rp_key _) (.cons rv .nil)) own1 σ s R
  | _ => exact h2.elim
def cListDd : S → List En → (S → En → Prop) → Prop := fun s xs Ks => a1 xs fun x => daI x fun d => match d with | .dict es => Ks s (.da (.list (es.map (·.1)))) | _ => False
theorem cd_listDd {K : PySem.W.Frag} : CallD K rListK cListDd := by
  intro b A own H σ s vs xs Ks Q R E h k
  obtain ⟨v, x, rfl, e1, h⟩ := a1_inv E h
  obtain ⟨d, rfl, h2⟩ := daI_inv h
  clear h
  cases d with
  | dict es =>
    obtain ⟨a, o, ws, kvs, rfl, rfl, l, n, q⟩ := rp_dict (show Rp K A H v (.dict es) from e1)
    refine ⟨a, ws, rfl, .inr ⟨o, l⟩, fun p hp => new_lst R k ?_ hp h2⟩
    rw [List.map_map]
    exact rkv_keysV q.rkv
  | _ => exact h2.elim
theorem de_listDd {p : Pos} (hc : X.calm = true) (hg : Gl X "list") (hm : X.mg "list" = none) (ha : DE X a wa) (he : starEach (a :: []) X.env = (false, eval a X.env) :: starEach [] X.env := by rfl) : DE X (.Call (.Name "list" p) [a] [] pos) (dCall cListDd (aCons wa aNil)) := de_callTy (call_listD hc) cd_listDd hg hm (by decide +kernel) (da_cons ha da_nil he) (he := he)
end
end DL
namespace DL
open PySem L2 PySem.Spec PyProof.Rows
/-! ### zip over lists and tuples, mixed (printed by zipgen.py) -/
def Sq1 (K : PySem.W.Frag) (H : Hp) (t : Bool) (a : Addr) (xs : List V) : Prop := match t with | false => SqL K H a xs | true => SqT K H a xs
def isS (t : Bool) (h : Heap) (a : Addr) (its : Array Value) : Prop := match t with | false => h.IsList a its | true => h.IsTuple a its
def itN (t : Bool) (h : Heap) (it a : Addr) (i : Nat) : Prop := match t with | false => h.IsListIter it a i | true => h.IsTupleIter it a i
def itO (t : Bool) (a : Addr) : Obj := match t with | false => { cls := .type "list_iterator", data := .fields #[.ref a, .int 0 0] } | true => { cls := .type "tuple_iterator", data := .fields #[.ref a, .int 0 0] }
theorem isS.lt {t : Bool} {h : Heap} {a : Addr} {its : Array Value} (p : isS t h a its) : a < h.objs.size := by
  cases t with
  | false => obtain ⟨o, e, _⟩ := (show h.IsList a its from p); exact Heap.lt_size e
  | true => obtain ⟨o, e, _⟩ := (show h.IsTuple a its from p); exact Heap.lt_size e
theorem itN.obj {t : Bool} {h : Heap} {it a : Addr} {i : Nat} (p : itN t h it a i) : ∃ o, h.get? it = some o ∧ ∀ v, o.data ≠ .cell v := by
  cases t with
  | false => obtain ⟨o, e, c, d⟩ := (show h.IsListIter it a i from p); exact ⟨o, e, fun v z => by rw [d] at z; cases z⟩
  | true => obtain ⟨o, e, c, d⟩ := (show h.IsTupleIter it a i from p); exact ⟨o, e, fun v z => by rw [d] at z; cases z⟩
theorem itN.at {t : Bool} {h h' : Heap} {it a : Addr} {i : Nat} (p : itN t h it a i) (k : ∀ o, h.get? it = some o → h'.get? it = some o) : itN t h' it a i := by
  cases t with
  | false => exact Heap.IsListIter.at (show h.IsListIter it a i from p) k
  | true => exact Heap.IsTupleIter.at (show h.IsTupleIter it a i from p) k
theorem itN_new {t : Bool} {h : Heap} {it a : Addr} (e : h.get? it = some (itO t a)) : itN t h it a 0 := by
  cases t with
  | false => exact ⟨_, e, rfl, rfl⟩
  | true => exact ⟨_, e, rfl, rfl⟩
theorem beginsS (t : Bool) (a : Addr) (its : Array Value) : Begins (.ref a) (itO t a) (fun h => isS t h a its) := by
  cases t with
  | false => exact begins_list a its
  | true => exact begins_tuple a its
theorem drawsS {prog : Program} {w : World} {A : Around} (hh : A.handled = none) (t : Bool) {it a : Addr} (hne : a ≠ it) (its : Array Value) :
    Draws prog w A it [it, a] its.size (fun i v => its[i]? = some v) (fun i h => itN t h it a i ∧ isS t h a its) := by
  cases t with
  | false => exact Draws.list hh it a hne its
  | true => exact Draws.tuple hh it a hne its
section
variable {X : Cx} {pins : List (Addr × Obj)} {σ : L2.St} {H : Hp} {s : Shared}
theorem _root_.L2.Inv.sq1 {t : Bool} {a : Addr} {xs : List V} (I : Inv X pins σ H s) (h : Sq1 X.K H t a xs) : ∃ its : List Value, Vals xs its ∧ isS t s.heap a its.toArray ∧ xs.length ≤ sizeLine := by
  cases t with
  | false => obtain ⟨its, rv, p, z⟩ := I.list h; exact ⟨its, rv, p.isList, z⟩
  | true => obtain ⟨its, rv, p, z⟩ := I.tuple h; exact ⟨its, rv, p, z⟩
end
/-- a sequence's place, off A -/
def SqD (K : PySem.W.Frag) (A : Addr → Prop) (H : Hp) (t : Bool) (a : Addr) (xs : List V) : Prop := match t with | false => LsR A H a xs | true => TuR K A H a xs
theorem SqD.sq {K : PySem.W.Frag} {A : Addr → Prop} {H : Hp} {t : Bool} {a : Addr} {xs : List V} (h : SqD K A H t a xs) : Sq1 K H t a xs := by
  cases t with
  | false => exact LsR.sq h
  | true => exact TuR.sq h
theorem SqD.mono {K : PySem.W.Frag} {A A' : Addr → Prop} {H H' : Hp} {t : Bool} {a : Addr} {xs : List V} (h : SqD K A H t a xs) (kp : Kp A H A' H') : SqD K A' H' t a xs := by
  cases t with
  | false => exact kp _ _ h.2 h.1
  | true => exact Or.elim h (fun q => .inl (kp _ _ q.2 q.1)) .inr
theorem rp_seq {K : PySem.W.Frag} {A : Addr → Prop} {H : Hp} {v : V} {d : D} {ds : List D} (r : Rp K A H v d) (h : seqD d = some ds) : ∃ t a us, v = .ref a ∧ SqD K A H t a us ∧ RpL K A H us ds := by
  cases r with
  | lst l r => cases h; exact ⟨false, _, _, rfl, l, r⟩
  | tup l r => cases h; exact ⟨true, _, _, rfl, l, r⟩
  | non => cases h
  | bl c => cases h
  | int i => cases h
  | str x => cases h
  | dct _ _ _ => cases h
def ItzG2 (K : PySem.W.Frag) (t1 : Bool) (a1 : Addr) (xs1 : List V) (t2 : Bool) (a2 : Addr) (xs2 : List V) : It :=
  ⟨fun i H => Sq1 K H t1 a1 xs1 ∧ Sq1 K H t2 a2 xs2 ∧ i < xs1.length ∧ i < xs2.length,
   fun i H v H' => ∃ T x1 x2, v = .ref T ∧ H T = none ∧ H' = upd H T (.tup [x1, x2]) ∧ xs1[i]? = some x1 ∧ xs2[i]? = some x2,
   fun i H => Sq1 K H t1 a1 xs1 ∧ Sq1 K H t2 a2 xs2 ∧ (xs1.length ≤ i ∨ xs2.length ≤ i)⟩
theorem turn_zipG2 {P : Program} {w : World} {K : PySem.W.Frag} {elts : List Expr} {kk : Nat} {tpos : Pos} {t1 t2 : Bool} {xs1 xs2 : List V} {a1 a2 z TI TO i1 i2 : Addr} (S : ZipSep2 z TI TO i1 i2 [i1, a1] [i2, a2]) (n1 : a1 ≠ i1) (n2 : a2 ≠ i2) :
    Turn P w K (.Tuple elts kk tpos) (ItzG2 K t1 a1 xs1 t2 a2 xs2) [z, TI, TO, i1, i2] z (fun i h => IsZip h z TI TO .none ∧ IsTupOf2 h TI (.ref i1) (.ref i2) ∧ (∃ y1 y2, IsTupOf2 h TO y1 y2) ∧ itN t1 h i1 a1 i ∧ itN t2 h i2 a2 i ∧ i ≤ xs1.length ∧ i ≤ xs2.length) where
  mem := by simp
  obj := fun i h st c hc => by
    obtain ⟨hz, hTI, ⟨y1, y2, hTO⟩, s1, s2, _⟩ := st
    have e' : c = z ∨ c = TI ∨ c = TO ∨ c = i1 ∨ c = i2 := by simpa using hc
    rcases e' with q | q | q | q | q
    · rw [q]; exact ⟨_, hz, fun v q => nomatch q⟩
    · rw [q]; exact ⟨_, hTI, fun v q => nomatch q⟩
    · rw [q]; exact ⟨_, hTO, fun v q => nomatch q⟩
    · rw [q]; exact s1.obj
    · rw [q]; exact s2.obj
  keep := fun i h h' st k => by
    obtain ⟨hz, hTI, ⟨y1, y2, hTO⟩, s1, s2, hl⟩ := st
    exact ⟨k z (by simp) _ hz, k TI (by simp) _ hTI, ⟨y1, y2, k TO (by simp) _ hTO⟩, s1.at fun o q => k i1 (by simp) o q, s2.at fun o q => k i2 (by simp) o q, hl⟩
  item := by
    intro X hP hw hK hc i pins s σ H E I hf st hg
    subst hP hw hK
    obtain ⟨hz, hTI, ⟨y1, y2, hTO⟩, s1, s2, l1, l2⟩ := st
    obtain ⟨q1, q2, g1, g2⟩ := hg
    obtain ⟨its1, rv1, p1, z1⟩ := I.sq1 q1
    obtain ⟨u1, hu1, ru1⟩ := rv1.get (List.getElem?_eq_getElem g1)
    obtain ⟨its2, rv2, p2, z2⟩ := I.sq1 q2
    obtain ⟨u2, hu2, ru2⟩ := rv2.get (List.getElem?_eq_getElem g2)
    have hzl : z < s.heap.objs.size := Heap.lt_size hz
    refine wpAny_pyNext_zipD2_item S (drawsS (A := X.A.in1) (show X.A.in1.handled = none from I.ok.hd hc) t1 n1 its1.toArray) (drawsS (A := X.A.in1) (show X.A.in1.handled = none from I.ok.hd hc) t2 n2 its2.toArray) hz hTI hTO ⟨s1, p1⟩ ⟨s2, p2⟩ (by have := rv1.length; rw [List.size_toArray]; omega) (by have := rv2.length; rw [List.size_toArray]; omega) fun v1 v2 h' tk w1 w2 z' TO' d1 d2 hT hsz hk => ?_
    have e1 : v1 = u1 := by
      have q : its1[i]? = some v1 := by simpa using w1
      rw [hu1] at q
      exact (Option.some.inj q).symm
    subst e1
    have e2 : v2 = u2 := by
      have q : its2[i]? = some v2 := by simpa using w2
      rw [hu2] at q
      exact (Option.some.inj q).symm
    subst e2
    refine ⟨_, rfl, wpAny_letOwnedTupleGo_zip (s := { s with heap := h', toks := tk }) z' fun h'' z'' sb => ?_⟩
    have hT2 : h''.get? s.heap.objs.size = some { cls := .type "tuple", data := .seq #[v1, v2] } := (sb.2 _ (Nat.ne_of_gt hzl)).trans hT
    have new : ObjOk X.prog X.w (upd H s.heap.objs.size (.tup [xs1[i], xs2[i]])) h'' s.heap.objs.size (.tup [xs1[i], xs2[i]]) :=
      ⟨by show 2 ≤ sizeLine; decide, [v1, v2], (.cons ru1 (.cons ru2 .nil)), ⟨_, hT2, rfl, _, rfl⟩⟩
    have I1 : Inv X pins σ (upd H s.heap.objs.size (.tup [xs1[i], xs2[i]])) { s with heap := h'', toks := tk } :=
      I.turnedNew (ch := [z, TI, TO, i1, i2]) (fun c o hb q => (sb.2 c (fun q' => hb (by simp [q']))).trans (hk c o (fun q' => hb (by simp [q'])) (fun q' => hb (by simp [q'])) (fun q' => hb (by simp [q'])) (fun q' => hb (by simp [q'])) q)) hf (Nat.le_refl _) new
    refine ⟨.ref s.heap.objs.size, _, I1, rfl, ⟨_, _, _, rfl, I.hok.fresh (Nat.le_refl _), rfl, List.getElem?_eq_getElem g1, List.getElem?_eq_getElem g2⟩, ⟨z'', ?_, ⟨v1, v2, ?_⟩, d1.1.at fun o q => (sb.2 i1 (fun q' => S.zf1 (by simp [← q']))).trans q, d2.1.at fun o q => (sb.2 i2 (fun q' => S.zf2 (by simp [← q']))).trans q, g1, g2⟩, fun b hb => ?_⟩
    · exact (sb.2 _ S.TIz).trans (hk _ _ S.TIz S.TITO S.TIi1 S.TIi2 hTI)
    · exact (sb.2 _ S.TOz).trans TO'
    · have hb' : b < s.heap.objs.size := by
        have e' : b = z ∨ b = TI ∨ b = TO ∨ b = i1 ∨ b = i2 := by simpa using hb
        rcases e' with q | q | q | q | q
        · rw [q]; exact hzl
        · rw [q]; exact Heap.lt_size hTI
        · rw [q]; exact Heap.lt_size hTO
        · rw [q]; obtain ⟨_, e, _⟩ := s1.obj; exact Heap.lt_size e
        · rw [q]; obtain ⟨_, e, _⟩ := s2.obj; exact Heap.lt_size e
      rw [upd_ne (Nat.ne_of_lt hb')]
      exact (hf b hb).1
  done := by
    intro X hP hw hK hc i pins s σ H E I hf st hg
    subst hP hw hK
    obtain ⟨hz, hTI, ⟨y1, y2, hTO⟩, s1, s2, l1, l2⟩ := st
    obtain ⟨q1, q2, ge⟩ := hg
    obtain ⟨its1, rv1, p1, z1⟩ := I.sq1 q1
    have m1 := rv1.length
    obtain ⟨its2, rv2, p2, z2⟩ := I.sq1 q2
    have m2 := rv2.length
    exact wpAny_pyNext_zipD2_end S (drawsS (A := X.A.in1) (show X.A.in1.handled = none from I.ok.hd hc) t1 n1 its1.toArray) (drawsS (A := X.A.in1) (show X.A.in1.handled = none from I.ok.hd hc) t2 n2 its2.toArray) hz hTI hTO ⟨s1, p1⟩ ⟨s2, p2⟩ (by rw [List.size_toArray]; omega) (by rw [List.size_toArray]; omega) (by simp only [List.size_toArray]; omega) fun h' tk hk => ⟨rfl, I.turnedL (t' := tk) (ch := [z, TI, TO, i1, i2]) (fun c o hb q => hk c o (fun q' => hb (by simp [q'])) (fun q' => hb (by simp [q'])) (fun q' => hb (by simp [q'])) (fun q' => hb (by simp [q'])) q) hf⟩
  self := fun A i s Q E st h => wpAny_pyIter_zip st.1 h
def iZipG2 (K : PySem.W.Frag) (ta : TA) : TI := fun σ H R => ta σ H fun vs H => ∃ t1 a1 xs1 t2 a2 xs2, vs = [.ref a1, .ref a2] ∧ Sq1 K H t1 a1 xs1 ∧ Sq1 K H t2 a2 xs2 ∧ R (ItzG2 K t1 a1 xs1 t2 a2 xs2) H
theorem pi_zipG2 {X : Cx} {e1 e2 : Expr} {ta : TA} {p pos tpos : Pos} {elts : List Expr} {kk : Nat} (hg : Gl X "zip") (hm : X.mg "zip" = none) (ha : PA X [e1, e2] ta)
    (hs : starEach [e1, e2] X.env = (false, eval e1 X.env) :: starEach [e2] X.env := by rfl) (hpl : (backTo pos (starEach [e2] X.env)).any (·.1) = false := by rfl) :
    PI X (.Tuple elts kk tpos) (.Call (.Name "zip" p) [e1, e2] [] pos) (iZipG2 X.K ta) := by
  refine ⟨fun pins s σ H R I h => ?_⟩
  refine Call_ (ld_blt I hg hm PyProof.Rows.boot_zip (PyProof.Rows.callWith_type1 (thn (ha.run pos pins s σ H _ I h) fun us s1 ⟨vs, H1, I1, r1, q1⟩ => ?_) hs hpl))
  obtain ⟨t1, a1, xs1, t2, a2, xs2, ex, f1, f2, q⟩ := q1
  subst ex
  cases r1 with
  | cons r1x r1 =>
    cases r1 with
    | cons r2x r1 =>
      cases r1
      cases r1x
      cases r2x
      obtain ⟨its1, rv1, p1, z1⟩ := I1.sq1 f1
      have lt1 : a1 < s1.heap.objs.size := p1.lt
      obtain ⟨its2, rv2, p2, z2⟩ := I1.sq1 f2
      have lt2 : a2 < s1.heap.objs.size := p2.lt
      have fresh : ∀ c, c ∈ [s1.heap.objs.size + 4, s1.heap.objs.size + 2, s1.heap.objs.size + 3, s1.heap.objs.size, s1.heap.objs.size + 1] → FpOk X pins H1 c := fun c hcm => by
        have hle : s1.heap.objs.size ≤ c := by
          have e' : c = s1.heap.objs.size + 4 ∨ c = s1.heap.objs.size + 2 ∨ c = s1.heap.objs.size + 3 ∨ c = s1.heap.objs.size ∨ c = s1.heap.objs.size + 1 := by simpa using hcm
          rcases e' with q | q | q | q | q
          · rw [q]; exact Nat.le_add_right _ _
          · rw [q]; exact Nat.le_add_right _ _
          · rw [q]; exact Nat.le_add_right _ _
          · rw [q]; exact Nat.le_refl _
          · rw [q]; exact Nat.le_add_right _ _
        exact I1.fpOk hle (I1.hok.fresh hle)
      refine zip_begins2 (beginsS t1 a1 its1.toArray) (beginsS t2 a2 its2.toArray) p1 p2 fun h' hz hTI hTO b1 b2 hsz hk => wpAny_pyIter_zip hz ?_
      have I2 : Inv X pins σ H1 { s1 with heap := h' } := I1.kept (t' := s1.toks) hk
      exact ⟨s1.heap.objs.size + 4, [s1.heap.objs.size + 4, s1.heap.objs.size + 2, s1.heap.objs.size + 3, s1.heap.objs.size, s1.heap.objs.size + 1], _, _, H1, rfl, I2, turn_zipG2 (zip_sep2 (fp1 := [a1]) (fun b hb => by rw [List.mem_singleton.mp hb]; exact lt1) (fp2 := [a2]) (fun b hb => by rw [List.mem_singleton.mp hb]; exact lt2)) (Nat.ne_of_lt (Nat.lt_of_lt_of_le lt1 (Nat.le_refl _))) (Nat.ne_of_lt (Nat.lt_of_lt_of_le lt2 (Nat.le_add_right _ _))), ⟨hz, hTI, ⟨_, _, hTO⟩, itN_new b1, itN_new b2, Nat.zero_le _, Nat.zero_le _⟩, fresh, q⟩
section
variable {X : Cx} {e1 e2 : Expr} {wr : WA} {pos : Pos}
def iZipA2 (wr : WA) : WI := fun s Ks => wr s fun s1 xs => a2 xs fun x y => da2 x y fun d e => onO (seqD d) fun ds => onO (seqD e) fun es => Ks s1 (zipD ds es)
theorem di_zipA2 {p tpos : Pos} {elts : List Expr} {kk : Nat} (hg : Gl X "zip") (hm : X.mg "zip" = none) (ha : DA X [e1, e2] wr)
    (hs : starEach [e1, e2] X.env = (false, eval e1 X.env) :: starEach [e2] X.env := by rfl) (hpl : (backTo pos (starEach [e2] X.env)).any (·.1) = false := by rfl) :
    DI X (.Tuple elts kk tpos) (.Call (.Name "zip" p) [e1, e2] [] pos) (iZipA2 wr) := by
  obtain ⟨ta, pa, qa⟩ := ha.ex
  refine ⟨_, pi_zipG2 hg hm pa hs hpl, fun b A own H σ s Ks Q R h k => ?_⟩
  show ta σ H fun vs H => ∃ t1 a1 xs1 t2 a2 xs2, vs = [.ref a1, .ref a2] ∧ Sq1 X.K H t1 a1 xs1 ∧ Sq1 X.K H t2 a2 xs2 ∧ Q (ItzG2 X.K t1 a1 xs1 t2 a2 xs2) H
  refine qa _ _ _ _ _ _ _ _ R h fun A1 o1 H1 vs s1 xs R1 U1 E1 h1 => ?_
  obtain ⟨v1, v2, x, y, rfl, c1, c2, h1⟩ := a2_inv E1 h1
  obtain ⟨d1, d2, rfl, rfl, h2⟩ := da2_inv h1
  clear h1
  obtain ⟨ds1, hd1, h2⟩ := onO_inv h2
  obtain ⟨t1, a1, us1, rfl, st1, r1⟩ := rp_seq (show Rp X.K A1 H1 v1 d1 from c1) hd1
  obtain ⟨ds2, hd2, h2⟩ := onO_inv h2
  obtain ⟨t2, a2, us2, rfl, st2, r2⟩ := rp_seq (show Rp X.K A1 H1 v2 d2 from c2) hd2
  refine ⟨t1, a1, us1, t2, a2, us2, rfl, st1.sq, st2.sq, k _ _ _ _ _ _ R1 U1 ?_ h2⟩
  intro A2 H2 kp i
  have m1 := st1.mono kp
  have g1 := RpL.mono kp r1
  have m2 := st2.mono kp
  have g2 := RpL.mono kp r2
  refine ⟨fun hi => ⟨m1.sq, m2.sq, ?_⟩, fun d hd => ?_⟩
  · rw [zipD_length] at hi
    rw [g1.length, g2.length]
    omega
  · obtain ⟨x1, x2, hx1, hx2, rfl⟩ := zipD_get hd
    obtain ⟨y1, gy1, ry1⟩ := g1.get hx1
    obtain ⟨y2, gy2, ry2⟩ := g2.get hx2
    refine ⟨⟨m1.sq, m2.sq, (List.getElem?_eq_some_iff.mp gy1).1, (List.getElem?_eq_some_iff.mp gy2).1⟩, fun w H3 hw own1 σ s R => ?_⟩
    obtain ⟨T, z1, z2, rfl, hT, rfl, k1, k2⟩ := hw
    rw [gy1] at k1
    cases k1
    rw [gy2] at k2
    cases k2
    exact wk_new hT (.cons ry1 (.cons ry2 .nil)) own1 σ s R
end
def ItzG3 (K : PySem.W.Frag) (t1 : Bool) (a1 : Addr) (xs1 : List V) (t2 : Bool) (a2 : Addr) (xs2 : List V) (t3 : Bool) (a3 : Addr) (xs3 : List V) : It :=
  ⟨fun i H => Sq1 K H t1 a1 xs1 ∧ Sq1 K H t2 a2 xs2 ∧ Sq1 K H t3 a3 xs3 ∧ i < xs1.length ∧ i < xs2.length ∧ i < xs3.length,
   fun i H v H' => ∃ T x1 x2 x3, v = .ref T ∧ H T = none ∧ H' = upd H T (.tup [x1, x2, x3]) ∧ xs1[i]? = some x1 ∧ xs2[i]? = some x2 ∧ xs3[i]? = some x3,
   fun i H => Sq1 K H t1 a1 xs1 ∧ Sq1 K H t2 a2 xs2 ∧ Sq1 K H t3 a3 xs3 ∧ (xs1.length ≤ i ∨ xs2.length ≤ i ∨ xs3.length ≤ i)⟩
theorem turn_zipG3 {P : Program} {w : World} {K : PySem.W.Frag} {elts : List Expr} {kk : Nat} {tpos : Pos} {t1 t2 t3 : Bool} {xs1 xs2 xs3 : List V} {a1 a2 a3 z TI TO i1 i2 i3 : Addr} (S : ZipSep3 z TI TO i1 i2 i3 [i1, a1] [i2, a2] [i3, a3]) (n1 : a1 ≠ i1) (n2 : a2 ≠ i2) (n3 : a3 ≠ i3) :
    Turn P w K (.Tuple elts kk tpos) (ItzG3 K t1 a1 xs1 t2 a2 xs2 t3 a3 xs3) [z, TI, TO, i1, i2, i3] z (fun i h => IsZip h z TI TO .none ∧ IsTupOf3 h TI (.ref i1) (.ref i2) (.ref i3) ∧ (∃ y1 y2 y3, IsTupOf3 h TO y1 y2 y3) ∧ itN t1 h i1 a1 i ∧ itN t2 h i2 a2 i ∧ itN t3 h i3 a3 i ∧ i ≤ xs1.length ∧ i ≤ xs2.length ∧ i ≤ xs3.length) where
  mem := by simp
  obj := fun i h st c hc => by
    obtain ⟨hz, hTI, ⟨y1, y2, y3, hTO⟩, s1, s2, s3, _⟩ := st
    have e' : c = z ∨ c = TI ∨ c = TO ∨ c = i1 ∨ c = i2 ∨ c = i3 := by simpa using hc
    rcases e' with q | q | q | q | q | q
    · rw [q]; exact ⟨_, hz, fun v q => nomatch q⟩
    · rw [q]; exact ⟨_, hTI, fun v q => nomatch q⟩
    · rw [q]; exact ⟨_, hTO, fun v q => nomatch q⟩
    · rw [q]; exact s1.obj
    · rw [q]; exact s2.obj
    · rw [q]; exact s3.obj
  keep := fun i h h' st k => by
    obtain ⟨hz, hTI, ⟨y1, y2, y3, hTO⟩, s1, s2, s3, hl⟩ := st
    exact ⟨k z (by simp) _ hz, k TI (by simp) _ hTI, ⟨y1, y2, y3, k TO (by simp) _ hTO⟩, s1.at fun o q => k i1 (by simp) o q, s2.at fun o q => k i2 (by simp) o q, s3.at fun o q => k i3 (by simp) o q, hl⟩
  item := by
    intro X hP hw hK hc i pins s σ H E I hf st hg
    subst hP hw hK
    obtain ⟨hz, hTI, ⟨y1, y2, y3, hTO⟩, s1, s2, s3, l1, l2, l3⟩ := st
    obtain ⟨q1, q2, q3, g1, g2, g3⟩ := hg
    obtain ⟨its1, rv1, p1, z1⟩ := I.sq1 q1
    obtain ⟨u1, hu1, ru1⟩ := rv1.get (List.getElem?_eq_getElem g1)
    obtain ⟨its2, rv2, p2, z2⟩ := I.sq1 q2
    obtain ⟨u2, hu2, ru2⟩ := rv2.get (List.getElem?_eq_getElem g2)
    obtain ⟨its3, rv3, p3, z3⟩ := I.sq1 q3
    obtain ⟨u3, hu3, ru3⟩ := rv3.get (List.getElem?_eq_getElem g3)
    have hzl : z < s.heap.objs.size := Heap.lt_size hz
    refine wpAny_pyNext_zipD3_item S (drawsS (A := X.A.in1) (show X.A.in1.handled = none from I.ok.hd hc) t1 n1 its1.toArray) (drawsS (A := X.A.in1) (show X.A.in1.handled = none from I.ok.hd hc) t2 n2 its2.toArray) (drawsS (A := X.A.in1) (show X.A.in1.handled = none from I.ok.hd hc) t3 n3 its3.toArray) hz hTI hTO ⟨s1, p1⟩ ⟨s2, p2⟩ ⟨s3, p3⟩ (by have := rv1.length; rw [List.size_toArray]; omega) (by have := rv2.length; rw [List.size_toArray]; omega) (by have := rv3.length; rw [List.size_toArray]; omega) fun v1 v2 v3 h' tk w1 w2 w3 z' TO' d1 d2 d3 hT hsz hk => ?_
    have e1 : v1 = u1 := by
      have q : its1[i]? = some v1 := by simpa using w1
      rw [hu1] at q
      exact (Option.some.inj q).symm
    subst e1
    have e2 : v2 = u2 := by
      have q : its2[i]? = some v2 := by simpa using w2
      rw [hu2] at q
      exact (Option.some.inj q).symm
    subst e2
    have e3 : v3 = u3 := by
      have q : its3[i]? = some v3 := by simpa using w3
      rw [hu3] at q
      exact (Option.some.inj q).symm
    subst e3
    refine ⟨_, rfl, wpAny_letOwnedTupleGo_zip (s := { s with heap := h', toks := tk }) z' fun h'' z'' sb => ?_⟩
    have hT2 : h''.get? s.heap.objs.size = some { cls := .type "tuple", data := .seq #[v1, v2, v3] } := (sb.2 _ (Nat.ne_of_gt hzl)).trans hT
    have new : ObjOk X.prog X.w (upd H s.heap.objs.size (.tup [xs1[i], xs2[i], xs3[i]])) h'' s.heap.objs.size (.tup [xs1[i], xs2[i], xs3[i]]) :=
      ⟨by show 3 ≤ sizeLine; decide, [v1, v2, v3], (.cons ru1 (.cons ru2 (.cons ru3 .nil))), ⟨_, hT2, rfl, _, rfl⟩⟩
    have I1 : Inv X pins σ (upd H s.heap.objs.size (.tup [xs1[i], xs2[i], xs3[i]])) { s with heap := h'', toks := tk } :=
      I.turnedNew (ch := [z, TI, TO, i1, i2, i3]) (fun c o hb q => (sb.2 c (fun q' => hb (by simp [q']))).trans (hk c o (fun q' => hb (by simp [q'])) (fun q' => hb (by simp [q'])) (fun q' => hb (by simp [q'])) (fun q' => hb (by simp [q'])) (fun q' => hb (by simp [q'])) q)) hf (Nat.le_refl _) new
    refine ⟨.ref s.heap.objs.size, _, I1, rfl, ⟨_, _, _, _, rfl, I.hok.fresh (Nat.le_refl _), rfl, List.getElem?_eq_getElem g1, List.getElem?_eq_getElem g2, List.getElem?_eq_getElem g3⟩, ⟨z'', ?_, ⟨v1, v2, v3, ?_⟩, d1.1.at fun o q => (sb.2 i1 (fun q' => S.zf1 (by simp [← q']))).trans q, d2.1.at fun o q => (sb.2 i2 (fun q' => S.zf2 (by simp [← q']))).trans q, d3.1.at fun o q => (sb.2 i3 (fun q' => S.zf3 (by simp [← q']))).trans q, g1, g2, g3⟩, fun b hb => ?_⟩
    · exact (sb.2 _ S.TIz).trans (hk _ _ S.TIz S.TITO S.TIi1 S.TIi2 S.TIi3 hTI)
    · exact (sb.2 _ S.TOz).trans TO'
    · have hb' : b < s.heap.objs.size := by
        have e' : b = z ∨ b = TI ∨ b = TO ∨ b = i1 ∨ b = i2 ∨ b = i3 := by simpa using hb
        rcases e' with q | q | q | q | q | q
        · rw [q]; exact hzl
        · rw [q]; exact Heap.lt_size hTI
        · rw [q]; exact Heap.lt_size hTO
        · rw [q]; obtain ⟨_, e, _⟩ := s1.obj; exact Heap.lt_size e
        · rw [q]; obtain ⟨_, e, _⟩ := s2.obj; exact Heap.lt_size e
        · rw [q]; obtain ⟨_, e, _⟩ := s3.obj; exact Heap.lt_size e
      rw [upd_ne (Nat.ne_of_lt hb')]
      exact (hf b hb).1
  done := by
    intro X hP hw hK hc i pins s σ H E I hf st hg
    subst hP hw hK
    obtain ⟨hz, hTI, ⟨y1, y2, y3, hTO⟩, s1, s2, s3, l1, l2, l3⟩ := st
    obtain ⟨q1, q2, q3, ge⟩ := hg
    obtain ⟨its1, rv1, p1, z1⟩ := I.sq1 q1
    have m1 := rv1.length
    obtain ⟨its2, rv2, p2, z2⟩ := I.sq1 q2
    have m2 := rv2.length
    obtain ⟨its3, rv3, p3, z3⟩ := I.sq1 q3
    have m3 := rv3.length
    exact wpAny_pyNext_zipD3_end S (drawsS (A := X.A.in1) (show X.A.in1.handled = none from I.ok.hd hc) t1 n1 its1.toArray) (drawsS (A := X.A.in1) (show X.A.in1.handled = none from I.ok.hd hc) t2 n2 its2.toArray) (drawsS (A := X.A.in1) (show X.A.in1.handled = none from I.ok.hd hc) t3 n3 its3.toArray) hz hTI hTO ⟨s1, p1⟩ ⟨s2, p2⟩ ⟨s3, p3⟩ (by rw [List.size_toArray]; omega) (by rw [List.size_toArray]; omega) (by rw [List.size_toArray]; omega) (by simp only [List.size_toArray]; omega) fun h' tk hk => ⟨rfl, I.turnedL (t' := tk) (ch := [z, TI, TO, i1, i2, i3]) (fun c o hb q => hk c o (fun q' => hb (by simp [q'])) (fun q' => hb (by simp [q'])) (fun q' => hb (by simp [q'])) (fun q' => hb (by simp [q'])) (fun q' => hb (by simp [q'])) q) hf⟩
  self := fun A i s Q E st h => wpAny_pyIter_zip st.1 h
def iZipG3 (K : PySem.W.Frag) (ta : TA) : TI := fun σ H R => ta σ H fun vs H => ∃ t1 a1 xs1 t2 a2 xs2 t3 a3 xs3, vs = [.ref a1, .ref a2, .ref a3] ∧ Sq1 K H t1 a1 xs1 ∧ Sq1 K H t2 a2 xs2 ∧ Sq1 K H t3 a3 xs3 ∧ R (ItzG3 K t1 a1 xs1 t2 a2 xs2 t3 a3 xs3) H
theorem pi_zipG3 {X : Cx} {e1 e2 e3 : Expr} {ta : TA} {p pos tpos : Pos} {elts : List Expr} {kk : Nat} (hg : Gl X "zip") (hm : X.mg "zip" = none) (ha : PA X [e1, e2, e3] ta)
    (hs : starEach [e1, e2, e3] X.env = (false, eval e1 X.env) :: starEach [e2, e3] X.env := by rfl) (hpl : (backTo pos (starEach [e2, e3] X.env)).any (·.1) = false := by rfl) :
    PI X (.Tuple elts kk tpos) (.Call (.Name "zip" p) [e1, e2, e3] [] pos) (iZipG3 X.K ta) := by
  refine ⟨fun pins s σ H R I h => ?_⟩
  refine Call_ (ld_blt I hg hm PyProof.Rows.boot_zip (PyProof.Rows.callWith_type1 (thn (ha.run pos pins s σ H _ I h) fun us s1 ⟨vs, H1, I1, r1, q1⟩ => ?_) hs hpl))
  obtain ⟨t1, a1, xs1, t2, a2, xs2, t3, a3, xs3, ex, f1, f2, f3, q⟩ := q1
  subst ex
  cases r1 with
  | cons r1x r1 =>
    cases r1 with
    | cons r2x r1 =>
      cases r1 with
      | cons r3x r1 =>
        cases r1
        cases r1x
        cases r2x
        cases r3x
        obtain ⟨its1, rv1, p1, z1⟩ := I1.sq1 f1
        have lt1 : a1 < s1.heap.objs.size := p1.lt
        obtain ⟨its2, rv2, p2, z2⟩ := I1.sq1 f2
        have lt2 : a2 < s1.heap.objs.size := p2.lt
        obtain ⟨its3, rv3, p3, z3⟩ := I1.sq1 f3
        have lt3 : a3 < s1.heap.objs.size := p3.lt
        have fresh : ∀ c, c ∈ [s1.heap.objs.size + 5, s1.heap.objs.size + 3, s1.heap.objs.size + 4, s1.heap.objs.size, s1.heap.objs.size + 1, s1.heap.objs.size + 2] → FpOk X pins H1 c := fun c hcm => by
          have hle : s1.heap.objs.size ≤ c := by
            have e' : c = s1.heap.objs.size + 5 ∨ c = s1.heap.objs.size + 3 ∨ c = s1.heap.objs.size + 4 ∨ c = s1.heap.objs.size ∨ c = s1.heap.objs.size + 1 ∨ c = s1.heap.objs.size + 2 := by simpa using hcm
            rcases e' with q | q | q | q | q | q
            · rw [q]; exact Nat.le_add_right _ _
            · rw [q]; exact Nat.le_add_right _ _
            · rw [q]; exact Nat.le_add_right _ _
            · rw [q]; exact Nat.le_refl _
            · rw [q]; exact Nat.le_add_right _ _
            · rw [q]; exact Nat.le_add_right _ _
          exact I1.fpOk hle (I1.hok.fresh hle)
        refine zip_begins3 (beginsS t1 a1 its1.toArray) (beginsS t2 a2 its2.toArray) (beginsS t3 a3 its3.toArray) p1 p2 p3 fun h' hz hTI hTO b1 b2 b3 hsz hk => wpAny_pyIter_zip hz ?_
        have I2 : Inv X pins σ H1 { s1 with heap := h' } := I1.kept (t' := s1.toks) hk
        exact ⟨s1.heap.objs.size + 5, [s1.heap.objs.size + 5, s1.heap.objs.size + 3, s1.heap.objs.size + 4, s1.heap.objs.size, s1.heap.objs.size + 1, s1.heap.objs.size + 2], _, _, H1, rfl, I2, turn_zipG3 (zip_sep3 (fp1 := [a1]) (fun b hb => by rw [List.mem_singleton.mp hb]; exact lt1) (fp2 := [a2]) (fun b hb => by rw [List.mem_singleton.mp hb]; exact lt2) (fp3 := [a3]) (fun b hb => by rw [List.mem_singleton.mp hb]; exact lt3)) (Nat.ne_of_lt (Nat.lt_of_lt_of_le lt1 (Nat.le_refl _))) (Nat.ne_of_lt (Nat.lt_of_lt_of_le lt2 (Nat.le_add_right _ _))) (Nat.ne_of_lt (Nat.lt_of_lt_of_le lt3 (Nat.le_add_right _ _))), ⟨hz, hTI, ⟨_, _, _, hTO⟩, itN_new b1, itN_new b2, itN_new b3, Nat.zero_le _, Nat.zero_le _, Nat.zero_le _⟩, fresh, q⟩
section
variable {X : Cx} {e1 e2 e3 : Expr} {wr : WA} {pos : Pos}
def zipD3 : List D → List D → List D → List D
  | x :: xs, y :: ys, z :: zs => .tuple [x, y, z] :: zipD3 xs ys zs
  | _, _, _ => []
theorem zipD3_get : ∀ {xs ys zs : List D} {i : Nat} {d : D}, (zipD3 xs ys zs)[i]? = some d → ∃ x y z, xs[i]? = some x ∧ ys[i]? = some y ∧ zs[i]? = some z ∧ d = .tuple [x, y, z]
  | x :: xs, y :: ys, z :: zs, 0, d, h => ⟨x, y, z, rfl, rfl, rfl, by simp [zipD3] at h; exact h.symm⟩
  | x :: xs, y :: ys, z :: zs, i + 1, d, h => by
    obtain ⟨x', y', z', h1, h2, h3, h4⟩ := zipD3_get (xs := xs) (ys := ys) (zs := zs) (i := i) (by simpa [zipD3] using h)
    exact ⟨x', y', z', by simpa using h1, by simpa using h2, by simpa using h3, h4⟩
  | [], _, _, _, _, h => by simp [zipD3] at h
  | _ :: _, [], _, _, _, h => by simp [zipD3] at h
  | _ :: _, _ :: _, [], _, _, h => by simp [zipD3] at h
theorem zipD3_length : ∀ (xs ys zs : List D), (zipD3 xs ys zs).length = min (min xs.length ys.length) zs.length
  | x :: xs, y :: ys, z :: zs => by
    have := zipD3_length xs ys zs
    simp only [zipD3, List.length_cons]
    omega
  | [], _, _ => by simp [zipD3]
  | _ :: _, [], _ => by simp [zipD3]
  | _ :: _, _ :: _, [] => by simp [zipD3]
def da3' (xs : List En) (k : D → D → D → Prop) : Prop := a3 xs fun x y z => daI x fun d => daI y fun e => daI z fun f => k d e f
def iZipA3 (wr : WA) : WI := fun s Ks => wr s fun s1 xs => da3' xs fun d e f => onO (seqD d) fun ds => onO (seqD e) fun es => onO (seqD f) fun fs => Ks s1 (zipD3 ds es fs)
theorem di_zipA3 {p tpos : Pos} {elts : List Expr} {kk : Nat} (hg : Gl X "zip") (hm : X.mg "zip" = none) (ha : DA X [e1, e2, e3] wr)
    (hs : starEach [e1, e2, e3] X.env = (false, eval e1 X.env) :: starEach [e2, e3] X.env := by rfl) (hpl : (backTo pos (starEach [e2, e3] X.env)).any (·.1) = false := by rfl) :
    DI X (.Tuple elts kk tpos) (.Call (.Name "zip" p) [e1, e2, e3] [] pos) (iZipA3 wr) := by
  obtain ⟨ta, pa, qa⟩ := ha.ex
  refine ⟨_, pi_zipG3 hg hm pa hs hpl, fun b A own H σ s Ks Q R h k => ?_⟩
  show ta σ H fun vs H => ∃ t1 a1 xs1 t2 a2 xs2 t3 a3 xs3, vs = [.ref a1, .ref a2, .ref a3] ∧ Sq1 X.K H t1 a1 xs1 ∧ Sq1 X.K H t2 a2 xs2 ∧ Sq1 X.K H t3 a3 xs3 ∧ Q (ItzG3 X.K t1 a1 xs1 t2 a2 xs2 t3 a3 xs3) H
  refine qa _ _ _ _ _ _ _ _ R h fun A1 o1 H1 vs s1 xs R1 U1 E1 h1 => ?_
  obtain ⟨v1, v2, v3, x, y, z, rfl, c1, c2, c3, h1⟩ := a3_inv E1 h1
  obtain ⟨d1, rfl, h3⟩ := daI_inv h1
  obtain ⟨d2, rfl, h4⟩ := daI_inv h3
  obtain ⟨d3, rfl, h2⟩ := daI_inv h4
  clear h3 h4
  clear h1
  obtain ⟨ds1, hd1, h2⟩ := onO_inv h2
  obtain ⟨t1, a1, us1, rfl, st1, r1⟩ := rp_seq (show Rp X.K A1 H1 v1 d1 from c1) hd1
  obtain ⟨ds2, hd2, h2⟩ := onO_inv h2
  obtain ⟨t2, a2, us2, rfl, st2, r2⟩ := rp_seq (show Rp X.K A1 H1 v2 d2 from c2) hd2
  obtain ⟨ds3, hd3, h2⟩ := onO_inv h2
  obtain ⟨t3, a3, us3, rfl, st3, r3⟩ := rp_seq (show Rp X.K A1 H1 v3 d3 from c3) hd3
  refine ⟨t1, a1, us1, t2, a2, us2, t3, a3, us3, rfl, st1.sq, st2.sq, st3.sq, k _ _ _ _ _ _ R1 U1 ?_ h2⟩
  intro A2 H2 kp i
  have m1 := st1.mono kp
  have g1 := RpL.mono kp r1
  have m2 := st2.mono kp
  have g2 := RpL.mono kp r2
  have m3 := st3.mono kp
  have g3 := RpL.mono kp r3
  refine ⟨fun hi => ⟨m1.sq, m2.sq, m3.sq, ?_⟩, fun d hd => ?_⟩
  · rw [zipD3_length] at hi
    rw [g1.length, g2.length, g3.length]
    omega
  · obtain ⟨x1, x2, x3, hx1, hx2, hx3, rfl⟩ := zipD3_get hd
    obtain ⟨y1, gy1, ry1⟩ := g1.get hx1
    obtain ⟨y2, gy2, ry2⟩ := g2.get hx2
    obtain ⟨y3, gy3, ry3⟩ := g3.get hx3
    refine ⟨⟨m1.sq, m2.sq, m3.sq, (List.getElem?_eq_some_iff.mp gy1).1, (List.getElem?_eq_some_iff.mp gy2).1, (List.getElem?_eq_some_iff.mp gy3).1⟩, fun w H3 hw own1 σ s R => ?_⟩
    obtain ⟨T, z1, z2, z3, rfl, hT, rfl, k1, k2, k3⟩ := hw
    rw [gy1] at k1
    cases k1
    rw [gy2] at k2
    cases k2
    rw [gy3] at k3
    cases k3
    exact wk_new hT (.cons ry1 (.cons ry2 (.cons ry3 .nil))) own1 σ s R
end
end DL
namespace DL
open PySem L2 PySem.Spec PyProof.Rows
section
variable {X : Cx} {a b c e : Expr} {wa wb wc we : WE} {pos : Pos}
/-! ### d[k] += x, d[k] -= x -/
def sAugD (wo wi wv : WE) (rd : S → En → En → (S → En → Prop) → Prop) : WS := fun s D => wo s fun s1 o => wi s1 fun s2 i => mu2 s2 o fun j kvs => daI i fun kd => onO (keyD kd) fun key => ∃ d, findD kvs key = some d ∧ wv s2 fun s3 y => rd s3 (.da d) y fun s4 z => mu2 s4 (.mu j) fun _ kvs' => daI z fun e => kvs'.length < sizeLine ∧ D.nx (s4.sM j (.dct (putD kvs' key e)))
theorem ds_augD {op : Operator} {r : R2} {rd} {tpos : Pos} (hu : X.A.units + 1 < cLine) (ho : DE X a wa) (hi : DE X b wb) (hv : DE X e we) (hop : OpR X (inplaceOp op) r) (hd : OpD X.K r rd)
    (ha : ∀ ov iv new, augStore b ov iv new = (do holding [new, ov, iv] (setItem ov iv new); release [new, ov, iv] []; pure .next) := by intros; rfl) :
    DS X (.AugAssign (.Subscript a b tpos) op e pos) (sAugD wa wb we rd) := by
  obtain ⟨ta, pa, qa⟩ := ho.ex
  obtain ⟨tb, pb, qb⟩ := hi.ex
  obtain ⟨te, pe, qe⟩ := hv.ex
  refine ⟨_, ps_daug (rd := r) hu pa pb pe (fun pins s σ H x y u v Q I rx ry h => hop pins s σ H x y u v Q I rx ry h) ha, fun b A own H σ s D E R h m => ?_⟩
  show ta σ H fun x H1 => tb σ H1 fun y H2 => ∃ a v, x = .ref a ∧ DGet H2 a y (some v) ∧ te σ H2 fun y2 H3 => r v y2 H3 fun z H4 => ∃ H5, DPut H4 a y z H5 ∧ E.nx σ H5
  refine qa _ _ _ _ _ _ _ _ R h fun A1 o1 H1 v1 s1 x1 R1 U1 E1 h1 => ?_
  refine qb _ _ _ _ _ _ _ _ R1 h1 fun A2 o2 H2 v2 s2 x2 R2 U2 E2 h2 => ?_
  obtain ⟨j, kvs, rfl, g, h2⟩ := mu2_inv h2
  obtain ⟨kd, rfl, h2⟩ := daI_inv h2
  obtain ⟨key, hk, d, hd', h2⟩ := onO_inv h2
  obtain ⟨p, vs, rfl, e2, e3, _, _⟩ := mud_at R2 (E1.up U2) g
  rw [keyD_rp E2 hk]
  rcases e3.find (k := key) with ⟨q1, q2⟩ | ⟨d', v', q1, q2, q3⟩
  · rw [q1] at hd'; cases hd'
  rw [q1] at hd'
  cases hd'
  refine ⟨p, v', rfl, by rw [← q2]; exact DGet.k e2, ?_⟩
  refine qe _ _ _ _ _ _ _ _ R2 h2 fun A3 o3 H3 v3 s3 x3 R3 U3 E3 h3 => ?_
  refine hd _ _ _ _ _ _ _ _ _ _ _ _ R3 (show ER X.K A3 o3 H3 v' (.da d) from Rp.mono U3.kp q3) E3 h3 fun A4 o4 H4 v4 s4 x4 R4 U4 E4 h4 => ?_
  obtain ⟨j', kvs', ej, g', h4⟩ := mu2_inv h4
  cases ej
  obtain ⟨d4, rfl, hl, h4⟩ := daI_inv h4
  obtain ⟨p', vs', ep, f2, f3, _, up⟩ := mud_at R4 (E1.up (U2.trans (U3.trans U4))) g'
  cases ep
  obtain ⟨R5, U5⟩ := up _ _ (f3.put (k := key) (show Rp X.K A4 H4 v4 d4 from E4))
  exact ⟨_, DPut.k f2 (by rw [f3.len]; exact hl), m.nx _ _ _ _ _ R5 ((((U1.trans U2).trans U3).trans U4).trans U5).kp h4⟩
def rdSubI : S → En → En → (S → En → Prop) → Prop := fun s x y Ks => iI x y fun i j => Ks s (.da (.int (i - j)))
def rdAddI : S → En → En → (S → En → Prop) → Prop := fun s x y Ks => iI x y fun i j => Ks s (.da (.int (i + j)))
theorem ds_augDSub {tpos : Pos} (hu : X.A.units + 1 < cLine) (ho : DE X a wa) (hi : DE X b wb) (hv : DE X e we)
    (ha : ∀ ov iv new, augStore b ov iv new = (do holding [new, ov, iv] (setItem ov iv new); release [new, ov, iv] []; pure .next) := by intros; rfl) : DS X (.AugAssign (.Subscript a b tpos) .Sub e pos) (sAugD wa wb we rdSubI) := ds_augD hu ho hi hv iop_sub opd_int0 ha
theorem ds_augDAdd {tpos : Pos} (hu : X.A.units + 1 < cLine) (ho : DE X a wa) (hi : DE X b wb) (hv : DE X e we)
    (ha : ∀ ov iv new, augStore b ov iv new = (do holding [new, ov, iv] (setItem ov iv new); release [new, ov, iv] []; pure .next) := by intros; rfl) : DS X (.AugAssign (.Subscript a b tpos) .Add e pos) (sAugD wa wb we rdAddI) := ds_augD hu ho hi hv iop_add opd_int0 ha
/-! ### dict(pairs) -/
def pairsD : List D → Option (List (Key × D))
  | [] => some []
  | .tuple [k, v] :: r => match keyD k, pairsD r with | some key, some kvs => some ((key, v) :: kvs) | _, _ => none
  | _ :: _ => none
def mergeD (kvs more : List (Key × D)) : List (Key × D) := more.foldl (fun acc kv => putD acc kv.1 kv.2) kvs
theorem rkv_merge {K : PySem.W.Frag} {A : Addr → Prop} {H : Hp} : ∀ {ws : List (Key × V)} {ds : List (Key × D)} {us : List (Key × V)} {es : List (Key × D)}, RKV K A H ws ds → RKV K A H us es → RKV K A H (mergeK us ws) (mergeD es ds)
  | [], [], _, _, _, h => h
  | (k, v) :: ws, (k', d) :: ds, _, _, ⟨e, r, t⟩, h => by
    have e : k = k' := e
    subst e
    show RKV K A H (mergeK (putK _ k v) ws) (mergeD (putD _ k d) ds)
    exact rkv_merge t (h.put r)
theorem pairs_rp {K : PySem.W.Frag} {A : Addr → Prop} {H : Hp} : ∀ {ds : List D} {kvs : List (Key × D)} {vs : List V}, RpL K A H vs ds → pairsD ds = some kvs → ∃ (ps : List Addr) (ws : List (Key × V)), vs = ps.map V.ref ∧ Paired (fun p kv => SqT K H p [kV kv.1, kv.2]) ps ws ∧ RKV K A H ws kvs
  | [], _, _, .nil, h => by cases h; exact ⟨[], [], rfl, .nil, trivial⟩
  | d :: ds, kvs, _, .cons (v := v) (vs := vs) r t, h => by
    unfold pairsD at h
    split at h
    · rename_i h0; cases h0
    · rename_i k x r' h0
      cases h0
      split at h
      · rename_i key kvs' hk hp
        cases h
        obtain ⟨ps, ws, rfl, q1, q2⟩ := pairs_rp t hp
        cases r with
        | tup l rr =>
          cases rr with
          | cons a1 rr =>
            cases rr with
            | cons a2 rr =>
              cases rr
              rename_i p y z
              have e := keyD_rp a1 hk
              subst e
              exact ⟨p :: ps, (key, z) :: ws, rfl, .cons l.sq q1, ⟨rfl, a2, q2⟩⟩
      · cases h
    · cases h
def cDictP : S → List En → (S → En → Prop) → Prop := fun s xs Ks => a1 xs fun x => onO (vw s x) fun d => match d with | .list ds => onO (pairsD ds) fun kvs => Ks (s.aM (.dct (mergeD [] kvs))) (.mu s.ms.length) | _ => False
def rDictP (K : PySem.W.Frag) : List V → Hp → VK → Prop := fun xs H Q => ∃ (a : Addr) (ps : List Addr) (kvs : List (Key × V)), xs = [.ref a] ∧ SqL K H a (ps.map V.ref) ∧ Paired (fun p kv => SqT K H p [kV kv.1, kv.2]) ps kvs ∧
    ∀ p, H p = none → Q (.ref p) (upd H p (.dK (mergeK [] kvs)))
theorem cd_dictP {K : PySem.W.Frag} : CallD K (rDictP K) cDictP := by
  intro b A own H σ s vs xs Ks Q R E h k
  obtain ⟨v, x, rfl, e1, h⟩ := a1_inv E h
  obtain ⟨d, hd, h⟩ := onO_inv h
  cases d with
  | list ds =>
    obtain ⟨kvs, hk, h⟩ := onO_inv h
    obtain ⟨a, us, rfl, q, r⟩ := vw_lst R e1 hd
    obtain ⟨ps, ws, rfl, q1, q2⟩ := pairs_rp r hk
    refine ⟨a, ps, ws, rfl, q, q1, fun p hp => ?_⟩
    have q3 : RKV K A H (mergeK [] ws) (mergeD [] kvs) := rkv_merge q2 trivial
    obtain ⟨R1, U1, g⟩ := R.newMu (o := .dK (mergeK [] ws)) hp (.dct (mergeD [] kvs)) fun A' own' u => ⟨p, _, rfl, upd_same, q3.up u.kp⟩
    exact k _ _ _ _ _ (.mu s.ms.length) R1 U1 ⟨p, [], g, rfl⟩ h
  | _ => exact h.elim
theorem de_dictP {p : Pos} (hc : X.calm = true) (hg : Gl X "dict") (hm : X.mg "dict" = none) (ha : DE X a wa) (he : starEach (a :: []) X.env = (false, eval a X.env) :: starEach [] X.env := by rfl) : DE X (.Call (.Name "dict" p) [a] [] pos) (dCall cDictP (aCons wa aNil)) :=
  de_callTy (call_dictP hc) cd_dictP hg hm (by decide +kernel) (da_cons ha da_nil he) (he := he)
/-! ### x in a dict that is data -/
def dDinD (neg : Bool) (wk wd : WE) : WE := fun s Ks => wk s fun s1 i => wd s1 fun s2 o => daI o fun d => ∃ kvs, d = dictD kvs ∧ daI i fun kd => onO (keyD kd) fun key => Ks s2 (.da (.bool (xr neg (findD kvs key).isSome)))
theorem rp_dictD {K : PySem.W.Frag} {A : Addr → Prop} {H : Hp} {v : V} {kvs : List (Key × D)} (r : Rp K A H v (dictD kvs)) : ∃ a o ws, v = .ref a ∧ H a = some (.frz o (.dK ws)) ∧ ¬ A a ∧ RKV K A H ws kvs := by
  obtain ⟨a, o, ws, kvs', e1, e2, l, n, q⟩ := rp_dict r
  have inj : ∀ {xs ys : List (Key × D)}, xs.map (fun z => (kD z.1, z.2)) = ys.map (fun z => (kD z.1, z.2)) → xs = ys := by
    intro xs
    induction xs with
    | nil => intro ys h; cases ys with
      | nil => rfl
      | cons _ _ => cases h
    | cons x xs ih => intro ys h; cases ys with
      | nil => cases h
      | cons y ys =>
        rw [List.map_cons, List.map_cons] at h
        injection h with h1 h2
        obtain ⟨k1, d1⟩ := x
        obtain ⟨k2, d2⟩ := y
        injection h1 with h3 h4
        have h4 : d1 = d2 := h4
        have h3 : kD k1 = kD k2 := h3
        have h5 : k1 = k2 := by cases k1 <;> cases k2 <;> simp only [kD] at h3 <;> cases h3 <;> rfl
        rw [ih h2, h4, h5]
  have := inj e2
  subst this
  exact ⟨a, o, ws, e1, l, n, q.rkv⟩
theorem dinD_at {K : PySem.W.Frag} {A : Addr → Prop} {H : Hp} {v u : V} {kvs : List (Key × D)} {kd : D} {key : Key} (r : Rp K A H v (dictD kvs)) (ru : Rp K A H u kd) (hk : keyD kd = some key) : ∃ a o, v = .ref a ∧ DGet H a u o ∧ o.isSome = (findD kvs key).isSome := by
  obtain ⟨a, o, ws, rfl, l, n, q⟩ := rp_dictD r
  refine ⟨a, _, rfl, .inl ⟨ws, key, .inr ⟨o, l⟩, keyD_rp ru hk, rfl⟩, ?_⟩
  rcases q.find (k := key) with ⟨q1, q2⟩ | ⟨d', v', q1, q2, q3⟩
  · rw [q1, q2]; rfl
  · rw [q1, q2]; rfl
section
variable {ta tb : TE} (qa : ∀ (b : Bd) (A : Addr → Prop) (own : List (List Addr)) (H : Hp) (σ : L2.St) (s : S) (Ks : S → En → Prop) (Q : VK), Rel X.K b A own H σ s → wa s Ks → PostE X.K b A own H σ Ks Q → ta σ H Q)
    (qb : ∀ (b : Bd) (A : Addr → Prop) (own : List (List Addr)) (H : Hp) (σ : L2.St) (s : S) (Ks : S → En → Prop) (Q : VK), Rel X.K b A own H σ s → wb s Ks → PostE X.K b A own H σ Ks Q → tb σ H Q)
include qa qb
theorem dinD_run (b : Bd) (A : Addr → Prop) (own : List (List Addr)) (H : Hp) (σ : L2.St) (s : S) (Ks : S → En → Prop) (Q : VK) (R : Rel X.K b A own H σ s) (h : dDinD false wb wa s Ks) (k : PostE X.K b A own H σ Ks Q) : tDIn tb ta σ H Q := by
  show tb σ H fun y H1 => ta σ H1 fun x H2 => ∃ a o, x = .ref a ∧ DGet H2 a y o ∧ Q (.bl o.isSome) H2
  refine qb _ _ _ _ _ _ _ _ R h fun A1 o1 H1 v1 s1 x1 R1 U1 E1 h1 => ?_
  refine qa _ _ _ _ _ _ _ _ R1 h1 fun A2 o2 H2 v2 s2 x2 R2 U2 E2 h2 => ?_
  obtain ⟨d, rfl, kvs, rfl, h3⟩ := daI_inv h2
  clear h2
  obtain ⟨kd, rfl, h4⟩ := daI_inv h3
  obtain ⟨key, hk, h2⟩ := onO_inv h4
  obtain ⟨a, o, e1, e2, e3⟩ := dinD_at E2 (E1.up U2) hk
  exact ⟨a, o, e1, e2, by rw [e3]; exact (k.up (U1.trans U2)).da R2 Up.refl (.bl _) h2⟩
theorem dnotinD_run (b : Bd) (A : Addr → Prop) (own : List (List Addr)) (H : Hp) (σ : L2.St) (s : S) (Ks : S → En → Prop) (Q : VK) (R : Rel X.K b A own H σ s) (h : dDinD true wb wa s Ks) (k : PostE X.K b A own H σ Ks Q) : tDNotIn tb ta σ H Q := by
  show tb σ H fun y H1 => ta σ H1 fun x H2 => ∃ a o, x = .ref a ∧ DGet H2 a y o ∧ Q (.bl (!o.isSome)) H2
  refine qb _ _ _ _ _ _ _ _ R h fun A1 o1 H1 v1 s1 x1 R1 U1 E1 h1 => ?_
  refine qa _ _ _ _ _ _ _ _ R1 h1 fun A2 o2 H2 v2 s2 x2 R2 U2 E2 h2 => ?_
  obtain ⟨d, rfl, kvs, rfl, h3⟩ := daI_inv h2
  clear h2
  obtain ⟨kd, rfl, h4⟩ := daI_inv h3
  obtain ⟨key, hk, h2⟩ := onO_inv h4
  obtain ⟨a, o, e1, e2, e3⟩ := dinD_at E2 (E1.up U2) hk
  exact ⟨a, o, e1, e2, by rw [e3]; exact (k.up (U1.trans U2)).da R2 Up.refl (.bl _) h2⟩
end
theorem de_dinD (hu : X.A.units + 1 < cLine) (hi : DE X b wb) (ho : DE X a wa) (hm : behindInMarks .In a = false := by rfl) : DE X (.Compare b [.In] [a] pos) (dDinD false wb wa) := by
  obtain ⟨ta, pa, qa⟩ := ho.ex
  obtain ⟨tb, pb, qb⟩ := hi.ex
  exact ⟨_, pe_cmp (pc_din hu pb pa) hm, fun b A own H σ s Ks Q R h k => dinD_run qa qb b A own H σ s Ks Q R h k⟩
theorem de_dnotinD (hu : X.A.units + 1 < cLine) (hi : DE X b wb) (ho : DE X a wa) (hm : behindInMarks .NotIn a = false := by rfl) : DE X (.Compare b [.NotIn] [a] pos) (dDinD true wb wa) := by
  obtain ⟨ta, pa, qa⟩ := ho.ex
  obtain ⟨tb, pb, qb⟩ := hi.ex
  exact ⟨_, pe_cmp (pc_dnotin hu pb pa) hm, fun b A own H σ s Ks Q R h k => dnotinD_run qa qb b A own H σ s Ks Q R h k⟩
theorem dt_dinD (hu : X.A.units + 1 < cLine) (hi : DE X b wb) (ho : DE X a wa) (hm : behindInMarks .In a = false := by rfl) : DT X (.Compare b [.In] [a] pos) (tT (dDinD false wb wa)) := by
  obtain ⟨ta, pa, qa⟩ := ho.ex
  obtain ⟨tb, pb, qb⟩ := hi.ex
  exact ⟨_, pt_cmp (pc_din hu pb pa) hm, tT_run fun b A own H σ s Ks Q R h k => dinD_run qa qb b A own H σ s Ks Q R h k⟩
theorem dt_dnotinD (hu : X.A.units + 1 < cLine) (hi : DE X b wb) (ho : DE X a wa) (hm : behindInMarks .NotIn a = false := by rfl) : DT X (.Compare b [.NotIn] [a] pos) (tT (dDinD true wb wa)) := by
  obtain ⟨ta, pa, qa⟩ := ho.ex
  obtain ⟨tb, pb, qb⟩ := hi.ex
  exact ⟨_, pt_cmp (pc_dnotin hu pb pa) hm, tT_run fun b A own H σ s Ks Q R h k => dnotinD_run qa qb b A own H σ s Ks Q R h k⟩
end
end DL
namespace DL
open PySem L2 PySem.Spec PyProof.Rows
/-! ### an expression that only reads a dict: it is data there -/
mutual
def nD : D → Bool
  | .none => true
  | .bool _ => true
  | .int _ => true
  | .str _ => true
  | .list ds => nDs ds
  | .tuple ds => nDs ds
  | .dict _ => false
def nDs : List D → Bool
  | [] => true
  | d :: ds => nD d && nDs ds
end
theorem nDs_of : ∀ {ds : List D}, (∀ d ∈ ds, nD d = true) → nDs ds = true
  | [], _ => rfl
  | d :: ds, h => by
    rw [nDs, h d (by simp), nDs_of fun x hx => h x (by simp [hx])]
    rfl
def nM : MO → Bool
  | .gone => true
  | .lst ds => nDs ds
  | .dct kvs => nDs (kvs.map (·.2))
  | .rnd _ => true
  | .box _ => true
  | .tab _ => false
  | .ins _ _ => false
section
variable {K : PySem.W.Frag} {A A' : Addr → Prop} {own own' : List (List Addr)} {H H' : Hp} {b : Bd} {σ : L2.St} {s : S}
mutual
theorem Rp.monoN (h : ∀ a u, ¬ A a → H a = some u → (∀ o w, u ≠ .frz o w) → H' a = some u ∧ ¬ A' a) : ∀ {v : V} {d : D}, Rp K A H v d → nD d = true → Rp K A' H' v d
  | _, _, .non, _ => .non
  | _, _, .bl b, _ => .bl b
  | _, _, .int i, _ => .int i
  | _, _, .str x, _ => .str x
  | _, _, .lst l r, n => .lst (h _ _ l.2 l.1 fun _ _ z => nomatch z) (RpL.monoN h r (by simpa only [nD] using n))
  | _, _, .tup l r, n => .tup (l.elim (fun q => .inl (h _ _ q.2 q.1 fun _ _ z => nomatch z)) .inr) (RpL.monoN h r (by simpa only [nD] using n))
  | _, _, .dct _ _ _, n => by simp [nD] at n
theorem RpL.monoN (h : ∀ a u, ¬ A a → H a = some u → (∀ o w, u ≠ .frz o w) → H' a = some u ∧ ¬ A' a) : ∀ {v : List V} {d : List D}, RpL K A H v d → nDs d = true → RpL K A' H' v d
  | _, _, .nil, _ => .nil
  | _, _, .cons a b, n => by
    rw [nDs, Bool.and_eq_true] at n
    exact .cons (Rp.monoN h a n.1) (RpL.monoN h b n.2)
end
theorem RKV.monoN (h : ∀ a u, ¬ A a → H a = some u → (∀ o w, u ≠ .frz o w) → H' a = some u ∧ ¬ A' a) : ∀ {ws : List (Key × V)} {kvs : List (Key × D)}, RKV K A H ws kvs → nDs (kvs.map (·.2)) = true → RKV K A' H' ws kvs
  | [], [], _, _ => trivial
  | _ :: _, _ :: _, ⟨e, r, t⟩, n => by
    rw [List.map_cons, nDs, Bool.and_eq_true] at n
    exact ⟨e, Rp.monoN h r n.1, RKV.monoN h t n.2⟩
def ss : List (List Addr) → Nat → List Addr → List (List Addr)
  | [], _, _ => []
  | _ :: r, 0, y => y :: r
  | x :: r, i + 1, y => x :: ss r i y
theorem ss_length : ∀ (l : List (List Addr)) (i : Nat) (y : List Addr), (ss l i y).length = l.length
  | [], _, _ => rfl
  | _ :: _, 0, _ => rfl
  | _ :: r, i + 1, y => congrArg (· + 1) (ss_length r i y)
theorem go_ss : ∀ (l : List (List Addr)) (i j : Nat) (y : List Addr), go (ss l i y) j = if i = j ∧ i < l.length then y else go l j
  | [], i, j, y => by simp [ss, go]
  | x :: r, 0, 0, y => by simp [ss, go]
  | x :: r, 0, j + 1, y => by simp [ss, go]
  | x :: r, i + 1, 0, y => by simp [ss, go]
  | x :: r, i + 1, j + 1, y => by
    show go (ss r i y) j = _
    rw [go_ss r i j y]
    simp [go]
theorem take_ss : ∀ (l : List (List Addr)) (i n : Nat) (y : List Addr), n ≤ i → (ss l i y).take n = l.take n
  | [], _, _, _, _ => rfl
  | x :: r, i, 0, _, _ => by simp
  | x :: r, 0, n + 1, _, h => by omega
  | x :: r, i + 1, n + 1, y, h => by
    show x :: (ss r i y).take n = x :: r.take n
    rw [take_ss r i n y (by omega)]
theorem nM_sub {k : Nat} {d : D} : ∀ {m : MO}, nM m = true → subM k d m = m
  | .gone, _ => rfl
  | .lst _, _ => rfl
  | .dct _, _ => rfl
  | .rnd _, _ => rfl
  | .box _, _ => rfl
  | .tab _, h => by cases h
  | .ins _ _, h => by cases h
end
section
variable {X : Cx} {e : Expr} {we : WE}
def dLk (i : Nat) (we : WE) : WE := fun s Ks => match gt s.es i with
  | .mu k => (match gm s.ms k with
    | .dct kvs => s.np ≤ k ∧ (∀ j, nM (gm s.ms j) = true) ∧ we (frzDS k kvs s) fun s1 x => daI x fun d => nD d = true ∧ s1.ms = (frzDS k kvs s).ms ∧ Ks s (.da d)
    | _ => False)
  | _ => False
theorem de_lkD (i : Nat) (he : DE X e we) : DE X e (dLk i we) := by
  obtain ⟨te, pe, qe⟩ := he.ex
  refine ⟨_, pe_lock pe, fun b A own H σ s Ks Q R h kk => ?_⟩
  unfold dLk at h
  split at h
  · rename_i k hgi
    split at h
    · rename_i kvs g
      obtain ⟨hnp, hno, h⟩ := h
      obtain ⟨p, ws, e2, e1, e3, f2⟩ := R.frzD g hnp
      have pA : A p := R.oa k p (by rw [e1]; simp)
      have hk : k < s.ms.length := gm_lt (by rw [g]; intro z; cases z)
      have hp0 : b.H0 p = none := by
        rcases R.fo k p (by rw [e1]; simp) with ⟨j, q⟩ | q
        · rw [← R.pre, go_take] at q
          split at q
          · have := R.dj k j p (by rw [e1]; simp) q
            omega
          · cases q
        · exact q
      refine ⟨p, .dK ws, e2, trivial, fun od => ?_⟩
      obtain ⟨R0, k0⟩ := f2 od
      refine qe _ _ _ _ _ _ _ _ R0 h fun A1 own1 H1 v1 s1 x1 R1 U1 E1 h1 => ?_
      obtain ⟨d, rfl, nd, hms, h1⟩ := daI_inv h1
      obtain ⟨hp1, hpA⟩ := U1.kp p (.frz od (.dK ws)) (fun z => z.2 (by rw [e1]; simp)) upd_same
      refine ⟨hp1, ?_⟩
      -- the dict again
      have ne : ∀ a, a ≠ p → upd H1 p (.dK ws) a = H1 a := fun a n => upd_ne n
      have kpN : ∀ a u, ¬ A1 a → H1 a = some u → (∀ o w, u ≠ .frz o w) → upd H1 p (.dK ws) a = some u ∧ ¬ (A1 a ∨ a = p) := fun a u n q hf => by
        have na : a ≠ p := fun z => by
          rw [z, hp1] at q
          cases q
          exact hf _ _ rfl
        exact ⟨(ne a na).trans q, fun z => z.elim n na⟩
      have kpA : Kp A H (fun a => A1 a ∨ a = p) (upd H1 p (.dK ws)) := fun a u n q => by
        have na : a ≠ p := fun z => n (by rw [z]; exact pA)
        obtain ⟨q1, q2⟩ := (k0.trans U1.kp) a u n q
        exact ⟨(ne a na).trans q1, fun z => z.elim q2 na⟩
      have hl1 : own1.length = s.ms.length := by
        rw [R1.ol, hms]
        show (sm (subS k (dictD kvs) s.ms) k .gone).length = _
        rw [sm_length, subS_length]
      have g2 : ∀ j, go (ss own1 k [p]) j = if k = j then [p] else go own1 j := fun j => by
        rw [go_ss]
        by_cases e : k = j
        · rw [if_pos ⟨e, by rw [hl1]; exact hk⟩, if_pos e]
        · rw [if_neg (fun z => e z.1), if_neg e]
      have ow2 : ∀ j a r, go own j = a :: r → go (ss own1 k [p]) j = a :: r := fun j a r q => by
        rw [g2]
        by_cases e : k = j
        · rw [if_pos e, ← e1, e]; exact q
        · rw [if_neg e]
          exact U1.ow j a r (by rw [go_so, if_neg e]; exact q)
      have U2 : Up A own H (fun a => A1 a ∨ a = p) (ss own1 k [p]) (upd H1 p (.dK ws)) := ⟨kpA, ow2⟩
      have np1 : s1.np = s.np := R1.np.symm.trans R.np
      have R2 : Rel X.K b (fun a => A1 a ∨ a = p) (ss own1 k [p]) (upd H1 p (.dK ws)) σ s := by
        refine ⟨⟨?_, fun j => ?_, fun i j a q1 q2 => ?_, fun j => ?_, fun j a q => ?_, fun a q z => ?_⟩, R.len, fun i => ?_, fun a q => .inl (R1.ge a q), fun a o hn h0 => ?_, fun j a q => ?_, ?_, ?_, fun a q => ?_, R.a0⟩
        · rw [ss_length]; exact hl1
        · rw [g2]
          by_cases e : k = j
          · subst e
            rw [if_pos rfl, g]
            exact ⟨p, ws, rfl, upd_same, e3.up kpA⟩
          · rw [if_neg e]
            have mj := R1.mr j
            have hj : gm s1.ms j = gm s.ms j := by
              rw [hms]
              show gm (sm (subS k (dictD kvs) s.ms) k .gone) j = _
              rw [gm_sm, if_neg (fun z => e z.1), gm_subS, nM_sub (hno j)]
            rw [hj] at mj
            have nn := hno j
            have nj : ∀ a, a ∈ go own1 j → a ≠ p := fun a q z => hpA (by rw [← z]; exact R1.oa j a q)
            cases q : gm s.ms j with
            | gone => trivial
            | lst ds => rw [q] at mj nn; obtain ⟨a, vs, h1, h2, h3⟩ := mj; exact ⟨a, vs, h1, (ne a (nj a (by rw [h1]; simp))).trans h2, RpL.monoN kpN h3 nn⟩
            | dct ds => rw [q] at mj nn; obtain ⟨a, vs, h1, h2, h3⟩ := mj; exact ⟨a, vs, h1, (ne a (nj a (by rw [h1]; simp))).trans h2, RKV.monoN kpN h3 nn⟩
            | rnd n => rw [q] at mj; obtain ⟨a, c, cs, t, h1, h2, h3, h4⟩ := mj; exact ⟨a, c, cs, t, h1, (ne a (nj a (by rw [h1]; simp))).trans h2, (ne c (nj c (by rw [h1]; simp))).trans h3, h4⟩
            | box n => rw [q] at mj; obtain ⟨a, x, y, z, h1, h2, h4⟩ := mj; exact ⟨a, x, y, z, h1, (ne a (nj a (by rw [h1]; simp))).trans h2, h4⟩
            | ins C fs => rw [q] at nn; cases nn
            | tab _ => rw [q] at nn; cases nn
        · rw [g2] at q1 q2
          by_cases ei : k = i
          · by_cases ej : k = j
            · rw [← ei, ← ej]
            · rw [if_pos ei] at q1
              rw [if_neg ej] at q2
              rw [List.mem_singleton.mp q1] at q2
              exact absurd (R1.oa j p q2) hpA
          · rw [if_neg ei] at q1
            by_cases ej : k = j
            · rw [if_pos ej] at q2
              rw [List.mem_singleton.mp q2] at q1
              exact absurd (R1.oa i p q1) hpA
            · rw [if_neg ej] at q2
              exact R1.dj i j a q1 q2
        · rw [g2]
          split
          · exact nd1
          · exact R1.ld j
        · rw [g2] at q
          split at q
          · exact .inr (List.mem_singleton.mp q)
          · exact .inl (R1.oa j a q)
        · by_cases ea : a = p
          · rw [ea, upd_same] at z; cases z
          · rw [ne a ea] at z
            exact q.elim (fun q => R1.al a q z) ea
        · rcases R.sl i with z | ⟨v, q1, q2⟩
          · exact .inl z
          · exact .inr ⟨v, q1, q2.up U2⟩
        · have na : a ≠ p := fun z => by rw [z, hp0] at h0; cases h0
          rw [ne a na]
          exact R1.fr a o hn h0
        · rw [g2] at q
          split at q
          · rw [List.mem_singleton.mp q]; exact .inr hp0
          · exact R1.fo j a q
        · rw [take_ss _ _ _ _ hnp, ← np1]; exact R1.pre
        · rw [ss_length, ← np1]; exact R1.npl
        · rcases q with q | q
          · exact R1.lim a q
          · rw [q]; exact .inr hp0
      exact kk _ _ _ _ _ (.da d) R2 U2 (Rp.monoN kpN (show Rp X.K A1 H1 v1 d from E1) nd) h1
    · exact h.elim
  · exact h.elim
end
end DL
namespace DL
open PySem L2 PySem.Spec PyProof.Rows
/-! ### states of many slots, by simp -/
theorem limE_mu (m k : Nat) : limE m (.mu k) = if k < m then .mu k else .no := by
  show (bif Nat.blt k m then En.mu k else .no) = _
  by_cases h : k < m
  · have : Nat.blt k m = true := Nat.ble_eq_true_of_le h
    rw [if_pos h, this]; rfl
  · have : Nat.blt k m = false := by
      cases q : Nat.blt k m with
      | false => rfl
      | true => exact absurd (Nat.le_of_ble_eq_true q) h
    rw [if_neg h, this]; rfl
theorem limE_da (m : Nat) (d : D) : limE m (.da d) = .da d := rfl
theorem limE_no (m : Nat) : limE m .no = .no := rfl
theorem subE_mu (k j : Nat) (d : D) : subE k d (.mu j) = if j = k then .da d else .mu j := by
  show (bif Nat.beq j k then En.da d else .mu j) = _
  by_cases h : j = k
  · have : Nat.beq j k = true := by simpa using h
    rw [if_pos h, this]; rfl
  · have : Nat.beq j k = false := by
      cases q : Nat.beq j k with
      | false => rfl
      | true => exact absurd (by simpa using q) h
    rw [if_neg h, this]; rfl
theorem subE_da (k : Nat) (d e : D) : subE k d (.da e) = .da e := rfl
theorem subE_no (k : Nat) (d : D) : subE k d .no = .no := rfl
/-! ### for x in reversed(a list or a tuple) -/
section
variable {X : Cx} {e : Expr} {we : WE} {tg : Expr}
def iRev (we : WE) : WI := fun s Ks => we s fun s1 x => daI x fun d => onO (seqD d) fun ds => Ks s1 ds.reverse
theorem rev_get {ds : List D} {i : Nat} {d : D} (h : ds.reverse[i]? = some d) : i < ds.length ∧ ds[ds.length - 1 - i]? = some d := by
  have hi := (List.getElem?_eq_some_iff.mp h).1
  rw [List.length_reverse] at hi
  rw [List.getElem?_reverse hi] at h
  exact ⟨hi, h⟩
theorem wk_rev {K : PySem.W.Frag} {b : Bd} {a : Addr} {vs : List V} {ds : List D} {A : Addr → Prop} {H : Hp} (l : LsR A H a vs) (r : RpL K A H vs ds) : Wk K b (Itv K a vs.length) ds.reverse A H := by
  intro A1 H1 kp i
  have l1 : LsR A1 H1 a vs := kp _ _ l.2 l.1
  have r1 : RpL K A1 H1 vs ds := RpL.mono kp r
  have hl := r1.length
  refine ⟨fun hi => (by rw [List.length_reverse] at hi; show vs.length ≤ i; omega), fun d hd => ?_⟩
  obtain ⟨hi, hd⟩ := rev_get hd
  obtain ⟨x, hx, rx⟩ := r1.get hd
  have hx : vs[vs.length - 1 - i]? = some x := by rw [hl]; exact hx
  refine ⟨⟨by omega, vs, x, l1.sq, hx⟩, fun y H2 hy own1 σ s R => ?_⟩
  obtain ⟨rfl, hy⟩ := hy
  have := hy vs l1.sq
  rw [hx] at this
  cases this
  exact ⟨R, Up.refl, rx⟩
theorem wk_revT {K : PySem.W.Frag} {b : Bd} {a : Addr} {vs : List V} {ds : List D} {A : Addr → Prop} {H : Hp} (l : TuR K A H a vs) (r : RpL K A H vs ds) : Wk K b (RT.ItvT K a vs.length) ds.reverse A H := by
  intro A1 H1 kp i
  have l1 : TuR K A1 H1 a vs := l.elim (fun q => .inl (kp _ _ q.2 q.1)) .inr
  have r1 : RpL K A1 H1 vs ds := RpL.mono kp r
  have hl := r1.length
  refine ⟨fun hi => (by rw [List.length_reverse] at hi; show vs.length ≤ i; omega), fun d hd => ?_⟩
  obtain ⟨hi, hd⟩ := rev_get hd
  obtain ⟨x, hx, rx⟩ := r1.get hd
  have hx : vs[vs.length - 1 - i]? = some x := by rw [hl]; exact hx
  refine ⟨⟨by omega, vs, x, l1.sq, hx⟩, fun y H2 hy own1 σ s R => ?_⟩
  obtain ⟨rfl, hy⟩ := hy
  have := hy vs l1.sq
  rw [hx] at this
  cases this
  exact ⟨R, Up.refl, rx⟩
theorem di_rev {p pos : Pos} (hg : Gl X "reversed") (hm : X.mg "reversed" = none) (he : DE X e we) (hs : starEach [e] X.env = (false, eval e X.env) :: starEach [] X.env := by rfl) : DI X tg (.Call (.Name "reversed" p) [e] [] pos) (iRev we) := by
  obtain ⟨te, pe, qe⟩ := he.ex
  refine ⟨_, RT.pi_revA hg hm pe hs, fun b A own H σ s Ks Q R h k => ?_⟩
  show te σ H fun v H1 => ∃ (a : Addr) (xs : List V), v = .ref a ∧ ((SqL X.K H1 a xs ∧ Q (Itv X.K a xs.length) H1) ∨ (SqT X.K H1 a xs ∧ Q (RT.ItvT X.K a xs.length) H1))
  refine qe _ _ _ _ _ _ _ _ R h fun A1 o1 H1 v1 s1 x1 R1 U1 E1 h1 => ?_
  obtain ⟨d, rfl, h2⟩ := daI_inv h1
  obtain ⟨ds, hds, h3⟩ := onO_inv h2
  cases (show Rp X.K A1 H1 v1 d from E1) with
  | lst l r => cases hds; exact ⟨_, _, rfl, .inl ⟨l.sq, k _ _ _ _ _ _ R1 U1 (wk_rev l r) h3⟩⟩
  | tup l r => cases hds; exact ⟨_, _, rfl, .inr ⟨l.sq, k _ _ _ _ _ _ R1 U1 (wk_revT l r) h3⟩⟩
  | non => cases hds
  | bl _ => cases hds
  | int _ => cases hds
  | str _ => cases hds
  | dct _ _ _ => cases hds
end
end DL
namespace DL
open PySem L2 PySem.Spec PyProof.Rows
/-! ### text.join(a list of texts) -/
section
variable {X : Cx} {o e : Expr} {wo we : WE}
theorem rpl_strs {K : PySem.W.Frag} {A : Addr → Prop} {H : Hp} : ∀ {ys : List Str} {vs : List V}, RpL K A H vs (ys.map .str) → vs = ys.map V.str
  | [], [], _ => rfl
  | y :: ys, v :: vs, .cons r t => by
    cases (show Rp K A H v (.str y) from r)
    rw [rpl_strs t]
    rfl
def dJoin (wo we : WE) : WE := fun s Ks => wo s fun s1 x => daI x fun d => match d with
  | .str a => we s1 fun s2 y => ∃ ys : List Str, vw s2 y = some (.list (ys.map .str)) ∧ (ys.map (·.length)).sum + ys.length * a.length ≤ 16777216 ∧ Ks s2 (.da (.str (Txt.join a ys)))
  | _ => False
theorem de_join {apos pos : Pos} (ho : DE X o wo) (he : DE X e we) (hs : starEach [e] X.env = [(false, eval e X.env)] := by rfl) (hbase : attributeBase o "join" X.env (eval o X.env) = eval o X.env := by rfl) (hline : (apos.endLine == pos.line) = true := by rfl) :
    DE X (.Call (.Attribute o "join" apos) [e] [] pos) (dJoin wo we) := by
  obtain ⟨to, po, qo⟩ := ho.ex
  obtain ⟨te, pe, qe⟩ := he.ex
  refine ⟨_, pe_join po pe hs hbase hline, fun b A own H σ s Ks Q R h k => ?_⟩
  refine qo _ _ _ _ _ _ _ _ R h fun A1 o1 H1 v1 s1 x1 R1 U1 E1 h1 => ?_
  obtain ⟨d, rfl, h2⟩ := daI_inv h1
  clear h1
  split at h2
  · rename_i a
    cases (show Rp X.K A1 H1 v1 (.str a) from E1)
    refine ⟨⟨a, rfl⟩, ?_⟩
    refine qe _ _ _ _ _ _ _ _ R1 h2 fun A2 o2 H2 v2 s2 x2 R2 U2 E2 h3 => ?_
    obtain ⟨ys, hy, hz, h4⟩ := h3
    obtain ⟨p, vs, rfl, hs, r⟩ := vw_lst R2 E2 hy
    rw [rpl_strs r] at hs
    exact ⟨a, p, ys, rfl, rfl, .inl hs, hz, k.da R2 (U1.trans U2) (.str _) h4⟩
  · exact h2.elim
/-! ### list * int -/
variable {a b : Expr} {wa wb : WE} {pos : Pos}
theorem RpL.rep {K : PySem.W.Frag} {A : Addr → Prop} {H : Hp} {vs : List V} {ds : List D} (r : RpL K A H vs ds) : ∀ n : Nat, RpL K A H (List.replicate n vs).flatten (List.replicate n ds).flatten
  | 0 => .nil
  | n + 1 => by
    rw [List.replicate_succ, List.replicate_succ, List.flatten_cons, List.flatten_cons]
    exact r.append (RpL.rep r n)
def dRepL : WE → WE → WE := d2 fun s x y Ks => onO (vw s x) fun d => i1 y fun k => match d with
  | .list ds => -(2 ^ 63) ≤ k ∧ k < 2 ^ 63 ∧ ds.length * k.toNat ≤ sizeLine ∧ Ks s (.da (.list (List.replicate k.toNat ds).flatten))
  | _ => False
theorem opd_repL {K : PySem.W.Frag} : OpD K rRep (fun s x y Ks => onO (vw s x) fun d => i1 y fun k => match d with
  | .list ds => -(2 ^ 63) ≤ k ∧ k < 2 ^ 63 ∧ ds.length * k.toNat ≤ sizeLine ∧ Ks s (.da (.list (List.replicate k.toNat ds).flatten))
  | _ => False) := by
  intro b A own H σ s vx vy x y Ks Q R ex ey h k
  obtain ⟨d, hd, h⟩ := onO_inv h
  obtain ⟨i, rfl, h⟩ := i1_inv h
  cases ey
  split at h
  · obtain ⟨p, vs, rfl, q, r⟩ := vw_lstH R ex hd
    exact ⟨p, i, vs, rfl, rfl, q, h.1, h.2.1, by rw [r.length]; exact h.2.2.1, fun z hz => new_lst R k (r.rep _) hz h.2.2.2⟩
  · exact h.elim
theorem de_replist (ha : DE X a wa) (hb : DE X b wb) : DE X (.BinOp a .Mult b pos) (dRepL wa wb) := de_op op_rep opd_repL ha hb
end
end DL
namespace DL
open PySem L2 PySem.Spec PyProof.Rows
/-! ### an expression that only reads a list: it is data there, and changes again behind -/
mutual
def nL : D → Bool
  | .none => true
  | .bool _ => true
  | .int _ => true
  | .str _ => true
  | .list _ => false
  | .tuple ds => nLs ds
  | .dict _ => false
def nLs : List D → Bool
  | [] => true
  | d :: ds => nL d && nLs ds
end
theorem nLs_of : ∀ {ds : List D}, (∀ d ∈ ds, nL d = true) → nLs ds = true
  | [], _ => rfl
  | d :: ds, h => by
    rw [nLs, h d (by simp), nLs_of fun x hx => h x (by simp [hx])]
    rfl
def nLM : MO → Bool
  | .gone => true
  | .lst ds => nLs ds
  | .dct kvs => nLs (kvs.map (·.2))
  | .rnd _ => true
  | .box _ => true
  | .tab _ => false
  | .ins _ _ => false
section
variable {K : PySem.W.Frag} {A A' : Addr → Prop} {own own' : List (List Addr)} {H H' : Hp} {b : Bd} {σ : L2.St} {s : S}
mutual
theorem Rp.monoL (h : ∀ a u, ¬ A a → H a = some u → (∀ w, u ≠ .lst w) → H' a = some u ∧ ¬ A' a) : ∀ {v : V} {d : D}, Rp K A H v d → nL d = true → Rp K A' H' v d
  | _, _, .non, _ => .non
  | _, _, .bl b, _ => .bl b
  | _, _, .int i, _ => .int i
  | _, _, .str x, _ => .str x
  | _, _, .lst _ _, n => by simp [nL] at n
  | _, _, .tup l r, n => .tup (l.elim (fun q => .inl (h _ _ q.2 q.1 fun _ z => nomatch z)) .inr) (RpL.monoL h r (by simpa only [nL] using n))
  | _, _, .dct _ _ _, n => by simp [nL] at n
theorem RpL.monoL (h : ∀ a u, ¬ A a → H a = some u → (∀ w, u ≠ .lst w) → H' a = some u ∧ ¬ A' a) : ∀ {v : List V} {d : List D}, RpL K A H v d → nLs d = true → RpL K A' H' v d
  | _, _, .nil, _ => .nil
  | _, _, .cons a b, n => by
    rw [nLs, Bool.and_eq_true] at n
    exact .cons (Rp.monoL h a n.1) (RpL.monoL h b n.2)
end
theorem RKV.monoL (h : ∀ a u, ¬ A a → H a = some u → (∀ w, u ≠ .lst w) → H' a = some u ∧ ¬ A' a) : ∀ {ws : List (Key × V)} {kvs : List (Key × D)}, RKV K A H ws kvs → nLs (kvs.map (·.2)) = true → RKV K A' H' ws kvs
  | [], [], _, _ => trivial
  | _ :: _, _ :: _, ⟨e, r, t⟩, n => by
    rw [List.map_cons, nLs, Bool.and_eq_true] at n
    exact ⟨e, Rp.monoL h r n.1, RKV.monoL h t n.2⟩
theorem nLM_sub {k : Nat} {d : D} : ∀ {m : MO}, nLM m = true → subM k d m = m
  | .gone, _ => rfl
  | .lst _, _ => rfl
  | .dct _, _ => rfl
  | .rnd _, _ => rfl
  | .box _, _ => rfl
  | .tab _, h => by cases h
  | .ins _ _, h => by cases h
theorem frz_gm {k : Nat} {ds : List D} (hno : ∀ j, nLM (gm s.ms j) = true) (hk : k < s.ms.length) (j : Nat) : gm (frzS k ds s).ms j = if k = j then .gone else gm s.ms j := by
  show gm (sm (subS k (.list ds) s.ms) k .gone) j = _
  rw [gm_sm]
  by_cases e : k = j
  · rw [if_pos e, if_pos ⟨e, by rw [subS_length]; exact hk⟩]
  · rw [if_neg e, if_neg (fun z => e z.1), gm_subS, nLM_sub (hno j)]
theorem frz_len {k : Nat} {ds : List D} : (frzS k ds s).ms.length = s.ms.length := by
  show (sm (subS k (.list ds) s.ms) k .gone).length = _
  rw [sm_length, subS_length]
/-- the list changes again -/
theorem Rel.thaw {A1 : Addr → Prop} {own1 : List (List Addr)} {H1 : Hp} {s1 : S} {k : Nat} {ds : List D} {new : List MO} (R : Rel K b A own H σ s) (g : gm s.ms k = .lst ds) (hnp : s.np ≤ k) (hno : ∀ j, nLM (gm s.ms j) = true)
    (R1 : Rel K b A1 own1 H1 σ s1) (U1 : Up (fun a => A a ∧ a ∉ go own k) (so own k) H A1 own1 H1) (hms : s1.ms = (frzS k ds s).ms ++ new) (hnew : ∀ j, nLM (gm new j) = true) :
    ∃ A2 own2, Rel K b A2 own2 H1 σ ⟨s.es, s.ms ++ new, s.np⟩ ∧ Up A own H A2 own2 H1 ∧ ∀ j, k ≠ j → go own2 j = go own1 j := by
  have hk : k < s.ms.length := gm_lt (by rw [g]; intro z; cases z)
  have m0 := R.mr k
  rw [g] at m0
  obtain ⟨p, vs, e1, e2, e3⟩ := m0
  have pA : A p := R.oa k p (by rw [e1]; simp)
  have hp0 : b.H0 p = none := by
    rcases R.fo k p (by rw [e1]; simp) with ⟨j, q⟩ | q
    · rw [← R.pre, go_take] at q
      split at q
      · have := R.dj k j p (by rw [e1]; simp) q
        omega
      · cases q
    · exact q
  obtain ⟨hp1, hpA⟩ := U1.kp p (.lst vs) (fun z => z.2 (by rw [e1]; simp)) e2
  have kpL : ∀ a u, ¬ A1 a → H1 a = some u → (∀ w, u ≠ .lst w) → H1 a = some u ∧ ¬ (A1 a ∨ a = p) := fun a u n q hf => by
    have na : a ≠ p := fun z => by
      rw [z, hp1] at q
      cases q
      exact hf _ rfl
    exact ⟨q, fun z => z.elim n na⟩
  have kpA : Kp A H (fun a => A1 a ∨ a = p) H1 := fun a u n q => by
    have na : a ≠ p := fun z => n (by rw [z]; exact pA)
    obtain ⟨q1, q2⟩ := U1.kp a u (fun z => n z.1) q
    exact ⟨q1, fun z => z.elim q2 na⟩
  have hl1 : own1.length = s.ms.length + new.length := by
    rw [R1.ol, hms, List.length_append, frz_len]
  have g2 : ∀ j, go (ss own1 k [p]) j = if k = j then [p] else go own1 j := fun j => by
    rw [go_ss]
    by_cases e : k = j
    · rw [if_pos ⟨e, by omega⟩, if_pos e]
    · rw [if_neg (fun z => e z.1), if_neg e]
  have ow2 : ∀ j a r, go own j = a :: r → go (ss own1 k [p]) j = a :: r := fun j a r q => by
    rw [g2]
    by_cases e : k = j
    · rw [if_pos e, ← e1, e]; exact q
    · rw [if_neg e]
      exact U1.ow j a r (by rw [go_so, if_neg e]; exact q)
  have U2 : Up A own H (fun a => A1 a ∨ a = p) (ss own1 k [p]) H1 := ⟨kpA, ow2⟩
  have np1 : s1.np = s.np := R1.np.symm.trans R.np
  refine ⟨fun a => A1 a ∨ a = p, ss own1 k [p], ⟨⟨?_, fun j => ?_, fun i j a q1 q2 => ?_, fun j => ?_, fun j a q => ?_, fun a q z => ?_⟩, R.len, fun i => ?_, fun a q => .inl (R1.ge a q), fun a o hn h0 => ?_, fun j a q => ?_, ?_, ?_, fun a q => ?_, R.a0⟩, U2, fun j hj => by rw [g2, if_neg hj]⟩
  · rw [ss_length, hl1, List.length_append]
  · rw [g2]
    by_cases e : k = j
    · subst e
      rw [if_pos rfl, gm_app, if_pos hk, g]
      exact ⟨p, vs, rfl, hp1, RpL.mono kpA e3⟩
    · rw [if_neg e]
      have mj := R1.mr j
      have hj : gm s1.ms j = gm (s.ms ++ new) j := by
        rw [hms, gm_app, gm_app, frz_len]
        split
        · rw [frz_gm hno hk, if_neg e]
        · rfl
      rw [hj] at mj
      have nn : nLM (gm (s.ms ++ new) j) = true := by
        rw [gm_app]
        split
        · exact hno j
        · exact hnew _
      cases q : gm (s.ms ++ new) j with
      | gone => trivial
      | lst ds => rw [q] at mj nn; obtain ⟨a, vs, h1, h2, h3⟩ := mj; exact ⟨a, vs, h1, h2, RpL.monoL kpL h3 nn⟩
      | dct ds => rw [q] at mj nn; obtain ⟨a, vs, h1, h2, h3⟩ := mj; exact ⟨a, vs, h1, h2, RKV.monoL kpL h3 nn⟩
      | rnd n => rw [q] at mj; exact mj
      | box n => rw [q] at mj; exact mj
      | tab _ => rw [q] at nn; cases nn
      | ins C fs => rw [q] at nn; cases nn
  · rw [g2] at q1 q2
    by_cases ei : k = i
    · by_cases ej : k = j
      · rw [← ei, ← ej]
      · rw [if_pos ei] at q1
        rw [if_neg ej] at q2
        rw [List.mem_singleton.mp q1] at q2
        exact absurd (R1.oa j p q2) hpA
    · rw [if_neg ei] at q1
      by_cases ej : k = j
      · rw [if_pos ej] at q2
        rw [List.mem_singleton.mp q2] at q1
        exact absurd (R1.oa i p q1) hpA
      · rw [if_neg ej] at q2
        exact R1.dj i j a q1 q2
  · rw [g2]
    split
    · exact nd1
    · exact R1.ld j
  · rw [g2] at q
    split at q
    · exact .inr (List.mem_singleton.mp q)
    · exact .inl (R1.oa j a q)
  · by_cases ea : a = p
    · rw [ea, hp1] at z; cases z
    · exact q.elim (fun q => R1.al a q z) ea
  · rcases R.sl i with z | ⟨v, q1, q2⟩
    · exact .inl z
    · exact .inr ⟨v, q1, q2.up U2⟩
  · exact R1.fr a o hn h0
  · rw [g2] at q
    split at q
    · rw [List.mem_singleton.mp q]; exact .inr hp0
    · exact R1.fo j a q
  · show (ss own1 k [p]).take s.np = b.own0
    rw [take_ss _ _ _ _ hnp, ← np1]; exact R1.pre
  · show s.np ≤ (ss own1 k [p]).length
    rw [ss_length, ← np1]; exact R1.npl
  · rcases q with q | q
    · exact R1.lim a q
    · rw [q]; exact .inr hp0
end
section
variable {X : Cx} {e : Expr} {we : WE}
/-- what comes back is a number, a truth, a text or None -/
def dLkS (i : Nat) (we : WE) : WE := fun s Ks => match gt s.es i with
  | .mu k => (match gm s.ms k with
    | .lst ds => s.np ≤ k ∧ (∀ j, nLM (gm s.ms j) = true) ∧ we (frzS k ds s) fun s1 x => daI x fun d => scD d = true ∧ s1.ms = (frzS k ds s).ms ∧ Ks s (.da d)
    | _ => False)
  | _ => False
theorem de_lkS (i : Nat) (he : DE X e we) : DE X e (dLkS i we) := by
  obtain ⟨te, pe, qe⟩ := he.ex
  refine ⟨_, pe, fun b A own H σ s Ks Q R h kk => ?_⟩
  unfold dLkS at h
  split at h
  · rename_i k hgi
    split at h
    · rename_i ds g
      obtain ⟨hnp, hno, h⟩ := h
      obtain ⟨R0, k0, _⟩ := R.frz g hnp
      refine qe _ _ _ _ _ _ _ _ R0 h fun A1 own1 H1 v1 s1 x1 R1 U1 E1 h1 => ?_
      obtain ⟨d, rfl, sc, hms, h1⟩ := daI_inv h1
      obtain ⟨A2, own2, R2, U2, _⟩ := R.thaw (new := []) g hnp hno R1 U1 (by rw [List.append_nil]; exact hms) fun j => by cases j <;> rfl
      have e : (⟨s.es, s.ms ++ [], s.np⟩ : S) = s := by rw [List.append_nil]
      rw [e] at R2
      exact kk _ _ _ _ _ (.da d) R2 U2 (Rp.scal (show Rp X.K A1 H1 v1 d from E1) sc) h1
    · exact h.elim
  · exact h.elim
variable {js : List Nat} {wg : WG} {wt : WT} {pos : Pos}
/-- name = [.. for .. in a list that changes later] -/
def dLcLk (l : Nat) (vs : List Nat) (wi : WI) (wg : WG) (wt : WT) (we : WE) : WE := fun s Ks => match gt s.es l with
  | .mu k => (match gm s.ms k with
    | .lst ds => s.np ≤ k ∧ (∀ j, nLM (gm s.ms j) = true) ∧ dLcM vs wi wg wt we (frzS k ds s) fun s1 x => ∃ acc, x = .mu s.ms.length ∧ s1.ms = (frzS k ds s).ms ++ [.lst acc] ∧ nLs acc = true ∧ Ks ⟨s.es, s.ms ++ [.lst acc], s.np⟩ (.mu s.ms.length)
    | _ => False)
  | _ => False
theorem ds_setLcLk (l : Nat) {i : Nat} {y : Str} {py spos : Pos} {elt tg iter : Expr} {ifs : List Expr} {scope : Scope} (own : List (Str × Nat)) {wI : WI} (hc : X.calm = true) (hN : X.N.Nodup) (hy : X.N[i]? = some y) (hyl : X.env.scope.names.lookup y = some .local)
    (hsw : swapsWith (.ListComp elt [⟨tg, iter, ifs, 0⟩] scope pos) (some (.Name y py)) spos.line X.env = pure true) (hi : DI X tg iter wI) (ok : BlkOk X.N X.env.scope scope own) (hj : ∀ j ∈ js, j ∈ own.map (·.2))
    (hg : ∀ (s : Shared) (H : Hp) (C : Addr) (cl : List (Str × Addr)) (fp : List Addr), DG (X.blk s H scope (compEnvC scope cl C X.env) fp) tg js wg) (ht : ∀ (s : Shared) (H : Hp) (C : Addr) (cl : List (Str × Addr)) (fp : List Addr), DTs (X.blk s H scope (compEnvC scope cl C X.env) fp) ifs wt)
    (he : ∀ (s : Shared) (H : Hp) (C : Addr) (cl : List (Str × Addr)) (fp : List Addr), DE (X.blk s H scope (compEnvC scope cl C X.env) fp) elt we) (hs : ∀ x, foldedSetIterable iter X.env x = pure x := by intro _; rfl) :
    DS X (.Assign [.Name y py] (.ListComp elt [⟨tg, iter, ifs, 0⟩] scope pos) spos) (sAsg (dLcLk l (own.map (·.2)) wI wg wt we) (gN i)) := by
  obtain ⟨ti, pi, qi⟩ := hi.ex
  refine ⟨_, ps_setLc (g := canG X.K js wg) (tt := canT X.K wt) (te := canE X.K we) hc hN hy hyl hsw pi ok (fun s H C cl fp => (hg s H C cl fp).can) (fun s H C cl fp => (ht s H C cl fp).can) (fun s H C cl fp => (he s H C cl fp).can) hs, asg_run (fun b A own' H σ s Ks Q R h kk => ?_) (gN_run i)⟩
  unfold dLcLk at h
  split at h
  · rename_i k hgi
    split at h
    · rename_i ds g
      obtain ⟨hnp, hno, h⟩ := h
      obtain ⟨R0, k0, _⟩ := R.frz g hnp
      refine lc_run hj qi (fun s1 ms acc => ∃ acc' : List D, En.mu s1.ms.length = En.mu s.ms.length ∧ ms ++ [MO.lst acc] = (frzS k ds s).ms ++ [MO.lst acc'] ∧ nLs acc' = true ∧ Ks ⟨s.es, s.ms ++ [MO.lst acc'], s.np⟩ (.mu s.ms.length)) b _ _ H σ _ Q R0 h fun A1 own1 H1 s1 ms acc v R1 U1 ml E1 _ hk => ?_
      obtain ⟨acc', e1, e2, e3, hk⟩ := hk
      have e1 : s1.ms.length = s.ms.length := by injection e1
      obtain ⟨A2, own2, R2, U2, g2⟩ := R.thaw (new := [.lst acc']) g hnp hno R1 U1 e2 fun j => by
        cases j with
        | zero => exact e3
        | succ j => cases j <;> rfl
      have hkl : k < s.ms.length := gm_lt (by rw [g]; intro z; cases z)
      refine kk _ _ _ _ _ (.mu s.ms.length) R2 U2 ?_ hk
      obtain ⟨a, r, h1, h2⟩ := E1
      rw [e1] at h1
      exact ⟨a, r, by rw [g2 _ (by omega)]; exact h1, h2⟩
    · exact h.elim
  · exact h.elim
end
end DL
namespace DL
open PySem L2 PySem.Spec PyProof.Rows
/-! ### is True, is False of a bool -/
section
variable {X : L2.Cx}
theorem op_isB : OpR X (compareOp .Is) (fun x y H Q => ∃ m n, x = .bl m ∧ y = .bl n ∧ Q (.bl (decide (m = n))) H) := by
  intro pins s σ H x y v u Q I rx ry h
  obtain ⟨m, n, rfl, rfl, q⟩ := h
  cases rx; cases ry
  by_cases e : m = n
  · subst e
    exact wpAny_is_self rfl ⟨.bl true, H, I, rfl, by simpa using q⟩
  · exact wpAny_is_other rfl (fun z => e (Value.bool.inj z)) ⟨.bl false, H, I, rfl, by simpa [e] using q⟩
theorem op_isNotB : OpR X (compareOp .IsNot) (fun x y H Q => ∃ m n, x = .bl m ∧ y = .bl n ∧ Q (.bl (!decide (m = n))) H) := by
  intro pins s σ H x y v u Q I rx ry h
  obtain ⟨m, n, rfl, rfl, q⟩ := h
  cases rx; cases ry
  by_cases e : m = n
  · subst e
    exact wpAny_isNot_self rfl ⟨.bl false, H, I, rfl, by simpa using q⟩
  · exact wpAny_isNot_other rfl (fun z => e (Value.bool.inj z)) ⟨.bl true, H, I, rfl, by simpa [e] using q⟩
def rdIsB (neg : Bool) : S → En → En → (S → En → Prop) → Prop := fun s x y Ks => match x, y with | .da (.bool m), .da (.bool n) => Ks s (.da (.bool (xr neg (decide (m = n))))) | _, _ => False
theorem opd_isB {K : PySem.W.Frag} : OpD K (fun x y H Q => ∃ m n, x = .bl m ∧ y = .bl n ∧ Q (.bl (decide (m = n))) H) (rdIsB false) := by
  intro b A own H σ s vx vy x y Ks Q R ex ey h k
  unfold rdIsB at h
  split at h
  · cases ex; cases ey
    exact ⟨_, _, rfl, rfl, k.da R Up.refl (.bl _) h⟩
  · exact h.elim
theorem opd_isNotB {K : PySem.W.Frag} : OpD K (fun x y H Q => ∃ m n, x = .bl m ∧ y = .bl n ∧ Q (.bl (!decide (m = n))) H) (rdIsB true) := by
  intro b A own H σ s vx vy x y Ks Q R ex ey h k
  unfold rdIsB at h
  split at h
  · cases ex; cases ey
    exact ⟨_, _, rfl, rfl, k.da R Up.refl (.bl _) h⟩
  · exact h.elim
def dIsB : WE → WE → WE := d2 (rdIsB false)
def dNotB : WE → WE → WE := d2 (rdIsB true)
variable {a b : Expr} {wa wb : WE} {pos : Pos}
theorem de_isB (ha : DE X a wa) (hb : DE X b wb) : DE X (.Compare a [.Is] [b] pos) (dIsB wa wb) := de_cmp op_isB opd_isB ha hb (nomark _)
theorem de_notB (ha : DE X a wa) (hb : DE X b wb) : DE X (.Compare a [.IsNot] [b] pos) (dNotB wa wb) := de_cmp op_isNotB opd_isNotB ha hb (nomark _)
theorem dt_isB (ha : DE X a wa) (hb : DE X b wb) : DT X (.Compare a [.Is] [b] pos) (tT (dIsB wa wb)) := dt_cmp op_isB opd_isB ha hb (nomark _)
theorem dt_notB (ha : DE X a wa) (hb : DE X b wb) : DT X (.Compare a [.IsNot] [b] pos) (tT (dNotB wa wb)) := dt_cmp op_isNotB opd_isNotB ha hb (nomark _)
end
end DL
/-! ### sorted(xs, key=f), f of the program -/
namespace DL.KJ
open PySem PySem.Calls PyProof.Rows PySem.W
theorem get_gone {h : Heap} {c : Addr} : ({ h with objs := h.objs.setIfInBounds c ⟨.none, none, .freed, #[]⟩ } : Heap).get? c = none := by
  unfold Heap.get?
  by_cases hc : c < h.objs.size
  · simp [Array.getElem?_setIfInBounds, hc]
  · simp [Array.getElem?_setIfInBounds, hc]
theorem get_gone_ne {h : Heap} {b c : Addr} (hb : b ≠ c) : ({ h with objs := h.objs.setIfInBounds c ⟨.none, none, .freed, #[]⟩ } : Heap).get? b = h.get? b := by
  unfold Heap.get?
  simp [Array.getElem?_setIfInBounds, Ne.symm hb]
section
variable {prog : Program} {w : World} {A : Around} {E : Value → Shared → Prop} {s : Shared} {a kS : Addr} {b : Bool} {vs : List Value} {e1 : Nat} {P : PySem.Fin → Shared → Prop} {kz : List PyData} {f : Value} {J : Nat → Shared → List Value → Prop}
theorem rest (hlen : kz.length = vs.length) (hZ : vs.length ≤ sizeLine) (hal : AllAlike kz) (hsk : Sortable kz) (hu : ∀ d, d ∈ kz → A.units + d.depth < cLine) (hka : kS ≠ a)
    (j0 : J 0 s []) (nk : s.heap.get? kS = some (seqObj "list" #[] 0)) (na : s.heap.get? a = some (seqObj "list" #[] e1)) (jl : ∀ i s1 ks, J i s1 ks → ks.length = i)
    (turn : ∀ (i : Nat) (v : Value), vs[i]? = some v → ∀ (s1 : Shared) (ks : List Value) (e : Nat), J i s1 ks → s1.heap.get? kS = some (seqObj "list" ks.toArray e) → s1.heap.get? a = some (seqObj "list" #[] e1) →
      wpAny (model prog w) A (call f [v]) (fun u s2 => s2.heap.get? kS = some (seqObj "list" ks.toArray e) ∧ s2.heap.get? a = some (seqObj "list" #[] e1) ∧ ∀ h', Heap.SameBut kS s2.heap h' → J (i + 1) { s2 with heap := h' } (ks ++ [u])) (fun _ _ => False) s1)
    (reads : ∀ s1 ks, J vs.length s1 ks → EachIs (fun v k => ∃ as, Reads s1.heap v k as) ks kz)
    (h : ∀ s1 ks, J vs.length s1 ks → ∀ h' tk out c, (∀ b o, b ≠ a → b ≠ kS → s1.heap.get? b = some o → h'.get? b = some o) → h'.get? a = some (seqObj "list" (List.toArray out) c) → KeyedOut b kz vs out → P (.done (.ret .none)) { s1 with heap := h', toks := tk }) :
    wpAny (model prog w) A (ksk_rest a f b vs.toArray e1 (.ref kS)) P E s := by
  unfold ksk_rest
  refine wpAny_bind (wpAny_rule ?_)
  first
    | rw [List.forIn_toArray]
    | (rw [← Array.forIn_toList]; simp only [List.toList_toArray])
    | rw [← Array.forIn_toList]
  refine wpAny_bind (ksk_fold (fun i s' => ∃ ks e, J i s' ks ∧ s'.heap.get? kS = some (seqObj "list" ks.toArray e) ∧ s'.heap.get? a = some (seqObj "list" #[] e1)) vs 0 s ⟨[], 0, j0, nk, na⟩ ?step ?done)
  case step =>
    rintro j x s' hx ⟨ks, e, hJ, nk', na'⟩
    simp only [Nat.zero_add] at hJ ⊢
    have hj : j < vs.length := (List.getElem?_eq_some_iff.mp hx).1
    have hz : ks.toArray.size ≤ vs.length := by rw [List.size_toArray, jl _ _ _ hJ]; omega
    refine wpAny_bind (wpAny_attempt (wpAny_mono (turn j x hx s' ks e hJ nk' na') (fun v s'' he => ?_) fun _ _ hF => hF.elim))
    obtain ⟨nk2, na2, hJ2⟩ := he
    try dsimp only
    have s1 := Heap.SameBut.update s''.heap kS (Obj.mapSeq (·.push v))
    obtain ⟨c2, hc2⟩ : ∃ c2, (s''.heap.update kS (Obj.mapSeq (·.push v))).get? kS = some (seqObj "list" (ks.toArray.push v) c2) := ⟨_, get?_update_seq nk2 (·.push v)⟩
    refine wpAny_bind (listUpdate_at nk2 rfl ?_ (Nat.le_trans hz hZ) (Nat.le_trans (Nat.le_of_eq (Array.size_push ..)) (Nat.succ_le_succ (Nat.le_trans hz hZ))))
    refine wpAny_pure ⟨rfl, ks ++ [v], c2, hJ2 _ s1, ?_, (s1.2 a hka.symm).trans na2⟩
    rw [hc2]
    simp
  case done =>
    rintro s' ⟨ks, e, hJ, nk', na'⟩
    rw [Nat.zero_add] at hJ
    have hsz : ks.toArray.size = vs.length := by rw [List.size_toArray, jl _ _ _ hJ]
    have hk' := reads _ _ hJ
    try dsimp only
    refine wpAny_bind (listItems_at nk' rfl ?_)
    have kp : KeepsBut a ({ s'.heap with objs := s'.heap.objs.setIfInBounds kS ⟨.none, none, .freed, #[]⟩ } : Heap) s'.heap := fun b o hb q => by
      by_cases hbk : b = kS
      · rw [hbk, get_gone] at q; cases q
      · rw [get_gone_ne hbk] at q; exact q
    refine keyH_end (κ := dataKind s'.heap kz) kp get_gone nk' na' hka (by rw [List.toList_toArray]; exact SortsAt.data (s := s') hk' hal hsk hu) hsz hZ fun h3 tk3 c k3 n3 => ?_
    rw [List.toList_toArray] at n3
    exact h s' ks hJ h3 tk3 _ c (fun b o h1 h2 q => k3 b o h1 (by rw [get_gone_ne h2]; exact q)) n3 ⟨s'.heap, ks, hal, rfl, hk'⟩
theorem tree {n : Nat} (ho : s.heap.get? a = some (seqObj "list" vs.toArray n)) (hlen : kz.length = vs.length) (hZ : vs.length ≤ sizeLine) (hal : AllAlike kz) (hsk : Sortable kz) (hu : ∀ d, d ∈ kz → A.units + d.depth < cLine)
    (j0 : J 0 { s with heap := sortingHeap s.heap a vs } []) (jl : ∀ i s1 ks, J i s1 ks → ks.length = i)
    (turn : ∀ (i : Nat) (v : Value), vs[i]? = some v → ∀ (s1 : Shared) (ks : List Value) (e e1 : Nat), J i s1 ks → s1.heap.get? (s.heap.objs.size + 1) = some (seqObj "list" ks.toArray e) → s1.heap.get? a = some (seqObj "list" #[] e1) →
      wpAny (model prog w) A (call f [v]) (fun u s2 => s2.heap.get? (s.heap.objs.size + 1) = some (seqObj "list" ks.toArray e) ∧ s2.heap.get? a = some (seqObj "list" #[] e1) ∧ ∀ h', Heap.SameBut (s.heap.objs.size + 1) s2.heap h' → J (i + 1) { s2 with heap := h' } (ks ++ [u])) (fun _ _ => False) s1)
    (reads : ∀ s1 ks, J vs.length s1 ks → EachIs (fun v k => ∃ as, Reads s1.heap v k as) ks kz)
    (h : ∀ s1 ks, J vs.length s1 ks → ∀ h' tk out c, (∀ b o, b ≠ a → b ≠ s.heap.objs.size + 1 → s1.heap.get? b = some o → h'.get? b = some o) → h'.get? a = some (seqObj "list" (List.toArray out) c) → KeyedOut b kz vs out → P (.done (.ret .none)) { s1 with heap := h', toks := tk }) :
    wpAny (model prog w) A (ksk_tree a f b) P E s := by
  have ha : a < s.heap.objs.size := Heap.lt_size ho
  obtain ⟨e1, ho1⟩ : ∃ e1, (s.heap.update a (Obj.mapSeq fun _ => (#[] : Array Value))).get? a = some (seqObj "list" #[] e1) := ⟨_, get?_update_seq ho fun _ => #[]⟩
  have hkS : ((s.heap.update a (Obj.mapSeq fun _ => (#[] : Array Value))).push (seqObj "tuple" vs.toArray 0)).objs.size = s.heap.objs.size + 1 := by rw [size_push', Heap.size_update]
  unfold ksk_tree
  refine wpAny_bind (listItems_at ho rfl ?_)
  refine wpAny_bind (listUpdate_at ho rfl ?_ (by rw [List.size_toArray]; exact hZ) (Nat.zero_le _))
  refine wpAny_bind (seqEpoch_at ho1 rfl ?_)
  refine wpAny_bind (wpAny_newTuple ?_ (by show vs.length ≤ _; exact hZ))
  refine wpAny_bind (wpAny_newList ?_ (Nat.zero_le _))
  refine wpAny_holding ?_
  rw [← hkS] at turn h
  refine rest (J := J) (kz := kz) (s := { s with heap := sortingHeap s.heap a vs }) (kS := ((s.heap.update a (Obj.mapSeq fun _ => (#[] : Array Value))).push (seqObj "tuple" vs.toArray 0)).objs.size)
    hlen hZ hal hsk hu (by rw [hkS]; exact Nat.ne_of_gt (Nat.lt_succ_of_lt ha)) j0 (Heap.get?_push_size _ rfl) (Heap.get?_push_of_some _ (Heap.get?_push_of_some _ ho1)) jl (fun i v hv s1 ks e => turn i v hv s1 ks e e1) reads h
theorem sorted {l : Addr} {kw : List (Str × Value)} {Q : Value → Shared → Prop} (hl : s.heap.IsList l vs.toArray) (hlen : kz.length = vs.length) (hZ : vs.length ≤ sizeLine) (hal : AllAlike kz) (hsk : Sortable kz) (hu : ∀ d, d ∈ kz → A.units + 2 + d.depth < cLine)
    (ha1 : argsOk "sorted" ⟨[.ref l], kw⟩) (ha2 : ∀ x, argsOk "list.sort" ⟨[.ref x], kw⟩) (ht : ∀ x, Builtin.«list.sort» ⟨[.ref x], kw⟩ = ksk_tree x f b)
    (j0 : ∀ h', (∀ b o, s.heap.get? b = some o → h'.get? b = some o) → J 0 { s with heap := h' } []) (jl : ∀ i s1 ks, J i s1 ks → ks.length = i)
    (turn : ∀ (i : Nat) (v : Value), vs[i]? = some v → ∀ (s1 : Shared) (ks : List Value) (e e1 : Nat), J i s1 ks → s1.heap.get? (s.heap.objs.size + 3) = some (seqObj "list" ks.toArray e) → s1.heap.get? (s.heap.objs.size + 1) = some (seqObj "list" #[] e1) →
      wpAny (model prog w) A.in1.in1 (call f [v]) (fun u s2 => s2.heap.get? (s.heap.objs.size + 3) = some (seqObj "list" ks.toArray e) ∧ s2.heap.get? (s.heap.objs.size + 1) = some (seqObj "list" #[] e1) ∧ ∀ h', Heap.SameBut (s.heap.objs.size + 3) s2.heap h' → J (i + 1) { s2 with heap := h' } (ks ++ [u])) (fun _ _ => False) s1)
    (reads : ∀ s1 ks, J vs.length s1 ks → EachIs (fun v k => ∃ as, Reads s1.heap v k as) ks kz)
    (h : ∀ s1 ks, J vs.length s1 ks → ∀ h' tk out c, (∀ b o, b ≠ s.heap.objs.size + 1 → b ≠ s.heap.objs.size + 3 → s1.heap.get? b = some o → h'.get? b = some o) → h'.get? (s.heap.objs.size + 1) = some (seqObj "list" (List.toArray out) c) → KeyedOut b kz vs out → Q (.ref (s.heap.objs.size + 1)) { s1 with heap := h', toks := tk }) :
    wpAny (model prog w) A (call (.builtin "sorted") [.ref l] kw) Q E s := by
  refine sorted_of_sort hl hZ ha1 ha2 fun E' => ?_
  rw [ht]
  have hsz : (copyHeap s.heap vs).objs.size + 1 = s.heap.objs.size + 3 := by
    unfold copyHeap
    rw [size_push', Heap.size_update, size_push']
  rw [← hsz] at turn h
  refine tree (J := J) (kz := kz) (s := { s with heap := copyHeap s.heap vs }) (copyHeap_at s.heap vs) hlen hZ hal hsk (fun d hd => hu d hd) (j0 _ fun b o q => sorting_copy_old q) jl turn reads fun s1 ks hJ h' tk out c k1 k2 k3 => ⟨rfl, h s1 ks hJ h' tk out c k1 k2 k3⟩
end
end DL.KJ
namespace DL
open PySem L2 PySem.Spec PyProof.Rows
section
variable {X : L2.Cx}
theorem Inv.turned2 {pins : List (Addr × Obj)} {σ : L2.St} {H : Hp} {s : Shared} {h' : Heap} {t' : Nat} {it ju : Addr} (I : Inv X pins σ H s) (k : ∀ b o, b ≠ it → b ≠ ju → s.heap.get? b = some o → h'.get? b = some o) (f : FpOk X pins H it) (g : FpOk X pins H ju) :
    Inv X pins σ H { s with heap := h', toks := t' } := by
  obtain ⟨f1, f2, f3, f4, f5, f6⟩ := f
  obtain ⟨g1, g2, g3, g4, g5, g6⟩ := g
  have nit : ∀ b u, H b = some u → b ≠ it := fun b u e z => by rw [z, f1] at e; cases e
  have nju : ∀ b u, H b = some u → b ≠ ju := fun b u e z => by rw [z, g1] at e; cases e
  have hc2 : ∀ b : Addr, b ∉ [it, ju] → b ≠ it ∧ b ≠ ju := fun b hb => ⟨fun z => hb (by simp [z]), fun z => hb (by simp [z])⟩
  refine I.step (g' := s.gens) (d' := s.drawn) (ch := [it, ju]) (fun b hb => ?_) (fun b o _ _ hc e _ => k b o (hc2 b hc).1 (hc2 b hc).2 e) (fun b o _ _ hc e _ => ⟨o.slots, k b o (hc2 b hc).1 (hc2 b hc).2 e⟩) (fun _ _ _ _ n => n)
    (fun b o hc e => ⟨o, k b o (hc2 b hc).1 (hc2 b hc).2 e⟩) (fun _ _ e => e) (fun _ _ _ e => e) (fun b ps e => ⟨#[], by rw [e]; simp⟩) (fun m hm => ?_) (fun b u e => ?_) I.bare
  · rcases List.mem_cons.mp hb with rfl | hb
    · exact ⟨f4, f2, f5, f6⟩
    · obtain rfl := List.mem_singleton.mp hb
      exact ⟨g4, g2, g5, g6⟩
  · obtain ⟨o, es, ep, ho, r⟩ := hm
    exact ⟨o, es, ep, k _ o (Ne.symm f2) (Ne.symm g2) ho, r⟩
  · refine (I.hok b u e).stay (fun c v hc q => k c v ?_ ?_ q) (fun _ q => q) fun _ _ q => q
    · rcases hc with z | z
      · rw [z]; exact nit b u e
      · exact nit c _ z
    · rcases hc with z | z
      · rw [z]; exact nju b u e
      · exact nju c _ z
theorem FpOk.other {pins : List (Addr × Obj)} {H H' : Hp} {b : Addr} (f : FpOk X pins H b) (h : H' b = none) : FpOk X pins H' b := ⟨h, f.2⟩
/-- the keys, one call behind the other -/
def KeyRun (sp : Sp) : List V → List V → Hp → (List V → Hp → Prop) → Prop
  | [], us, H, Q => Q us H
  | x :: xs, us, H, Q => sp [x] H (fun u H' => KeyRun sp xs (us ++ [u]) H' Q) E0
def sortV (its : List V) (kz : List D) : List V := ((its.zip kz).mergeSort (PySem.W.dataLe false (·.2))).map (·.1)
def rSortKey (K : PySem.W.Frag) (f : Addr) (sp : Sp) : List V → List V → Hp → VK → Prop := fun vs zs H Q => ∃ (l : Addr) (its : List V) (kz : List D), vs = [.ref l] ∧ zs = [.ref f] ∧ SqL K H l its ∧ kz.length = its.length ∧ canSort kz ∧
  KeyRun sp its [] H fun us H' => DpAll K H' us kz ∧ ∀ p, H' p = none → Q (.ref p) (upd H' p (.lst (sortV its kz)))
theorem reads_each {h : Heap} : ∀ {ds : List D} {us : List Value} {as : List Addr}, ReadsAll h us ds as → PySem.W.EachIs (fun (u : Value) (d : D) => ∃ as, Reads h u d as) us ds
  | [], _, _, r => by cases r; exact .nil
  | d :: ds, _, _, .cons r t => .cons ⟨_, r⟩ (reads_each t)
theorem each_zip2 : ∀ {its : List V} {us : List Value} {kz : List D}, Vals its us → kz.length = its.length → PySem.W.EachIs (fun (u : Value) (z : V × D) => RelV z.1 u) us (its.zip kz)
  | [], _, _, .nil, _ => .nil
  | x :: xs, _, [], .cons r t, h => by simp at h
  | x :: xs, _, d :: ds, .cons r t, h => .cons r (each_zip2 t (by simpa using h))
theorem cr_sortKey {k : Nat} {f : Addr} {fd : FuncData} {ps : List Str} {sp : Sp} (F : FnOkG X.prog X.w X.K X.mg X.base CX0 k f fd ps sp) (hr : RoomG k X.A.in1.in1) (hu : X.A.units + 64 < cLine) (hb : Binds X.K fd ps []) (hps : ps.length = 1) :
    CallRK X (.builtin "sorted") [Str.ofString "key"] (rSortKey X.K f sp) := by
  intro pins s σ H vs zs us ws Q I r rz h
  obtain ⟨l, its, kz, rfl, rfl, hs, hlen, hc, hrun⟩ := h
  obtain rfl := Vals.ref1 r
  obtain ⟨w1, rfl, e1⟩ := vals1 rz
  obtain rfl : w1 = Value.ref f := e1
  obtain ⟨uits, rv, hl, hz⟩ := I.list hs
  have hlv := rv.length
  have size1 : s.heap.objs.size ≤ s.heap.objs.size + 1 := Nat.le_succ _
  have size3 : s.heap.objs.size ≤ s.heap.objs.size + 3 := by omega
  refine KJ.sorted (b := false) (vs := uits) (kz := kz) (f := .ref f)
    (J := fun i s1 ks => ∃ (H1 : Hp) (us1 : List V), Inv X pins σ H1 s1 ∧ FpOk X pins H1 (s.heap.objs.size + 1) ∧ FpOk X pins H1 (s.heap.objs.size + 3) ∧ Vals us1 ks ∧ us1.length = i ∧ KeyRun sp (its.drop i) us1 H1 fun us H' => DpAll X.K H' us kz ∧ ∀ p, H' p = none → Q (.ref p) (upd H' p (.lst (sortV its kz))))
    hl.isList (by rw [hlen, hlv]) (by rw [← hlv]; exact hz) hc.1 hc.2.1 (fun d hd => ?_) (ksk_s1 _ _) (fun _ => ksk_l1 _ _) (fun _ => ksk_t1 _ _) (fun h' kh => ?_) (fun i s1 ks hJ => ?_) (fun i v hv s1 ks e e1 hJ g3 g1 => ?_) (fun s1 ks hJ => ?_) fun s1 ks hJ h' tk out c kh hg ko => ?_
  · have := depth_le_all hd
    have := hc.2.2.2
    omega
  · exact ⟨H, [], I.kept (t' := s.toks) kh, I.fpOk size1 (I.hok.fresh size1), I.fpOk size3 (I.hok.fresh size3), .nil, rfl, hrun⟩
  · obtain ⟨H1, us1, _, _, _, rr, hl1, _⟩ := hJ
    rw [← rr.length]; exact hl1
  · obtain ⟨H1, us1, I1, f1, f3, rr, hl1, hk⟩ := hJ
    have hi : i < its.length := by rw [hlv]; exact (List.getElem?_eq_some_iff.mp hv).1
    have hx : its[i]? = some its[i] := List.getElem?_eq_getElem hi
    obtain ⟨v', hv', rx⟩ := rv.get hx
    rw [hv] at hv'
    obtain rfl := Option.some.inj hv'
    rw [List.drop_eq_getElem_cons hi] at hk
    have I2 : Inv X ((s.heap.objs.size + 3, seqObj "list" ks.toArray e) :: (s.heap.objs.size + 1, seqObj "list" #[] e1) :: pins) σ H1 s1 := I1.pins_of fun p hp => by
      rcases List.mem_cons.mp hp with rfl | hp
      · exact ⟨g3, f3.1, f3.2.1, f3.2.2.1, fun v z => by cases z⟩
      · rcases List.mem_cons.mp hp with rfl | hp
        · exact ⟨g1, f1.1, f1.2.1, f1.2.2.1, fun v z => by cases z⟩
        · exact I1.pin p (List.mem_append_right _ hp)
    have r1 : Vals [its[i]] [v] := .cons rx .nil
    refine wpAny_call (codeAny_mono (F.run X.A.in1.in1 X.stack s1 H1 ⟨[v], []⟩ [v] [its[i]] _ E0 hr.r hr.g I1.env0.in1.in1 (by have := hb s1 [v] I1.kIn (by rw [hps]; rfl); simpa using this) r1 hk) fun rr2 s2 hq => ?_)
    cases rr2 with
    | error er => exact False.elim hq
    | ok fl =>
      cases fl with
      | next => exact False.elim hq
      | brk => exact False.elim hq
      | cont => exact False.elim hq
      | ret u =>
        obtain ⟨vu, H2, I3, ru, hk2⟩ := I2.after hq
        have p3 := I3.pin (s.heap.objs.size + 3, seqObj "list" ks.toArray e) (List.mem_append_right _ (.head _))
        have p1 := I3.pin (s.heap.objs.size + 1, seqObj "list" #[] e1) (List.mem_append_right _ (.tail _ (.head _)))
        refine ⟨p3.1, p1.1, fun h' hsb => ?_⟩
        have I4 : Inv X pins σ H2 s2 := I3.pins_of fun p hp => I3.pin p (List.mem_append_right _ (.tail _ (.tail _ hp)))
        have F3 := FpOk.other f3 p3.2.1
        refine ⟨H2, us1 ++ [vu], I4.turned (it := s.heap.objs.size + 3) (t' := s2.toks) (fun b o hb q => (hsb.2 b hb).trans q) F3.1 F3.2.1 F3.2.2.2.1 F3.2.2.2.2.1 F3.2.2.2.2.2, FpOk.other f1 p1.2.1, F3, rr.append (.cons ru .nil), by rw [List.length_append, hl1]; rfl, hk2⟩
  · obtain ⟨H1, us1, I1, f1, f3, rr, hl1, hk⟩ := hJ
    rw [← hlv, List.drop_length] at hk
    obtain ⟨hd, _⟩ := hk
    obtain ⟨as, hr2⟩ := Dp.readsAll I1 _ _ ks hd rr
    exact reads_each hr2
  · obtain ⟨H1, us1, I1, f1, f3, rr, hl1, hk⟩ := hJ
    rw [← hlv, List.drop_length] at hk
    obtain ⟨hd, q⟩ := hk
    have I2 : Inv X pins σ H1 { s1 with heap := h', toks := tk } := Inv.turned2 I1 kh f1 f3
    have hzl : (its.zip kz).map (·.2) = kz := List.map_snd_zip (by omega)
    have eo := PySem.W.keyedOut_each (R := fun (u : Value) (z : V × D) => RelV z.1 u) (bs := its.zip kz) (·.2) (by rw [hzl]; exact ko) (each_zip2 rv hlen)
    have hol : (sortV its kz).length ≤ sizeLine := by
      unfold sortV
      rw [List.length_map, List.length_mergeSort, List.length_zip]
      omega
    exact ⟨.ref _, upd H1 (s.heap.objs.size + 1) (.lst (sortV its kz)), I2.take (t' := tk) (h' := h') (fun b ob _ e => e) f1 ⟨hol, out, c, vals_each eo, hg⟩, rfl, q _ f1.1⟩
def sortKD (key : D → D) (ds : List D) : List D := ds.mergeSort (PySem.W.dataLe false key)
theorem sortV_pairs {zs : List (V × D)} {key : D → D} : sortV (zs.map (·.1)) ((zs.map (·.2)).map key) = (zs.mergeSort (PySem.W.dataLe false fun z => key z.2)).map (·.1) := by
  unfold sortV
  have e : (zs.map (·.1)).zip ((zs.map (·.2)).map key) = zs.map fun z => (z.1, key z.2) := by
    induction zs with
    | nil => rfl
    | cons z zs ih => rw [List.map_cons, List.map_cons, List.map_cons, List.zip_cons_cons, ih]; rfl
  have m := List.map_mergeSort (r := PySem.W.dataLe false fun z : V × D => key z.2) (s := PySem.W.dataLe false fun z : V × D => z.2) (f := fun z : V × D => (z.1, key z.2)) (l := zs) fun _ _ _ _ => rfl
  rw [e, ← m, List.map_map]
  rfl
theorem sortKD_pairs {zs : List (V × D)} {key : D → D} : sortKD key (zs.map (·.2)) = (zs.mergeSort (PySem.W.dataLe false fun z => key z.2)).map (·.2) := by
  unfold sortKD
  exact (List.map_mergeSort (r := PySem.W.dataLe false fun z : V × D => key z.2) (s := PySem.W.dataLe false key) (f := fun z : V × D => z.2) (l := zs) fun _ _ _ _ => rfl).symm
def cSortKy (sp : SpD) : S → List En → (S → En → Prop) → Prop := fun s xs Ks => a1 xs fun x => ∃ (ds : List D) (key : D → D), vw s x = some (.list ds) ∧ (∀ d ∈ ds, CallV sp s [.da d] fun s' r => s' = s ∧ r = .da (key d)) ∧ canSort (ds.map key) ∧ Ks s (.da (.list (sortKD key ds)))
theorem keyRun_d {K : PySem.W.Frag} {sp : SpD} {b : Bd} {σ : L2.St} {s : S} {key : D → D} {Qe : List V → Hp → Prop} : ∀ (vs : List V) (ds : List D) (us : List V) (kds : List D) (A : Addr → Prop) (own : List (List Addr)) (H : Hp), Rel K b A own H σ s → RpL K A H vs ds → RpL K A H us kds →
    (∀ d ∈ ds, CallV sp s [.da d] fun s' r => s' = s ∧ r = .da (key d)) → (∀ A' own' H' us', Rel K b A' own' H' σ s → Up A own H A' own' H' → RpL K A' H' us' (kds ++ ds.map key) → Qe us' H') → KeyRun (spOf K 1 sp) vs us H Qe
  | _, _, us, kds, A, own, H, R, .nil, ru, _, fin => fin A own H us R Up.refl (by rw [List.map_nil, List.append_nil]; exact ru)
  | v :: vs, d :: ds, us, kds, A, own, H, R, .cons rv rt, ru, hk, fin => by
    have hd := hk d (List.mem_cons_self ..)
    show spOf K 1 sp [v] H (fun u H' => KeyRun (spOf K 1 sp) vs (us ++ [u]) H' Qe) E0
    refine callW_run (ks := []) (xs := [.da d]) hd.1 rfl R ⟨rv, trivial⟩ hd.2 fun A' own' H' v' s' x R' U' ex hks => ?_
    obtain ⟨rfl, rfl⟩ := hks
    refine keyRun_d vs ds (us ++ [v']) (kds ++ [key d]) A' own' H' R' (RpL.mono U'.kp rt) ?_ (fun d' hd' => hk d' (List.mem_cons_of_mem _ hd')) fun A2 own2 H2 us' R2 U2 r2 => fin A2 own2 H2 us' R2 (U'.trans U2) ?_
    · have : ∀ {l : List V} {m : List D}, RpL K A' H' l m → RpL K A' H' (l ++ [v']) (m ++ [key d]) := fun {l m} h => by
        induction l generalizing m with
        | nil => cases h; exact .cons ex .nil
        | cons y l ih => cases h with | cons h1 h2 => exact .cons h1 (ih h2)
      exact this (RpL.mono U'.kp ru)
    · rw [List.map_cons]
      simpa [List.append_assoc] using r2
theorem de_sortKey {k : Nat} {st : Stmt} {ps : List Str} {sp : SpD} {y : Str} {a : Expr} {wa : WE} {p pos py pk : Pos} (O : Ok X.prog X.w X.K X.mg X.base k y st ps 1 sp) (hps : ps.length = 1) (hr : RoomG (k + 1) X.A) (hg : Gl X "sorted") (hm : X.mg "sorted" = none) (hgy : Gl X y) (ha : DE X a wa)
    (hdb : (y == ("__debug__" : Str)) = false := by decide) (he : starEach (a :: []) X.env = (false, eval a X.env) :: starEach [] X.env := by rfl)
    (he2 : backTo pos (starEach (a :: []) X.env) = (false, eval a X.env) :: backTo pos (starEach [] X.env) := by rfl) (hpl : (backTo pos (starEach (a :: []) X.env)).any (·.1) = false := by rfl)
    (hall : (backToKw pos (keywordEach [⟨some "key", .Name y py, pk⟩] X.env)).all (·.1.isSome) = true := by rfl) (hnone : (backToKw pos (keywordEach [⟨some "key", .Name y py, pk⟩] X.env)).any (·.1.isNone) = false := by rfl) (hks : (backToKw pos (keywordEach [⟨some "key", .Name y py, pk⟩] X.env)).filterMap (·.1) = [Str.ofString "key"] := by rfl) :
    DE X (.Call (.Name "sorted" p) [a] [⟨some "key", .Name y py, pk⟩] pos) (dCall (cSortKy sp) (aCons wa aNil)) := by
  obtain ⟨f, fd, at', F⟩ := O.ex
  obtain ⟨ta, pa, qa⟩ := (da_cons ha da_nil he).ex
  have hr2 : RoomG k X.A.in1.in1 := ⟨⟨hr.r.hd, by have := hr.r.dp; show X.A.depth + 3 * k + 5 < _; omega, by have := hr.r.un; show X.A.units + 1 + 1 + 16 * k + 200 < _; omega⟩, hr.g⟩
  refine ⟨_, pe_callBK (cr_sortKey F hr2 (by have := hr.r.un; omega) at'.b hps) hg hm (by decide +kernel) pa (pk_cons (pe_glob hgy at'.g (v := .ref f) rfl hdb) pk_nil) (he := he2) (hpl := hpl) (hall := hall) (hnone := hnone) (hks := hks), fun b A own H σ s Ks Q R h kk => ?_⟩
  refine qa b A own H σ s _ _ R h fun A1 o1 H1 vs s1 xs R1 U1 E1 h1 => ?_
  obtain ⟨v, x, rfl, e1, ds, key, hd, hk, hc, h⟩ := a1_inv E1 h1
  show rSortKey X.K f (spOf X.K 1 sp) [v] [.ref f] H1 Q
  obtain ⟨l, us, rfl, hs, r⟩ := vw_lst R1 e1 hd
  obtain ⟨zs, rfl, rfl, hz⟩ := rpl_zip r
  refine ⟨l, zs.map (·.1), (zs.map (·.2)).map key, rfl, rfl, hs, by simp, hc, ?_⟩
  refine keyRun_d _ _ [] [] A1 o1 H1 R1 r .nil hk fun A2 o2 H2 us' R2 U2 r2 => ⟨r2.dp (by rw [List.nil_append]; exact hc.2.2.1), fun q hq => ?_⟩
  rw [sortV_pairs]
  rw [sortKD_pairs] at h
  refine new_lst R2 ((kk.up U1).up U2) ?_ hq h
  exact rpl_map fun z hm => Rp.mono U2.kp (hz z ((List.mergeSort_perm _ _).mem_iff.mp hm))
/-- the first place of a number in a list of numbers, which may be one that changes -/
def dIndexV (wa wb : WE) : WE := fun s Ks => wa s fun s1 x => (∃ ds, vw s1 x = some (.list ds)) ∧ wb s1 fun s2 y => i1 y fun v => ∃ (ns : List Int) (j : Nat), vw s2 x = some (.list (ns.map .int)) ∧ ns[j]? = some v ∧ (∀ m, m < j → ns[m]? ≠ some v) ∧ Ks s2 (.da (.int (j : Nat)))
theorem de_indexV {a b : Expr} {wa wb : WE} {apos cpos : Pos} (ho : DE X a wa) (hi : DE X b wb)
    (hbase : attributeBase a "index" X.env (eval a X.env) = eval a X.env := by rfl)
    (hfew : ((backTo cpos (starEach (b :: []) X.env)).all (fun x => !x.1) && (backToKw cpos (keywordEach [] X.env)).all (fun x => x.1.isSome)
      && decide ((b :: []).length + ([] : List Keyword).length + (if ([] : List Keyword).isEmpty then 0 else 1) < 30)) = true := by rfl)
    (hline : (apos.endLine == cpos.line) = true := by rfl) (hs : starEach (b :: []) X.env = (false, eval b X.env) :: starEach [] X.env := by rfl) (hplain : (backTo cpos (starEach [] X.env)).any (·.1) = false := by rfl) :
    DE X (.Call (.Attribute a "index" apos) [b] [] cpos) (dIndexV wa wb) := by
  obtain ⟨ta, pa, qa⟩ := ho.ex
  obtain ⟨tr, pr, qr⟩ := (da_cons hi da_nil hs).ex
  refine ⟨_, pe_bm PySem.F.plainAttrs_list PySem.F.slot_list_index PySem.F.type_list_index mt_index pa pr hbase hfew hline hs hplain, fun b A own H σ s Ks Q R h k => ?_⟩
  show ta σ H fun x H1 => tyV X.K "list" x H1 ∧ tr σ H1 fun xs H2 => rIndex X.K x xs H2 Q
  refine qa _ _ _ _ _ _ _ _ R h fun A1 o1 H1 v1 s1 x1 R1 U1 E1 h1 => ?_
  obtain ⟨⟨ds, hd⟩, h1⟩ := h1
  obtain ⟨p, us, rfl, l1, r1⟩ := vw_lst R1 E1 hd
  refine ⟨.inl ⟨rfl, _, l1⟩, ?_⟩
  refine qr _ _ _ _ _ _ (fun s2 xs => a1 xs fun y => i1 y fun v => ∃ (ns : List Int) (j : Nat), vw s2 x1 = some (.list (ns.map .int)) ∧ ns[j]? = some v ∧ (∀ m, m < j → ns[m]? ≠ some v) ∧ Ks s2 (.da (.int (j : Nat)))) _ R1 h1 fun A2 o2 H2 vs s2 xs R2 U2 E2 h2 => ?_
  obtain ⟨v, y, rfl, E3, h2⟩ := a1_inv E2 h2
  obtain ⟨z, rfl, ns, j, hv, hj, hlt, h2⟩ := i1_inv h2
  cases E3
  obtain ⟨p2, us2, e2, l2, r2⟩ := vw_lst R2 (E1.up U2) hv
  cases e2
  obtain rfl := RpL.ofInts r2
  refine ⟨p, ns.map V.int, .int z, j, .int z, rfl, rfl, l2, rfl, ?_, ?_, ?_, fun m z' hm hz => ?_, (k.up (U1.trans U2)).da R2 Up.refl (.int _) h2⟩
  · rw [List.all_map]; exact List.all_eq_true.mpr fun _ _ => rfl
  · rw [List.getElem?_map, hj]; rfl
  · show (z == z) = true
    simp
  · rw [List.getElem?_map] at hz
    cases q : ns[m]? with
    | none => rw [q] at hz; cases hz
    | some z2 =>
      rw [q] at hz
      cases hz
      show (z2 == z) = false
      have := hlt m hm
      rw [q] at this
      exact beq_eq_false_iff_ne.mpr fun e => this (by rw [e])
/-- len(set(xs)): as many as xs has, just where no two are the same -/
theorem firstMet_full (ns : List Int) : ∀ i, i ≤ ns.length → (PyProof.Rows.firstMet (fun i => ns.getD i 0) i).length = i → PyProof.Rows.firstMet (fun i => ns.getD i 0) i = ns.take i ∧ (ns.take i).Nodup
  | 0, _, _ => ⟨rfl, by rw [List.take_zero]; exact List.nodup_nil⟩
  | i + 1, hi, h => by
    have hlt : i < ns.length := hi
    have hle := PyProof.Rows.firstMet_length_le (fun i => ns.getD i 0) i
    have e1 : ns.getD i 0 = ns[i] := by rw [List.getD_eq_getElem?_getD, List.getElem?_eq_getElem hlt]; rfl
    have e2 : ns.take (i + 1) = ns.take i ++ [ns[i]] := by rw [List.take_add_one, List.getElem?_eq_getElem hlt]; rfl
    rw [PyProof.Rows.firstMet_succ] at h ⊢
    show PyProof.Rows.step_dedup _ (ns.getD i 0) = _ ∧ _
    replace h : (PyProof.Rows.step_dedup (PyProof.Rows.firstMet (fun i => ns.getD i 0) i) (ns.getD i 0)).length = i + 1 := h
    unfold PyProof.Rows.step_dedup at h ⊢
    split at h
    · omega
    · rename_i c
      rw [List.length_append] at h
      replace h : _ + 1 = i + 1 := h
      obtain ⟨f1, f2⟩ := firstMet_full ns i (Nat.le_of_lt hlt) (by omega)
      rw [f1] at c ⊢
      rw [if_neg c, e2, e1]
      refine ⟨rfl, List.nodup_append.mpr ⟨f2, by simp, fun x hx y hy e => ?_⟩⟩
      have hy : y = ns[i] := by simpa using hy
      exact c (List.any_eq_true.mpr ⟨x, hx, by rw [e, hy, e1]; exact beq_self_eq_true _⟩)
theorem firstMet_iff (ns : List Int) : (PyProof.Rows.firstMet (fun i => ns.getD i 0) ns.length).length = ns.length ↔ ns.Nodup := by
  constructor
  · intro h
    have := (firstMet_full ns ns.length (Nat.le_refl _) h).2
    rwa [List.take_length] at this
  · intro h
    rw [firstMet_nodup ns h ns.length (Nat.le_refl _), List.take_length]
def tLenSetJ (K : PySem.W.Frag) (ta : TE) : TE := fun σ H Q => ta σ H fun x H1 => ∃ (l : Addr) (ns : List Int), x = .ref l ∧ SqL K H1 l (ns.map V.int) ∧ ns.length ≤ 4000 ∧ ∀ m : Nat, m ≤ ns.length → (m = ns.length ↔ ns.Nodup) → Q (.int m) H1
theorem pe_lenSetJ {a : Expr} {ta : TE} {p p2 q : Pos} (hg : Gl X "len") (hm : X.mg "len" = none) (hg2 : Gl X "set") (hm2 : X.mg "set" = none) (ha : PE X a ta) (hc : X.calm = true)
    (na : starEach [a] X.env = (false, eval a X.env) :: starEach [] X.env := by rfl) : PE X (.Call (.Name "len" p) [.Call (.Name "set" p2) [a] [] q] [] pos) (tLenSetJ X.K ta) := by
  refine ⟨fun pins s σ H Q I h => ?_⟩
  refine Call_ (ld_blt I hg hm boot_len ?_)
  refine PyProof.Rows.callWith_builtin1 (PyProof.Rows.args_cons ?_ rfl) rfl rfl
  refine Call_ (ld_blt I hg2 hm2 PyProof.Rows.boot_set ?_)
  refine PyProof.Rows.callWith_type1 (PyProof.Rows.args_cons (thn (ha.run pins s σ H _ I h) fun v s1 ⟨x, H1, I1, r1, q1⟩ => PyProof.Rows.args_nil ?_) na) na rfl
  obtain ⟨l, ns, rfl, hq, hl, q1⟩ := q1
  cases r1
  obtain ⟨its, r, pl, hz⟩ := I1.list hq
  have hlen : its.toArray.size = ns.length := by rw [List.size_toArray, ← r.length, List.length_map]
  refine call_set_list (I1.ok.hd hc) pl.isList (by simpa using RZ.intsAre_vals r) (by rw [hlen]; unfold scanBound; omega) fun h' tk hS hk => ?_
  refine PyProof.Rows.args_nil ?_
  rw [hlen] at hS
  have hiff := firstMet_iff ns
  have hle := PyProof.Rows.firstMet_length_le (fun i => ns.getD i 0) ns.length
  obtain ⟨o, es, ep, t, ho, hex, hd, _, _, _, hf, hn⟩ := hS
  have I2 : Inv X pins σ H1 { s1 with heap := h', toks := tk } := I1.kept fun b o e => hk b o (Heap.lt_size e) e
  exact call_len_set ho hex hd hf (by rw [hn] <;> omega) ⟨.int (PyProof.Rows.firstMet (fun i => ns.getD i 0) ns.length).length, H1, I2.tok _, ⟨_, by rw [hn]⟩, q1 _ hle hiff⟩
def dLenSet (wa : WE) : WE := fun s Ks => wa s fun s1 x => ∃ ns : List Int, vw s1 x = some (.list (ns.map .int)) ∧ ns.length ≤ 4000 ∧ ∀ m : Nat, m ≤ ns.length → (m = ns.length ↔ ns.Nodup) → Ks s1 (.da (.int (m : Nat)))
theorem de_lenSet {a : Expr} {wa : WE} {p p2 q : Pos} (hc : X.calm = true) (hg : Gl X "len") (hm : X.mg "len" = none) (hg2 : Gl X "set") (hm2 : X.mg "set" = none) (ha : DE X a wa)
    (na : starEach [a] X.env = (false, eval a X.env) :: starEach [] X.env := by rfl) : DE X (.Call (.Name "len" p) [.Call (.Name "set" p2) [a] [] q] [] pos) (dLenSet wa) := by
  obtain ⟨ta, pa, qa⟩ := ha.ex
  refine ⟨_, pe_lenSetJ hg hm hg2 hm2 pa hc (na := na), fun b A own H σ s Ks Q R h k => ?_⟩
  refine qa _ _ _ _ _ _ _ _ R h fun A1 o1 H1 v1 s1 x1 R1 U1 E1 h1 => ?_
  obtain ⟨ns, hd, hl, h1⟩ := h1
  obtain ⟨l, us, rfl, l1, r1⟩ := vw_lst R1 E1 hd
  obtain rfl := RpL.ofInts r1
  exact ⟨l, ns, rfl, l1, hl, fun m hm hi => (k.up U1).da R1 Up.refl (.int _) (h1 m hm hi)⟩
end
end DL
namespace DL
open PySem L2 PySem.Spec PyProof.Rows
/-! ### sorted(set(xs)) of a list of ints -/
/-- a set just made -/
def eset (w : World) : Obj := { cls := .type "set", dict := none, data := .set #[] 0 (.fresh 0 0 (!w.params.followText "set-order")) }
section
variable {P : Program} {w : World} {A : Around} {E : Value → Shared → Prop} {s : Shared}
theorem set_of_list {l : Addr} {vs : Array Value} {ns : List Int} {Q : Value → Shared → Prop} (h0 : A.handled = none) (hl : s.heap.IsList l vs) (hv : IntsAre vs.toList ns) (hb : ns.length + 1 < scanBound)
    (k : ∀ (h' : Heap) (tk c : Nat), SetR w h' s.heap.objs.size (fun j => decide (j ∈ ns)) c → c ≤ ns.length → (∀ b o, s.heap.get? b = some o → h'.get? b = some o) → Q (.ref s.heap.objs.size) { s with heap := h', toks := tk }) :
    wpAny (model P w) A (call (.type "set") [.ref l]) Q E s := by
  have hsz : vs.size = ns.length := by rw [← Array.length_toList]; exact hv.length
  obtain ⟨c, tl, hmro⟩ := F.called_set.mro
  have m1 := F.called_set.made
  have m2 := F.called_set.sub
  refine wpAny_call (codeAny_of_tree ?_)
  show wpAny _ _ (callAny (.type "set") _) _ _ _
  refine wpAny_pure ⟨Code.quiet_builtin _ (by decide +kernel), codeAny_builtin F.entry_type_call ?_⟩
  rw [Around.under_plain (weight_type_call_type "set" [.ref l] []) rfl]
  have m3 := F.called_set.notType
  have m4 := F.called_set.canCreate
  have m5 := F.typeCall_set_1 (.ref l)
  repeat (any_goals (first | assumption | wp_step))
  refine codeAny_mono (code_set_led1 (.ref l) (E := E) (Q₁ := fun x t => x = .ref s.heap.objs.size ∧ t = { s with heap := s.heap.push (eset w) }) ⟨rfl, rfl⟩) fun r t hr => ?_
  cases r with
  | error e => exact hr
  | ok fl =>
    cases fl with
    | ret x =>
      obtain ⟨rfl, rfl⟩ := hr
      have g0 : (s.heap.push (eset w)).get? s.heap.objs.size = some (eset w) := Heap.get?_push_size _ rfl
      have gT : Shared.TypeIs { s with heap := s.heap.push (eset w) } (.ref s.heap.objs.size) "set" := ⟨_, g0, rfl⟩
      have i1 := F.called_set.init.lookup
      have i2 := F.called_set.init.bind (.ref s.heap.objs.size)
      repeat (any_goals (first | assumption | wp_step))
      refine codeAny_mono (codeAny_call_builtin (R := wants (fun r t => r = .none ∧ ∃ h' tk c, t = { s with heap := h', toks := tk } ∧ SetR w h' s.heap.objs.size (fun j => decide (j ∈ ns)) c ∧ c ≤ ns.length ∧
          (∀ b o, s.heap.get? b = some o → h'.get? b = some o)) E) F.called_set.init.plain F.entry_set_init (check_set_init_1 gT ?_)) fun r t hr => ?_
      · obtain ⟨⟨oc, od, oa, os⟩, ho, e1, nl, e2⟩ := hl
        simp only at e1 e2
        subst e1; subst e2
        have hlt : l < s.heap.objs.size := Heap.lt_size ho
        have ho2 : (s.heap.push (eset w)).get? l = some { cls := .type "list", dict := od, data := .seq vs nl, slots := os } := Heap.get?_push_of_some _ ho
        have u1 := F.sub_list_set
        have u2 := F.sub_list_frozenset
        have u3 : (Value.type "list" == Value.type "dict") = false := by decide
        have hl2 : (s.heap.push (eset w)).IsList l vs := ⟨_, ho2, rfl, nl, rfl⟩
        unfold Builtin.«set.__init__» noKeywords Builtin.Frozenset.updateFrom
        generalize hPI : pyIter = PI
        wp_walk
        subst hPI
        refine wpAny_pyIter_list hl2 ?_
        refine wpAny_bind (wpAny_runValue ?_)
        have z1 : (s.heap.push (eset w)).objs.size = s.heap.objs.size + 1 := Heap.size_push ..
        have n1 : l ≠ (s.heap.push (eset w)).objs.size := by rw [z1]; exact Nat.ne_of_lt (Nat.lt_succ_of_lt hlt)
        have n2 : s.heap.objs.size ∉ [(s.heap.push (eset w)).objs.size, l] := by
          intro z
          rcases List.mem_cons.mp z with z | z
          · exact absurd z (by rw [z1]; exact Nat.ne_of_lt (Nat.lt_succ_self _))
          · exact absurd (List.mem_singleton.mp z) (Nat.ne_of_gt hlt)
        refine set_update_ints ((Walks.list (by simp [h0]) _ l n1 vs).toS) s.heap.objs.size n2 ns hsz hb (fun i v hi => ?_) (vs.size - 0) 0 _ (by omega) (Nat.zero_le _) ⟨⟨_, Heap.get?_push_size _ rfl, rfl, rfl⟩, (hl2.push _)⟩ ?_ ?_
        · have hi2 : i < ns.length := by rw [← hsz]; exact (Array.getElem?_eq_some_iff.mp hi).1
          obtain ⟨t, e⟩ := PyProof.Rows.IntsAre.int_at hv i v (by rw [Array.getElem?_toList]; exact hi)
          exact ⟨ns[i], t, List.getElem?_eq_getElem hi2, by rw [e, List.getD_eq_getElem?_getD, List.getElem?_eq_getElem hi2]; rfl⟩
        · exact ⟨0, Nat.le_refl 0, setR_new_at (Heap.get?_push_of_some _ g0)⟩
        · rintro ⟨h', g', d', tk', os'⟩ c' hm hc hS
          have x1 : g' = s.gens := hm.gens
          have x2 : d' = s.drawn := hm.drawn
          have x3 : os' = s.os := hm.os
          subst x1; subst x2; subst x3
          show wpAny _ _ _ _ _ _
          refine wpAny_pure ?_
          show wpAny _ _ (ret Value.none) _ _ _
          refine wpAny_pure ⟨rfl, h', tk', c', rfl, hS, by rw [← hsz]; exact hc, fun b o e => ?_⟩
          have hb2 : b < s.heap.objs.size := Heap.lt_size e
          refine hm.heap b o (fun z => ?_) (Heap.get?_push_of_some _ (Heap.get?_push_of_some _ e))
          rcases List.mem_cons.mp z with z | z
          · exact absurd z (Nat.ne_of_lt hb2)
          · exact absurd (List.mem_singleton.mp z) (by rw [z1]; exact Nat.ne_of_lt (Nat.lt_succ_of_lt hb2))
      · cases r with
        | error e => exact hr
        | ok fl =>
          cases fl with
          | ret r =>
            obtain ⟨rfl, h', tk, c', rfl, y1, y2, y3⟩ := hr
            repeat (any_goals (first | assumption | wp_step))
            exact k _ _ _ y1 y2 y3
          | _ => exact hr.elim
    | _ => exact hr.elim
end
section
variable {X : L2.Cx}
def tSortSet (K : PySem.W.Frag) (ta : TE) : TE := fun σ H Q => ta σ H fun x H1 => ∃ (l : Addr) (ns : List Int), x = .ref l ∧ SqL K H1 l (ns.map V.int) ∧ ns.length < 64 ∧ ∀ (p : Addr) (out : List Int), out.Pairwise (· < ·) → (∀ k, k ∈ out ↔ k ∈ ns) → H1 p = none → Q (.ref p) (upd H1 p (.lst (out.map V.int)))
theorem pe_sortSet {a : Expr} {ta : TE} {p p2 q pos : Pos} (hc : X.calm = true) (hg : Gl X "sorted") (hm : X.mg "sorted" = none) (hg2 : Gl X "set") (hm2 : X.mg "set" = none) (ha : PE X a ta)
    (na : starEach [a] X.env = (false, eval a X.env) :: starEach [] X.env := by rfl) : PE X (.Call (.Name "sorted" p) [.Call (.Name "set" p2) [a] [] q] [] pos) (tSortSet X.K ta) := by
  refine ⟨fun pins s σ H Q I h => ?_⟩
  refine Call_ (ld_blt I hg hm (show bootBuiltins "sorted" = some (.builtin "sorted") by decide +kernel) ?_)
  refine PyProof.Rows.callWith_builtin1 (PyProof.Rows.args_cons ?_ rfl) rfl rfl
  refine Call_ (ld_blt I hg2 hm2 PyProof.Rows.boot_set ?_)
  refine PyProof.Rows.callWith_type1 (PyProof.Rows.args_cons (thn (ha.run pins s σ H _ I h) fun v s1 ⟨x, H1, I1, r1, q1⟩ => PyProof.Rows.args_nil ?_) na) na rfl
  obtain ⟨l, ns, rfl, hq, hl, q1⟩ := q1
  cases r1
  obtain ⟨its, r, pl, hz⟩ := I1.list hq
  have hlen : its.toArray.size = ns.length := by rw [List.size_toArray, ← r.length, List.length_map]
  refine set_of_list (I1.ok.hd hc) pl.isList (ns := ns) (by simpa using RZ.intsAre_vals r) (by unfold scanBound; omega) fun h' tk c R1 hcn hk => ?_
  refine PyProof.Rows.args_nil ?_
  refine sorted_set (s := { s1 with heap := h', toks := tk }) R1 (I1.ok.hd hc) (by omega) fun s' pp out cc os k1 g1 o1 hz1 hp hI hlt hmem hn => ?_
  have kall : ∀ b u, s1.heap.get? b = some u → s'.heap.get? b = some u := fun b u e => k1 b u (hk b u e)
  have hle : s1.heap.objs.size ≤ pp := Nat.le_trans (Nat.le_of_lt R1.lt) hz1
  have hlen2 : (os.map V.int).length ≤ sizeLine := by rw [List.length_map, hn, sizeLine_eq]; omega
  have hn0 : H1 pp = none := I1.hok.fresh hle
  have J : Inv X pins σ (upd H1 pp (.lst (os.map V.int))) s' := I1.call' (ch := []) o1 (Un.laid kall hle hn0) (I1.hok.laid kall hle ⟨hlen2, out.toList, cc, vals_of_ints hI, hp⟩) (by rw [g1]; exact I1.bare) (fun _ z => nomatch z)
  exact ⟨.ref pp, _, J, rfl, q1 pp os hlt (fun k => by rw [hmem k]; exact decide_eq_true_iff) hn0⟩
def dSortSet (wa : WE) : WE := fun s Ks => wa s fun s1 x => ∃ ns : List Int, vw s1 x = some (.list (ns.map .int)) ∧ ns.length < 64 ∧ ∀ out : List Int, out.Pairwise (· < ·) → (∀ k, k ∈ out ↔ k ∈ ns) → Ks s1 (.da (.list (out.map .int)))
theorem de_sortSet {a : Expr} {wa : WE} {p p2 q pos : Pos} (hc : X.calm = true) (hg : Gl X "sorted") (hm : X.mg "sorted" = none) (hg2 : Gl X "set") (hm2 : X.mg "set" = none) (ha : DE X a wa)
    (na : starEach [a] X.env = (false, eval a X.env) :: starEach [] X.env := by rfl) : DE X (.Call (.Name "sorted" p) [.Call (.Name "set" p2) [a] [] q] [] pos) (dSortSet wa) := by
  obtain ⟨ta, pa, qa⟩ := ha.ex
  refine ⟨_, pe_sortSet hc hg hm hg2 hm2 pa (na := na), fun b A own H σ s Ks Q R h k => ?_⟩
  refine qa _ _ _ _ _ _ _ _ R h fun A1 o1 H1 v1 s1 x1 R1 U1 E1 h1 => ?_
  obtain ⟨ns, hd, hl, h1⟩ := h1
  obtain ⟨l, us, rfl, l1, r1⟩ := vw_lst R1 E1 hd
  obtain rfl := RpL.ofInts r1
  refine ⟨l, ns, rfl, l1, hl, fun pp out ho hm3 hq => ?_⟩
  refine new_lst R1 (k.up U1) ?_ hq (h1 out ho hm3)
  exact RpL.ints
end
end DL
namespace DL
open PySem L2 PySem.Spec PyProof.Rows PySem.Froz
/-! ### sorted(set(xs)) of a list of texts -/
section
variable {P : Program} {w : World} {A : Around} {E : Value → Shared → Prop} {s : Shared}
/-- the set at a holds just the texts l, and can be walked -/
structure TxR (P : Program) (w : World) (h : Heap) (a : Addr) (l : List Str) : Prop where
  ex : ∃ D : SD, h.get? a = some (sObj "set" D) ∧ TxOk P w D l ∧ Ris D.2.2.place.toList ∧ (w.params.followText "set-order" = true ∨ D.2.2.led = true)
theorem TxR.at {h h' : Heap} {a : Addr} {l : List Str} (R : TxR P w h a l) (k : ∀ o, h.get? a = some o → h'.get? a = some o) : TxR P w h' a l := by
  obtain ⟨D, h1, h2⟩ := R.ex
  exact ⟨D, k _ h1, h2⟩
theorem add_had {a : Addr} {T : String} {D : SD} {l : List Str} {k : Str} {u : Tok} {Q : Bool → Shared → Prop} (ho : s.heap.get? a = some (sObj T D)) (F : TxOk P w D l) (hk : k ∈ l) (hb : l.length < scanBound)
    (h : Q false s) : wpAny (model P w) A (setAddHashed a (.str k u) (hashStr w k)) Q E s := by
  obtain ⟨es, ep, t⟩ := D
  have hd : (sObj T (es, ep, t)).data = .set es ep t := rfl
  have hf : t.fits es.size = true := F.fit
  have hel : ElemsOf (strKind P w) es.toList := F.el
  have hsz : es.size = l.length := F.sz
  have hb0 : es.size < scanBound := by omega
  have hkey : (strKind P w).is k (.str k u) = true := is_str k u
  unfold setAddHashed setAddHashedIn
  refine wpAny_holding (wpAny_bind (wpAny_setState_of ho hd hf ?_))
  dsimp only
  rw [byScan_of rfl hb0 hel]
  simp only [↓reduceIte]
  unfold setAddByScan
  refine wpAny_bind ?_
  refine wpAny_bind (wpAny_rule ?_)
  refine wpAny_bind (wpAny_setScan_of (knd := strKind P w) (k := k) hkey ho hd hf hel ?_)
  cases hr : List.findIdx? (fun e => (strKind P w).is k e.2) es.toList with
  | some j =>
    dsimp only
    exact wpAny_pure (wpAny_pure h)
  | none =>
    obtain ⟨e, he, q⟩ := (F.mem k).mp hk
    have c := List.findIdx?_eq_none_iff.mp hr e he
    rw [q] at c
    cases c
theorem tail_ris {ep : Nat} {es1 : Array (Int × Value)} {t2 : SetTable} {wd : Bool} (h : Ris t2.place.toList) : Ris (tailTx ep es1 t2 wd).2.2.place.toList := by
  unfold tailTx
  split
  · exact relayAll_ris t2 es1 _
  · exact h
theorem tail_led {ep : Nat} {es1 : Array (Int × Value)} {t2 : SetTable} {wd : Bool} : (tailTx ep es1 t2 wd).2.2.led = t2.led := by
  unfold tailTx
  split
  · exact relayAll_led t2 es1 _
  · rfl
theorem TxR.add {a : Addr} {l : List Str} {k : Str} {u : Tok} {Q : Bool → Shared → Prop} (R : TxR P w s.heap a l) (hb : l.length + 1 < scanBound)
    (h : ∀ h' b, Heap.SameBut a s.heap h' → TxR P w h' a (if k ∈ l then l else k :: l) → Q b { s with heap := h' }) : wpAny (model P w) A (setAddHashed a (.str k u) (hashStr w k)) Q E s := by
  obtain ⟨D, ho, F, r, ld⟩ := R.ex
  by_cases c : k ∈ l
  · refine add_had ho F c (by omega) ?_
    exact h s.heap false (Heap.SameBut.refl a s.heap) (by rw [if_pos c]; exact R)
  · refine add_x ho F c hb ?_
    refine h (s.heap.update a fun _ => sObj "set" (addTx (hashStr w k) (.str k u) D)) true (Heap.SameBut.update _ a _) ?_
    rw [if_neg c]
    refine ⟨_, get_upd _ ho rfl, add_ok u F, ?_, ?_⟩
    · unfold addTx
      refine tail_ris ?_
      have := layNew_ris D.2.2 D.1 (hashStr w k) (.str k u) r
      split <;> exact this
    · refine ld.imp id fun z => ?_
      unfold addTx
      rw [tail_led]
      have := layNew_led D.2.2 D.1 (hashStr w k) (.str k u)
      split <;> exact this.trans z
theorem txr_new_at {h : Heap} {a : Addr} (ho : h.get? a = some (eset w)) : TxR P w h a [] :=
  ⟨(#[], 0, .fresh 0 0 (!w.params.followText "set-order")), ho, TxOk.nil (by rfl), List.Pairwise.nil, by
    show _ ∨ (!w.params.followText "set-order") = true
    cases w.params.followText "set-order"
    · exact .inr rfl
    · exact .inl rfl⟩
theorem set_update_strs {I : Addr} {fp wr : List Addr} {G : Array GenState → Array GenState → Prop} {n : Nat} {Pv : Nat → Value → Prop} {St : Nat → Shared → Prop} {R : Result → Shared → Prop}
    (W : WalksS P w A.in1 I fp wr G n Pv St) (S : Addr) (hSf : S ∉ fp) (ns : List Str) (hn : n = ns.length) (hb : ns.length + 1 < scanBound) (hval : ∀ i v, Pv i v → ∃ k t, ns[i]? = some k ∧ v = .str k t) :
    ∀ (k i : Nat) (s : Shared), n - i = k → i ≤ n → St i s → (∃ l : List Str, l.length ≤ i ∧ l.Nodup ∧ TxR P w s.heap S l ∧ ∀ x, x ∈ l ↔ x ∈ ns.take i) →
      (∀ s' l, Moved (S :: wr) G s s' → l.length ≤ n → l.Nodup → TxR P w s'.heap S l → (∀ x, x ∈ l ↔ x ∈ ns) → R (.ok (.ret .none)) s') →
      codeAny (model P w) A (.builtin "set.update.loop" ⟨[.ref S, .ref I], []⟩) R s := by
  have hSw : S ∉ wr := fun h => hSf (W.sub _ h)
  have hsub : ∀ b ∈ wr, b ∈ S :: wr := fun b hb => List.mem_cons_of_mem _ hb
  intro k
  induction k with
  | zero =>
    intro i s hk' hi hst ⟨l, hl, nd, hS, hm⟩ hR
    have hin : i = n := by omega
    subst hin
    refine codeAny_builtin F.entry_set_update_loop ?_
    rw [Around.under_plainId F.plain_set_update_loop _]
    show wpAny _ A.in1 (pyNext (.ref I) >>= _) _ _ s
    refine wpAny_bind (W.done s _ _ hst fun s' hmv => ?_)
    show wpAny _ A.in1 (ret Value.none) _ _ s'
    have e : ns.take i = ns := List.take_of_length_le (by omega)
    rw [e] at hm
    exact wpAny_pure (hR s' l (hmv.mono hsub) hl nd (hS.at fun o e => hmv.heap S o hSw e) hm)
  | succ k ih =>
    intro i s hk' hi hst ⟨l, hl, nd, hS, hm⟩ hR
    have hlt : i < n := by omega
    refine codeAny_builtin F.entry_set_update_loop ?_
    rw [Around.under_plainId F.plain_set_update_loop _]
    show wpAny _ A.in1 (pyNext (.ref I) >>= _) _ _ s
    refine wpAny_bind (W.item i s _ _ hlt hst fun v s' hP hst' hmv => ?_)
    obtain ⟨z, t, hz, rfl⟩ := hval i v hP
    have hS' : TxR P w s'.heap S l := hS.at fun o e => hmv.heap S o hSw e
    show wpAny _ A.in1 (holding [Value.str z t] (setAdd S (.str z t)) >>= _) _ _ s'
    refine wpAny_bind (wpAny_holding ?_)
    unfold setAdd
    refine wpAny_holding ?_
    refine wpAny_bind ((strKind P w).pyHash (k := z) (is_str _ _) ?_)
    refine TxR.add (s := { s' with toks := s'.toks + 1 }) hS' (by omega) fun h' b hsb hS2 => ?_
    have hm3 : ∀ x, x ∈ (if z ∈ l then l else z :: l) ↔ x ∈ ns.take (i + 1) := fun x => by
      rw [List.take_add_one, hz]
      split
      · rename_i c
        rw [hm x, Option.toList_some, List.mem_append, List.mem_singleton]
        refine ⟨.inl, fun q => q.elim id fun e => ?_⟩
        rw [e]; exact (hm z).mp c
      · rw [Option.toList_some, List.mem_append, List.mem_singleton, List.mem_cons, hm x]
        exact ⟨fun q => q.elim .inr .inl, fun q => q.elim .inr .inl⟩
    have hl3 : (if z ∈ l then l else z :: l).length ≤ i + 1 := by
      split
      · omega
      · simp only [List.length_cons]; omega
    have nd3 : (if z ∈ l then l else z :: l).Nodup := by
      split
      · exact nd
      · rename_i c
        exact List.nodup_cons.mpr ⟨c, nd⟩
    refine wpAny_pure ⟨plainId_quiet F.plain_set_update_loop _, ih (i + 1) _ (by omega) hlt (W.frame _ s' _ _ hst' (Nat.le_succ _) fun b hb o e => ?_) ⟨_, hl3, nd3, hS2, hm3⟩ fun s'' l2 hm'' a1 a2 a3 a4 => ?_⟩
    · rw [hsb.2 b (fun h : b = S => hSf (by rw [← h]; exact hb))]; exact e
    · refine hR s'' l2 (Moved.trans W.gtrans ((hmv.mono hsub).then_heap (Nat.le_succ _) fun b o hb e => ?_) hm'') a1 a2 a3 a4
      rw [hsb.2 b (fun h : b = S => hb (by rw [h]; exact List.mem_cons_self))]; exact e
theorem set_of_listT {l : Addr} {vs : Array Value} {ns : List Str} {Q : Value → Shared → Prop} (h0 : A.handled = none) (hl : s.heap.IsList l vs) (hv : StrsAre vs.toList ns) (hb : ns.length + 1 < scanBound)
    (k : ∀ (h' : Heap) (tk : Nat) (m : List Str), TxR P w h' s.heap.objs.size m → m.length ≤ ns.length → m.Nodup → (∀ x, x ∈ m ↔ x ∈ ns) → (∀ b o, s.heap.get? b = some o → h'.get? b = some o) → Q (.ref s.heap.objs.size) { s with heap := h', toks := tk }) :
    wpAny (model P w) A (call (.type "set") [.ref l]) Q E s := by
  have hsz : vs.size = ns.length := by
    rw [← Array.length_toList]; exact hv.len_eq
  obtain ⟨c, tl, hmro⟩ := F.called_set.mro
  have m1 := F.called_set.made
  have m2 := F.called_set.sub
  refine wpAny_call (codeAny_of_tree ?_)
  show wpAny _ _ (callAny (.type "set") _) _ _ _
  refine wpAny_pure ⟨Code.quiet_builtin _ (by decide +kernel), codeAny_builtin F.entry_type_call ?_⟩
  rw [Around.under_plain (weight_type_call_type "set" [.ref l] []) rfl]
  have m3 := F.called_set.notType
  have m4 := F.called_set.canCreate
  have m5 := F.typeCall_set_1 (.ref l)
  repeat (any_goals (first | assumption | wp_step))
  refine codeAny_mono (code_set_led1 (.ref l) (E := E) (Q₁ := fun x t => x = .ref s.heap.objs.size ∧ t = { s with heap := s.heap.push (eset w) }) ⟨rfl, rfl⟩) fun r t hr => ?_
  cases r with
  | error e => exact hr
  | ok fl =>
    cases fl with
    | ret x =>
      obtain ⟨rfl, rfl⟩ := hr
      have g0 : (s.heap.push (eset w)).get? s.heap.objs.size = some (eset w) := Heap.get?_push_size _ rfl
      have gT : Shared.TypeIs { s with heap := s.heap.push (eset w) } (.ref s.heap.objs.size) "set" := ⟨_, g0, rfl⟩
      have i1 := F.called_set.init.lookup
      have i2 := F.called_set.init.bind (.ref s.heap.objs.size)
      repeat (any_goals (first | assumption | wp_step))
      refine codeAny_mono (codeAny_call_builtin (R := wants (fun r t => r = .none ∧ ∃ h' tk m, t = { s with heap := h', toks := tk } ∧ TxR P w h' s.heap.objs.size m ∧ m.length ≤ ns.length ∧ m.Nodup ∧ (∀ x, x ∈ m ↔ x ∈ ns) ∧
          (∀ b o, s.heap.get? b = some o → h'.get? b = some o)) E) F.called_set.init.plain F.entry_set_init (check_set_init_1 gT ?_)) fun r t hr => ?_
      · obtain ⟨⟨oc, od, oa, os⟩, ho, e1, nl, e2⟩ := hl
        simp only at e1 e2
        subst e1; subst e2
        have hlt : l < s.heap.objs.size := Heap.lt_size ho
        have ho2 : (s.heap.push (eset w)).get? l = some { cls := .type "list", dict := od, data := .seq vs nl, slots := os } := Heap.get?_push_of_some _ ho
        have u1 := F.sub_list_set
        have u2 := F.sub_list_frozenset
        have u3 : (Value.type "list" == Value.type "dict") = false := by decide
        have hl2 : (s.heap.push (eset w)).IsList l vs := ⟨_, ho2, rfl, nl, rfl⟩
        unfold Builtin.«set.__init__» noKeywords Builtin.Frozenset.updateFrom
        generalize hPI : pyIter = PI
        wp_walk
        subst hPI
        refine wpAny_pyIter_list hl2 ?_
        refine wpAny_bind (wpAny_runValue ?_)
        have z1 : (s.heap.push (eset w)).objs.size = s.heap.objs.size + 1 := Heap.size_push ..
        have n1 : l ≠ (s.heap.push (eset w)).objs.size := by rw [z1]; exact Nat.ne_of_lt (Nat.lt_succ_of_lt hlt)
        have n2 : s.heap.objs.size ∉ [(s.heap.push (eset w)).objs.size, l] := by
          intro z
          rcases List.mem_cons.mp z with z | z
          · exact absurd z (by rw [z1]; exact Nat.ne_of_lt (Nat.lt_succ_self _))
          · exact absurd (List.mem_singleton.mp z) (Nat.ne_of_gt hlt)
        refine set_update_strs ((Walks.list (by simp [h0]) _ l n1 vs).toS) s.heap.objs.size n2 ns hsz hb (fun i v hi => ?_) (vs.size - 0) 0 _ (by omega) (Nat.zero_le _) ⟨⟨_, Heap.get?_push_size _ rfl, rfl, rfl⟩, (hl2.push _)⟩ ?_ ?_
        · obtain ⟨y, t, e1, e2⟩ := StrsAre.item hv i v (by rw [Array.getElem?_toList]; exact hi)
          exact ⟨y, t, e2, e1⟩
        · exact ⟨[], Nat.le_refl 0, List.nodup_nil, txr_new_at (Heap.get?_push_of_some _ g0), fun x => by simp⟩
        · rintro ⟨h', g', d', tk', os'⟩ m hm hc hS b1 b2
          have x1 : g' = s.gens := hm.gens
          have x2 : d' = s.drawn := hm.drawn
          have x3 : os' = s.os := hm.os
          subst x1; subst x2; subst x3
          show wpAny _ _ _ _ _ _
          refine wpAny_pure ?_
          show wpAny _ _ (ret Value.none) _ _ _
          refine wpAny_pure ⟨rfl, h', tk', m, rfl, b1, by rw [← hsz]; exact hc, hS, b2, fun b o e => ?_⟩
          have hb2 : b < s.heap.objs.size := Heap.lt_size e
          refine hm.heap b o (fun z => ?_) (Heap.get?_push_of_some _ (Heap.get?_push_of_some _ e))
          rcases List.mem_cons.mp z with z | z
          · exact absurd z (Nat.ne_of_lt hb2)
          · exact absurd (List.mem_singleton.mp z) (by rw [z1]; exact Nat.ne_of_lt (Nat.lt_succ_of_lt hb2))
      · cases r with
        | error e => exact hr
        | ok fl =>
          cases fl with
          | ret r =>
            obtain ⟨rfl, h', tk, c', rfl, y1, y2, y3, y4, y5⟩ := hr
            repeat (any_goals (first | assumption | wp_step))
            exact k _ _ _ y1 y2 y3 y4 y5
          | _ => exact hr.elim
    | _ => exact hr.elim
theorem perm_of_sub : ∀ {l m : List Str}, l.Nodup → (∀ x, x ∈ l → x ∈ m) → m.length = l.length → m.Perm l
  | [], m, _, _, h => by rw [List.eq_nil_of_length_eq_zero h]
  | x :: l, m, nd, hs, h => by
    obtain ⟨n1, n2⟩ := List.nodup_cons.mp nd
    have hx := hs x List.mem_cons_self
    have p := List.perm_cons_erase hx
    refine p.trans (List.Perm.cons x (perm_of_sub n2 (fun y hy => ?_) ?_))
    · exact (List.mem_erase_of_ne (fun z => n1 (by rw [← z]; exact hy))).mpr (hs y (List.mem_cons_of_mem _ hy))
    · rw [List.length_erase_of_mem hx, h]; rfl
def strOf : Value → Str
  | .str x _ => x
  | _ => Str.empty
theorem strs_of : ∀ (l : List Value), (∀ v ∈ l, ∃ k tk, v = Value.str k tk) → StrsAre l (l.map strOf)
  | [], _ => .nil
  | v :: l, h => by
    obtain ⟨k, tk, rfl⟩ := h v List.mem_cons_self
    exact .cons k tk (strs_of l fun u hu => h u (List.mem_cons_of_mem _ hu))
theorem sorted_setT {a : Addr} {l : List Str} {Q : Value → Shared → Prop} (R : TxR P w s.heap a l) (nd : l.Nodup) (hh : A.handled = none) (h64 : l.length < 64)
    (hQ : ∀ s' p (out : Array Value) (c : Nat) (ns : List Str), (∀ b o, s.heap.get? b = some o → s'.heap.get? b = some o) → s'.gens = s.gens → s'.os = s.os → s.heap.objs.size ≤ p →
      s'.heap.get? p = some (seqObj "list" out c) → StrsAre out.toList ns → sortedS ns = true → ns.Perm l → Q (.ref p) s') :
    wpAny (model P w) A (call (.builtin "sorted") [.ref a]) Q E s := by
  obtain ⟨⟨es, ep, t⟩, ho, F, hr, hl⟩ := R.ex
  have hsz : es.size = l.length := F.sz
  refine Calls.call_function_entry kind_sorted plain_sorted entry_sorted (args_sorted1 _) ?_
  unfold Builtin.«sorted»
  refine wpAny_bind (m := checkCount "sorted" 1 1 _) (wpAny_pure ?_)
  refine wpAny_bind (collect_set (A := A.in1) hh ⟨_, ho, rfl, rfl⟩ F.fit (by show es.size < 4096; omega) hr hl fun s1 vs k1 hz g1 o1 pm => ?_)
  have hvl : vs.length = l.length := by rw [pm.length_eq, List.length_map, Array.length_toList]; exact hsz
  have hel : ∀ e ∈ es.toList, ∃ k tk, e.2 = Value.str k tk := fun e he => by
    obtain ⟨⟨k, hk, _⟩, _⟩ := F.el e he
    obtain ⟨tk, ev⟩ := Value.isStrOf_shape (x := k) (v := e.2) hk
    exact ⟨k, tk, ev⟩
  have hI : StrsAre vs (vs.map strOf) := strs_of vs fun v hv => by
    obtain ⟨e, he, q⟩ := List.mem_map.mp (pm.mem_iff.mp hv)
    rw [← q]; exact hel e he
  have pk : (vs.map strOf).Perm l := by
    refine perm_of_sub nd (fun x hx => ?_) (by rw [List.length_map]; exact hvl)
    obtain ⟨e, he, q⟩ := (F.mem x).mp hx
    obtain ⟨tk, ev⟩ := Value.isStrOf_shape (x := x) (v := e.2) q
    exact List.mem_map.mpr ⟨e.2, pm.mem_iff.mpr (List.mem_map.mpr ⟨e, he, rfl⟩), by rw [ev]; rfl⟩
  refine wpAny_bind (wpAny_newList ?_ (by rw [hvl, sizeLine_eq]; omega))
  have hoL : (s1.heap.push (seqObj "list" vs.toArray 0)).get? s1.heap.objs.size = some (seqObj "list" vs.toArray 0) := Heap.get?_push_size _ rfl
  refine wpAny_bind (wpAny_holding (wpAny_call_entry slot_list_sort ⟨_, hoL, rfl⟩ entry_list_sort
    (list_sort_treeK strKind_oneLt hoL hI.keysOf (fun v₁ v₂ rest e => keyKind_strs (by rw [← e]; exact hI)) (by rw [hvl]; exact h64) fun st' hp hs => ⟨_, rfl, ?_⟩) (args_list_sort _)))
  obtain ⟨ys, q1, q2, q3⟩ := sorted_out_str hI hp hs
  obtain ⟨c, hc⟩ := sortedHeap_at (vs := vs) (out := (arrOf st').map (·.2)) hoL
  refine wpAny_pure ⟨_, rfl, hQ _ s1.heap.objs.size _ c ys (fun b u e => ?_) g1 o1 hz hc q1 q3 (q2.trans pk)⟩
  have q := k1 b u e
  have hlt := Heap.lt_size q
  show (sortedHeap (s1.heap.push (seqObj "list" vs.toArray 0)) s1.heap.objs.size vs _).get? b = some u
  rw [sortedHeap_old (Nat.ne_of_lt hlt) (by rw [size_push']; exact Nat.lt_succ_of_lt hlt)]
  exact Heap.get?_push_of_some _ q
end
section
variable {X : L2.Cx}
def tSortSetT (K : PySem.W.Frag) (ta : TE) : TE := fun σ H Q => ta σ H fun x H1 => ∃ (l : Addr) (ns : List Str), x = .ref l ∧ SqL K H1 l (ns.map V.str) ∧ ns.length < 64 ∧ ∀ (p : Addr) (out : List Str), sortedS out = true → out.Nodup → (∀ k, k ∈ out ↔ k ∈ ns) → H1 p = none → Q (.ref p) (upd H1 p (.lst (out.map V.str)))
theorem pe_sortSetT {a : Expr} {ta : TE} {p p2 q pos : Pos} (hc : X.calm = true) (hg : Gl X "sorted") (hm : X.mg "sorted" = none) (hg2 : Gl X "set") (hm2 : X.mg "set" = none) (ha : PE X a ta)
    (na : starEach [a] X.env = (false, eval a X.env) :: starEach [] X.env := by rfl) : PE X (.Call (.Name "sorted" p) [.Call (.Name "set" p2) [a] [] q] [] pos) (tSortSetT X.K ta) := by
  refine ⟨fun pins s σ H Q I h => ?_⟩
  refine Call_ (ld_blt I hg hm (show bootBuiltins "sorted" = some (.builtin "sorted") by decide +kernel) ?_)
  refine PyProof.Rows.callWith_builtin1 (PyProof.Rows.args_cons ?_ rfl) rfl rfl
  refine Call_ (ld_blt I hg2 hm2 PyProof.Rows.boot_set ?_)
  refine PyProof.Rows.callWith_type1 (PyProof.Rows.args_cons (thn (ha.run pins s σ H _ I h) fun v s1 ⟨x, H1, I1, r1, q1⟩ => PyProof.Rows.args_nil ?_) na) na rfl
  obtain ⟨l, ns, rfl, hq, hl, q1⟩ := q1
  cases r1
  obtain ⟨its, r, pl, hz⟩ := I1.list hq
  have hlen : its.toArray.size = ns.length := by rw [List.size_toArray, ← r.length, List.length_map]
  refine set_of_listT (P := X.prog) (w := X.w) (I1.ok.hd hc) pl.isList (ns := ns) (by simpa using r.strs) (by unfold scanBound; omega) fun h' tk m R1 hcn nd hmm hk => ?_
  refine PyProof.Rows.args_nil ?_
  refine sorted_setT (s := { s1 with heap := h', toks := tk }) R1 nd (I1.ok.hd hc) (by omega) fun s' pp out cc os k1 g1 o1 hz1 hp hI hst hpm => ?_
  have kall : ∀ b u, s1.heap.get? b = some u → s'.heap.get? b = some u := fun b u e => k1 b u (hk b u e)
  have hlt : s1.heap.objs.size < h'.objs.size := by
    obtain ⟨D, ho, _⟩ := R1.ex
    exact Heap.lt_size ho
  have hle : s1.heap.objs.size ≤ pp := Nat.le_trans (Nat.le_of_lt hlt) hz1
  have hlen2 : (os.map V.str).length ≤ sizeLine := by rw [List.length_map, hpm.length_eq, sizeLine_eq]; omega
  have hn0 : H1 pp = none := I1.hok.fresh hle
  have J : Inv X pins σ (upd H1 pp (.lst (os.map V.str))) s' := I1.call' (ch := []) o1 (Un.laid kall hle hn0) (I1.hok.laid kall hle ⟨hlen2, out.toList, cc, vals_of_strs hI, hp⟩) (by rw [g1]; exact I1.bare) (fun _ z => nomatch z)
  exact ⟨.ref pp, _, J, rfl, q1 pp os hst (hpm.nodup_iff.mpr nd) (fun k => by rw [hpm.mem_iff]; exact hmm k) hn0⟩
def dSortSetT (wa : WE) : WE := fun s Ks => wa s fun s1 x => ∃ ns : List Str, vw s1 x = some (.list (ns.map .str)) ∧ ns.length < 64 ∧ ∀ out : List Str, sortedS out = true → out.Nodup → (∀ k, k ∈ out ↔ k ∈ ns) → Ks s1 (.da (.list (out.map .str)))
theorem de_sortSetT {a : Expr} {wa : WE} {p p2 q pos : Pos} (hc : X.calm = true) (hg : Gl X "sorted") (hm : X.mg "sorted" = none) (hg2 : Gl X "set") (hm2 : X.mg "set" = none) (ha : DE X a wa)
    (na : starEach [a] X.env = (false, eval a X.env) :: starEach [] X.env := by rfl) : DE X (.Call (.Name "sorted" p) [.Call (.Name "set" p2) [a] [] q] [] pos) (dSortSetT wa) := by
  obtain ⟨ta, pa, qa⟩ := ha.ex
  refine ⟨_, pe_sortSetT hc hg hm hg2 hm2 pa (na := na), fun b A own H σ s Ks Q R h k => ?_⟩
  refine qa _ _ _ _ _ _ _ _ R h fun A1 o1 H1 v1 s1 x1 R1 U1 E1 h1 => ?_
  obtain ⟨ns, hd, hl, h1⟩ := h1
  obtain ⟨l, us, rfl, l1, r1⟩ := vw_lst R1 E1 hd
  obtain rfl := RpL.ofStrs r1
  refine ⟨l, ns, rfl, l1, hl, fun pp out ho nd hm3 hq => ?_⟩
  refine new_lst R1 (k.up U1) ?_ hq (h1 out ho nd hm3)
  exact RpL.strs
end
end DL
set_option exponentiation.threshold 9000
namespace K64
open PySem L2 PySem.Spec PyProof.Rows DL
def topS (i : Nat) : Stmt := PySem.Challenge.pw_strengthbond_k64_brought_down.main.body.getD i (.Pass ⟨0, 0, 0, 0⟩)
abbrev s_lacks_of : Stmt := topS 1
abbrev s_owed_by : Stmt := topS 2
abbrev s_owed_of : Stmt := topS 3
abbrev s_next_failing : Stmt := topS 4
abbrev s_falls : Stmt := topS 5
abbrev s_unpaid_of : Stmt := topS 6
abbrev s_owed_rows : Stmt := topS 7
abbrev s_unpaid_rows : Stmt := topS 8
abbrev s_fallen : Stmt := topS 9
abbrev s_brought_down : Stmt := topS 10
abbrev s_begin : Stmt := topS 12
abbrev s_take : Stmt := topS 13
abbrev s_same : Stmt := topS 14
abbrev s_number : Stmt := topS 15
abbrev s_given : Stmt := topS 16
abbrev s_houses_by : Stmt := topS 17
abbrev s_coins_by : Stmt := topS 18
abbrev s_bonds_by : Stmt := topS 19
abbrev s_each_owes : Stmt := topS 20
abbrev s_owed : Stmt := topS 21
abbrev s_all_failing : Stmt := topS 22
abbrev s_law : Stmt := topS 23
theorem sc_lacks_of : FnScope ["houses", "failing", "lacks", "house", "deposit", "need"] ["houses", "failing"] (defScope s_lacks_of) := ⟨rfl, rfl, rfl, by decide +kernel, rfl, by decide +kernel, by decide +kernel⟩
theorem sc_owed_by : FnScope ["houses", "bonds", "failing", "left", "coins", "surety", "house", "most", "owes"] ["houses", "bonds", "failing"] (defScope s_owed_by) := ⟨rfl, rfl, rfl, by decide +kernel, rfl, by decide +kernel, by decide +kernel⟩
theorem sc_owed_of : FnScope ["houses", "bonds", "failing", "house", "coins", "bond", "owes"] ["houses", "bonds", "failing", "house"] (defScope s_owed_of) := ⟨rfl, rfl, rfl, by decide +kernel, rfl, by decide +kernel, by decide +kernel⟩
theorem sc_next_failing : FnScope ["houses", "bonds", "failing", "house", "deposit", "need", "owes"] ["houses", "bonds", "failing"] (defScope s_next_failing) := ⟨rfl, rfl, rfl, by decide +kernel, rfl, by decide +kernel, by decide +kernel⟩
theorem sc_falls : FnScope ["houses", "bonds", "first", "failing", "order", "one", "house"] ["houses", "bonds", "first"] (defScope s_falls) := ⟨rfl, rfl, rfl, by decide +kernel, rfl, by decide +kernel, by decide +kernel⟩
theorem sc_unpaid_of : FnScope ["houses", "bonds", "failing", "house", "coins", "owes", "bond", "part"] ["houses", "bonds", "failing", "house"] (defScope s_unpaid_of) := ⟨rfl, rfl, rfl, by decide +kernel, rfl, by decide +kernel, by decide +kernel⟩
theorem sc_owed_rows : FnScope ["houses", "bonds", "failing", "names", "house", "deposit", "need"] ["houses", "bonds", "failing"] (defScope s_owed_rows) := ⟨rfl, rfl, rfl, by decide +kernel, rfl, by decide +kernel, by decide +kernel⟩
theorem sc_unpaid_rows : FnScope ["houses", "bonds", "failing", "names", "house", "deposit", "need"] ["houses", "bonds", "failing"] (defScope s_unpaid_rows) := ⟨rfl, rfl, rfl, by decide +kernel, rfl, by decide +kernel, by decide +kernel⟩
theorem sc_fallen : FnScope ["houses", "bonds", "first", "order", "failing"] ["houses", "bonds", "first"] (defScope s_fallen) := ⟨rfl, rfl, rfl, by decide +kernel, rfl, by decide +kernel, by decide +kernel⟩
theorem sc_brought_down : FnScope ["houses", "bonds", "house", "order", "failing", "name", "deposit", "need"] ["houses", "bonds", "house"] (defScope s_brought_down) := ⟨rfl, rfl, rfl, by decide +kernel, rfl, by decide +kernel, by decide +kernel⟩
theorem sc_begin : FnScope ["_law_script", "_law_cells"] ["_law_script"] (defScope s_begin) := ⟨rfl, rfl, rfl, by decide +kernel, rfl, by decide +kernel, by decide +kernel⟩
theorem sc_take : FnScope ["_law_state", "_law_many", "_law_turn", "_law_place", "_law_cell", "_law_digit", "_law_mixed"] ["_law_state", "_law_many"] (defScope s_take) := ⟨rfl, rfl, rfl, by decide +kernel, rfl, by decide +kernel, by decide +kernel⟩
theorem sc_same : FnScope ["_law_found", "_law_due", "_law_one", "_law_other"] ["_law_found", "_law_due"] (defScope s_same) := ⟨rfl, rfl, rfl, by decide +kernel, rfl, by decide +kernel, by decide +kernel⟩
theorem sc_number : FnScope ["_law_state", "_law_sort", "_law_number_here", "_law_turn"] ["_law_state", "_law_sort"] (defScope s_number) := ⟨rfl, rfl, rfl, by decide +kernel, rfl, by decide +kernel, by decide +kernel⟩
theorem sc_given : FnScope ["_law_state", "_law_rows"] ["_law_state", "_law_rows"] (defScope s_given) := ⟨rfl, rfl, rfl, by decide +kernel, rfl, by decide +kernel, by decide +kernel⟩
theorem sc_houses_by : FnScope ["_law_state", "_law_many", "_law_sort", "_law_letters", "_law_word", "_law_turn", "_law_first", "_law_houses", "_law_name"] ["_law_state", "_law_many", "_law_sort"] (defScope s_houses_by) := ⟨rfl, rfl, rfl, by decide +kernel, rfl, by decide +kernel, by decide +kernel⟩
theorem sc_coins_by : FnScope ["_law_state", "_law_sort"] ["_law_state", "_law_sort"] (defScope s_coins_by) := ⟨rfl, rfl, rfl, by decide +kernel, rfl, by decide +kernel, by decide +kernel⟩
theorem sc_bonds_by : FnScope ["_law_state", "_law_houses", "_law_many", "_law_sort", "_law_bonds", "_law_turn", "_law_one", "_law_other"] ["_law_state", "_law_houses", "_law_many", "_law_sort"] (defScope s_bonds_by) := ⟨rfl, rfl, rfl, by decide +kernel, rfl, by decide +kernel, by decide +kernel⟩
theorem sc_each_owes : FnScope ["_law_houses", "_law_bonds", "_law_failing", "_law_left", "_law_house", "_law_deposit", "_law_need", "_law_owes", "_law_surety", "_law_most", "_law_part"] ["_law_houses", "_law_bonds", "_law_failing"] (defScope s_each_owes) := ⟨rfl, rfl, rfl, by decide +kernel, rfl, by decide +kernel, by decide +kernel⟩
theorem sc_owed : FnScope ["_law_houses", "_law_bonds", "_law_failing", "_law_house", "_law_bond", "_law_part"] ["_law_houses", "_law_bonds", "_law_failing", "_law_house"] (defScope s_owed) := ⟨rfl, rfl, rfl, by decide +kernel, rfl, by decide +kernel, by decide +kernel⟩
theorem sc_all_failing : FnScope ["_law_houses", "_law_bonds", "_law_first", "_law_failing", "_law_turn", "_law_more", "_law_house", "_law_deposit", "_law_need"] ["_law_houses", "_law_bonds", "_law_first"] (defScope s_all_failing) := ⟨rfl, rfl, rfl, by decide +kernel, rfl, by decide +kernel, by decide +kernel⟩
theorem sc_law : FnScope ["_law_script", "_law_state", "_law_turn", "_law_sort", "_law_houses", "_law_bonds", "_law_handed", "_law_lists", "_law_house", "_law_deposit", "_law_need", "_law_failing", "_law_due", "_law_found", "_law_told", "_law_one", "_law_other", "_law_both", "_law_name", "_law_coins", "_law_own", "_law_much", "_law_part"] ["_law_script"] (defScope s_law) := ⟨rfl, rfl, rfl, by decide +kernel, rfl, by decide +kernel, by decide +kernel⟩
/-- what the top has written -/
structure Tx (K : PySem.W.Frag) (mg : Str → Option Value) : Prop where
  d_lacks_of : ∃ f fd, At K mg "lacks_of" s_lacks_of ["houses", "failing"] f fd
  d_owed_by : ∃ f fd, At K mg "owed_by" s_owed_by ["houses", "bonds", "failing"] f fd
  d_owed_of : ∃ f fd, At K mg "owed_of" s_owed_of ["houses", "bonds", "failing", "house"] f fd
  d_next_failing : ∃ f fd, At K mg "next_failing" s_next_failing ["houses", "bonds", "failing"] f fd
  d_falls : ∃ f fd, At K mg "falls" s_falls ["houses", "bonds", "first"] f fd
  d_unpaid_of : ∃ f fd, At K mg "unpaid_of" s_unpaid_of ["houses", "bonds", "failing", "house"] f fd
  d_owed_rows : ∃ f fd, At K mg "owed_rows" s_owed_rows ["houses", "bonds", "failing"] f fd
  d_unpaid_rows : ∃ f fd, At K mg "unpaid_rows" s_unpaid_rows ["houses", "bonds", "failing"] f fd
  d_fallen : ∃ f fd, At K mg "fallen" s_fallen ["houses", "bonds", "first"] f fd
  d_brought_down : ∃ f fd, At K mg "brought_down" s_brought_down ["houses", "bonds", "house"] f fd
  d_begin : ∃ f fd, At K mg "_law_begin" s_begin ["_law_script"] f fd
  d_take : ∃ f fd, At K mg "_law_take" s_take ["_law_state", "_law_many"] f fd
  d_same : ∃ f fd, At K mg "_law_same" s_same ["_law_found", "_law_due"] f fd
  d_number : ∃ f fd, At K mg "_law_number" s_number ["_law_state", "_law_sort"] f fd
  d_given : ∃ f fd, At K mg "_law_given" s_given ["_law_state", "_law_rows"] f fd
  d_houses_by : ∃ f fd, At K mg "_law_houses_by" s_houses_by ["_law_state", "_law_many", "_law_sort"] f fd
  d_coins_by : ∃ f fd, At K mg "_law_coins_by" s_coins_by ["_law_state", "_law_sort"] f fd
  d_bonds_by : ∃ f fd, At K mg "_law_bonds_by" s_bonds_by ["_law_state", "_law_houses", "_law_many", "_law_sort"] f fd
  d_each_owes : ∃ f fd, At K mg "_law_each_owes" s_each_owes ["_law_houses", "_law_bonds", "_law_failing"] f fd
  d_owed : ∃ f fd, At K mg "_law_owed" s_owed ["_law_houses", "_law_bonds", "_law_failing", "_law_house"] f fd
  d_all_failing : ∃ f fd, At K mg "_law_all_failing" s_all_failing ["_law_houses", "_law_bonds", "_law_first"] f fd
  b_all : mg "all" = none
  b_bool : mg "bool" = none
  b_dict : mg "dict" = none
  b_divmod : mg "divmod" = none
  b_int : mg "int" = none
  b_isinstance : mg "isinstance" = none
  b_len : mg "len" = none
  b_list : mg "list" = none
  b_max : mg "max" = none
  b_min : mg "min" = none
  b_range : mg "range" = none
  b_set : mg "set" = none
  b_sorted : mg "sorted" = none
  b_str : mg "str" = none
  b_sum : mg "sum" = none
  b_tuple : mg "tuple" = none
  b_zip : mg "zip" = none
abbrev Hs := Str × Int × Int
abbrev Bn := Str × Str × Int
def hsD (a : Hs) : D := .tuple [.str a.1, .int a.2.1, .int a.2.2]
def bnD (a : Bn) : D := .tuple [.str a.1, .str a.2.1, .int a.2.2]
def getI (kis : List (Key × Int)) (k : Key) : Int := ((kis.find? fun z => decide (z.1 = k)).map (·.2)).getD 0
def putI (kis : List (Key × Int)) (k : Key) (v : Int) : List (Key × Int) := if (kis.any fun z => decide (z.1 = k)) = true then kis.map (fun z => if z.1 = k then (z.1, v) else z) else kis ++ [(k, v)]
theorem find_dctI {kis : List (Key × Int)} {k : Key} : findD (dctI kis) k = ((kis.find? fun z => decide (z.1 = k)).map (·.2)).map PyData.int := by
  unfold findD dctI
  induction kis with
  | nil => rfl
  | cons z r ih =>
    rw [List.map_cons, List.find?_cons, List.find?_cons]
    by_cases h : z.1 = k
    · simp [h]
    · simp only [h, decide_false]
      exact ih
theorem put_dctI {kis : List (Key × Int)} {k : Key} {v : Int} : putD (dctI kis) k (.int v) = dctI (putI kis k v) := by
  unfold putD putI dctI
  have h : ((kis.map fun z => (z.1, PyData.int z.2)).any fun kv => decide (kv.1 = k)) = kis.any fun z => decide (z.1 = k) := by rw [List.any_map]; rfl
  rw [h]
  split
  · rw [List.map_map, List.map_map]
    refine List.map_congr_left fun z _ => ?_
    show (if z.1 = k then (z.1, PyData.int v) else (z.1, PyData.int z.2)) = _
    by_cases h : z.1 = k
    · simp [h]
    · simp [h]
  · rw [List.map_append]; rfl
theorem put_len (kis : List (Key × Int)) (k : Key) (v : Int) : (putI kis k v).length ≤ kis.length + 1 := by
  unfold putI
  split
  · rw [List.length_map]; omega
  · rw [List.length_append]; exact Nat.le_refl _
theorem has_put {kis : List (Key × Int)} {k k' : Key} {v : Int} : ((putI kis k v).any fun z => decide (z.1 = k')) = (decide (k = k') || kis.any fun z => decide (z.1 = k')) := by
  unfold putI
  split
  · rename_i h
    rw [List.any_map]
    by_cases e : k = k'
    · subst e
      rw [decide_eq_true rfl, Bool.true_or, ← h]
      congr 1
      funext z
      by_cases q : z.1 = k <;> simp [q]
    · rw [decide_eq_false e, Bool.false_or]
      congr 1
      funext z
      by_cases q : z.1 = k
      · simp [q]
      · simp [q]
  · rw [List.any_append]
    simp only [List.any_cons, List.any_nil, Bool.or_false]
    rw [Bool.or_comm]
theorem has_find {kis : List (Key × Int)} {k : Key} (h : (kis.any fun z => decide (z.1 = k)) = true) : findD (dctI kis) k = some (.int (getI kis k)) := by
  rw [find_dctI]
  unfold getI
  cases q : kis.find? fun z => decide (z.1 = k) with
  | some z => rfl
  | none =>
    obtain ⟨z, hz, hk⟩ := List.any_eq_true.mp h
    exact absurd hk (by simpa using List.find?_eq_none.mp q z hz)
theorem take_snoc {α : Type} {l : List α} {i : Nat} {x : α} (h : l[i]? = some x) : l.take (i + 1) = l.take i ++ [x] := by
  rw [List.take_add_one, h]; rfl
theorem map_get {α : Type} {f : α → D} {l : List α} {i : Nat} {d : D} (h : (l.map f)[i]? = some d) : ∃ a, l[i]? = some a ∧ d = f a := by
  rw [List.getElem?_map] at h
  cases q : l[i]? with
  | none => rw [q] at h; cases h
  | some a => rw [q] at h; exact ⟨a, rfl, (Option.some.inj h).symm⟩
/-- all that fail, as a dict -/
def inF (kvs : List (Key × D)) (x : Str) : Bool := (findD kvs (.inr x)).isSome
def lack1 (P : Str → Bool) (h : Hs) : Int := if P h.1 = true then max 0 (h.2.2 - h.2.1) else 0
def lacks (P : Str → Bool) (hs : List Hs) : List (Key × Int) := hs.foldl (fun acc h => putI acc (.inr h.1) (lack1 P h)) []
theorem lacks_snoc {P : Str → Bool} {hs : List Hs} {h : Hs} : lacks P (hs ++ [h]) = putI (lacks P hs) (.inr h.1) (lack1 P h) := by
  unfold lacks
  rw [List.foldl_append]
  rfl
theorem lacks_len {P : Str → Bool} (hs : List Hs) (i : Nat) : (lacks P (hs.take i)).length ≤ i := by
  induction i with
  | zero => exact Nat.zero_le _
  | succ i ih =>
    cases q : hs[i]? with
    | none =>
      have e : hs.take (i + 1) = hs.take i := by rw [List.take_add_one, q]; simp
      rw [e]; omega
    | some h =>
      rw [take_snoc q, lacks_snoc]
      have := put_len (lacks P (hs.take i)) (.inr h.1) (lack1 P h)
      omega
def part1 (P : Str → Bool) (kis : List (Key × Int)) (b : Bn) : Int := if P b.1 = true then 0 else min b.2.2 (getI kis (.inr b.2.1))
def left1 (P : Str → Bool) (kis : List (Key × Int)) (b : Bn) : List (Key × Int) := putI kis (.inr b.2.1) (getI kis (.inr b.2.1) - part1 P kis b)
/-- what is left behind some bonds, and what each owes -/
def run (P : Str → Bool) (kis : List (Key × Int)) (bs : List Bn) : List (Key × Int) × List Int := bs.foldl (fun acc b => (left1 P acc.1 b, acc.2 ++ [part1 P acc.1 b])) (kis, [])
theorem run_snoc {P : Str → Bool} {kis : List (Key × Int)} {bs : List Bn} {b : Bn} : run P kis (bs ++ [b]) = (left1 P (run P kis bs).1 b, (run P kis bs).2 ++ [part1 P (run P kis bs).1 b]) := by
  unfold run
  rw [List.foldl_append]
  rfl
def owes (P : Str → Bool) (hs : List Hs) (bs : List Bn) : List Int := (run P (lacks P hs) bs).2
theorem run_len {P : Str → Bool} {kis : List (Key × Int)} (bs : List Bn) (i : Nat) (hi : i ≤ bs.length) : (run P kis (bs.take i)).2.length = i ∧ (run P kis (bs.take i)).1.length ≤ kis.length + i := by
  induction i with
  | zero => exact ⟨rfl, Nat.le_refl _⟩
  | succ i ih =>
    obtain ⟨h1, h2⟩ := ih (by omega)
    have q : bs[i]? = some bs[i] := List.getElem?_eq_getElem (by omega)
    rw [take_snoc q, run_snoc]
    refine ⟨by rw [List.length_append, h1]; rfl, ?_⟩
    have := put_len (run P kis (bs.take i)).1 (.inr bs[i].2.1) (getI (run P kis (bs.take i)).1 (.inr bs[i].2.1) - part1 P (run P kis (bs.take i)).1 bs[i])
    unfold left1
    show (putI _ _ _).length ≤ _
    omega
theorem lacks_has {P : Str → Bool} {hs : List Hs} {h : Hs} (hm : h ∈ hs) : ((lacks P hs).any fun z => decide (z.1 = .inr h.1)) = true := by
  have key : ∀ (hs : List Hs) (acc : List (Key × Int)), (h ∈ hs ∨ (acc.any fun z => decide (z.1 = .inr h.1)) = true) → ((hs.foldl (fun acc h => putI acc (.inr h.1) (lack1 P h)) acc).any fun z => decide (z.1 = .inr h.1)) = true := by
    intro hs
    induction hs with
    | nil => intro acc q; exact q.elim (fun z => by cases z) id
    | cons x xs ih =>
      intro acc q
      refine ih _ ?_
      rcases q with q | q
      · rcases List.mem_cons.mp q with rfl | q
        · exact .inr (by rw [has_put, decide_eq_true rfl, Bool.true_or])
        · exact .inl q
      · exact .inr (by rw [has_put, q, Bool.or_true])
  exact key hs [] (.inl hm)
theorem run_has {P : Str → Bool} {kis : List (Key × Int)} {k : Key} (bs : List Bn) (h : (kis.any fun z => decide (z.1 = k)) = true) : ((run P kis bs).1.any fun z => decide (z.1 = k)) = true := by
  have key : ∀ (bs : List Bn) (acc : List (Key × Int) × List Int), (acc.1.any fun z => decide (z.1 = k)) = true → ((bs.foldl (fun acc b => (left1 P acc.1 b, acc.2 ++ [part1 P acc.1 b])) acc).1.any fun z => decide (z.1 = k)) = true := by
    intro bs
    induction bs with
    | nil => intro acc q; exact q
    | cons b bs ih =>
      intro acc q
      refine ih _ ?_
      show ((putI _ _ _).any _) = true
      rw [has_put, q, Bool.or_true]
  exact key bs (kis, []) h
def isL {α : Type} (f : α → D) (xs : List α) (d : D) : Prop := d = .list (xs.map f) ∨ d = .tuple (xs.map f)
theorem dct_len (kis : List (Key × Int)) : (dctI kis).length = kis.length := by unfold dctI; rw [List.length_map]
theorem sz {n : Nat} (h : n < 1000) : n < sizeLine := Nat.lt_of_lt_of_le h (by decide)
theorem eqvS (a b : Str) : PyData.eqv (.str a) (.str b) = decide (a = b) := by
  rw [PyData.eqv]
  by_cases h : a = b
  · subst h; simp
  · simp [h]
def sOk (x : Str) : Prop := okS false (.str x) = true
theorem sOk.sh {x : Str} (h : sOk x) : SeqAt.shaped (.str x) = true := shaped_of h (by simp [PyData.depth])
def owedL (h : Str) (zs : List (Bn × Int)) : List Int := (zs.filter fun z => decide (z.1.1 = h)).map (·.2)
def owed (P : Str → Bool) (hs : List Hs) (bs : List Bn) (h : Str) : Int := (owedL h (bs.zip (owes P hs bs))).sum
theorem owedL_snoc {h : Str} {zs : List (Bn × Int)} {z : Bn × Int} : owedL h (zs ++ [z]) = owedL h zs ++ if z.1.1 = h then [z.2] else [] := by
  unfold owedL
  rw [List.filter_append, List.map_append]
  congr 1
  by_cases q : z.1.1 = h <;> simp [q]
theorem owedL_len {h : Str} {zs : List (Bn × Int)} : (owedL h zs).length ≤ zs.length := by
  unfold owedL
  rw [List.length_map]
  exact List.length_filter_le _ _
theorem owes_len {P : Str → Bool} {hs : List Hs} {bs : List Bn} : (owes P hs bs).length = bs.length := by
  have := (run_len (P := P) (kis := lacks P hs) bs bs.length (Nat.le_refl _)).1
  rw [List.take_length] at this
  exact this
theorem find_at {α : Type} {p : α → Bool} : ∀ {l : List α} {i : Nat} {x : α}, (∀ y ∈ l.take i, p y = false) → l[i]? = some x → p x = true → l.find? p = some x
  | [], _, _, _, h, _ => by simp at h
  | y :: l, 0, x, _, h, q => by
    simp at h
    subst h
    rw [List.find?_cons, q]
  | y :: l, i + 1, x, n, h, q => by
    rw [List.find?_cons, n y (by simp)]
    exact find_at (i := i) (fun z hz => n z (by simp [hz])) (by simpa using h) q
def isNext (P : Str → Bool) (hs : List Hs) (bs : List Bn) (h : Hs) : Bool := !P h.1 && decide (h.2.1 < owed P hs bs h.1)
def nextD (P : Str → Bool) (hs : List Hs) (bs : List Bn) : D := match hs.find? (isNext P hs bs) with
  | some h => .tuple [.str h.1, .int (owed P hs bs h.1)]
  | none => .none
structure HB (hs : List Hs) (bs : List Bn) : Prop where
  hl : hs.length ≤ 20
  bl : bs.length ≤ 50
  hin : ∀ b ∈ bs, ∃ h ∈ hs, h.1 = b.2.1
  ho : ∀ h ∈ hs, sOk h.1
  bo : ∀ b ∈ bs, sOk b.1
def coinS (z : Str × Int) : D := .tuple [.str z.1, .int z.2]
def truS (x : Str) : D := .tuple [.str x, .bool true]
def inL (F : List Str) (x : Str) : Bool := decide (x ∈ F)
theorem any_putD {kvs : List (Key × D)} {k k' : Key} {v : D} : ((putD kvs k v).any fun z => decide (z.1 = k')) = (decide (k = k') || kvs.any fun z => decide (z.1 = k')) := by
  unfold putD
  split
  · rename_i h
    rw [List.any_map]
    by_cases e : k = k'
    · subst e
      rw [decide_eq_true rfl, Bool.true_or, ← h]
      congr 1
      funext z
      by_cases q : z.1 = k <;> simp [q]
    · rw [decide_eq_false e, Bool.false_or]
      congr 1
      funext z
      by_cases q : z.1 = k
      · simp [q]
      · simp [q]
  · rw [List.any_append]
    simp only [List.any_cons, List.any_nil, Bool.or_false]
    rw [Bool.or_comm]
theorem inF_any {kvs : List (Key × D)} {x : Str} : inF kvs x = kvs.any fun z => decide (z.1 = .inr x) := by
  unfold inF findD
  induction kvs with
  | nil => rfl
  | cons z r ih =>
    rw [List.find?_cons, List.any_cons]
    cases decide (z.1 = .inr x) with
    | true => rfl
    | false => exact ih
theorem inF_put {kvs : List (Key × D)} {x y : Str} {d : D} : inF (putD kvs (.inr y) d) x = (decide (y = x) || inF kvs x) := by
  rw [inF_any, inF_any, any_putD]
  congr 1
  by_cases e : y = x
  · subst e; simp
  · rw [decide_eq_false e]
    exact decide_eq_false fun z => e (by cases z; rfl)
def VB (kvs : List (Key × D)) : Prop := ∀ z ∈ kvs, z.2 = .bool true
theorem VB.put {kvs : List (Key × D)} {k : Key} (h : VB kvs) : VB (putD kvs k (.bool true)) := by
  intro z hz
  unfold putD at hz
  split at hz
  · obtain ⟨y, hy, rfl⟩ := List.mem_map.mp hz
    by_cases q : y.1 = k
    · rw [if_pos q]
    · rw [if_neg q]; exact h y hy
  · rcases List.mem_append.mp hz with hz | hz
    · exact h z hz
    · rw [List.mem_singleton.mp hz]
theorem VB.nD {kvs : List (Key × D)} (h : VB kvs) : nDs (kvs.map (·.2)) = true := nDs_of fun d hd => by
  obtain ⟨z, hz, rfl⟩ := List.mem_map.mp hd
  rw [h z hz]
  rfl
theorem putD_len (kvs : List (Key × D)) (k : Key) (v : D) : (putD kvs k v).length ≤ kvs.length + 1 := by
  unfold putD
  split
  · rw [List.length_map]; omega
  · rw [List.length_append]; exact Nat.le_refl _
theorem merge_tru : ∀ (l : List Str) (acc : List (Key × D)), VB acc → (∀ x, inF (mergeD acc (l.map fun x => ((.inr x : Key), PyData.bool true))) x = (inF acc x || inL l x)) ∧ VB (mergeD acc (l.map fun x => ((.inr x : Key), PyData.bool true))) ∧ (mergeD acc (l.map fun x => ((.inr x : Key), PyData.bool true))).length ≤ acc.length + l.length
  | [], acc, h => ⟨fun x => by simp [mergeD, inL], h, Nat.le_refl _⟩
  | y :: l, acc, h => by
    obtain ⟨h1, h2, h3⟩ := merge_tru l (putD acc (.inr y) (.bool true)) h.put
    refine ⟨fun x => ?_, h2, ?_⟩
    · refine (h1 x).trans ?_
      rw [inF_put]
      unfold inL
      by_cases e : y = x
      · subst e; simp
      · have e' : ¬ x = y := fun z => e z.symm
        simp [e, e']
    · have := putD_len acc (.inr y) (.bool true)
      rw [List.length_cons]
      have h3 : (mergeD acc ((y :: l).map fun x => ((.inr x : Key), PyData.bool true))).length ≤ (putD acc (.inr y) (.bool true)).length + l.length := h3
      omega
theorem pairs_tru : ∀ l : List Str, pairsD (l.map truS) = some (l.map fun x => ((.inr x : Key), PyData.bool true))
  | [] => rfl
  | x :: l => by
    have := pairs_tru l
    rw [List.map_cons, truS, pairsD, this]
    rfl
/-- the houses that fail one after another -/
inductive Ord (hs : List Hs) (bs : List Bn) (F : List Str) : List (Str × Int) → Prop
  | nil : Ord hs bs F []
  | snoc {os : List (Str × Int)} {h : Hs} : Ord hs bs F os → h ∈ hs → isNext (inL (F ++ os.map (·.1))) hs bs h = true → Ord hs bs F (os ++ [(h.1, owed (inL (F ++ os.map (·.1))) hs bs h.1)])
theorem isNext_not {P : Str → Bool} {hs : List Hs} {bs : List Bn} {h : Hs} (q : isNext P hs bs h = true) : P h.1 = false ∧ h.2.1 < owed P hs bs h.1 := by
  unfold isNext at q
  rw [Bool.and_eq_true, Bool.not_eq_true'] at q
  exact ⟨q.1, of_decide_eq_true q.2⟩
theorem Ord.nodup {hs : List Hs} {bs : List Bn} {F : List Str} {os : List (Str × Int)} (o : Ord hs bs F os) : (os.map (·.1)).Nodup ∧ ∀ x ∈ os.map (·.1), x ∈ hs.map (·.1) := by
  induction o with
  | nil => exact ⟨List.nodup_nil, fun x h => by cases h⟩
  | @snoc os h o hm hn ih =>
    rw [List.map_append]
    have q := (isNext_not hn).1
    have q : h.1 ∉ F ++ os.map (·.1) := of_decide_eq_false q
    refine ⟨List.nodup_append.mpr ⟨ih.1, by simp, fun a ha b hb e => ?_⟩, fun x hx => ?_⟩
    · have hb : b = h.1 := by simpa using hb
      exact q (List.mem_append_right _ (by rw [← hb, ← e]; exact ha))
    · rcases List.mem_append.mp hx with hx | hx
      · exact ih.2 x hx
      · have hx : x = h.1 := by simpa using hx
        rw [hx]
        exact List.mem_map.mpr ⟨h, hm, rfl⟩
theorem nodup_lenS : ∀ {l m : List Str}, l.Nodup → (∀ x ∈ l, x ∈ m) → l.length ≤ m.length
  | [], _, _, _ => Nat.zero_le _
  | x :: l, m, nd, h => by
    have hx := h x (by simp)
    have nd := List.nodup_cons.mp nd
    have ih := nodup_lenS (l := l) (m := m.erase x) nd.2 fun y hy => by
      have hne : y ≠ x := fun e => nd.1 (by rw [← e]; exact hy)
      exact (List.mem_erase_of_ne hne).mpr (h y (by simp [hy]))
    rw [List.length_erase_of_mem hx] at ih
    have := List.length_pos_of_mem hx
    rw [List.length_cons]
    omega
theorem Ord.len {hs : List Hs} {bs : List Bn} {F : List Str} {os : List (Str × Int)} (o : Ord hs bs F os) : os.length ≤ hs.length := by
  have := nodup_lenS o.nodup.1 o.nodup.2
  rwa [List.length_map, List.length_map] at this
theorem next_nD {P : Str → Bool} {hs : List Hs} {bs : List Bn} : nD (nextD P hs bs) = true := by
  unfold nextD
  split <;> rfl
theorem coins_nD {os : List (Str × Int)} : nDs (os.map coinS) = true := nDs_of fun d hd => by
  obtain ⟨z, _, rfl⟩ := List.mem_map.mp hd
  rfl
def paidL (h : Str) (zs : List (Bn × Int)) : List Int := (zs.filter fun z => decide (z.1.2.1 = h)).map (·.2)
theorem paidL_snoc {h : Str} {zs : List (Bn × Int)} {z : Bn × Int} : paidL h (zs ++ [z]) = paidL h zs ++ if z.1.2.1 = h then [z.2] else [] := by
  unfold paidL
  rw [List.filter_append, List.map_append]
  congr 1
  by_cases q : z.1.2.1 = h <;> simp [q]
theorem paidL_len {h : Str} {zs : List (Bn × Int)} : (paidL h zs).length ≤ zs.length := by
  unfold paidL
  rw [List.length_map]
  exact List.length_filter_le _ _
def unpaid (P : Str → Bool) (hs : List Hs) (bs : List Bn) (h : Str) : Int := getI (lacks P hs) (.inr h) - (paidL h (bs.zip (owes P hs bs))).sum
theorem HB.bo2 {hs : List Hs} {bs : List Bn} (h : HB hs bs) {b : Bn} (hb : b ∈ bs) : sOk b.2.1 := by
  obtain ⟨x, hx, e⟩ := h.hin b hb
  rw [← e]
  exact h.ho x hx
def owedRows (P : Str → Bool) (hs : List Hs) (bs : List Bn) : List (Str × Int) := (hs.filter fun h => !P h.1).map fun h => (h.1, owed P hs bs h.1)
def outs (P : Str → Bool) (hs : List Hs) : List Str := (hs.filter fun h => !P h.1).map (·.1)
theorem outs_snoc {P : Str → Bool} {hs : List Hs} {h : Hs} : outs P (hs ++ [h]) = outs P hs ++ if P h.1 = true then [] else [h.1] := by
  unfold outs
  rw [List.filter_append, List.map_append]
  congr 1
  cases q : P h.1 <;> simp [q]
theorem outs_len {P : Str → Bool} {hs : List Hs} : (outs P hs).length ≤ hs.length := by
  unfold outs
  rw [List.length_map]
  exact List.length_filter_le _ _
theorem outs_mem {P : Str → Bool} {hs : List Hs} {x : Str} (h : x ∈ outs P hs) : ∃ h ∈ hs, h.1 = x := by
  obtain ⟨y, hm, rfl⟩ := List.mem_map.mp h
  exact ⟨y, (List.mem_filter.mp hm).1, rfl⟩
def unpaidRows (P : Str → Bool) (hs : List Hs) (bs : List Bn) : List (Str × Int) := (hs.filter fun h => P h.1).map fun h => (h.1, unpaid P hs bs h.1)
def ins (P : Str → Bool) (hs : List Hs) : List Str := (hs.filter fun h => P h.1).map (·.1)
theorem ins_snoc {P : Str → Bool} {hs : List Hs} {h : Hs} : ins P (hs ++ [h]) = ins P hs ++ if P h.1 = true then [h.1] else [] := by
  unfold ins
  rw [List.filter_append, List.map_append]
  congr 1
  cases q : P h.1 <;> simp [q]
theorem ins_len {P : Str → Bool} {hs : List Hs} : (ins P hs).length ≤ hs.length := by
  unfold ins
  rw [List.length_map]
  exact List.length_filter_le _ _
theorem ins_mem {P : Str → Bool} {hs : List Hs} {x : Str} (h : x ∈ ins P hs) : ∃ h ∈ hs, h.1 = x := by
  obtain ⟨y, hm, rfl⟩ := List.mem_map.mp h
  exact ⟨y, (List.mem_filter.mp hm).1, rfl⟩
theorem any_inL : ∀ (F : List Str) (x : Str), ((F.map PyData.str).any fun z => PyData.eqv z (.str x)) = inL F x
  | [], x => by simp [inL]
  | y :: F, x => by
    rw [List.map_cons, List.any_cons, any_inL F x, eqvS]
    unfold inL
    by_cases e : y = x
    · subst e; simp
    · have e' : ¬ x = y := fun z => e z.symm
      simp [e, e']
theorem fit_str {x : Str} (h : sOk x) : fitD [.str x] := by
  refine ⟨?_, by simp [PyData.depthAll, PyData.depth]⟩
  rw [PyData.canLayAll0, PyData.canLayAll0, Bool.and_true]
  exact okS_lay h
theorem fit_strs : ∀ {F : List Str}, (∀ x ∈ F, sOk x) → fitD (F.map .str)
  | [], _ => ⟨rfl, by simp [PyData.depthAll]⟩
  | x :: F, h => by
    obtain ⟨h1, h2⟩ := fit_strs (F := F) fun y hy => h y (by simp [hy])
    refine ⟨?_, ?_⟩
    · rw [List.map_cons, PyData.canLayAll0, h1, Bool.and_true]
      exact okS_lay (h x (by simp))
    · rw [List.map_cons, PyData.depthAll]
      simp only [PyData.depth]
      omega
def nexts (P : Str → Bool) (hs : List Hs) (bs : List Bn) (ys : List Hs) : List Str := (ys.filter (isNext P hs bs)).map (·.1)
theorem nexts_snoc {P : Str → Bool} {hs : List Hs} {bs : List Bn} {ys : List Hs} {h : Hs} : nexts P hs bs (ys ++ [h]) = nexts P hs bs ys ++ if isNext P hs bs h = true then [h.1] else [] := by
  unfold nexts
  rw [List.filter_append, List.map_append]
  congr 1
  cases q : isNext P hs bs h <;> simp [q]
theorem nexts_len {P : Str → Bool} {hs : List Hs} {bs : List Bn} {ys : List Hs} : (nexts P hs bs ys).length ≤ ys.length := by
  unfold nexts
  rw [List.length_map]
  exact List.length_filter_le _ _
/-- the law's rounds -/
def rounds (hs : List Hs) (bs : List Bn) (F : List Str) : Nat → List Str
  | 0 => F
  | i + 1 => rounds hs bs F i ++ nexts (inL (rounds hs bs F i)) hs bs hs
theorem rounds_len {hs : List Hs} {bs : List Bn} {F : List Str} (h : hs.length ≤ 20) (i : Nat) : (rounds hs bs F i).length ≤ F.length + 20 * i := by
  induction i with
  | zero => exact Nat.le_refl _
  | succ i ih =>
    have := nexts_len (P := inL (rounds hs bs F i)) (hs := hs) (bs := bs) (ys := hs)
    show (rounds hs bs F i ++ _).length ≤ _
    rw [List.length_append]
    omega
theorem rounds_ok {hs : List Hs} {bs : List Bn} {F : List Str} (hb : HB hs bs) (hF : ∀ x ∈ F, sOk x) (i : Nat) : ∀ x ∈ rounds hs bs F i, sOk x := by
  induction i with
  | zero => exact hF
  | succ i ih =>
    intro x hx
    rcases List.mem_append.mp hx with hx | hx
    · exact ih x hx
    · obtain ⟨h, hm, rfl⟩ := List.mem_map.mp hx
      exact hb.ho h (List.mem_filter.mp hm).1
theorem getI_put {kis : List (Key × Int)} {k k' : Key} {v : Int} : getI (putI kis k v) k' = if k = k' then v else getI kis k' := by
  have e1 : ∀ l : List (Key × Int), ((l.map fun z => if z.1 = k then (z.1, v) else z).find? fun z => decide (z.1 = k')).map (·.2) = if k = k' then (if (l.any fun z => decide (z.1 = k)) = true then some v else none) else (l.find? fun z => decide (z.1 = k')).map (·.2) := by
    intro l
    induction l with
    | nil => by_cases e : k = k' <;> simp [e]
    | cons z l ih =>
      rw [List.map_cons, List.find?_cons, List.any_cons, List.find?_cons]
      by_cases q : z.1 = k
      · by_cases e : k = k'
        · subst e
          simp [q]
        · have q' : ¬ z.1 = k' := fun h => e (q.symm.trans h)
          simp only [q, if_pos, decide_eq_false e, if_neg e] at ih ⊢
          exact ih
      · rw [if_neg q]
        by_cases e : k = k'
        · subst e
          simp only [decide_eq_false q, Bool.false_or, if_pos] at ih ⊢
          exact ih
        · by_cases q' : z.1 = k'
          · simp [q', e]
          · simp only [decide_eq_false q', if_neg e] at ih ⊢
            exact ih
  unfold getI putI
  split
  · rename_i h
    rw [e1 kis]
    by_cases e : k = k'
    · rw [if_pos e, if_pos h, if_pos e]; rfl
    · rw [if_neg e, if_neg e]
  · rename_i h
    rw [List.find?_append]
    by_cases e : k = k'
    · subst e
      have n : (kis.find? fun z => decide (z.1 = k)) = none := List.find?_eq_none.mpr fun z hz q => h (List.any_eq_true.mpr ⟨z, hz, q⟩)
      rw [n, if_pos rfl]
      simp
    · rw [if_neg e]
      cases kis.find? fun z => decide (z.1 = k') with
      | some z => rfl
      | none => simp [e]
/-- what each bond owes, head first -/
def runR (P : Str → Bool) (kis : List (Key × Int)) : List Bn → List Int
  | [] => []
  | b :: bs => part1 P kis b :: runR P (left1 P kis b) bs
theorem run_runR (P : Str → Bool) : ∀ (bs : List Bn) (kis : List (Key × Int)) (l : List Int), (bs.foldl (fun (acc : List (Key × Int) × List Int) b => (left1 P acc.1 b, acc.2 ++ [part1 P acc.1 b])) (kis, l)).2 = l ++ runR P kis bs
  | [], _, _ => by simp [runR]
  | b :: bs, kis, l => by
    rw [List.foldl_cons, run_runR P bs]
    simp [runR]
theorem owes_runR {P : Str → Bool} {hs : List Hs} {bs : List Bn} : owes P hs bs = runR P (lacks P hs) bs := by
  unfold owes run
  rw [run_runR, List.nil_append]
theorem owedL_cons {h : Str} {b : Bn} {p : Int} {zs : List (Bn × Int)} : (owedL h ((b, p) :: zs)).sum = (if b.1 = h then p else 0) + (owedL h zs).sum := by
  unfold owedL
  by_cases q : b.1 = h
  · simp [q]
  · simp [q]
/-- more that fail: the others owe no less -/
theorem run_mono {P P' : Str → Bool} (hp : ∀ x, P x = true → P' x = true) {h : Str} (hh : P' h = false) : ∀ (bs : List Bn) (kis kis' : List (Key × Int)), (∀ b ∈ bs, 0 ≤ b.2.2) → (∀ k, 0 ≤ getI kis k ∧ getI kis k ≤ getI kis' k) →
    (owedL h (bs.zip (runR P kis bs))).sum ≤ (owedL h (bs.zip (runR P' kis' bs))).sum
  | [], _, _, _, _ => Int.le_refl _
  | b :: bs, kis, kis', hb, hk => by
    have b0 := hb b (by simp)
    obtain ⟨g0, g1⟩ := hk (.inr b.2.1)
    have ih := run_mono hp hh bs (left1 P kis b) (left1 P' kis' b) (fun x hx => hb x (by simp [hx])) (fun k => by
      unfold left1
      rw [getI_put, getI_put]
      by_cases e : (.inr b.2.1 : Key) = k
      · rw [if_pos e, if_pos e]
        unfold part1
        cases q : P b.1 with
        | true => rw [if_pos rfl, hp _ q, if_pos rfl]; omega
        | false =>
          rw [if_neg (by decide)]
          cases q' : P' b.1 with
          | true => rw [if_pos rfl]; omega
          | false => rw [if_neg (by decide)]; omega
      · rw [if_neg e, if_neg e]; exact hk k)
    show (owedL h ((b, part1 P kis b) :: bs.zip (runR P (left1 P kis b) bs))).sum ≤ (owedL h ((b, part1 P' kis' b) :: bs.zip (runR P' (left1 P' kis' b) bs))).sum
    rw [owedL_cons, owedL_cons]
    by_cases e : b.1 = h
    · rw [if_pos e, if_pos e]
      have q' : P' b.1 = false := by rw [e]; exact hh
      have q : P b.1 = false := by
        cases q : P b.1 with
        | false => rfl
        | true => rw [hp _ q] at q'; cases q'
      unfold part1
      rw [q, q', if_neg (by decide), if_neg (by decide)]
      omega
    · rw [if_neg e, if_neg e]; omega
theorem lacks_mono {P P' : Str → Bool} (hp : ∀ x, P x = true → P' x = true) (hs : List Hs) : ∀ k, 0 ≤ getI (lacks P hs) k ∧ getI (lacks P hs) k ≤ getI (lacks P' hs) k := by
  have key : ∀ (hs : List Hs) (a b : List (Key × Int)), (∀ k, 0 ≤ getI a k ∧ getI a k ≤ getI b k) → ∀ k, 0 ≤ getI (hs.foldl (fun acc h => putI acc (.inr h.1) (lack1 P h)) a) k ∧ getI (hs.foldl (fun acc h => putI acc (.inr h.1) (lack1 P h)) a) k ≤ getI (hs.foldl (fun acc h => putI acc (.inr h.1) (lack1 P' h)) b) k := by
    intro hs
    induction hs with
    | nil => intro a b h; exact h
    | cons x xs ih =>
      intro a b h
      refine ih _ _ fun k => ?_
      rw [getI_put, getI_put]
      by_cases e : (.inr x.1 : Key) = k
      · rw [if_pos e, if_pos e]
        unfold lack1
        cases q : P x.1 with
        | true => rw [if_pos rfl, hp _ q, if_pos rfl]; omega
        | false =>
          rw [if_neg (by decide)]
          cases q' : P' x.1 with
          | true => rw [if_pos rfl]; omega
          | false => rw [if_neg (by decide)]; omega
      · rw [if_neg e, if_neg e]; exact h k
  exact key hs [] [] fun k => by simp [getI]
theorem owed_mono {P P' : Str → Bool} {hs : List Hs} {bs : List Bn} (hp : ∀ x, P x = true → P' x = true) (hb : ∀ b ∈ bs, 0 ≤ b.2.2) {h : Str} (hh : P' h = false) : owed P hs bs h ≤ owed P' hs bs h := by
  unfold owed
  rw [owes_runR, owes_runR]
  exact run_mono hp hh bs _ _ hb (lacks_mono hp hs)
theorem inL_mono {F G : List Str} (h : ∀ x ∈ F, x ∈ G) : ∀ x, inL F x = true → inL G x = true := fun x q => decide_eq_true (h x (of_decide_eq_true q))
theorem nexts_mem {P : Str → Bool} {hs : List Hs} {bs : List Bn} {ys : List Hs} {x : Str} (h : x ∈ nexts P hs bs ys) : ∃ y ∈ ys, y.1 = x ∧ isNext P hs bs y = true := by
  obtain ⟨y, hm, rfl⟩ := List.mem_map.mp h
  exact ⟨y, (List.mem_filter.mp hm).1, rfl, (List.mem_filter.mp hm).2⟩
/-- who falls where fewer fail has failed or falls where more fail -/
theorem next_up {F G : List Str} {hs : List Hs} {bs : List Bn} (hb : ∀ b ∈ bs, 0 ≤ b.2.2) (hs' : ∀ x ∈ F, x ∈ G) {h : Hs} (q : isNext (inL F) hs bs h = true) (hn : h.1 ∉ G) : isNext (inL G) hs bs h = true := by
  have hG : inL G h.1 = false := decide_eq_false hn
  have := owed_mono (hs := hs) (inL_mono hs') hb hG
  have q2 := (isNext_not q).2
  unfold isNext
  rw [hG, decide_eq_true (show h.2.1 < owed (inL G) hs bs h.1 by omega)]
  rfl
theorem rounds_sub {hs : List Hs} {bs : List Bn} {F G : List Str} (hb : ∀ b ∈ bs, 0 ≤ b.2.2) (h0 : ∀ x ∈ F, x ∈ G) (hc : hs.find? (isNext (inL G) hs bs) = none) (i : Nat) : ∀ x ∈ rounds hs bs F i, x ∈ G := by
  induction i with
  | zero => exact h0
  | succ i ih =>
    intro x hx
    rcases List.mem_append.mp hx with hx | hx
    · exact ih x hx
    · obtain ⟨y, hy, rfl, q⟩ := nexts_mem hx
      refine Classical.byContradiction fun hn => ?_
      have := List.find?_eq_none.mp hc y hy
      exact this (next_up hb ih q hn)
theorem ord_sub {hs : List Hs} {bs : List Bn} {F R : List Str} {os : List (Str × Int)} (hb : ∀ b ∈ bs, 0 ≤ b.2.2) (h0 : ∀ x ∈ F, x ∈ R) (hc : ∀ h ∈ hs, isNext (inL R) hs bs h = false) (o : Ord hs bs F os) : ∀ x ∈ os.map (·.1), x ∈ R := by
  induction o with
  | nil => intro x hx; cases hx
  | @snoc os h o hm hn ih =>
    intro x hx
    rw [List.map_append] at hx
    rcases List.mem_append.mp hx with hx | hx
    · exact ih x hx
    · have hx : x = h.1 := by simpa using hx
      rw [hx]
      refine Classical.byContradiction fun hnR => ?_
      have q := next_up hb (fun y hy => (List.mem_append.mp hy).elim (h0 y) (ih y)) hn hnR
      rw [hc h hm] at q
      cases q
theorem rounds_still {hs : List Hs} {bs : List Bn} {F : List Str} {i : Nat} (h : nexts (inL (rounds hs bs F i)) hs bs hs = []) : ∀ k, rounds hs bs F (i + k) = rounds hs bs F i := by
  intro k
  induction k with
  | zero => rfl
  | succ k ih =>
    show rounds hs bs F (i + k) ++ nexts (inL (rounds hs bs F (i + k))) hs bs hs = _
    rw [ih, h, List.append_nil]
def cnt (hs : List Hs) (G : List Str) : Nat := (hs.filter fun h => inL G h.1).length
theorem filter_lt {α : Type} {p q : α → Bool} : ∀ {l : List α}, (∀ x ∈ l, p x = true → q x = true) → (∃ x ∈ l, p x = false ∧ q x = true) → (l.filter p).length < (l.filter q).length
  | [], _, ⟨x, hx, _⟩ => by cases hx
  | a :: l, h, ⟨x, hx, hp, hq⟩ => by
    have le : ∀ {l : List α}, (∀ x ∈ l, p x = true → q x = true) → (l.filter p).length ≤ (l.filter q).length := by
      intro l
      induction l with
      | nil => intro _; exact Nat.le_refl _
      | cons b l ih =>
        intro h
        have ih := ih fun x hx => h x (by simp [hx])
        rw [List.filter_cons, List.filter_cons]
        cases pb : p b with
        | true => rw [if_pos rfl, h b (by simp) pb, if_pos rfl, List.length_cons, List.length_cons]; omega
        | false =>
          rw [if_neg (by decide)]
          split
          · rw [List.length_cons]; omega
          · exact ih
    have hl : ∀ x ∈ l, p x = true → q x = true := fun x hx => h x (by simp [hx])
    rw [List.filter_cons, List.filter_cons]
    rcases List.mem_cons.mp hx with rfl | hx
    · rw [hp, hq, if_neg (by decide), if_pos rfl, List.length_cons]
      have := le hl
      omega
    · have ih := filter_lt hl ⟨x, hx, hp, hq⟩
      cases pa : p a with
      | true => rw [if_pos rfl, h a (by simp) pa, if_pos rfl, List.length_cons, List.length_cons]; omega
      | false =>
        rw [if_neg (by decide)]
        split
        · rw [List.length_cons]; omega
        · exact ih
theorem rounds_end {hs : List Hs} {bs : List Bn} {F : List Str} : nexts (inL (rounds hs bs F hs.length)) hs bs hs = [] := by
  have key : ∀ i, nexts (inL (rounds hs bs F i)) hs bs hs = [] ∨ i < cnt hs (rounds hs bs F (i + 1)) := by
    intro i
    induction i with
    | zero =>
      cases q : nexts (inL (rounds hs bs F 0)) hs bs hs with
      | nil => exact .inl rfl
      | cons x xs =>
        right
        obtain ⟨y, hy, e, n⟩ := nexts_mem (x := x) (by rw [q]; simp)
        refine List.length_pos_of_mem (a := y) (List.mem_filter.mpr ⟨hy, decide_eq_true ?_⟩)
        show y.1 ∈ rounds hs bs F 0 ++ nexts (inL (rounds hs bs F 0)) hs bs hs
        rw [q, e]
        simp
    | succ i ih =>
      cases q : nexts (inL (rounds hs bs F (i + 1))) hs bs hs with
      | nil => exact .inl rfl
      | cons x xs =>
        right
        rcases ih with ih | ih
        · have e1 : rounds hs bs F (i + 1) = rounds hs bs F i := rounds_still ih 1
          rw [e1, ih] at q
          cases q
        · obtain ⟨y, hy, e, n⟩ := nexts_mem (x := x) (by rw [q]; simp)
          have lt : cnt hs (rounds hs bs F (i + 1)) < cnt hs (rounds hs bs F (i + 1 + 1)) := by
            refine filter_lt (fun z hz hp => decide_eq_true ?_) ⟨y, hy, (isNext_not n).1, decide_eq_true ?_⟩
            · exact List.mem_append_left _ (of_decide_eq_true hp)
            · show y.1 ∈ rounds hs bs F (i + 1) ++ nexts (inL (rounds hs bs F (i + 1))) hs bs hs
              rw [q, e]
              simp
          omega
  rcases key hs.length with h | h
  · exact h
  · have : cnt hs (rounds hs bs F (hs.length + 1)) ≤ hs.length := List.length_filter_le _ _
    omega
theorem rounds_closed {hs : List Hs} {bs : List Bn} {F : List Str} : ∀ h ∈ hs, isNext (inL (rounds hs bs F hs.length)) hs bs h = false := by
  intro h hm
  cases q : isNext (inL (rounds hs bs F hs.length)) hs bs h with
  | false => rfl
  | true =>
    have : h.1 ∈ nexts (inL (rounds hs bs F hs.length)) hs bs hs := List.mem_map.mpr ⟨h, List.mem_filter.mpr ⟨hm, q⟩, rfl⟩
    rw [rounds_end] at this
    cases this
theorem rounds_first {hs : List Hs} {bs : List Bn} {F : List Str} (i : Nat) : ∀ x ∈ F, x ∈ rounds hs bs F i := by
  induction i with
  | zero => exact fun x hx => hx
  | succ i ih => exact fun x hx => List.mem_append_left _ (ih x hx)
/-- both ways the same fail -/
theorem same_fail {hs : List Hs} {bs : List Bn} {F : List Str} {os : List (Str × Int)} (hb : ∀ b ∈ bs, 0 ≤ b.2.2) (o : Ord hs bs F os) (hc : hs.find? (isNext (inL (F ++ os.map (·.1))) hs bs) = none) (x : Str) : x ∈ F ++ os.map (·.1) ↔ x ∈ rounds hs bs F hs.length := by
  constructor
  · intro h
    rcases List.mem_append.mp h with h | h
    · exact rounds_first _ x h
    · exact ord_sub hb (rounds_first _) rounds_closed o x h
  · exact rounds_sub hb (fun y hy => List.mem_append_left _ hy) hc _ x
def BsOk (hs : List Hs) (bs : List Bn) : Prop := ∀ b ∈ bs, 0 ≤ b.2.2 ∧ (∃ h ∈ hs, h.1 = b.1) ∧ ∃ h ∈ hs, h.1 = b.2.1
theorem at_get {α : Type} {l : List α} {f : α → D} {t : Int} (h0 : 0 ≤ t) (h1 : t < l.length) : ∃ r ∈ l, L2.atI (l.map f) t = some (f r) := by
  obtain ⟨j, rfl⟩ : ∃ j : Nat, t = (j : Int) := ⟨t.toNat, by omega⟩
  have hj : j < l.length := by omega
  refine ⟨l[j], List.getElem_mem hj, ?_⟩
  unfold L2.atI L2.ixN
  rw [if_pos h0, if_pos (by rw [List.length_map]; exact h1)]
  show (l.map f)[((j : Nat) : Int).toNat]? = _
  rw [Int.toNat_natCast, List.getElem?_map, List.getElem?_eq_getElem hj]
  rfl
theorem cut_map {bs : List Bn} (a b : Option Int) : DL.cutD (bs.map bnD) a b = (DL.cutD bs a b).map bnD := by
  unfold DL.cutD
  rw [List.length_map, ← List.map_drop, ← List.map_take]
theorem cut_mem {α : Type} {l : List α} {a b : Option Int} {x : α} (h : x ∈ DL.cutD l a b) : x ∈ l := by
  unfold DL.cutD at h
  exact List.mem_of_mem_drop (List.mem_of_mem_take h)
theorem cut_len {α : Type} {l : List α} {a b : Option Int} : (DL.cutD l a b).length ≤ l.length := by
  unfold DL.cutD
  rw [List.length_take, List.length_drop]
  omega
theorem BsOk.snoc {hs : List Hs} {bs : List Bn} {a b : Hs} {c : Int} (h : BsOk hs bs) (ha : a ∈ hs) (hb : b ∈ hs) (c0 : 0 ≤ c) : BsOk hs (bs ++ [(a.1, b.1, c)]) := by
  intro z hz
  rcases List.mem_append.mp hz with hz | hz
  · exact h z hz
  · rw [List.mem_singleton.mp hz]; exact ⟨c0, ⟨a, ha, rfl⟩, b, hb, rfl⟩
theorem sortD_perm {l m : List Str} (h : l.Perm m) : sortD (l.map .str) = sortD (m.map .str) := by
  have T := PySem.W.sortLe_total (listOrd itemOrd) false fun b : PyData => PySem.W.keyToks (id b)
  refine List.Perm.eq_of_pairwise (le := fun a b => PySem.W.dataLe false id a b = true) (fun a b ha hb h1 h2 => ?_) (PySem.W.sort_pairwise T _) (PySem.W.sort_pairwise T _) ?_
  · obtain ⟨x, _, rfl⟩ := List.mem_map.mp ((List.mergeSort_perm _ _).mem_iff.mp ha)
    obtain ⟨y, _, rfl⟩ := List.mem_map.mp ((List.mergeSort_perm _ _).mem_iff.mp hb)
    have h1 : (!(lexLt itemOrd [.inr y.cps.toList] [.inr x.cps.toList])) = true := h1
    have h2 : (!(lexLt itemOrd [.inr x.cps.toList] [.inr y.cps.toList])) = true := h2
    rw [Bool.not_eq_true'] at h1 h2
    have e := lex_total _ _ h2 h1
    have e : x.cps.toList = y.cps.toList := Sum.inr.inj (List.cons.inj e).1
    have e : x = y := by
      cases x; cases y
      exact congrArg Str.mk (Array.toList_inj.mp e)
    rw [e]
  · exact ((List.mergeSort_perm _ _).trans (h.map _)).trans (List.mergeSort_perm _ _).symm
theorem can_strs {l : List Str} (h : ∀ x ∈ l, sOk x) : canSort (l.map .str) := by
  refine ⟨fun d hd d' hd' => ?_, .inr fun d hd => ?_, fit_strs h⟩
  · obtain ⟨x, _, rfl⟩ := List.mem_map.mp hd
    obtain ⟨y, _, rfl⟩ := List.mem_map.mp hd'
    rfl
  · obtain ⟨x, _, rfl⟩ := List.mem_map.mp hd
    exact ⟨(by intro z; cases z), (by intro xs z; cases z)⟩
/-! names of houses -/
def wOk (w : Str) : Prop := w.cps.all (· < 0x110000) = true
def nm (w : Str) (f : Int) (t : Nat) : Str := ⟨#[97 + ((f + 7 * t) % 26).toNat]⟩ ++ w
theorem abc_at {t : Int} (h0 : 0 ≤ t) (h1 : t < 26) : L2.atI (Str.ofString "abcdefghijklmnopqrstuvwxyz").cps.toList t = some (97 + t.toNat) := by
  obtain ⟨j, rfl⟩ : ∃ j : Nat, t = (j : Int) := ⟨t.toNat, by omega⟩
  have key : ∀ j : Fin 26, L2.atI (Str.ofString "abcdefghijklmnopqrstuvwxyz").cps.toList (j.val : Int) = some (97 + ((j.val : Int)).toNat) := by decide +kernel
  exact key ⟨j, by omega⟩
theorem nm_inj {w : Str} {f : Int} {t u : Nat} (ht : t < 26) (hu : u < 26) (h : nm w f t = nm w f u) : t = u := by
  have h := congrArg (fun s : Str => s.cps.toList) h
  have h : (#[97 + ((f + 7 * t) % 26).toNat] ++ w.cps).toList = (#[97 + ((f + 7 * u) % 26).toNat] ++ w.cps).toList := h
  rw [Array.toList_append, Array.toList_append] at h
  have h := (List.cons.inj h).1
  omega
theorem wOk.snoc {w : Str} {c : Nat} (h : wOk w) (hc : c < 0x110000) : wOk (w ++ ⟨#[c]⟩) := by
  show (w.cps ++ #[c]).all _ = true
  rw [Array.all_append]
  unfold wOk at h
  rw [h]
  simp [hc]
theorem nm_ok {w : Str} {f : Int} {t : Nat} (h : wOk w) : sOk (nm w f t) := by
  unfold sOk okS
  rw [PyData.canLay0]
  show (#[97 + ((f + 7 * t) % 26).toNat] ++ w.cps).all _ = true
  rw [Array.all_append]
  unfold wOk at h
  rw [h]
  have : (97 + ((f + 7 * t) % 26).toNat) < 0x110000 := by omega
  simp [this]
structure HsOk (hs : List Hs) : Prop where
  nd : (hs.map (·.1)).Nodup
  ok : ∀ h ∈ hs, sOk h.1
  d0 : ∀ h ∈ hs, 0 ≤ h.2.1 ∧ 0 ≤ h.2.2
structure HsI (w : Str) (f : Int) (i : Nat) (hs : List Hs) : Prop where
  nms : hs.map (·.1) = (List.range i).map (nm w f)
  d0 : ∀ h ∈ hs, 0 ≤ h.2.1 ∧ 0 ≤ h.2.2
theorem HsI.snoc {w : Str} {f : Int} {i : Nat} {hs : List Hs} (h : HsI w f i hs) {d n : Int} (d0 : 0 ≤ d) (n0 : 0 ≤ n) : HsI w f (i + 1) (hs ++ [(nm w f i, d, n)]) := by
  refine ⟨by rw [List.map_append, h.nms, List.range_succ, List.map_append]; rfl, fun x hx => ?_⟩
  rcases List.mem_append.mp hx with hx | hx
  · exact h.d0 x hx
  · rw [List.mem_singleton.mp hx]; exact ⟨d0, n0⟩
theorem HsI.len {w : Str} {f : Int} {i : Nat} {hs : List Hs} (h : HsI w f i hs) : hs.length = i := by
  have := congrArg List.length h.nms
  simpa using this
theorem HsI.ok {w : Str} {f : Int} {i : Nat} {hs : List Hs} (h : HsI w f i hs) (hw : wOk w) (hi : i ≤ 26) : HsOk hs := by
  refine ⟨?_, fun x hx => ?_, h.d0⟩
  · rw [h.nms]
    refine List.pairwise_map.mpr (List.Pairwise.imp_of_mem (fun {a b} ha hb hn e => hn (nm_inj (by have := List.mem_range.mp ha; omega) (by have := List.mem_range.mp hb; omega) e)) List.nodup_range)
  · have : x.1 ∈ hs.map (·.1) := List.mem_map.mpr ⟨x, hx, rfl⟩
    rw [h.nms] at this
    obtain ⟨t, _, e⟩ := List.mem_map.mp this
    rw [← e]
    exact nm_ok hw
/-! what holds where names are unlike -/
theorem ord_at {hs : List Hs} {bs : List Bn} {F : List Str} {os : List (Str × Int)} (o : Ord hs bs F os) : ∀ {i : Nat} {z : Str × Int}, os[i]? = some z → ∃ h ∈ hs, z = (h.1, owed (inL (F ++ (os.take i).map (·.1))) hs bs h.1) ∧ isNext (inL (F ++ (os.take i).map (·.1))) hs bs h = true := by
  induction o with
  | nil => intro i z hz; simp at hz
  | @snoc os h o hm hn ih =>
    intro i z hz
    by_cases hi : i < os.length
    · rw [List.getElem?_append_left hi] at hz
      rw [List.take_append_of_le_length (by omega)]
      exact ih hz
    · rw [List.getElem?_append_right (by omega)] at hz
      have hi2 : i - os.length = 0 := by
        have := (List.getElem?_eq_some_iff.mp hz).1
        simpa using this
      rw [hi2] at hz
      have hi3 : i = os.length := by omega
      subst hi3
      rw [List.take_left]
      cases hz
      exact ⟨h, hm, rfl, hn⟩
def putAll (f : Hs → Int) (hs : List Hs) (acc : List (Key × Int)) : List (Key × Int) := hs.foldl (fun acc h => putI acc (.inr h.1) (f h)) acc
theorem putAll_get {f : Hs → Int} {h : Hs} : ∀ {hs : List Hs} {acc : List (Key × Int)}, (hs.map (·.1)).Nodup → (h ∈ hs ∨ h.1 ∉ hs.map (·.1) ∧ getI acc (.inr h.1) = f h) → getI (putAll f hs acc) (.inr h.1) = f h
  | [], acc, _, q => q.elim (fun z => by cases z) (·.2)
  | x :: xs, acc, nd, q => by
    rw [List.map_cons] at nd
    obtain ⟨n1, n2⟩ := List.nodup_cons.mp nd
    refine putAll_get (hs := xs) (acc := putI acc (.inr x.1) (f x)) n2 ?_
    rcases q with q | ⟨q1, q2⟩
    · rcases List.mem_cons.mp q with rfl | q
      · exact .inr ⟨n1, by rw [getI_put, if_pos rfl]⟩
      · exact .inl q
    · rw [List.map_cons] at q1
      refine .inr ⟨fun z => q1 (List.mem_cons_of_mem _ z), ?_⟩
      rw [getI_put, if_neg (fun e => q1 (by rw [← Sum.inr.inj e]; exact List.mem_cons_self ..))]
      exact q2
theorem putAll_has {f : Hs → Int} {x : Str} : ∀ {hs : List Hs} {acc : List (Key × Int)}, ((putAll f hs acc).any fun z => decide (z.1 = .inr x)) = (decide (x ∈ hs.map (·.1)) || acc.any fun z => decide (z.1 = .inr x))
  | [], acc => by simp [putAll]
  | y :: hs, acc => by
    have ih := putAll_has (f := f) (x := x) (hs := hs) (acc := putI acc (.inr y.1) (f y))
    refine Eq.trans ih ?_
    rw [has_put, List.map_cons]
    by_cases e : y.1 = x
    · simp [e]
    · have e' : ¬ x = y.1 := fun z => e z.symm
      have e2 : decide (x ∈ y.1 :: hs.map (·.1)) = decide (x ∈ hs.map (·.1)) := by
        apply decide_eq_decide.mpr
        rw [List.mem_cons]
        exact ⟨fun z => z.elim (fun z => absurd z e') id, .inr⟩
      rw [e2]
      simp [e]
theorem lacks_get {P : Str → Bool} {hs : List Hs} (nd : (hs.map (·.1)).Nodup) {h : Hs} (hm : h ∈ hs) : getI (lacks P hs) (.inr h.1) = lack1 P h := putAll_get (f := lack1 P) nd (.inl hm)
/-- deposits by name -/
def deps (hs : List Hs) : List (Key × Int) := putAll (·.2.1) hs []
theorem deps_pairs : ∀ hs : List Hs, pairsD (hs.map fun h => .tuple [.str h.1, .int h.2.1]) = some (hs.map fun h => ((.inr h.1 : Key), PyData.int h.2.1))
  | [] => rfl
  | h :: hs => by
    rw [List.map_cons, pairsD, deps_pairs hs]
    rfl
theorem deps_merge (hs : List Hs) : mergeD [] (hs.map fun h => ((.inr h.1 : Key), PyData.int h.2.1)) = dctI (deps hs) := by
  have key : ∀ (hs : List Hs) (acc : List (Key × Int)), mergeD (dctI acc) (hs.map fun h => ((.inr h.1 : Key), PyData.int h.2.1)) = dctI (putAll (·.2.1) hs acc) := by
    intro hs
    induction hs with
    | nil => intro acc; rfl
    | cons h hs ih =>
      intro acc
      refine Eq.trans ?_ (ih (putI acc (.inr h.1) h.2.1))
      rw [← put_dctI]
      rfl
  exact key hs []
theorem deps_find {hs : List Hs} (nd : (hs.map (·.1)).Nodup) {h : Hs} (hm : h ∈ hs) : findD (dctI (deps hs)) (.inr h.1) = some (.int h.2.1) := by
  have e : getI (deps hs) (.inr h.1) = h.2.1 := putAll_get (f := fun z => z.2.1) nd (.inl hm)
  have a : ((deps hs).any fun z => decide (z.1 = .inr h.1)) = true := by
    refine (putAll_has (f := fun z : Hs => z.2.1)).trans ?_
    rw [decide_eq_true (List.mem_map.mpr ⟨h, hm, rfl⟩)]
    rfl
  rw [has_find a, e]
theorem deps_not {hs : List Hs} {x : Str} (h : x ∉ hs.map (·.1)) : findD (dctI (deps hs)) (.inr x) = none := by
  have a : ((deps hs).any fun z => decide (z.1 = .inr x)) = false := by
    refine (putAll_has (f := fun z : Hs => z.2.1)).trans ?_
    rw [decide_eq_false h]
    rfl
  rw [find_dctI]
  cases q : (deps hs).find? fun z => decide (z.1 = .inr x) with
  | none => rfl
  | some z =>
    have := List.any_eq_false.mp a z (List.mem_of_find?_eq_some q)
    exact absurd (List.find?_some q) this
/-! the same fail, whatever the order -/
theorem nexts_nodup {P : Str → Bool} {hs ys : List Hs} {bs : List Bn} (nd : (ys.map (·.1)).Nodup) : (nexts P hs bs ys).Nodup := nd.sublist (List.filter_sublist.map _)
theorem rounds_nodup {hs : List Hs} {bs : List Bn} {F : List Str} (nd : (hs.map (·.1)).Nodup) (nf : F.Nodup) (i : Nat) : (rounds hs bs F i).Nodup := by
  induction i with
  | zero => exact nf
  | succ i ih =>
    show (rounds hs bs F i ++ _).Nodup
    refine List.nodup_append.mpr ⟨ih, nexts_nodup nd, fun a ha b hb e => ?_⟩
    obtain ⟨y, _, rfl, q⟩ := nexts_mem hb
    have := of_decide_eq_false (isNext_not q).1
    exact this (e ▸ ha)
theorem Ord.nodupF {hs : List Hs} {bs : List Bn} {F : List Str} {os : List (Str × Int)} (nf : F.Nodup) (o : Ord hs bs F os) : (F ++ os.map (·.1)).Nodup := by
  induction o with
  | nil => simpa using nf
  | @snoc os h o hm hn ih =>
    rw [List.map_append, ← List.append_assoc]
    refine List.nodup_append.mpr ⟨ih, by simp, fun a ha b hb e => ?_⟩
    have hb : b = h.1 := by simpa using hb
    have := of_decide_eq_false (isNext_not hn).1
    exact this (by rw [← hb, ← e]; exact ha)
theorem same_perm {hs : List Hs} {bs : List Bn} {F : List Str} {os : List (Str × Int)} (nd : (hs.map (·.1)).Nodup) (nf : F.Nodup) (hb : ∀ b ∈ bs, 0 ≤ b.2.2) (o : Ord hs bs F os) (hc : hs.find? (isNext (inL (F ++ os.map (·.1))) hs bs) = none) : (F ++ os.map (·.1)).Perm (rounds hs bs F hs.length) :=
  (List.perm_ext_iff_of_nodup (o.nodupF nf) (rounds_nodup nd nf _)).mpr fun x => same_fail hb o hc x
/-- F is some of the houses -/
def FOk (hs : List Hs) (F : List Str) : Prop := ∃ R, (F ++ R).Perm (hs.map (·.1))
theorem FOk.mem {hs : List Hs} {F : List Str} (h : FOk hs F) : ∀ x ∈ F, x ∈ hs.map (·.1) := fun x hx => by
  obtain ⟨R, p⟩ := h
  exact p.mem_iff.mp (List.mem_append_left _ hx)
theorem FOk.nodup {hs : List Hs} {F : List Str} (h : FOk hs F) (nd : (hs.map (·.1)).Nodup) : F.Nodup := by
  obtain ⟨R, p⟩ := h
  exact (List.nodup_append.mp (p.symm.nodup nd)).1
theorem FOk.len {hs : List Hs} {F : List Str} (h : FOk hs F) : F.length ≤ hs.length := by
  obtain ⟨R, p⟩ := h
  have := p.length_eq
  rw [List.length_append, List.length_map] at this
  omega
theorem eraseN_map {α β : Type} (f : α → β) (l : List α) (n : Nat) : eraseN (l.map f) n = (eraseN l n).map f := by
  unfold eraseN
  rw [List.map_append, List.map_take, List.map_drop]
theorem erase_perm {l : List Str} {n : Nat} {x : Str} (h : l[n]? = some x) : (x :: eraseN l n).Perm l := by
  have e : l = l.take n ++ x :: l.drop (n + 1) := by
    have hn := (List.getElem?_eq_some_iff.mp h).1
    have hx := (List.getElem?_eq_some_iff.mp h).2
    rw [← hx, List.getElem_cons_drop, List.take_append_drop]
  unfold eraseN
  exact List.perm_middle.symm.trans (.of_eq e.symm)
theorem eraseN_len {l : List Str} {n : Nat} {x : Str} (h : l[n]? = some x) : (eraseN l n).length + 1 = l.length := by
  have := (erase_perm h).length_eq
  rwa [List.length_cons] at this
def oR (P : Str → Bool) (hs : List Hs) (bs : List Bn) (ys : List Hs) : List (Str × Int) := (ys.filter fun h => !P h.1).map fun h => (h.1, owed P hs bs h.1)
def uR (P : Str → Bool) (hs : List Hs) (bs : List Bn) (ys : List Hs) : List (Str × Int) := (ys.filter fun h => P h.1).map fun h => (h.1, unpaid P hs bs h.1)
theorem oR_snoc {P : Str → Bool} {hs : List Hs} {bs : List Bn} {ys : List Hs} {h : Hs} : oR P hs bs (ys ++ [h]) = oR P hs bs ys ++ if P h.1 = true then [] else [(h.1, owed P hs bs h.1)] := by
  unfold oR
  rw [List.filter_append, List.map_append]
  congr 1
  cases q : P h.1 <;> simp [q]
theorem uR_snoc {P : Str → Bool} {hs : List Hs} {bs : List Bn} {ys : List Hs} {h : Hs} : uR P hs bs (ys ++ [h]) = uR P hs bs ys ++ if P h.1 = true then [(h.1, unpaid P hs bs h.1)] else [] := by
  unfold uR
  rw [List.filter_append, List.map_append]
  congr 1
  cases q : P h.1 <;> simp [q]
theorem oR_len {P : Str → Bool} {hs : List Hs} {bs : List Bn} {ys : List Hs} : (oR P hs bs ys).length ≤ ys.length := by
  unfold oR
  rw [List.length_map]
  exact List.length_filter_le _ _
theorem uR_len {P : Str → Bool} {hs : List Hs} {bs : List Bn} {ys : List Hs} : (uR P hs bs ys).length ≤ ys.length := by
  unfold uR
  rw [List.length_map]
  exact List.length_filter_le _ _
theorem sorted_ok {bo : Bool} {l : List Str} (h : ∀ x ∈ l, sOk x) (hl : l.length < 1000) : okS bo (.list (sortD (l.map .str))) = true := by
  rw [okS, Bool.and_eq_true]
  refine ⟨okSs_of fun d hd => ?_, decide_eq_true ?_⟩
  · obtain ⟨x, hx, rfl⟩ := List.mem_map.mp ((List.mergeSort_perm _ _).mem_iff.mp hd)
    exact h x hx
  · have : (sortD (l.map PyData.str)).length = l.length := by
      unfold sortD
      rw [List.length_mergeSort, List.length_map]
    rw [this]
    exact Nat.le_of_lt (sz hl)
theorem sorted_dep {l : List Str} : (PyData.list (sortD (l.map .str))).depth ≤ 64 := by
  rw [PyData.depth]
  have : PyData.depthAll (sortD (l.map PyData.str)) ≤ 1 := depth_of fun d hd => by
    obtain ⟨x, hx, rfl⟩ := List.mem_map.mp ((List.mergeSort_perm _ _).mem_iff.mp hd)
    simp [PyData.depth]
  omega
theorem coins_ok {bo : Bool} {l : List (Str × Int)} (h : ∀ z ∈ l, sOk z.1) (hl : l.length < 1000) : okS bo (.list (l.map coinS)) = true := by
  rw [okS, Bool.and_eq_true]
  refine ⟨okSs_of fun d hd => ?_, decide_eq_true (by rw [List.length_map]; exact Nat.le_of_lt (sz hl))⟩
  obtain ⟨z, hz, rfl⟩ := List.mem_map.mp hd
  have h := h z hz
  unfold sOk at h
  unfold coinS
  rw [okS, Bool.and_eq_true]
  refine ⟨?_, decide_eq_true (by show 2 ≤ sizeLine; decide)⟩
  rw [okSs, okSs, okSs, Bool.and_true, Bool.and_eq_true]
  exact ⟨h, rfl⟩
theorem coins_dep {l : List (Str × Int)} : (PyData.list (l.map coinS)).depth ≤ 4 := by
  rw [PyData.depth]
  have : PyData.depthAll (l.map coinS) ≤ 3 := depth_of fun d hd => by
    obtain ⟨z, _, rfl⟩ := List.mem_map.mp hd
    simp [coinS, PyData.depth, PyData.depthAll]
  omega
theorem rows_len {P : Str → Bool} {hs : List Hs} {bs : List Bn} : (owedRows P hs bs).length ≤ hs.length ∧ (unpaidRows P hs bs).length ≤ hs.length := ⟨oR_len (ys := hs), uR_len (ys := hs)⟩
theorem rows_sOk {P : Str → Bool} {hs : List Hs} {bs : List Bn} (h : ∀ x ∈ hs, sOk x.1) : (∀ z ∈ owedRows P hs bs, sOk z.1) ∧ ∀ z ∈ unpaidRows P hs bs, sOk z.1 := by
  refine ⟨fun z hz => ?_, fun z hz => ?_⟩
  · obtain ⟨x, hx, rfl⟩ := List.mem_map.mp hz
    exact h x (List.mem_filter.mp hx).1
  · obtain ⟨x, hx, rfl⟩ := List.mem_map.mp hz
    exact h x (List.mem_filter.mp hx).1
theorem replicate_all (n : Nat) : (List.replicate n true).all id = true := by
  rw [List.all_eq_true]
  intro x hx
  rw [(List.mem_replicate.mp hx).2]
  rfl
theorem replicate_snoc {α : Type} (n : Nat) (x : α) : List.replicate (n + 1) x = List.replicate n x ++ [x] := List.replicate_succ'
theorem two_ok2 {bo : Bool} {a b : D} (h1 : okS bo a = true) (h2 : okS bo b = true) : okS bo (.tuple [a, b]) = true := by
  rw [okS, Bool.and_eq_true]
  refine ⟨okSs_of fun d hd => ?_, decide_eq_true (by show 2 ≤ sizeLine; decide)⟩
  rcases List.mem_cons.mp hd with rfl | hd
  · exact h1
  · rw [List.mem_singleton.mp hd]; exact h2
theorem two_dep2 {n : Nat} {a b : D} (h1 : a.depth ≤ n) (h2 : b.depth ≤ n) : (PyData.tuple [a, b]).depth ≤ n + 1 := by
  have : PyData.depthAll [a, b] ≤ n := depth_of fun d hd => by
    rcases List.mem_cons.mp hd with rfl | hd
    · exact h1
    · rw [List.mem_singleton.mp hd]; exact h2
  rw [PyData.depth]
  omega
theorem three_ok {bo : Bool} {a b c : D} (h1 : okS bo a = true) (h2 : okS bo b = true) (h3 : okS bo c = true) : okS bo (.list [a, b, c]) = true := by
  rw [okS, Bool.and_eq_true]
  refine ⟨okSs_of fun d hd => ?_, decide_eq_true (by show 3 ≤ sizeLine; decide)⟩
  rcases List.mem_cons.mp hd with rfl | hd
  · exact h1
  · rcases List.mem_cons.mp hd with rfl | hd
    · exact h2
    · rw [List.mem_singleton.mp hd]; exact h3
theorem three_dep {n : Nat} {a b c : D} (h1 : a.depth ≤ n) (h2 : b.depth ≤ n) (h3 : c.depth ≤ n) : (PyData.list [a, b, c]).depth ≤ n + 1 := by
  have : PyData.depthAll [a, b, c] ≤ n := depth_of fun d hd => by
    rcases List.mem_cons.mp hd with rfl | hd
    · exact h1
    · rcases List.mem_cons.mp hd with rfl | hd
      · exact h2
      · rw [List.mem_singleton.mp hd]; exact h3
  rw [PyData.depth]
  omega
theorem rows_ok2 {α : Type} {bo : Bool} {f : α → D} {l : List α} (h : ∀ x ∈ l, okS bo (f x) = true) (hl : l.length < 1000) : okS bo (.list (l.map f)) = true := by
  rw [okS, Bool.and_eq_true]
  refine ⟨okSs_of fun d hd => ?_, decide_eq_true (by rw [List.length_map]; exact Nat.le_of_lt (sz hl))⟩
  obtain ⟨z, hz, rfl⟩ := List.mem_map.mp hd
  exact h z hz
theorem rows_dep2 {α : Type} {n : Nat} {f : α → D} {l : List α} (h : ∀ x ∈ l, (f x).depth ≤ n) : (PyData.list (l.map f)).depth ≤ n + 1 := by
  have : PyData.depthAll (l.map f) ≤ n := depth_of fun d hd => by
    obtain ⟨z, hz, rfl⟩ := List.mem_map.mp hd
    exact h z hz
  rw [PyData.depth]
  omega
theorem hsD_ok {h : Hs} (o : sOk h.1) : okS false (hsD h) = true := by
  unfold sOk at o
  unfold hsD
  rw [okS, Bool.and_eq_true]
  refine ⟨?_, decide_eq_true (by show 3 ≤ sizeLine; decide)⟩
  rw [okSs, okSs, okSs, okSs, o]
  rfl
theorem bnD_ok {b : Bn} (o : sOk b.1) (o2 : sOk b.2.1) : okS false (bnD b) = true := by
  unfold sOk at o o2
  unfold bnD
  rw [okS, Bool.and_eq_true]
  refine ⟨?_, decide_eq_true (by show 3 ≤ sizeLine; decide)⟩
  rw [okSs, okSs, okSs, okSs, o, o2]
  rfl
theorem hsD_dep (h : Hs) : (hsD h).depth ≤ 3 := by simp [hsD, PyData.depth, PyData.depthAll]
theorem bnD_dep (b : Bn) : (bnD b).depth ≤ 3 := by simp [bnD, PyData.depth, PyData.depthAll]
theorem handed_ok {hs : List Hs} {bs : List Bn} {F : List Str} (hb : HB hs bs) (hF : ∀ x ∈ F, sOk x) (hl : F.length ≤ 100) : okS false (.list [.list (hs.map hsD), .list (bs.map bnD), .list (F.map .str)]) = true := by
  have hhl := hb.hl
  have hbl := hb.bl
  exact three_ok (rows_ok2 (fun x hx => hsD_ok (hb.ho x hx)) (by omega)) (rows_ok2 (fun x hx => bnD_ok (hb.bo x hx) (hb.bo2 hx)) (by omega)) (rows_ok2 (fun x hx => hF x hx) (by omega))
theorem handed_dep {hs : List Hs} {bs : List Bn} {F : List Str} : (PyData.list [.list (hs.map hsD), .list (bs.map bnD), .list (F.map .str)]).depth ≤ 64 := by
  have := three_dep (n := 4) (rows_dep2 (n := 3) (f := hsD) (l := hs) fun x _ => hsD_dep x) (rows_dep2 (n := 3) (f := bnD) (l := bs) fun x _ => bnD_dep x) (rows_dep2 (n := 3) (f := PyData.str) (l := F) fun x _ => by simp [PyData.depth])
  omega
theorem BsOk.HB {hs : List Hs} {bs : List Bn} (h : BsOk hs bs) (ho : HsOk hs) (l1 : hs.length ≤ 20) (l2 : bs.length ≤ 50) : HB hs bs := by
  refine ⟨l1, l2, fun b hb => (h b hb).2.2, ho.ok, fun b hb => ?_⟩
  obtain ⟨x, hx, e⟩ := (h b hb).2.1
  rw [← e]
  exact ho.ok x hx
theorem FOk.sOk {hs : List Hs} {F : List Str} (h : FOk hs F) (ho : HsOk hs) : ∀ x ∈ F, sOk x := fun x hx => by
  obtain ⟨h1, hm, e⟩ := List.mem_map.mp (h.mem x hx)
  rw [← e]
  exact ho.ok h1 hm
/-! how much more -/
def setD (hs : List Hs) (x : Str) (d : Int) : List Hs := hs.map fun h => (h.1, (if h.1 = x then d else h.2.1), h.2.2)
def addD (hs : List Hs) (x : Str) (m : Int) : List Hs := hs.map fun h => (h.1, h.2.1 + (if h.1 = x then m else 0), h.2.2)
theorem setD_len {hs : List Hs} {x : Str} {d : Int} : (setD hs x d).length = hs.length := by unfold setD; rw [List.length_map]
theorem setD_nms {hs : List Hs} {x : Str} {d : Int} : (setD hs x d).map (·.1) = hs.map (·.1) := by unfold setD; rw [List.map_map]; rfl
theorem nodup_one {hs : List Hs} (nd : (hs.map (·.1)).Nodup) {a b : Hs} (ha : a ∈ hs) (hb : b ∈ hs) (e : a.1 = b.1) : a = b := by
  induction hs with
  | nil => cases ha
  | cons x xs ih =>
    rw [List.map_cons] at nd
    obtain ⟨n1, n2⟩ := List.nodup_cons.mp nd
    rcases List.mem_cons.mp ha with ea | ha2
    · rcases List.mem_cons.mp hb with eb | hb2
      · rw [ea, eb]
      · rw [ea] at e
        exact absurd (List.mem_map.mpr ⟨b, hb2, e.symm⟩) n1
    · rcases List.mem_cons.mp hb with eb | hb2
      · rw [eb] at e
        exact absurd (List.mem_map.mpr ⟨a, ha2, e⟩) n1
      · exact ih n2 ha2 hb2
theorem setD_self {hs : List Hs} (nd : (hs.map (·.1)).Nodup) {h : Hs} (hm : h ∈ hs) : setD hs h.1 h.2.1 = hs := by
  unfold setD
  refine (List.map_congr_left fun z hz => ?_).trans (List.map_id hs)
  by_cases e : z.1 = h.1
  · have := nodup_one nd hz hm e
    subst this
    rw [if_pos rfl]; rfl
  · rw [if_neg e]; rfl
theorem addD_eq {hs : List Hs} (nd : (hs.map (·.1)).Nodup) {h : Hs} (hm : h ∈ hs) (m : Int) : addD hs h.1 m = setD hs h.1 (h.2.1 + m) := by
  unfold setD addD
  refine List.map_congr_left fun z hz => ?_
  by_cases e : z.1 = h.1
  · have := nodup_one nd hz hm e
    subst this
    rw [if_pos rfl, if_pos rfl]
  · rw [if_neg e, if_neg e, Int.add_zero]
theorem setD_mem {hs : List Hs} {x : Str} {d : Int} {z : Hs} (h : z ∈ setD hs x d) : ∃ y ∈ hs, z = (y.1, (if y.1 = x then d else y.2.1), y.2.2) := by
  obtain ⟨y, hy, e⟩ := List.mem_map.mp h
  exact ⟨y, hy, e.symm⟩
theorem lacks_setD {P : Str → Bool} {hs : List Hs} {x : Str} {d : Int} (hx : P x = false) : lacks P (setD hs x d) = lacks P hs := by
  unfold lacks setD
  rw [List.foldl_map]
  congr 1
  funext acc h
  have : lack1 P (h.1, (if h.1 = x then d else h.2.1), h.2.2) = lack1 P h := by
    unfold lack1
    by_cases e : h.1 = x
    · have q : P h.1 = false := by rw [e]; exact hx
      simp only [q]
      rfl
    · simp only [if_neg e]
  simp only [this]
theorem owed_setD {P : Str → Bool} {hs : List Hs} {bs : List Bn} {x : Str} {d : Int} (hx : P x = false) (h : Str) : owed P (setD hs x d) bs h = owed P hs bs h := by
  unfold owed owes
  rw [lacks_setD hx]
theorem owed_most {P : Str → Bool} {hs : List Hs} {bs : List Bn} (hb : ∀ b ∈ bs, 0 ≤ b.2.2) (h : Str) : owed P hs bs h ≤ (bs.map (·.2.2)).sum := by
  unfold owed
  rw [owes_runR]
  generalize lacks P hs = kis
  revert kis
  induction bs with
  | nil => intro kis; exact Int.le_refl _
  | cons b bs ih =>
    intro kis
    have b0 := hb b (by simp)
    have ih := ih (fun x hx => hb x (by simp [hx])) (left1 P kis b)
    show (owedL h ((b, part1 P kis b) :: bs.zip (runR P (left1 P kis b) bs))).sum ≤ _
    rw [owedL_cons, List.map_cons, List.sum_cons]
    have : part1 P kis b ≤ b.2.2 := by
      unfold part1
      split
      · exact b0
      · omega
    split
    · omega
    · omega
structure Cl (hs : List Hs) (bs : List Bn) (F G : List Str) : Prop where
  sup : ∀ x ∈ F, x ∈ G
  cl : ∀ h ∈ hs, isNext (inL G) hs bs h = false
  least : ∀ R : List Str, (∀ x ∈ F, x ∈ R) → (∀ h ∈ hs, isNext (inL R) hs bs h = false) → ∀ x ∈ G, x ∈ R
theorem find_none {hs : List Hs} {bs : List Bn} {P : Str → Bool} : hs.find? (isNext P hs bs) = none ↔ ∀ h ∈ hs, isNext P hs bs h = false := by
  rw [List.find?_eq_none]
  exact ⟨fun h x hx => by simpa using h x hx, fun h x hx => by rw [h x hx]; decide⟩
theorem cl_ord {hs : List Hs} {bs : List Bn} {F : List Str} {os : List (Str × Int)} (hb : ∀ b ∈ bs, 0 ≤ b.2.2) (o : Ord hs bs F os) (hc : hs.find? (isNext (inL (F ++ os.map (·.1))) hs bs) = none) : Cl hs bs F (F ++ os.map (·.1)) := by
  refine ⟨fun x hx => List.mem_append_left _ hx, find_none.mp hc, fun R h0 h1 x hx => ?_⟩
  rcases List.mem_append.mp hx with hx | hx
  · exact h0 x hx
  · exact ord_sub hb h0 h1 o x hx
theorem Cl.both {hs : List Hs} {bs : List Bn} {F G G' : List Str} (h : Cl hs bs F G) (h' : Cl hs bs F G') (x : Str) : x ∈ G ↔ x ∈ G' := ⟨fun q => h.least G' h'.sup h'.cl x q, fun q => h'.least G h.sup h.cl x q⟩
theorem isNext_def {P : Str → Bool} {hs : List Hs} {bs : List Bn} {h : Hs} : isNext P hs bs h = false ↔ (P h.1 = false → owed P hs bs h.1 ≤ h.2.1) := by
  unfold isNext
  cases q : P h.1 with
  | true => simp
  | false => simp
theorem cl_move {hs : List Hs} {bs : List Bn} {x : Str} {d e : Int} {G : List Str} (hx : x ∉ G) (hc : ∀ h ∈ setD hs x d, isNext (inL G) (setD hs x d) bs h = false) (he : owed (inL G) hs bs x ≤ e) : ∀ h ∈ setD hs x e, isNext (inL G) (setD hs x e) bs h = false := by
  have hx : inL G x = false := decide_eq_false hx
  intro h hm
  obtain ⟨y, hy, rfl⟩ := setD_mem hm
  rw [isNext_def]
  intro q
  rw [owed_setD hx]
  show owed (inL G) hs bs y.1 ≤ if y.1 = x then e else y.2.1
  by_cases ey : y.1 = x
  · rw [if_pos ey, ey]; exact he
  · rw [if_neg ey]
    have := isNext_def.mp (hc _ (List.mem_map.mpr ⟨y, hy, rfl⟩)) q
    rw [owed_setD hx] at this
    have this : owed (inL G) hs bs y.1 ≤ if y.1 = x then d else y.2.1 := this
    rwa [if_neg ey] at this
theorem cl_at {hs : List Hs} {bs : List Bn} {x : Str} {d : Int} {G : List Str} (hm : x ∈ hs.map (·.1)) (hx : x ∉ G) (hc : ∀ h ∈ setD hs x d, isNext (inL G) (setD hs x d) bs h = false) : owed (inL G) hs bs x ≤ d := by
  have hx : inL G x = false := decide_eq_false hx
  obtain ⟨y, hy, rfl⟩ := List.mem_map.mp hm
  have := isNext_def.mp (hc _ (List.mem_map.mpr ⟨y, hy, rfl⟩)) hx
  rw [owed_setD hx] at this
  have this : owed (inL G) hs bs y.1 ≤ if y.1 = y.1 then d else y.2.1 := this
  rwa [if_pos rfl] at this
/-- from which deposit on it stands -/
def LM (hs : List Hs) (bs : List Bn) (F : List Str) (x : Str) (w : Int) : Prop := ∀ (d : Int) (G : List Str), Cl (setD hs x d) bs F G → (x ∈ G ↔ d < w)
theorem lm_held {hs : List Hs} {bs : List Bn} {F C : List Str} {x : Str} {held : Int} (hb : ∀ b ∈ bs, 0 ≤ b.2.2) (hm : x ∈ hs.map (·.1)) (hxF : x ∉ F) (hh : (bs.map (·.2.2)).sum ≤ held) (c : Cl (setD hs x held) bs F C) : x ∉ C ∧ LM hs bs F x (owed (inL C) hs bs x) := by
  have hxC : x ∉ C := by
    have hx2 : ∀ h ∈ setD hs x held, isNext (inL (C.filter fun z => !decide (z = x))) (setD hs x held) bs h = false := by
      have hxR : x ∉ C.filter fun z => !decide (z = x) := fun z => by simpa using (List.mem_filter.mp z).2
      have hxR' : inL (C.filter fun z => !decide (z = x)) x = false := decide_eq_false hxR
      intro h hmh
      obtain ⟨y, hy, rfl⟩ := setD_mem hmh
      rw [isNext_def]
      intro q
      show owed _ (setD hs x held) bs y.1 ≤ if y.1 = x then held else y.2.1
      by_cases ey : y.1 = x
      · rw [if_pos ey]
        exact Int.le_trans (owed_most hb _) hh
      · rw [if_neg ey]
        have q : y.1 ∉ C.filter fun z => !decide (z = x) := of_decide_eq_false q
        have qC : y.1 ∉ C := fun z => q (List.mem_filter.mpr ⟨z, by simp [ey]⟩)
        have h1 := isNext_def.mp (c.cl _ (List.mem_map.mpr ⟨y, hy, rfl⟩)) (decide_eq_false qC)
        have h1 : owed (inL C) (setD hs x held) bs y.1 ≤ if y.1 = x then held else y.2.1 := h1
        rw [if_neg ey] at h1
        refine Int.le_trans (owed_mono (inL_mono fun z hz => (List.mem_filter.mp hz).1) hb (decide_eq_false qC)) h1
    intro z
    have := c.least _ (fun y hy => List.mem_filter.mpr ⟨c.sup y hy, by rw [decide_eq_false fun e => hxF (by rw [← e]; exact hy)]; rfl⟩) hx2 x z
    simpa using (List.mem_filter.mp this).2
  refine ⟨hxC, fun d G g => ⟨fun hx => ?_, fun hd => ?_⟩⟩
  · refine Int.not_le.mp fun hle => hxC ?_
    exact g.least C c.sup (cl_move hxC c.cl hle) x hx
  · refine Classical.byContradiction fun hx => ?_
    have hsub := c.least G g.sup (cl_move hx g.cl (Int.le_trans (owed_most hb _) hh))
    have h1 := cl_at hm hx g.cl
    have h2 := owed_mono (hs := hs) (inL_mono hsub) hb (decide_eq_false hx : inL G x = false)
    omega
theorem setD_HB {hs : List Hs} {bs : List Bn} {x : Str} {d : Int} (h : HB hs bs) : HB (setD hs x d) bs := by
  refine ⟨by rw [setD_len]; exact h.hl, h.bl, fun b hb => ?_, fun z hz => ?_, h.bo⟩
  · obtain ⟨y, hy, e⟩ := h.hin b hb
    exact ⟨_, List.mem_map.mpr ⟨y, hy, rfl⟩, e⟩
  · obtain ⟨y, hy, rfl⟩ := setD_mem hz
    exact h.ho y hy
theorem cl_rounds {hs : List Hs} {bs : List Bn} {F : List Str} (hb : ∀ b ∈ bs, 0 ≤ b.2.2) : Cl hs bs F (rounds hs bs F hs.length) := by
  refine ⟨fun x hx => rounds_first _ x hx, rounds_closed, fun R h0 h1 x hx => rounds_sub hb h0 (find_none.mpr h1) _ x hx⟩
theorem own_first {hs : List Hs} (nd : (hs.map (·.1)).Nodup) {h : Hs} (hm : h ∈ hs) : atI ((hs.filter fun z => decide (z.1 = h.1)).map fun z => PyData.int z.2.1) 0 = some (.int h.2.1) := by
  have e : hs.filter (fun z => decide (z.1 = h.1)) ≠ [] := fun z => by
    have : h ∈ hs.filter fun z => decide (z.1 = h.1) := List.mem_filter.mpr ⟨hm, decide_eq_true rfl⟩
    rw [z] at this
    cases this
  cases q : hs.filter fun z => decide (z.1 = h.1) with
  | nil => exact absurd q e
  | cons a l =>
    have ha : a ∈ hs.filter fun z => decide (z.1 = h.1) := by rw [q]; simp
    obtain ⟨h1, h2⟩ := List.mem_filter.mp ha
    have := nodup_one nd h1 hm (of_decide_eq_true h2)
    subst this
    unfold L2.atI L2.ixN
    simp
theorem find_put {kvs : List (Key × D)} {k k' : Key} {d : D} : findD (putD kvs k d) k' = if k = k' then some d else findD kvs k' := by
  unfold putD findD
  split
  · rename_i c
    induction kvs with
    | nil => simp at c
    | cons z r ih =>
      rw [List.map_cons, List.find?_cons, List.find?_cons]
      by_cases e : z.1 = k
      · by_cases e2 : k = k'
        · simp [e, e2]
        · have e3 : ¬ z.1 = k' := fun q => e2 (e ▸ q)
          simp only [e, e2, if_true, if_false, decide_false]
          by_cases c2 : (r.any fun kv => decide (kv.1 = k)) = true
          · have := ih c2
            rw [if_neg e2] at this
            exact this
          · have : r.map (fun kv => if kv.1 = k then (kv.1, d) else kv) = r := by
              rw [List.map_congr_left (g := id) (fun q hq => ?_), List.map_id]
              have : ¬ q.1 = k := fun z => c2 (List.any_eq_true.mpr ⟨q, hq, decide_eq_true z⟩)
              rw [if_neg this]; rfl
            rw [this]
      · rw [if_neg e]
        by_cases e3 : z.1 = k'
        · have e2 : ¬ k = k' := fun q => e (e3.trans q.symm)
          simp [e3, e2]
        · simp only [e3, decide_false]
          refine ih ?_
          rw [List.any_cons, decide_eq_false e, Bool.false_or] at c
          exact c
  · rename_i c
    rw [List.find?_append]
    by_cases e2 : k = k'
    · have : kvs.find? (fun kv => decide (kv.1 = k')) = none := by
        rw [List.find?_eq_none]
        intro x hx q
        exact c (List.any_eq_true.mpr ⟨x, hx, by rw [e2]; exact q⟩)
      rw [this, if_pos e2]
      simp [e2]
    · rw [if_neg e2]
      cases q : kvs.find? (fun kv => decide (kv.1 = k')) with
      | none => simp [e2]
      | some z => rfl
/-- who fails where that one fails at first, in the order of houses -/
def down (hs : List Hs) (bs : List Bn) (x : Str) : List Str := ins (inL (rounds hs bs [x] hs.length)) hs
theorem ins_ext {P P' : Str → Bool} {hs : List Hs} (h : ∀ x, P x = P' x) : ins P hs = ins P' hs := by rw [show P = P' from funext h]
theorem inL_ext {F G : List Str} (h : ∀ x, x ∈ F ↔ x ∈ G) (x : Str) : inL F x = inL G x := by
  unfold inL
  by_cases q : x ∈ F
  · rw [decide_eq_true q, decide_eq_true ((h x).mp q)]
  · rw [decide_eq_false q, decide_eq_false fun z => q ((h x).mpr z)]
theorem ins_iff {P : Str → Bool} {hs : List Hs} {x : Str} : x ∈ ins P hs ↔ x ∈ hs.map (·.1) ∧ P x = true := by
  unfold ins
  rw [List.mem_map, List.mem_map]
  constructor
  · rintro ⟨h, hm, rfl⟩
    obtain ⟨a, b⟩ := List.mem_filter.mp hm
    exact ⟨⟨h, a, rfl⟩, b⟩
  · rintro ⟨⟨h, hm, rfl⟩, q⟩
    exact ⟨h, List.mem_filter.mpr ⟨hm, q⟩, rfl⟩
theorem ins_nodup {P : Str → Bool} {hs : List Hs} (h : (hs.map (·.1)).Nodup) : (ins P hs).Nodup := h.sublist (List.Sublist.map _ List.filter_sublist)
theorem ord_nd {hs : List Hs} {bs : List Bn} {F : List Str} (nd : F.Nodup) : ∀ {os : List (Str × Int)}, Ord hs bs F os → (F ++ os.map (·.1)).Nodup
  | _, .nil => by simpa using nd
  | _, .snoc (os := os) (h := h) o hm q => by
    have e := (isNext_not q).1
    have e : h.1 ∉ F ++ os.map (·.1) := of_decide_eq_false e
    rw [List.map_append, ← List.append_assoc]
    rw [List.nodup_append]
    refine ⟨ord_nd nd o, by simp, fun a ha b hb => ?_⟩
    rw [List.map_cons, List.map_nil, List.mem_singleton] at hb
    rw [hb]
    intro z
    exact e (z ▸ ha)
theorem down_perm {hs : List Hs} {bs : List Bn} {x : Str} {os : List (Str × Int)} (nd : (hs.map (·.1)).Nodup) (b0 : ∀ b ∈ bs, 0 ≤ b.2.2) (hx : x ∈ hs.map (·.1)) (o : Ord hs bs [x] os) (hc : hs.find? (isNext (inL ([x] ++ os.map (·.1))) hs bs) = none) :
    ([x] ++ os.map (·.1)).Perm (down hs bs x) := by
  have e := same_fail b0 o hc
  have n1 := ord_nd (by simp) o
  have n2 : (down hs bs x).Nodup := ins_nodup nd
  have m : ∀ y, y ∈ [x] ++ os.map (·.1) ↔ y ∈ down hs bs x := fun y => by
    unfold down
    rw [ins_iff, e y]
    refine ⟨fun q => ⟨?_, decide_eq_true q⟩, fun q => of_decide_eq_true q.2⟩
    rcases List.mem_append.mp ((e y).mpr q) with z | z
    · rw [List.mem_singleton.mp z]; exact hx
    · exact o.nodup.2 y z
  exact perm_of_sub n2 (fun y hy => (m y).mpr hy) (Nat.le_antisymm (nodup_lenS n1 fun y hy => (m y).mp hy) (nodup_lenS n2 fun y hy => (m y).mpr hy))
theorem unpaid_names {P : Str → Bool} {hs : List Hs} {bs : List Bn} : (unpaidRows P hs bs).map (·.1) = ins P hs := by
  unfold unpaidRows ins
  rw [List.map_map]
  rfl
theorem names_ok {F : List Str} (h : ∀ x ∈ F, sOk x) (hl : F.length ≤ 100) : okS false (.list (F.map .str)) = true := rows_ok2 (fun x hx => h x hx) (by omega)
theorem two_okL {bo : Bool} {a b : D} (h1 : okS bo a = true) (h2 : okS bo b = true) : okS bo (.list [a, b]) = true := by
  rw [okS, Bool.and_eq_true]
  refine ⟨okSs_of fun d hd => ?_, decide_eq_true (by show 2 ≤ sizeLine; decide)⟩
  rcases List.mem_cons.mp hd with rfl | hd
  · exact h1
  · rw [List.mem_singleton.mp hd]; exact h2
theorem two_depL {n : Nat} {a b : D} (h1 : a.depth ≤ n) (h2 : b.depth ≤ n) : (PyData.list [a, b]).depth ≤ n + 1 := by
  have : PyData.depthAll [a, b] ≤ n := depth_of fun d hd => by
    rcases List.mem_cons.mp hd with rfl | hd
    · exact h1
    · rw [List.mem_singleton.mp hd]; exact h2
  rw [PyData.depth]
  omega
theorem names_dep (F : List Str) {n : Nat} (h : 2 < n) : (PyData.list (F.map .str)).depth < n := by
  have := rows_dep2 (n := 1) (f := PyData.str) (l := F) fun x _ => by simp [PyData.depth]
  omega
theorem sort_okS {F : List Str} (h : ∀ x ∈ F, sOk x) (hl : F.length ≤ 100) : okS false (.list (sortD (F.map .str))) = true ∧ SeqAt.shaped (.list (sortD (F.map .str))) = true := by
  have m : ∀ d ∈ sortD (F.map .str), ∃ x ∈ F, d = .str x := fun d hd => by
    obtain ⟨x, hx, e⟩ := List.mem_map.mp ((List.mergeSort_perm _ _).mem_iff.mp hd)
    exact ⟨x, hx, e.symm⟩
  have e : okS false (.list (sortD (F.map .str))) = true := by
    rw [okS, Bool.and_eq_true]
    refine ⟨okSs_of fun d hd => ?_, decide_eq_true ?_⟩
    · obtain ⟨x, hx, rfl⟩ := m d hd
      exact h x hx
    · rw [show (sortD (F.map PyData.str)).length = F.length from (List.mergeSort_perm _ _).length_eq.trans (List.length_map _)]
      exact Nat.le_of_lt (sz (by omega))
  refine ⟨e, shaped_of e ?_⟩
  have : PyData.depthAll (sortD (F.map .str)) ≤ 1 := depth_of fun d hd => by
    obtain ⟨x, hx, rfl⟩ := m d hd
    simp [PyData.depth]
  rw [PyData.depth]
  omega
theorem pair_ok {hs : List Hs} {bs : List Bn} (hb : HB hs bs) : okS false (.list [.list (hs.map hsD), .list (bs.map bnD)]) = true := by
  have hhl := hb.hl
  have hbl := hb.bl
  exact two_okL (rows_ok2 (fun x hx => hsD_ok (hb.ho x hx)) (by omega)) (rows_ok2 (fun x hx => bnD_ok (hb.bo x hx) (hb.bo2 hx)) (by omega))
theorem pair_dep {hs : List Hs} {bs : List Bn} : (PyData.list [.list (hs.map hsD), .list (bs.map bnD)]).depth ≤ 64 := by
  have := two_depL (n := 4) (rows_dep2 (n := 3) (f := hsD) (l := hs) fun x _ => hsD_dep x) (rows_dep2 (n := 3) (f := bnD) (l := bs) fun x _ => bnD_dep x)
  omega
section
variable {P : Program} {w : World} {K : PySem.W.Frag} {mg : Str → Option Value} {base : Heap}
theorem hu64R {k : Nat} {A : Around} (hr : Room k A) : A.units + 64 < cLine := by have := hr.un; omega
theorem ok_begin {f : Addr} {fd : FuncData} {k : Nat} (F : Fun K "_law_begin" "_law_begin" s_begin f fd) (ml : mg "list" = none) : FnOk P w K mg base CX0 (k + 1) f fd ["_law_script"] (spBeginH K) := by
  refine F.ok sc_begin (fun vs H Q E h => ?_) (fun cdv A outer s H vs Q E hr h => ?_)
  · obtain ⟨a, ns, rfl, _⟩ := h
    rfl
  · obtain ⟨a, ns, rfl, hS, q⟩ := h
    refine ⟨_, pss_cons (ps_set (i := 1) sc_begin.nd rfl (.inl rfl) (pe_callTy call_list_of (by rfl) ml (by decide +kernel) (pa_cons (pe_slice sl_list (pv 0) po_none (po_some pe_int)) pa_nil)))
      (pss_cons (ps_if (pt_cmpR (op_eqD (hu64R hr)) (pv 1) (pe_lst pa_nil) (nomark _)) (pss_one (ps_set (i := 1) sc_begin.nd rfl (.inl rfl) (pe_lst (pa_cons pe_int pa_nil)))) pss_nil)
      (pss_one (ps_ret (pe_disp (pps_cons pe_str (pv 1) (pps_cons pe_str pe_int pps_nil)) rfl rfl (fun z => by cases z) (Nat.le_of_ble_eq_true rfl))))), ?_⟩
    have cut : cutV (ns.map V.int) none (some 63) = (ns.take 63).map V.int := by
      unfold cutV
      rw [HT.sIx_none]
      rw [show HT.sIx (ns.map V.int).length (ns.map V.int).length (some 63) = min 63 (ns.map V.int).length from HT.sIx_nat _ _ 63]
      simp [List.map_take, List.take_eq_take_iff]
    refine ⟨.ref a, rfl, 63, rfl, a, _, rfl, hS, fun c nc => ⟨c, _, rfl, .inl (.inl (.inl upd_same)), fun l nl => ?_⟩⟩
    rw [cut]
    have ncl : c ≠ l := fun z => by rw [z, upd_same] at nl; cases nl
    have nl0 : H l = none := by rw [← nl, upd_ne ncl.symm]
    refine ⟨_, rfl, Nat.zero_le _, fun e ne => ?_⟩
    have nel : e ≠ l := fun z => by rw [z, upd_same] at ne; cases ne
    have nec : e ≠ c := fun z => by rw [z, upd_ne ncl, upd_same] at ne; cases ne
    have fin : ∀ (H2 : Hp) (x : Addr) (cs : List Int), (∀ b o, H b = some o → H2 b = some o) → H x = none → H2 x = some (.lst (cs.map V.int)) → 1 ≤ cs.length → cs.length ≤ 63 → ∀ p, H2 p = none → Q (.ref p) (upd (upd H2 p (.dK [])) p (.dK [(.inr "cells", .ref x), (.inr "turn", .int 0)])) := fun H2 x cs hx nx hx2 l1 l2 p np => by
      have npx : x ≠ p := ne_of_none hx2 np
      refine q _ p x cs (fun b o h => ?_) upd_same ?_ ?_ nx npx.symm l1 l2
      · have nb : b ≠ p := ne_of_none (hx b o h) np
        rw [upd_ne nb, upd_ne nb]; exact hx b o h
      · rw [upd_ne npx, upd_ne npx]; exact hx2
      · cases z : H p with
        | none => rfl
        | some o => rw [hx p o z] at np; cases np
    have h1 : ∀ b o, H b = some o → (upd (upd (upd H c (.lst ((ns.take 63).map V.int))) l (.lst ((ns.take 63).map V.int))) e (.lst [])) b = some o := fun b o h => by
      rw [upd_ne (fun z => by rw [z] at h; rw [upd_ne nel, upd_ne nec] at ne; rw [h] at ne; cases ne), upd_ne (ne_of_none h nl0), upd_ne (ne_of_none h nc)]; exact h
    refine ⟨.list ((ns.take 63).map PyData.int), .list [], .lst (.inl (.inl ?_)) ((RpL.ints (A := fun _ => False)).dp (lay_ints _)), .lst (.inl (.inl upd_same)) .nil, PySem.W.shaped_ints _, by decide, ?_⟩
    · rw [upd_ne nel.symm, upd_same]
    · cases ns with
      | nil =>
        refine ⟨_, rfl, ite2 (fun _ => ?_) (fun z => (z rfl).elim)⟩
        refine ⟨by decide, fun x nx => ?_⟩
        have nx0 : H x = none := by
          cases z : H x with
          | none => rfl
          | some o => rw [h1 _ _ z] at nx; cases nx
        refine fun p np => ⟨.ref x, rfl, upd_same, [(.inr "cells", .ref x), (.inr "turn", .int 0)], rfl, Nat.le_of_ble_eq_true rfl, ?_⟩
        exact fin _ x [7] (fun b o h => by rw [upd_ne (ne_of_none (h1 _ _ h) nx)]; exact h1 _ _ h) nx0 upd_same (by decide) (by decide) p np
      | cons x r =>
        refine ⟨_, rfl, ite2 (fun z => by cases z) (fun z => ?_)⟩
        refine fun p np => ⟨.ref l, rfl, ?_, [(.inr "cells", .ref l), (.inr "turn", .int 0)], rfl, Nat.le_of_ble_eq_true rfl, ?_⟩
        · exact upd_same
        · exact fin _ l _ h1 nl0 (by rw [upd_ne nel.symm, upd_same]) (by simp) (by simp; omega) p np
theorem ok_take {f : Addr} {fd : FuncData} {k : Nat} (F : Fun K "_law_take" "_law_take" s_take f fd) (ml : mg "len" = none) (md : mg "divmod" = none) : FnOk P w K mg base CX0 (k + 1) f fd ["_law_state", "_law_many"] spTakeH := by
  refine F.ok sc_take (fun vs H Q E h => ?_) (fun cdv A outer s H vs Q E hr h => ?_)
  · obtain ⟨a, c, cs, t, many, rfl, _⟩ := h
    rfl
  · obtain ⟨a, c, cs, t, many, rfl, ha, hc, l1, l2, t0, t1, hm, q⟩ := h
    refine ⟨_, pss_cons (ps_set (i := 2) sc_take.nd rfl (.inl rfl) (pe_op op_add (pe_dget (hu1R hr) (pv 0) pe_str (fun _ _ => rfl)) pe_int))
      (pss_cons (ps_dput (hu1R hr) (pv 0) pe_str (pv 2) rfl)
      (pss_cons (ps_set (i := 3) sc_take.nd rfl (.inl rfl) (pe_op op_mod (pv 2) (pe_callB call_len_seq (by rfl) ml PySem.boot_len (pa_cons (pe_dget (hu1R hr) (pv 0) pe_str (fun _ _ => rfl)) pa_nil))))
      (pss_cons (ps_set (i := 4) sc_take.nd rfl (.inl rfl) (pe_ix ix_list (pe_dget (hu1R hr) (pv 0) pe_str (fun _ _ => rfl)) (pv 3) (fun _ _ => rfl)))
      (pss_cons (ps_if (pt_cmpR op_ge (pv 4) (pe_op op_pow pe_int pe_int) (nomark _))
        (pss_cons (ps_asg (pe_callB call_divmodW (by rfl) md (by decide +kernel) (pa_cons (pv 4) (pa_cons (pv 1) pa_nil))) (pg_tup rfl (pgs_cons (pg_sub (pe_dget (hu1R hr) (pv 0) pe_str (fun _ _ => rfl)) (pv 3) set_list) (pgs_cons (pg_name (i := 5) sc_take.nd rfl (.inl rfl)) pgs_nil))))
        (pss_one (ps_ret (pv 5)))) pss_nil)
      (pss_cons (ps_set (i := 6) sc_take.nd rfl (.inl rfl) (pe_op op_mod (pe_op op_mulX (pe_op op_add (pe_op op_add (pe_op op_mod (pv 4) pe_int) (pe_op op_mulX (pe_op op_mulX (pv 2) (pv 2)) pe_int)) pe_int) pe_int) pe_int))
      (pss_cons (ps_set (i := 6) sc_take.nd rfl (.inl rfl) (pe_op op_mod (pe_op op_mulX (pv 6) (pv 6)) pe_int))
      (pss_one (ps_ret (pe_op op_mod (pe_op op_fdivW (pe_op op_mod (pe_op op_mulX (pe_op op_add (pv 6) (pe_op op_mulX (pv 2) pe_int)) pe_int) pe_int) pe_int) (pv 1)))))))))), ?_⟩
    have e1 : valV ([(.inr "cells", .ref c), (.inr "turn", .int t)] : List (Key × V)) (.inr "turn") = some (.int t) := rfl
    have hac : a ≠ c := ne_of ha hc (by intro z; cases z)
    have hp : putK ([(.inr "cells", .ref c), (.inr "turn", .int t)] : List (Key × V)) (.inr "turn") (.int (t + 1)) = [(.inr "cells", .ref c), (.inr "turn", .int (t + 1))] := rfl
    have ha1 : (upd H a (.dK [(.inr "cells", .ref c), (.inr "turn", .int (t + 1))])) a = some (.dK [(.inr "cells", .ref c), (.inr "turn", .int (t + 1))]) := upd_same
    have hc1 : (upd H a (.dK [(.inr "cells", .ref c), (.inr "turn", .int (t + 1))])) c = some (.lst (cs.map V.int)) := by rw [upd_ne hac.symm]; exact hc
    have ec : valV ([(.inr "cells", .ref c), (.inr "turn", .int (t + 1))] : List (Key × V)) (.inr "cells") = some (.ref c) := rfl
    obtain ⟨m, hm1, hm2⟩ : ∃ m : Nat, (t + 1) % (cs.length : Int) = m ∧ m < cs.length := ⟨((t + 1) % (cs.length : Int)).toNat, (Int.toNat_of_nonneg (Int.emod_nonneg _ (by omega))).symm, by have h1 := Int.emod_nonneg (t + 1) (show (cs.length : Int) ≠ 0 by omega); have h2 := Int.emod_lt_of_pos (t + 1) (show (0 : Int) < cs.length by omega); omega⟩
    have gm : (cs.map V.int)[m]? = some (.int cs[m]) := by rw [List.getElem?_map, List.getElem?_eq_getElem hm2]; rfl
    refine ⟨.ref a, rfl, a, _, rfl, DGet.k (k := .inr "turn") ha, _, _, rfl, rfl, ?_⟩
    refine ⟨_, rfl, .ref a, rfl, a, _, rfl, DPut.k (k := .inr "turn") ha (by show 2 < sizeLine; decide), ?_⟩
    refine ⟨_, rfl, .ref a, rfl, a, _, rfl, DGet.k (k := .inr "cells") ha1, ?_⟩
    refine ⟨c, cs.map V.int, rfl, .inl (.inl (.inl hc1)), ?_⟩
    have el : ((cs.map V.int).length : Int) = cs.length := by rw [List.length_map]
    refine ⟨t + 1, ((cs.map V.int).length : Int), rfl, rfl, by omega, ?_⟩
    have hm3 : (t + 1) % ((cs.map V.int).length : Int) = (m : Int) := by rw [el]; exact hm1
    refine ⟨.ref a, rfl, a, _, rfl, DGet.k (k := .inr "cells") ha1, _, rfl, c, cs.map V.int, _, .int cs[m], rfl, rfl, .inl (.inl hc1), at_of (j := m) hm3 gm, ?_⟩
    refine ⟨.int cs[m], rfl, 10, 18, rfl, rfl, ⟨by decide, by decide⟩, ?_⟩
    refine ⟨cs[m], _, rfl, rfl, _, rfl, ite2 (fun _ => ?_) (fun _ => ?_)⟩
    · refine ⟨.int cs[m], rfl, .int many, rfl, cs[m], many, rfl, ⟨hm.1, PyProof.noPylong_of_log2 hm.2⟩, fun p np => ?_⟩
      have npa : a ≠ p := ne_of_none ha1 np
      have npc : c ≠ p := ne_of_none hc1 np
      have ha2 : ∀ o, (upd (upd H a (.dK [(.inr "cells", .ref c), (.inr "turn", .int (t + 1))])) p o) a = some (.dK [(.inr "cells", .ref c), (.inr "turn", .int (t + 1))]) := fun o => by rw [upd_ne npa]; exact ha1
      have hc2 : ∀ o, (upd (upd H a (.dK [(.inr "cells", .ref c), (.inr "turn", .int (t + 1))])) p o) c = some (.lst (cs.map V.int)) := fun o => by rw [upd_ne npc]; exact hc1
      refine ⟨p, [.int (cs[m] / many), .int (cs[m] % many)], rfl, .inl (.inl upd_same), rfl, .int (cs[m] / many), [.int (cs[m] % many)], rfl, ?_⟩
      refine ⟨.ref a, rfl, a, _, rfl, DGet.k (k := .inr "cells") (ha2 _), _, rfl, ?_⟩
      refine ⟨c, cs.map V.int, _, m, rfl, rfl, hc2 _, ?_, .int (cs[m] % many), [], rfl, rfl, .int (cs[m] % many), rfl, ?_⟩
      · rw [hm3, List.length_map]
        unfold ixN
        rw [if_pos (by omega), if_pos (by omega)]
        rfl
      · have l0 : 0 ≤ cs[m] % many := Int.emod_nonneg _ (by have := hm.1; omega)
        have l1 : cs[m] % many < many := Int.emod_lt_of_pos _ hm.1
        refine q _ (cs.set m (cs[m] / many)) _ (fun b o hb hb2 h => ?_) ?_ ?_ (by simp) l0 l1
        · have nb : b ≠ p := ne_of_none (by rw [upd_ne hb]; exact h) np
          rw [upd_ne hb2, upd_ne nb, upd_ne hb]; exact h
        · rw [upd_ne hac]; exact ha2 _
        · rw [upd_same, List.map_set]
    · have hx0 : 0 ≤ cs[m] % 2147483629 := Int.emod_nonneg _ (by decide)
      have hx1 : cs[m] % 2147483629 < 2147483629 := Int.emod_lt_of_pos _ (by decide)
      have ht0 : 0 ≤ t + 1 := by omega
      have ht1 : t + 1 < 2 ^ 61 := by unfold turnMax at t1; omega
      have m1 : CMulX (t + 1) (t + 1) := mulx_ok (a := 61) (b := 61) (by omega) (by omega) (by decide)
      have hs0 : 0 ≤ (t + 1) * (t + 1) := Int.mul_nonneg ht0 ht0
      have hs1 : (t + 1) * (t + 1) < 2 ^ 123 := Int.lt_of_le_of_lt (Int.mul_le_mul (Int.le_of_lt ht1) (Int.le_of_lt ht1) ht0 (by decide)) (by decide)
      have m2 : CMulX ((t + 1) * (t + 1)) 7919 := mulx_ok (a := 123) (b := 13) (by omega) (by decide) (by decide)
      have m3 : CMulX (cs[m] % 2147483629 + (t + 1) * (t + 1) * 7919 + 11) 48271 := mulx_ok (a := 140) (b := 16) (by omega) (by decide) (by decide)
      have hy0 := Int.emod_nonneg ((cs[m] % 2147483629 + (t + 1) * (t + 1) * 7919 + 11) * 48271) (show (2147483647 : Int) ≠ 0 by decide)
      have hy1 := Int.emod_lt_of_pos ((cs[m] % 2147483629 + (t + 1) * (t + 1) * 7919 + 11) * 48271) (show (0 : Int) < 2147483647 by decide)
      have m4 : CMulX ((cs[m] % 2147483629 + (t + 1) * (t + 1) * 7919 + 11) * 48271 % 2147483647) ((cs[m] % 2147483629 + (t + 1) * (t + 1) * 7919 + 11) * 48271 % 2147483647) := mulx_ok (a := 31) (b := 31) (by omega) (by omega) (by decide)
      refine ⟨_, rfl, _, _, rfl, rfl, (by omega : (0 : Int) < _), _, rfl, _, rfl, _, _, rfl, rfl, m1, _, _, rfl, rfl, m2, _, _, rfl, rfl, _, _, rfl, rfl, _, _, rfl, rfl, m3, _, _, rfl, rfl, (by omega : (0 : Int) < _), ?_⟩
      refine ⟨_, rfl, _, rfl, _, _, rfl, rfl, m4, _, _, rfl, rfl, (by omega : (0 : Int) < _), ?_⟩
      generalize ((cs[m] % 2147483629 + (t + 1) * (t + 1) * 7919 + 11) * 48271 % 2147483647) * ((cs[m] % 2147483629 + (t + 1) * (t + 1) * 7919 + 11) * 48271 % 2147483647) = y at *
      have hz0 := Int.emod_nonneg y (show (2147483587 : Int) ≠ 0 by decide)
      have hz1 := Int.emod_lt_of_pos y (show (0 : Int) < 2147483587 by decide)
      refine ⟨_, rfl, _, rfl, _, _, rfl, rfl, mulx_ok (a := 61) (b := 17) (by omega) (by decide) (by decide), _, _, rfl, rfl, _, _, rfl, rfl, mulx_ok (a := 90) (b := 17) (by omega) (by decide) (by decide), _, _, rfl, rfl, (by omega : (0 : Int) < _), _, _, rfl, rfl, ⟨by decide, by decide⟩, _, rfl, _, _, rfl, rfl, hm.1, ?_⟩
      refine q _ cs _ (fun b o hb hb2 h => ?_) ha1 hc1 rfl (Int.emod_nonneg _ (by have := hm.1; omega)) (Int.emod_lt_of_pos _ hm.1)
      show (upd H a _) b = _
      rw [upd_ne hb]; exact h
theorem o_take' (T : Tx K mg) : Ok P w K mg base 1 "_law_take" s_take ["_law_state", "_law_many"] 2 spTake := by
  obtain ⟨f, fd, a⟩ := T.d_take
  exact ⟨f, fd, a, DL.FnOk.toG ((ok_take (k := 0) a.F T.b_len T.b_divmod).imp fun _ _ _ _ q => spTake_imp q)⟩
def sp_lacks_of : SpD := fun xs ms Ks => match xs, ms with
  | [.da x, .da F], [] => ∃ (hs : List Hs) (kvs : List (Key × D)), isL hsD hs x ∧ F = dictD kvs ∧ hs.length ≤ 20 ∧ Ks [.dct (dctI (lacks (inF kvs) hs))] (.mu 0)
  | _, _ => False
theorem ok_lacks_of (T : Tx K mg)  : Ok P w K mg base 1 "lacks_of" s_lacks_of ["houses", "failing"] 2 sp_lacks_of := by
  refine ok_data (n0 := 4) T.d_lacks_of sc_lacks_of _ (fun f cdv A outer s H E hr =>
  (dss_cons (ds_set (i := 2) sc_lacks_of.nd rfl (by first | exact .inl rfl | exact .inr rfl) de_newD)
  (dss_cons (ds_for [0, 3, 4, 5] 1 PassesOwn.never rfl (di_seq (dv 0)) (dg_tup (n := 3) rfl (dgs_cons (dg_name (i := 3) sc_lacks_of.nd rfl (by first | exact .inl rfl | exact .inr rfl)) (dgs_cons (dg_name (i := 4) sc_lacks_of.nd rfl (by first | exact .inl rfl | exact .inr rfl)) (dgs_cons (dg_name (i := 5) sc_lacks_of.nd rfl (by first | exact .inl rfl | exact .inr rfl)) dgs_nil))))
    (dss_one (ds_asg (de_if (dt_dinD (hu1 hr) (dv 3) (dv 1)) (de_max rfl (by rfl) (T.b_max) de_int (de_sub (dv 5) (dv 4))) de_int) (dg_setD (hu1 hr) (dv 2) (dv 3)))))
  (dss_one (ds_ret (dv 2)))))) (fun xs ms Ks h hl => ?_)
  unfold sp_lacks_of at h
  split at h
  · rename_i x F
    obtain ⟨hs, kvs, hx, rfl, hl, hk⟩ := h
    rcases hx with rfl | rfl
    all_goals
      refine ⟨fun (i : Nat) (s : S) => s = ⟨[.no, .da (dictD kvs), .mu 0, .no, .no, .no], [.dct (dctI (lacks (inF kvs) (hs.take i)))], 0⟩, ⟨Nat.zero_le _, rfl⟩, ?_, ?_⟩
      · rintro i e s hi rfl
        obtain ⟨h1, hh, rfl⟩ := map_get hi
        have hi2 : i < 20 := by have := (List.getElem?_eq_some_iff.mp hh).1; omega
        have hlen := lacks_len (P := inF kvs) hs i
        refine ⟨rfl, ?_⟩
        try dsimp only [DL.S.sE, DL.S.sM, DL.S.aM, DL.S.cM, DL.st, DL.gt, DL.sm, DL.gm, DL.putM, DL.pick, DL.muks, DL.nthN, DL.bkE, DL.st0, DL.nos, List.cons_append, List.nil_append, List.append_nil, List.drop_succ_cons, List.drop_nil, List.drop_zero, List.drop, DL.a1, DL.a2, DL.a3, DL.cMin3, DL.aNil, DL.aCons, DL.dVar, DL.dC, DL.iI, DL.i1, DL.isB, DL.daI, DL.onE, DL.gN, List.length_cons, List.length_nil, Nat.reduceAdd, Nat.zero_add]
        refine ⟨kvs, rfl, ?_⟩
        cases q : inF kvs h1.1 with
        | true =>
          refine xT q ?_
          refine ⟨by rw [dct_len]; exact sz (by omega), Nat.zero_le _, ?_⟩
          rw [take_snoc hh, lacks_snoc, ← put_dctI, lack1, if_pos q]
          rfl
        | false =>
          refine xF q ?_
          refine ⟨by rw [dct_len]; exact sz (by omega), Nat.zero_le _, ?_⟩
          rw [take_snoc hh, lacks_snoc, ← put_dctI, lack1, if_neg (by rw [q]; decide)]
          rfl
      · rintro s rfl
        rw [List.length_map, List.take_length]
        exact hk
  · exact h.elim
def sp_each_owes : SpD := fun xs ms Ks => match xs, ms with
  | [.da x, .da y, .da z], [] => ∃ (hs : List Hs) (bs : List Bn) (F : List Str), x = .list (hs.map hsD) ∧ y = .list (bs.map bnD) ∧ z = .list (F.map .str) ∧ HB hs bs ∧ (∀ x ∈ F, sOk x) ∧ Ks [] (.da (.list ((owes (inL F) hs bs).map .int)))
  | _, _ => False
theorem ok_each_owes (T : Tx K mg)  : Ok P w K mg base 1 "_law_each_owes" s_each_owes ["_law_houses", "_law_bonds", "_law_failing"] 3 sp_each_owes := by
  refine ok_data (n0 := 8) T.d_each_owes sc_each_owes _ (fun f cdv A outer s H E hr =>
  (dss_cons (ds_set (i := 3) sc_each_owes.nd rfl (by first | exact .inl rfl | exact .inr rfl) de_newD)
  (dss_cons (ds_for [0, 4, 5, 6, 7, 8, 9, 10] 1 PassesOwn.never rfl (di_list (dv 0)) (dg_tup (n := 3) rfl (dgs_cons (dg_name (i := 4) sc_each_owes.nd rfl (by first | exact .inl rfl | exact .inr rfl)) (dgs_cons (dg_name (i := 5) sc_each_owes.nd rfl (by first | exact .inl rfl | exact .inr rfl)) (dgs_cons (dg_name (i := 6) sc_each_owes.nd rfl (by first | exact .inl rfl | exact .inr rfl)) dgs_nil))))
    (dss_one (ds_asg (de_if (dt_inD (hu64 hr) (dv 4) (dv 2)) (de_max rfl (by rfl) (T.b_max) de_int (de_sub (dv 6) (dv 5))) de_int) (dg_setD (hu1 hr) (dv 3) (dv 4)))))
  (dss_cons (ds_set (i := 7) sc_each_owes.nd rfl (by first | exact .inl rfl | exact .inr rfl) (de_lstM dan_nil))
  (dss_cons (ds_for [0, 1, 4, 5, 6, 8, 9, 10] 2 PassesOwn.never rfl (di_list (dv 1)) (dg_tup (n := 3) rfl (dgs_cons (dg_name (i := 8) sc_each_owes.nd rfl (by first | exact .inl rfl | exact .inr rfl)) (dgs_cons (dg_name (i := 4) sc_each_owes.nd rfl (by first | exact .inl rfl | exact .inr rfl)) (dgs_cons (dg_name (i := 9) sc_each_owes.nd rfl (by first | exact .inl rfl | exact .inr rfl)) dgs_nil))))
    (dss_cons (ds_set (i := 10) sc_each_owes.nd rfl (by first | exact .inl rfl | exact .inr rfl) (de_if (dt_inD (hu64 hr) (dv 8) (dv 2)) de_int (de_min rfl (by rfl) (T.b_min) (dv 9) (de_dget (hu1 hr) (dv 3) (dv 4)))))
    (dss_cons (ds_asg (de_sub (de_dget (hu1 hr) (dv 3) (dv 4)) (dv 10)) (dg_setD (hu1 hr) (dv 3) (dv 4)))
    (dss_one (ds_exp (de_append (dv 7) (dv 10)))))))
  (dss_frzV 7 (dss_one (ds_ret (dv 7))))))))) (fun xs ms Ks h hl => ?_)
  unfold sp_each_owes at h
  split at h
  · rename_i x y z
    obtain ⟨hs, bs, F, rfl, rfl, rfl, hb, hF, hk⟩ := h
    have hhl := hb.hl
    have hbl := hb.bl
    refine ⟨fun (i : Nat) (s : S) => s = ⟨[.no, .da (.list (bs.map bnD)), .da (.list (F.map .str)), .mu 0, .no, .no, .no, .no, .no, .no, .no], [.dct (dctI (lacks (inL F) (hs.take i)))], 0⟩, ⟨Nat.zero_le _, rfl⟩, ?_, ?_⟩
    · rintro i e s hi rfl
      obtain ⟨h1, hh, rfl⟩ := map_get hi
      have hi2 : i < 20 := by have := (List.getElem?_eq_some_iff.mp hh).1; omega
      have hlen := lacks_len (P := inL F) hs i
      refine ⟨rfl, ?_⟩
      try dsimp only [DL.S.sE, DL.S.sM, DL.S.aM, DL.S.cM, DL.st, DL.gt, DL.sm, DL.gm, DL.putM, DL.pick, DL.muks, DL.nthN, DL.bkE, DL.st0, DL.nos, List.cons_append, List.nil_append, List.append_nil, List.drop_succ_cons, List.drop_nil, List.drop_zero, List.drop, DL.a1, DL.a2, DL.a3, DL.cMin3, DL.aNil, DL.aCons, DL.dVar, DL.dC, DL.iI, DL.i1, DL.isB, DL.daI, DL.onE, DL.gN, List.length_cons, List.length_nil, Nat.reduceAdd, Nat.zero_add]
      refine ⟨fit_str (hb.ho h1 (List.mem_of_getElem? hh)), fit_strs hF, ?_⟩
      cases q : inL F h1.1 with
      | true =>
        refine xT ((any_inL F h1.1).trans q) ?_
        refine ⟨by rw [dct_len]; exact sz (by omega), Nat.zero_le _, ?_⟩
        rw [take_snoc hh, lacks_snoc, ← put_dctI, lack1, if_pos q]
        rfl
      | false =>
        refine xF ((any_inL F h1.1).trans q) ?_
        refine ⟨by rw [dct_len]; exact sz (by omega), Nat.zero_le _, ?_⟩
        rw [take_snoc hh, lacks_snoc, ← put_dctI, lack1, if_neg (by rw [q]; decide)]
        rfl
    · rintro s rfl
      rw [List.length_map, List.take_length]
      have hl0 := lacks_len (P := inL F) hs hs.length
      rw [List.take_length] at hl0
      refine ⟨fun (i : Nat) (s : S) => s = ⟨[.no, .no, .da (.list (F.map .str)), .mu 0, .no, .no, .no, .mu 1, .no, .no, .no], [.dct (dctI (run (inL F) (lacks (inL F) hs) (bs.take i)).1), .lst ((run (inL F) (lacks (inL F) hs) (bs.take i)).2.map .int)], 0⟩, ⟨Nat.zero_le _, rfl⟩, ?_, ?_⟩
      · rintro i e s hi rfl
        obtain ⟨b1, hh, rfl⟩ := map_get hi
        have hi1 := (List.getElem?_eq_some_iff.mp hh).1
        obtain ⟨r1, r2⟩ := run_len (P := inL F) (kis := lacks (inL F) hs) bs i (by omega)
        obtain ⟨h1, hm, he⟩ := hb.hin b1 (List.mem_of_getElem? hh)
        have hf := has_find (run_has (P := inL F) (bs.take i) (lacks_has (P := inL F) hm))
        rw [he] at hf
        refine ⟨rfl, ?_⟩
        try dsimp only [DL.S.sE, DL.S.sM, DL.S.aM, DL.S.cM, DL.st, DL.gt, DL.sm, DL.gm, DL.putM, DL.pick, DL.muks, DL.nthN, DL.bkE, DL.st0, DL.nos, List.cons_append, List.nil_append, List.append_nil, List.drop_succ_cons, List.drop_nil, List.drop_zero, List.drop, DL.a1, DL.a2, DL.a3, DL.cMin3, DL.aNil, DL.aCons, DL.dVar, DL.dC, DL.iI, DL.i1, DL.isB, DL.daI, DL.onE, DL.gN, List.length_cons, List.length_nil, Nat.reduceAdd, Nat.zero_add]
        refine ⟨fit_str (hb.bo b1 (List.mem_of_getElem? hh)), fit_strs hF, ?_⟩
        have hsz : (dctI (run (inL F) (lacks (inL F) hs) (bs.take i)).1).length < sizeLine := by rw [dct_len]; exact sz (by omega)
        have hsz2 : ((run (inL F) (lacks (inL F) hs) (bs.take i)).2.map PyData.int).length < sizeLine := by rw [List.length_map, r1]; exact sz (by omega)
        rw [take_snoc hh, run_snoc]
        generalize run (inL F) (lacks (inL F) hs) (bs.take i) = R at *
        cases q : inL F b1.1 with
        | true =>
          have e1 : part1 (inL F) R.1 b1 = 0 := by unfold part1; rw [if_pos q]
          refine xT ((any_inL F b1.1).trans q) ?_
          refine ⟨_, hf, hsz, ?_⟩
          try dsimp only [DL.S.sE, DL.S.sM, DL.S.aM, DL.S.cM, DL.st, DL.gt, DL.sm, DL.gm, DL.putM, DL.pick, DL.muks, DL.nthN, DL.bkE, DL.st0, DL.nos, List.cons_append, List.nil_append, List.append_nil, List.drop_succ_cons, List.drop_nil, List.drop_zero, List.drop, DL.a1, DL.a2, DL.a3, DL.cMin3, DL.aNil, DL.aCons, DL.dVar, DL.dC, DL.iI, DL.i1, DL.isB, DL.daI, DL.onE, DL.gN, List.length_cons, List.length_nil, Nat.reduceAdd, Nat.zero_add]
          refine ⟨hsz2, Nat.zero_le _, ?_⟩
          unfold left1
          rw [e1, ← put_dctI, List.map_append]
          rfl
        | false =>
          have e1 : part1 (inL F) R.1 b1 = min b1.2.2 (getI R.1 (.inr b1.2.1)) := by unfold part1; rw [if_neg (by rw [q]; decide)]
          refine xF ((any_inL F b1.1).trans q) ?_
          refine ⟨_, hf, ?_⟩
          try dsimp only [DL.S.sE, DL.S.sM, DL.S.aM, DL.S.cM, DL.st, DL.gt, DL.sm, DL.gm, DL.putM, DL.pick, DL.muks, DL.nthN, DL.bkE, DL.st0, DL.nos, List.cons_append, List.nil_append, List.append_nil, List.drop_succ_cons, List.drop_nil, List.drop_zero, List.drop, DL.a1, DL.a2, DL.a3, DL.cMin3, DL.aNil, DL.aCons, DL.dVar, DL.dC, DL.iI, DL.i1, DL.isB, DL.daI, DL.onE, DL.gN, List.length_cons, List.length_nil, Nat.reduceAdd, Nat.zero_add]
          refine ⟨_, hf, hsz, ?_⟩
          try dsimp only [DL.S.sE, DL.S.sM, DL.S.aM, DL.S.cM, DL.st, DL.gt, DL.sm, DL.gm, DL.putM, DL.pick, DL.muks, DL.nthN, DL.bkE, DL.st0, DL.nos, List.cons_append, List.nil_append, List.append_nil, List.drop_succ_cons, List.drop_nil, List.drop_zero, List.drop, DL.a1, DL.a2, DL.a3, DL.cMin3, DL.aNil, DL.aCons, DL.dVar, DL.dC, DL.iI, DL.i1, DL.isB, DL.daI, DL.onE, DL.gN, List.length_cons, List.length_nil, Nat.reduceAdd, Nat.zero_add]
          refine ⟨hsz2, Nat.zero_le _, ?_⟩
          unfold left1
          rw [e1, ← put_dctI, List.map_append]
          rfl
      · rintro s rfl
        rw [List.length_map, List.take_length]
        exact ⟨Nat.zero_le _, hk⟩
  · exact h.elim
def sp_owed_by : SpD := fun xs ms Ks => match xs, ms with
  | [.da x, .da y, .da F], [] => ∃ (hs : List Hs) (bs : List Bn) (kvs : List (Key × D)), isL hsD hs x ∧ isL bnD bs y ∧ F = dictD kvs ∧ hs.length ≤ 20 ∧ bs.length ≤ 50 ∧ (∀ b ∈ bs, ∃ h ∈ hs, h.1 = b.2.1) ∧ Ks [] (.da (.list ((owes (inF kvs) hs bs).map .int)))
  | _, _ => False
theorem ok_owed_by (T : Tx K mg) (o_lacks_of : Ok P w K mg base 1 "lacks_of" s_lacks_of ["houses", "failing"] 2 sp_lacks_of) : Ok P w K mg base 2 "owed_by" s_owed_by ["houses", "bonds", "failing"] 3 sp_owed_by := by
  refine ok_data (n0 := 6) T.d_owed_by sc_owed_by _ (fun f cdv A outer s H E hr =>
  (dss_cons (ds_set (i := 3) sc_owed_by.nd rfl (by first | exact .inl rfl | exact .inr rfl) (de_callV o_lacks_of (hr.mono (by omega)) (by rfl) (dan_cons (dv 0) (dan_cons (dv 2) dan_nil))))
  (dss_cons (ds_set (i := 4) sc_owed_by.nd rfl (by first | exact .inl rfl | exact .inr rfl) (de_lstM dan_nil))
  (dss_cons (ds_for [0, 1, 5, 6, 7, 8] 2 PassesOwn.never rfl (di_seq (dv 1)) (dg_tup (n := 3) rfl (dgs_cons (dg_name (i := 5) sc_owed_by.nd rfl (by first | exact .inl rfl | exact .inr rfl)) (dgs_cons (dg_name (i := 6) sc_owed_by.nd rfl (by first | exact .inl rfl | exact .inr rfl)) (dgs_cons (dg_name (i := 7) sc_owed_by.nd rfl (by first | exact .inl rfl | exact .inr rfl)) dgs_nil))))
    (dss_cons (ds_set (i := 8) sc_owed_by.nd rfl (by first | exact .inl rfl | exact .inr rfl) (de_if (dt_dinD (hu1 hr) (dv 5) (dv 2)) de_int (de_min rfl (by rfl) (T.b_min) (dv 7) (de_dget (hu1 hr) (dv 3) (dv 6)))))
    (dss_cons (ds_augDSub (hu1 hr) (dv 3) (dv 6) (dv 8))
    (dss_one (ds_exp (de_append (dv 4) (dv 8)))))))
  (dss_frzV 4 (dss_one (ds_ret (dv 4)))))))) (fun xs ms Ks h hl => ?_)
  unfold sp_owed_by at h
  split at h
  · rename_i x y F
    obtain ⟨hs, bs, kvs, hx, hy, rfl, hl, hb, hin, hk⟩ := h
    refine ⟨List.nodup_nil, rfl, hs, kvs, hx, rfl, hl, rfl, ?_⟩
    try dsimp only [DL.S.sE, DL.S.sM, DL.S.aM, DL.S.cM, DL.st, DL.gt, DL.sm, DL.gm, DL.putM, DL.pick, DL.muks, DL.nthN, DL.bkE, DL.st0, DL.nos, List.cons_append, List.nil_append, List.append_nil, List.drop_succ_cons, List.drop_nil, List.drop_zero, List.drop, DL.a1, DL.a2, DL.a3, DL.cMin3, DL.aNil, DL.aCons, DL.dVar, DL.dC, DL.iI, DL.i1, DL.isB, DL.daI, DL.onE, DL.gN, List.length_cons, List.length_nil, Nat.reduceAdd, Nat.zero_add]
    have hl0 := lacks_len (P := inF kvs) hs hs.length
    rw [List.take_length] at hl0
    rcases hy with rfl | rfl
    all_goals
      refine ⟨fun (i : Nat) (s : S) => s = ⟨[.no, .no, .da (dictD kvs), .mu 0, .mu 1, .no, .no, .no, .no], [.dct (dctI (run (inF kvs) (lacks (inF kvs) hs) (bs.take i)).1), .lst ((run (inF kvs) (lacks (inF kvs) hs) (bs.take i)).2.map .int)], 0⟩, ⟨Nat.zero_le _, rfl⟩, ?_, ?_⟩
      · rintro i e s hi rfl
        obtain ⟨b1, hh, rfl⟩ := map_get hi
        have hi1 := (List.getElem?_eq_some_iff.mp hh).1
        obtain ⟨r1, r2⟩ := run_len (P := inF kvs) (kis := lacks (inF kvs) hs) bs i (by omega)
        obtain ⟨h1, hm, he⟩ := hin b1 (List.mem_of_getElem? hh)
        have hf := has_find (run_has (P := inF kvs) (bs.take i) (lacks_has (P := inF kvs) hm))
        rw [he] at hf
        refine ⟨rfl, ?_⟩
        try dsimp only [DL.S.sE, DL.S.sM, DL.S.aM, DL.S.cM, DL.st, DL.gt, DL.sm, DL.gm, DL.putM, DL.pick, DL.muks, DL.nthN, DL.bkE, DL.st0, DL.nos, List.cons_append, List.nil_append, List.append_nil, List.drop_succ_cons, List.drop_nil, List.drop_zero, List.drop, DL.a1, DL.a2, DL.a3, DL.cMin3, DL.aNil, DL.aCons, DL.dVar, DL.dC, DL.iI, DL.i1, DL.isB, DL.daI, DL.onE, DL.gN, List.length_cons, List.length_nil, Nat.reduceAdd, Nat.zero_add]
        refine ⟨kvs, rfl, ?_⟩
        have hsz : (dctI (run (inF kvs) (lacks (inF kvs) hs) (bs.take i)).1).length < sizeLine := by rw [dct_len]; exact sz (by omega)
        have hsz2 : ((run (inF kvs) (lacks (inF kvs) hs) (bs.take i)).2.map PyData.int).length < sizeLine := by rw [List.length_map, r1]; exact sz (by omega)
        rw [take_snoc hh, run_snoc]
        generalize run (inF kvs) (lacks (inF kvs) hs) (bs.take i) = R at *
        cases q : inF kvs b1.1 with
        | true =>
          have e1 : part1 (inF kvs) R.1 b1 = 0 := by unfold part1; rw [if_pos q]
          refine xT q ?_
          refine ⟨_, hf, hsz, ?_⟩
          try dsimp only [DL.S.sE, DL.S.sM, DL.S.aM, DL.S.cM, DL.st, DL.gt, DL.sm, DL.gm, DL.putM, DL.pick, DL.muks, DL.nthN, DL.bkE, DL.st0, DL.nos, List.cons_append, List.nil_append, List.append_nil, List.drop_succ_cons, List.drop_nil, List.drop_zero, List.drop, DL.a1, DL.a2, DL.a3, DL.cMin3, DL.aNil, DL.aCons, DL.dVar, DL.dC, DL.iI, DL.i1, DL.isB, DL.daI, DL.onE, DL.gN, List.length_cons, List.length_nil, Nat.reduceAdd, Nat.zero_add]
          refine ⟨hsz2, Nat.zero_le _, ?_⟩
          unfold left1
          rw [e1, ← put_dctI, List.map_append]
          rfl
        | false =>
          have e1 : part1 (inF kvs) R.1 b1 = min b1.2.2 (getI R.1 (.inr b1.2.1)) := by unfold part1; rw [if_neg (by rw [q]; decide)]
          refine xF q ?_
          refine ⟨_, hf, ?_⟩
          try dsimp only [DL.S.sE, DL.S.sM, DL.S.aM, DL.S.cM, DL.st, DL.gt, DL.sm, DL.gm, DL.putM, DL.pick, DL.muks, DL.nthN, DL.bkE, DL.st0, DL.nos, List.cons_append, List.nil_append, List.append_nil, List.drop_succ_cons, List.drop_nil, List.drop_zero, List.drop, DL.a1, DL.a2, DL.a3, DL.cMin3, DL.aNil, DL.aCons, DL.dVar, DL.dC, DL.iI, DL.i1, DL.isB, DL.daI, DL.onE, DL.gN, List.length_cons, List.length_nil, Nat.reduceAdd, Nat.zero_add]
          refine ⟨_, hf, hsz, ?_⟩
          try dsimp only [DL.S.sE, DL.S.sM, DL.S.aM, DL.S.cM, DL.st, DL.gt, DL.sm, DL.gm, DL.putM, DL.pick, DL.muks, DL.nthN, DL.bkE, DL.st0, DL.nos, List.cons_append, List.nil_append, List.append_nil, List.drop_succ_cons, List.drop_nil, List.drop_zero, List.drop, DL.a1, DL.a2, DL.a3, DL.cMin3, DL.aNil, DL.aCons, DL.dVar, DL.dC, DL.iI, DL.i1, DL.isB, DL.daI, DL.onE, DL.gN, List.length_cons, List.length_nil, Nat.reduceAdd, Nat.zero_add]
          refine ⟨hsz2, Nat.zero_le _, ?_⟩
          unfold left1
          rw [e1, ← put_dctI, List.map_append]
          rfl
      · rintro s rfl
        rw [List.length_map, List.take_length]
        exact ⟨Nat.zero_le _, hk⟩
  · exact h.elim
def sp_number : SpD := fun xs ms Ks => match xs, ms with
  | [.mu 0, .da (.int sort)], [.rnd n] => 5 ≤ n ∧ 0 ≤ sort ∧ sort < 4 ∧ ∀ m d, n ≤ m + 5 → 0 ≤ d → d < 10 ^ 30 → Ks [.rnd m] (.da (.int d))
  | _, _ => False
theorem ok_number (T : Tx K mg) (o_take : Ok P w K mg base 1 "_law_take" s_take ["_law_state", "_law_many"] 2 spTake) : Ok P w K mg base 2 "_law_number" s_number ["_law_state", "_law_sort"] 2 sp_number := by
  refine ok_data (n0 := 2) T.d_number sc_number _ (fun f cdv A outer s H E hr =>
  (dss_cons (ds_if (dt_lt (dv 1) de_int)
    (dss_one (ds_ret (de_callV o_take (hr.mono (by omega)) (by rfl) (dan_cons (dv 0) (dan_cons (de_ix (de_lst (dan_cons de_int (dan_cons de_int (dan_cons (de_mul de_int (de_pow de_int de_int)) dan_nil)))) (dv 1)) dan_nil)))))
    dss_nil)
  (dss_cons (ds_set (i := 2) sc_number.nd rfl (by first | exact .inl rfl | exact .inr rfl) de_int)
  (dss_cons (ds_for [1, 3] 1 PassesOwn.never rfl (di_range1 (by rfl) (T.b_range) (da_cons de_int da_nil)) (dg_name (i := 3) sc_number.nd rfl (by first | exact .inl rfl | exact .inr rfl))
    (dss_one (ds_set (i := 2) sc_number.nd rfl (by first | exact .inl rfl | exact .inr rfl) (de_add (de_mul (dv 2) (de_pow de_int de_int)) (de_callV o_take (hr.mono (by omega)) (by rfl) (dan_cons (dv 0) (dan_cons (de_pow de_int de_int) dan_nil)))))))
  (dss_one (ds_ret (dv 2))))))) (fun xs ms Ks h hl => ?_)
  unfold sp_number at h
  split at h
  · rename_i sort n
    obtain ⟨h1, h2, h3, hk⟩ := h
    refine ⟨fun c => ?_, fun c => ?_⟩
    · have c := of_decide_eq_true c
      obtain rfl | rfl | rfl : sort = 0 ∨ sort = 1 ∨ sort = 2 := by omega
      · exact ⟨pw10 (by decide) (by decide), mulA 2 24 (by decide) (by decide), _, rfl, by decide, rfl, by omega, divA 2 (by decide) (by decide), fun d d0 d1 => ⟨rfl, hk _ _ (by omega) d0 (by omega)⟩⟩
      · exact ⟨pw10 (by decide) (by decide), mulA 2 24 (by decide) (by decide), _, rfl, by decide, rfl, by omega, divA 6 (by decide) (by decide), fun d d0 d1 => ⟨rfl, hk _ _ (by omega) d0 (by omega)⟩⟩
      · exact ⟨pw10 (by decide) (by decide), mulA 2 24 (by decide) (by decide), _, rfl, by decide, rfl, by omega, divA 25 (by decide) (by decide), fun d d0 d1 => ⟨rfl, hk _ _ (by omega) d0 (Int.lt_trans d1 (by decide))⟩⟩
    · refine ⟨by decide, by decide, fun (i : Nat) (s : S) => ∃ m x, s = ⟨[.mu 0, .no, .da (.int x), .no], [.rnd m], 1⟩ ∧ n ≤ m + i ∧ 0 ≤ x ∧ x < 10 ^ (6 * i), ⟨Nat.le_refl 1, n, 0, rfl, by omega, by decide, by decide⟩, ?_, ?_⟩
      · rintro i d s hi ⟨m, x, rfl, hm, hx0, hx1⟩
        have hi5 : i < 5 := by
          have := (List.getElem?_eq_some_iff.mp hi).1
          rwa [rng_length] at this
        have hx2 : x < 10 ^ 24 := Int.lt_of_lt_of_le hx1 (ip (by omega))
        refine ⟨pw10 (by decide) (by decide), mulA 80 20 (by omega) (by decide), pw10 (by decide) (by decide), by decide, rfl, by omega, divA 20 (by decide) (by decide), fun e e0 e1 => ⟨rfl, Nat.le_refl 1, m - 1, _, rfl, by omega, ?_, ?_⟩⟩
        · have e1 : e < 10 ^ 6 := e1
          show 0 ≤ x * 10 ^ 6 + e
          omega
        · show x * 10 ^ 6 + e < 10 ^ (6 * (i + 1))
          have e1 : e < 10 ^ 6 := e1
          rw [show 6 * (i + 1) = 6 * i + 6 by omega, Int.pow_add]
          omega
      · rintro s ⟨m, x, rfl, hm, hx0, hx1⟩
        exact hk _ _ hm hx0 hx1
  · exact h.elim
def sp_given : SpD := fun xs ms Ks => match xs, ms with
  | [.mu 0, .da (.list ds)], [.rnd n] => 1 ≤ n ∧ ∀ m d, n ≤ m + 1 → d = .list ds ∨ d = .tuple ds → Ks [.rnd m] (.da d)
  | _, _ => False
theorem ok_given (T : Tx K mg) (o_take : Ok P w K mg base 1 "_law_take" s_take ["_law_state", "_law_many"] 2 spTake) : Ok P w K mg base 2 "_law_given" s_given ["_law_state", "_law_rows"] 2 sp_given := by
  refine ok_data (n0 := 0) T.d_given sc_given _ (fun f cdv A outer s H E hr =>
  (dss_one (ds_ret (de_ix (de_lst (dan_cons (de_list (by rfl) (T.b_list) (dv 1)) (dan_cons (de_tuple (by rfl) (T.b_tuple) (dv 1)) dan_nil))) (de_callV o_take (hr.mono (by omega)) (by rfl) (dan_cons (dv 0) (dan_cons de_int dan_nil))))))) (fun xs ms Ks h hl => ?_)
  unfold sp_given at h
  split at h
  · rename_i ds n
    obtain ⟨h1, hk⟩ := h
    refine ⟨nd1, rfl, by omega, divA 2 (by decide) (by decide), fun g g0 g1 => ⟨rfl, ?_⟩⟩
    obtain rfl | rfl : g = 0 ∨ g = 1 := by omega
    · exact ⟨_, rfl, hk _ _ (by omega) (.inl rfl)⟩
    · exact ⟨_, rfl, hk _ _ (by omega) (.inr rfl)⟩
  · exact h.elim
def sp_owed : SpD := fun xs ms Ks => match xs, ms with
  | [.da x, .da y, .da z, .da (.str nm)], [] => ∃ (hs : List Hs) (bs : List Bn) (F : List Str), x = .list (hs.map hsD) ∧ y = .list (bs.map bnD) ∧ z = .list (F.map .str) ∧ HB hs bs ∧ (∀ x ∈ F, sOk x) ∧ sOk nm ∧ Ks [] (.da (.int (owed (inL F) hs bs nm)))
  | _, _ => False
theorem ok_owed (T : Tx K mg) (o_each_owes : Ok P w K mg base 1 "_law_each_owes" s_each_owes ["_law_houses", "_law_bonds", "_law_failing"] 3 sp_each_owes) : Ok P w K mg base 2 "_law_owed" s_owed ["_law_houses", "_law_bonds", "_law_failing", "_law_house"] 4 sp_owed := by
  refine ok_data (n0 := 2) T.d_owed sc_owed _ (fun f cdv A outer s H E hr =>
  (dss_one (ds_ret (de_sum rfl (by rfl) (T.b_sum) (de_lc [("_law_bond", 4), ("_law_part", 5)] rfl sc_owed.nd (di_zip (by rfl) (T.b_zip) (da_cons (dv 1) (da_cons (de_callV o_each_owes (hr.mono (by omega)) (by rfl) (dan_cons (dv 0) (dan_cons (dv 1) (dan_cons (dv 2) dan_nil)))) da_nil))) (BlkOk.mk (N := ["_law_houses", "_law_bonds", "_law_failing", "_law_house", "_law_bond", "_law_part"]) (sc := defScope s_owed) rfl (by decide +kernel) (by decide +kernel) (by decide +kernel) (by decide +kernel)) (by decide) (fun _ _ _ _ _ => (dg_tup (n := 2) rfl (dgs_cons (dg_name (i := 4) sc_owed.nd rfl (by first | exact .inl rfl | exact .inr rfl)) (dgs_cons (dg_name (i := 5) sc_owed.nd rfl (by first | exact .inl rfl | exact .inr rfl)) dgs_nil)))) (fun _ _ _ _ _ => (dts_one (dt_eqD (hu64 hr) (de_ix (dv 4) de_int) (dv 3)))) (fun _ _ _ _ _ => (dv 5))))))) (fun xs ms Ks h hl => ?_)
  unfold sp_owed at h
  split at h
  · rename_i x y z nm
    obtain ⟨hs, bs, F, rfl, rfl, rfl, hb, hF, hn, hk⟩ := h
    refine ⟨List.nodup_nil, rfl, hs, bs, F, rfl, rfl, rfl, hb, hF, rfl, ?_⟩
    try dsimp only [DL.S.sE, DL.S.sM, DL.S.aM, DL.S.cM, DL.st, DL.gt, DL.sm, DL.gm, DL.putM, DL.pick, DL.muks, DL.nthN, DL.bkE, DL.st0, DL.nos, List.cons_append, List.nil_append, List.append_nil, List.drop_succ_cons, List.drop_nil, List.drop_zero, List.drop, DL.a1, DL.a2, DL.a3, DL.cMin3, DL.aNil, DL.aCons, DL.dVar, DL.dC, DL.iI, DL.i1, DL.isB, DL.daI, DL.onE, DL.gN, List.length_cons, List.length_nil, Nat.reduceAdd, Nat.zero_add]
    have hW := owes_len (P := inL F) (hs := hs) (bs := bs)
    unfold owed at hk
    generalize owes (inL F) hs bs = W at *
    have hbl := hb.bl
    refine ⟨fun (i : Nat) (mo : List MO) (acc : List D) => mo = [] ∧ acc = (owedL nm ((bs.zip W).take i)).map .int, ⟨rfl, rfl⟩, ?_, ?_⟩
    · rintro i e mo acc hi ⟨rfl, rfl⟩ _
      obtain ⟨d1, d2, g1, g2, rfl⟩ := zipD_get hi
      obtain ⟨b1, hb1, rfl⟩ := map_get g1
      obtain ⟨w1, hw1, rfl⟩ := map_get g2
      have hz : (bs.zip W)[i]? = some (b1, w1) := List.getElem?_zip_eq_some.mpr ⟨hb1, hw1⟩
      have hi2 : i < 50 := by have := (List.getElem?_eq_some_iff.mp hb1).1; omega
      have hll := owedL_len (h := nm) (zs := (bs.zip W).take i)
      have hl2 : ((bs.zip W).take i).length ≤ i := by rw [List.length_take]; omega
      refine ⟨rfl, ?_⟩
      try dsimp only [DL.S.sE, DL.S.sM, DL.S.aM, DL.S.cM, DL.st, DL.gt, DL.sm, DL.gm, DL.putM, DL.pick, DL.muks, DL.nthN, DL.bkE, DL.st0, DL.nos, List.cons_append, List.nil_append, List.append_nil, List.drop_succ_cons, List.drop_nil, List.drop_zero, List.drop, DL.a1, DL.a2, DL.a3, DL.cMin3, DL.aNil, DL.aCons, DL.dVar, DL.dC, DL.iI, DL.i1, DL.isB, DL.daI, DL.onE, DL.gN, List.length_cons, List.length_nil, Nat.reduceAdd, Nat.zero_add]
      refine ⟨_, rfl, (hb.bo b1 (List.mem_of_getElem? hb1)).sh, hn.sh, ?_⟩
      rw [eqvS]
      refine bS (fun q => ?_) fun q => ?_
      · refine ⟨by rw [List.length_map]; exact sz (by omega), rfl, rfl, ?_⟩
        rw [take_snoc hz, owedL_snoc, if_pos q, List.map_append]
        rfl
      · refine ⟨rfl, rfl, ?_⟩
        rw [take_snoc hz, owedL_snoc, if_neg q, List.append_nil]
    · rintro mo acc ⟨rfl, rfl⟩ _
      have e : (zipD (bs.map bnD) (W.map PyData.int)).length = (bs.zip W).length := by
        rw [zipD_length, List.length_map, List.length_map, List.length_zip]
      rw [e, List.take_length]
      refine ⟨_, rfl, ?_⟩
      exact hk
  · exact h.elim
def sp_owed_of : SpD := fun xs ms Ks => match xs, ms with
  | [.da x, .da y, .da F, .da (.str nm)], [] => ∃ (hs : List Hs) (bs : List Bn) (kvs : List (Key × D)), isL hsD hs x ∧ isL bnD bs y ∧ F = dictD kvs ∧ hs.length ≤ 20 ∧ bs.length ≤ 50 ∧ (∀ b ∈ bs, ∃ h ∈ hs, h.1 = b.2.1) ∧ sOk nm ∧ (∀ b ∈ bs, sOk b.1) ∧ Ks [] (.da (.int (owed (inF kvs) hs bs nm)))
  | _, _ => False
theorem ok_owed_of (T : Tx K mg) (o_owed_by : Ok P w K mg base 2 "owed_by" s_owed_by ["houses", "bonds", "failing"] 3 sp_owed_by) : Ok P w K mg base 3 "owed_of" s_owed_of ["houses", "bonds", "failing", "house"] 4 sp_owed_of := by
  refine ok_data (n0 := 3) T.d_owed_of sc_owed_of _ (fun f cdv A outer s H E hr =>
  (dss_cons (ds_set (i := 4) sc_owed_of.nd rfl (by first | exact .inl rfl | exact .inr rfl) (de_callV o_owed_by (hr.mono (by omega)) (by rfl) (dan_cons (dv 0) (dan_cons (dv 1) (dan_cons (dv 2) dan_nil)))))
  (dss_one (ds_ret (de_sum rfl (by rfl) (T.b_sum) (de_lc [("bond", 5), ("owes", 6)] rfl sc_owed_of.nd (di_zipA2 (by rfl) (T.b_zip) (da_cons (dv 1) (da_cons (dv 4) da_nil))) (BlkOk.mk (N := ["houses", "bonds", "failing", "house", "coins", "bond", "owes"]) (sc := defScope s_owed_of) rfl (by decide +kernel) (by decide +kernel) (by decide +kernel) (by decide +kernel)) (by decide) (fun _ _ _ _ _ => (dg_tup (n := 2) rfl (dgs_cons (dg_name (i := 5) sc_owed_of.nd rfl (by first | exact .inl rfl | exact .inr rfl)) (dgs_cons (dg_name (i := 6) sc_owed_of.nd rfl (by first | exact .inl rfl | exact .inr rfl)) dgs_nil)))) (fun _ _ _ _ _ => (dts_one (dt_eqD (hu64 hr) (de_ix (dv 5) de_int) (dv 3)))) (fun _ _ _ _ _ => (dv 6)))))))) (fun xs ms Ks h hl => ?_)
  unfold sp_owed_of at h
  split at h
  · rename_i x y F nm
    obtain ⟨hs, bs, kvs, hx, hy, rfl, hl, hb, hin, hn, hbo, hk⟩ := h
    refine ⟨List.nodup_nil, rfl, hs, bs, kvs, hx, hy, rfl, hl, hb, hin, rfl, ?_⟩
    try dsimp only [DL.S.sE, DL.S.sM, DL.S.aM, DL.S.cM, DL.st, DL.gt, DL.sm, DL.gm, DL.putM, DL.pick, DL.muks, DL.nthN, DL.bkE, DL.st0, DL.nos, List.cons_append, List.nil_append, List.append_nil, List.drop_succ_cons, List.drop_nil, List.drop_zero, List.drop, DL.a1, DL.a2, DL.a3, DL.cMin3, DL.aNil, DL.aCons, DL.dVar, DL.dC, DL.iI, DL.i1, DL.isB, DL.daI, DL.onE, DL.gN, List.length_cons, List.length_nil, Nat.reduceAdd, Nat.zero_add]
    have hW := owes_len (P := inF kvs) (hs := hs) (bs := bs)
    unfold owed at hk
    generalize owes (inF kvs) hs bs = W at *
    rcases hy with rfl | rfl
    all_goals
      refine ⟨fun (i : Nat) (mo : List MO) (acc : List D) => mo = [] ∧ acc = (owedL nm ((bs.zip W).take i)).map .int, ⟨rfl, rfl⟩, ?_, ?_⟩
      · rintro i e mo acc hi ⟨rfl, rfl⟩ _
        obtain ⟨d1, d2, g1, g2, rfl⟩ := zipD_get hi
        obtain ⟨b1, hb1, rfl⟩ := map_get g1
        obtain ⟨w1, hw1, rfl⟩ := map_get g2
        have hz : (bs.zip W)[i]? = some (b1, w1) := List.getElem?_zip_eq_some.mpr ⟨hb1, hw1⟩
        have hi2 : i < 50 := by have := (List.getElem?_eq_some_iff.mp hb1).1; omega
        have hll := owedL_len (h := nm) (zs := (bs.zip W).take i)
        have hl2 : ((bs.zip W).take i).length ≤ i := by rw [List.length_take]; omega
        refine ⟨rfl, ?_⟩
        try dsimp only [DL.S.sE, DL.S.sM, DL.S.aM, DL.S.cM, DL.st, DL.gt, DL.sm, DL.gm, DL.putM, DL.pick, DL.muks, DL.nthN, DL.bkE, DL.st0, DL.nos, List.cons_append, List.nil_append, List.append_nil, List.drop_succ_cons, List.drop_nil, List.drop_zero, List.drop, DL.a1, DL.a2, DL.a3, DL.cMin3, DL.aNil, DL.aCons, DL.dVar, DL.dC, DL.iI, DL.i1, DL.isB, DL.daI, DL.onE, DL.gN, List.length_cons, List.length_nil, Nat.reduceAdd, Nat.zero_add]
        refine ⟨_, rfl, (hbo b1 (List.mem_of_getElem? hb1)).sh, hn.sh, ?_⟩
        rw [eqvS]
        refine bS (fun q => ?_) fun q => ?_
        · refine ⟨by rw [List.length_map]; exact sz (by omega), rfl, rfl, ?_⟩
          rw [take_snoc hz, owedL_snoc, if_pos q, List.map_append]
          rfl
        · refine ⟨rfl, rfl, ?_⟩
          rw [take_snoc hz, owedL_snoc, if_neg q, List.append_nil]
      · rintro mo acc ⟨rfl, rfl⟩ _
        have e : (zipD (bs.map bnD) (W.map PyData.int)).length = (bs.zip W).length := by
          rw [zipD_length, List.length_map, List.length_map, List.length_zip]
        rw [e, List.take_length]
        refine ⟨_, rfl, ?_⟩
        exact hk
  · exact h.elim
def sp_unpaid_of : SpD := fun xs ms Ks => match xs, ms with
  | [.da x, .da y, .da F, .da (.str nm)], [] => ∃ (hs : List Hs) (bs : List Bn) (kvs : List (Key × D)), isL hsD hs x ∧ isL bnD bs y ∧ F = dictD kvs ∧ HB hs bs ∧ (∃ h ∈ hs, h.1 = nm) ∧ Ks [] (.da (.int (unpaid (inF kvs) hs bs nm)))
  | _, _ => False
theorem ok_unpaid_of (T : Tx K mg) (o_lacks_of : Ok P w K mg base 1 "lacks_of" s_lacks_of ["houses", "failing"] 2 sp_lacks_of) (o_owed_by : Ok P w K mg base 2 "owed_by" s_owed_by ["houses", "bonds", "failing"] 3 sp_owed_by) : Ok P w K mg base 3 "unpaid_of" s_unpaid_of ["houses", "bonds", "failing", "house"] 4 sp_unpaid_of := by
  refine ok_data (n0 := 4) T.d_unpaid_of sc_unpaid_of _ (fun f cdv A outer s H E hr =>
  (dss_cons (ds_set (i := 4) sc_unpaid_of.nd rfl (by first | exact .inl rfl | exact .inr rfl) (de_callV o_owed_by (hr.mono (by omega)) (by rfl) (dan_cons (dv 0) (dan_cons (dv 1) (dan_cons (dv 2) dan_nil)))))
  (dss_cons (ds_set (i := 5) sc_unpaid_of.nd rfl (by first | exact .inl rfl | exact .inr rfl) (de_sum rfl (by rfl) (T.b_sum) (de_lc [("bond", 6), ("part", 7)] rfl sc_unpaid_of.nd (di_zipA2 (by rfl) (T.b_zip) (da_cons (dv 1) (da_cons (dv 4) da_nil))) (BlkOk.mk (N := ["houses", "bonds", "failing", "house", "coins", "owes", "bond", "part"]) (sc := defScope s_unpaid_of) rfl (by decide +kernel) (by decide +kernel) (by decide +kernel) (by decide +kernel)) (by decide) (fun _ _ _ _ _ => (dg_tup (n := 2) rfl (dgs_cons (dg_name (i := 6) sc_unpaid_of.nd rfl (by first | exact .inl rfl | exact .inr rfl)) (dgs_cons (dg_name (i := 7) sc_unpaid_of.nd rfl (by first | exact .inl rfl | exact .inr rfl)) dgs_nil)))) (fun _ _ _ _ _ => (dts_one (dt_eqD (hu64 hr) (de_ix (dv 6) de_int) (dv 3)))) (fun _ _ _ _ _ => (dv 7)))))
  (dss_one (ds_ret (de_sub (de_dget (hu1 hr) (de_callV o_lacks_of (hr.mono (by omega)) (by rfl) (dan_cons (dv 0) (dan_cons (dv 2) dan_nil))) (dv 3)) (dv 5))))))) (fun xs ms Ks h hl => ?_)
  unfold sp_unpaid_of at h
  split at h
  · rename_i x y F nm
    obtain ⟨hs, bs, kvs, hx, hy, rfl, hb, ⟨h0, hm0, rfl⟩, hk⟩ := h
    refine ⟨List.nodup_nil, rfl, hs, bs, kvs, hx, hy, rfl, hb.hl, hb.bl, hb.hin, rfl, ?_⟩
    try dsimp only [DL.S.sE, DL.S.sM, DL.S.aM, DL.S.cM, DL.st, DL.gt, DL.sm, DL.gm, DL.putM, DL.pick, DL.muks, DL.nthN, DL.bkE, DL.st0, DL.nos, List.cons_append, List.nil_append, List.append_nil, List.drop_succ_cons, List.drop_nil, List.drop_zero, List.drop, DL.a1, DL.a2, DL.a3, DL.cMin3, DL.aNil, DL.aCons, DL.dVar, DL.dC, DL.iI, DL.i1, DL.isB, DL.daI, DL.onE, DL.gN, List.length_cons, List.length_nil, Nat.reduceAdd, Nat.zero_add]
    have hW := owes_len (P := inF kvs) (hs := hs) (bs := bs)
    unfold unpaid at hk
    generalize owes (inF kvs) hs bs = W at *
    have hbl := hb.bl
    rcases hy with rfl | rfl
    all_goals
      refine ⟨fun (i : Nat) (mo : List MO) (acc : List D) => mo = [] ∧ acc = (paidL h0.1 ((bs.zip W).take i)).map .int, ⟨rfl, rfl⟩, ?_, ?_⟩
      · rintro i e mo acc hi ⟨rfl, rfl⟩ _
        obtain ⟨d1, d2, g1, g2, rfl⟩ := zipD_get hi
        obtain ⟨b1, hb1, rfl⟩ := map_get g1
        obtain ⟨w1, hw1, rfl⟩ := map_get g2
        have hz : (bs.zip W)[i]? = some (b1, w1) := List.getElem?_zip_eq_some.mpr ⟨hb1, hw1⟩
        have hi2 : i < 50 := by have := (List.getElem?_eq_some_iff.mp hb1).1; omega
        have hll := paidL_len (h := h0.1) (zs := (bs.zip W).take i)
        have hl2 : ((bs.zip W).take i).length ≤ i := by rw [List.length_take]; omega
        refine ⟨rfl, ?_⟩
        try dsimp only [DL.S.sE, DL.S.sM, DL.S.aM, DL.S.cM, DL.st, DL.gt, DL.sm, DL.gm, DL.putM, DL.pick, DL.muks, DL.nthN, DL.bkE, DL.st0, DL.nos, List.cons_append, List.nil_append, List.append_nil, List.drop_succ_cons, List.drop_nil, List.drop_zero, List.drop, DL.a1, DL.a2, DL.a3, DL.cMin3, DL.aNil, DL.aCons, DL.dVar, DL.dC, DL.iI, DL.i1, DL.isB, DL.daI, DL.onE, DL.gN, List.length_cons, List.length_nil, Nat.reduceAdd, Nat.zero_add]
        refine ⟨_, rfl, (hb.bo2 (List.mem_of_getElem? hb1)).sh, (hb.ho h0 hm0).sh, ?_⟩
        rw [eqvS]
        refine bS (fun q => ?_) fun q => ?_
        · refine ⟨by rw [List.length_map]; exact sz (by omega), rfl, rfl, ?_⟩
          rw [take_snoc hz, paidL_snoc, if_pos q, List.map_append]
          rfl
        · refine ⟨rfl, rfl, ?_⟩
          rw [take_snoc hz, paidL_snoc, if_neg q, List.append_nil]
      · rintro mo acc ⟨rfl, rfl⟩ _
        have e : (zipD (bs.map bnD) (W.map PyData.int)).length = (bs.zip W).length := by
          rw [zipD_length, List.length_map, List.length_map, List.length_zip]
        rw [e, List.take_length]
        refine ⟨_, rfl, ?_⟩
        try dsimp only [DL.S.sE, DL.S.sM, DL.S.aM, DL.S.cM, DL.st, DL.gt, DL.sm, DL.gm, DL.putM, DL.pick, DL.muks, DL.nthN, DL.bkE, DL.st0, DL.nos, List.cons_append, List.nil_append, List.append_nil, List.drop_succ_cons, List.drop_nil, List.drop_zero, List.drop, DL.a1, DL.a2, DL.a3, DL.cMin3, DL.aNil, DL.aCons, DL.dVar, DL.dC, DL.iI, DL.i1, DL.isB, DL.daI, DL.onE, DL.gN, List.length_cons, List.length_nil, Nat.reduceAdd, Nat.zero_add]
        refine ⟨List.nodup_nil, rfl, hs, kvs, hx, rfl, hb.hl, rfl, ?_⟩
        try dsimp only [DL.S.sE, DL.S.sM, DL.S.aM, DL.S.cM, DL.st, DL.gt, DL.sm, DL.gm, DL.putM, DL.pick, DL.muks, DL.nthN, DL.bkE, DL.st0, DL.nos, List.cons_append, List.nil_append, List.append_nil, List.drop_succ_cons, List.drop_nil, List.drop_zero, List.drop, DL.a1, DL.a2, DL.a3, DL.cMin3, DL.aNil, DL.aCons, DL.dVar, DL.dC, DL.iI, DL.i1, DL.isB, DL.daI, DL.onE, DL.gN, List.length_cons, List.length_nil, Nat.reduceAdd, Nat.zero_add]
        exact ⟨_, has_find (lacks_has (P := inF kvs) hm0), hk⟩
  · exact h.elim
def sp_coins_by : SpD := fun xs ms Ks => match xs, ms with
  | [.mu 0, .da (.int sort)], [.rnd n] => 10 ≤ n ∧ 0 ≤ sort ∧ sort < 4 ∧ ∀ m d, n ≤ m + 10 → 0 ≤ d → d < 10 ^ 30 → Ks [.rnd m] (.da (.int d))
  | _, _ => False
theorem ok_coins_by (T : Tx K mg) (o_number : Ok P w K mg base 2 "_law_number" s_number ["_law_state", "_law_sort"] 2 sp_number) (o_take : Ok P w K mg base 1 "_law_take" s_take ["_law_state", "_law_many"] 2 spTake) : Ok P w K mg base 3 "_law_coins_by" s_coins_by ["_law_state", "_law_sort"] 2 sp_coins_by := by
  refine ok_data (n0 := 0) T.d_coins_by sc_coins_by _ (fun f cdv A outer s H E hr =>
  (dss_cons (ds_if (dt_eqS (dv 1) de_int)
    (dss_one (ds_ret (de_ix (de_lst (dan_cons de_int (dan_cons de_int (dan_cons de_int (dan_cons (de_callV o_take (hr.mono (by omega)) (by rfl) (dan_cons (dv 0) (dan_cons de_int dan_nil))) dan_nil))))) (de_callV o_take (hr.mono (by omega)) (by rfl) (dan_cons (dv 0) (dan_cons de_int dan_nil))))))
    dss_nil)
  (dss_one (ds_ret (de_callV o_number (hr.mono (by omega)) (by rfl) (dan_cons (dv 0) (dan_cons (de_ix (de_lst (dan_cons de_int (dan_cons de_int (dan_cons de_int (dan_cons de_int dan_nil))))) (dv 1)) dan_nil))))))) (fun xs ms Ks h hl => ?_)
  unfold sp_coins_by at h
  split at h
  · rename_i sort n
    obtain ⟨h1, s0, s1, hk⟩ := h
    refine bS (fun c => ?_) fun c => ?_
    · refine ⟨nd1, rfl, by omega, divA 8 (by decide) (by decide), fun a a0 a1 => ⟨rfl, ?_⟩⟩
      try dsimp only [DL.S.sE, DL.S.sM, DL.S.aM, DL.S.cM, DL.st, DL.gt, DL.sm, DL.gm, DL.putM, DL.pick, DL.muks, DL.nthN, DL.bkE, DL.st0, DL.nos, List.cons_append, List.nil_append, List.append_nil, List.drop_succ_cons, List.drop_nil, List.drop_zero, List.drop, DL.a1, DL.a2, DL.a3, DL.cMin3, DL.aNil, DL.aCons, DL.dVar, DL.dC, DL.iI, DL.i1, DL.isB, DL.daI, DL.onE, DL.gN, List.length_cons, List.length_nil, Nat.reduceAdd, Nat.zero_add]
      refine ⟨nd1, rfl, by omega, divA 8 (by decide) (by decide), fun g g0 g1 => ⟨rfl, ?_⟩⟩
      try dsimp only [DL.S.sE, DL.S.sM, DL.S.aM, DL.S.cM, DL.st, DL.gt, DL.sm, DL.gm, DL.putM, DL.pick, DL.muks, DL.nthN, DL.bkE, DL.st0, DL.nos, List.cons_append, List.nil_append, List.append_nil, List.drop_succ_cons, List.drop_nil, List.drop_zero, List.drop, DL.a1, DL.a2, DL.a3, DL.cMin3, DL.aNil, DL.aCons, DL.dVar, DL.dC, DL.iI, DL.i1, DL.isB, DL.daI, DL.onE, DL.gN, List.length_cons, List.length_nil, Nat.reduceAdd, Nat.zero_add]
      obtain ⟨w, hw, w0, w1⟩ : ∃ w : Int, atI [PyData.int 0, .int 0, .int 1, .int a] g = some (.int w) ∧ 0 ≤ w ∧ w < 10 ^ 30 := by
        obtain rfl | rfl | rfl | rfl : g = 0 ∨ g = 1 ∨ g = 2 ∨ g = 3 := by omega
        · exact ⟨0, rfl, by omega, by omega⟩
        · exact ⟨0, rfl, by omega, by omega⟩
        · exact ⟨1, rfl, by omega, by omega⟩
        · exact ⟨a, rfl, by omega, by omega⟩
      exact ⟨_, hw, hk _ _ (by omega) w0 w1⟩
    · obtain ⟨e, he, e0, e1⟩ : ∃ e : Int, atI [PyData.int 0, .int 1, .int 1, .int 3] sort = some (.int e) ∧ 0 ≤ e ∧ e < 4 := by
        obtain rfl | rfl | rfl | rfl : sort = 0 ∨ sort = 1 ∨ sort = 2 ∨ sort = 3 := by omega
        · exact ⟨0, rfl, by omega, by omega⟩
        · exact ⟨1, rfl, by omega, by omega⟩
        · exact ⟨1, rfl, by omega, by omega⟩
        · exact ⟨3, rfl, by omega, by omega⟩
      refine ⟨_, he, nd1, rfl, by omega, e0, e1, fun m d b b0 b1 => ⟨rfl, hk _ _ (by omega) b0 b1⟩⟩
  · exact h.elim
def sp_all_failing : SpD := fun xs ms Ks => match xs, ms with
  | [.da x, .da y, .da z], [] => ∃ (hs : List Hs) (bs : List Bn) (F : List Str), x = .list (hs.map hsD) ∧ y = .list (bs.map bnD) ∧ z = .list (F.map .str) ∧ HB hs bs ∧ (∀ x ∈ F, sOk x) ∧ F.length ≤ 20 ∧ Ks [] (.da (.list ((rounds hs bs F hs.length).map .str)))
  | _, _ => False
theorem ok_all_failing (T : Tx K mg) (o_owed : Ok P w K mg base 2 "_law_owed" s_owed ["_law_houses", "_law_bonds", "_law_failing", "_law_house"] 4 sp_owed) : Ok P w K mg base 3 "_law_all_failing" s_all_failing ["_law_houses", "_law_bonds", "_law_first"] 3 sp_all_failing := by
  refine ok_data (n0 := 6) T.d_all_failing sc_all_failing _ (fun f cdv A outer s H E hr =>
  (dss_cons (ds_set (i := 3) sc_all_failing.nd rfl (by first | exact .inl rfl | exact .inr rfl) (de_list (by rfl) (T.b_list) (dv 2)))
  (dss_cons (ds_for [2, 4, 5, 6, 7, 8] 0 PassesOwn.never rfl (di_list (dv 0)) (dg_name (i := 4) sc_all_failing.nd rfl (by first | exact .inl rfl | exact .inr rfl))
    (dss_cons (ds_set (i := 5) sc_all_failing.nd rfl (by first | exact .inl rfl | exact .inr rfl) (de_lstM dan_nil))
    (dss_cons (ds_for [2, 4, 6, 7, 8] 1 PassesOwn.never rfl (di_list (dv 0)) (dg_tup (n := 3) rfl (dgs_cons (dg_name (i := 6) sc_all_failing.nd rfl (by first | exact .inl rfl | exact .inr rfl)) (dgs_cons (dg_name (i := 7) sc_all_failing.nd rfl (by first | exact .inl rfl | exact .inr rfl)) (dgs_cons (dg_name (i := 8) sc_all_failing.nd rfl (by first | exact .inl rfl | exact .inr rfl)) dgs_nil))))
      (dss_one (ds_if (dt_bool (dw_and (dt_notinD (hu64 hr) (dv 6) (dv 3)) (dw_and1 (dt_gt (de_callV o_owed (hr.mono (by omega)) (by rfl) (dan_cons (dv 0) (dan_cons (dv 1) (dan_cons (dv 3) (dan_cons (dv 6) dan_nil))))) (dv 7)))))
        (dss_one (ds_exp (de_append (dv 5) (dv 6))))
        dss_nil)))
    (dss_frzV 5 (dss_one (ds_set (i := 3) sc_all_failing.nd rfl (by first | exact .inl rfl | exact .inr rfl) (de_cat (dv 3) (dv 5))))))))
  (dss_one (ds_ret (dv 3)))))) (fun xs ms Ks h hl => ?_)
  unfold sp_all_failing at h
  split at h
  · rename_i x y z
    obtain ⟨hs, bs, F, rfl, rfl, rfl, hb, hF, hFl, hk⟩ := h
    have hhl := hb.hl
    refine ⟨fun (i : Nat) (s : S) => s = ⟨[.da (.list (hs.map hsD)), .da (.list (bs.map bnD)), .no, .da (.list ((rounds hs bs F i).map .str)), .no, .no, .no, .no, .no], [], 0⟩, ⟨Nat.zero_le _, rfl⟩, ?_, ?_⟩
    · rintro i e s hi rfl
      have hi2 : i < 20 := by have h := (List.getElem?_eq_some_iff.mp hi).1; rw [List.length_map] at h; omega
      have hrl := rounds_len (bs := bs) (F := F) hhl i
      have hro := rounds_ok hb hF i
      have hnx := nexts_len (P := inL (rounds hs bs F i)) (hs := hs) (bs := bs) (ys := hs)
      have er : rounds hs bs F (i + 1) = rounds hs bs F i ++ nexts (inL (rounds hs bs F i)) hs bs hs := rfl
      dsimp only
      rw [er]
      generalize rounds hs bs F i = G at *
      refine ⟨fun (j : Nat) (s : S) => s = ⟨[.da (.list (hs.map hsD)), .da (.list (bs.map bnD)), .no, .da (.list (G.map .str)), .no, .mu 0, .no, .no, .no], [.lst ((nexts (inL G) hs bs (hs.take j)).map .str)], 0⟩, ⟨Nat.zero_le _, rfl⟩, ?_, ?_⟩
      · rintro j e s hj rfl
        obtain ⟨h1, hh, rfl⟩ := map_get hj
        have hm := List.mem_of_getElem? hh
        have hj2 : j < 20 := by have := (List.getElem?_eq_some_iff.mp hh).1; omega
        have hnl := nexts_len (P := inL G) (hs := hs) (bs := bs) (ys := hs.take j)
        have htl : (hs.take j).length ≤ j := by rw [List.length_take]; omega
        refine ⟨rfl, ?_⟩
        try dsimp only [DL.S.sE, DL.S.sM, DL.S.aM, DL.S.cM, DL.st, DL.gt, DL.sm, DL.gm, DL.putM, DL.pick, DL.muks, DL.nthN, DL.bkE, DL.st0, DL.nos, List.cons_append, List.nil_append, List.append_nil, List.drop_succ_cons, List.drop_nil, List.drop_zero, List.drop, DL.a1, DL.a2, DL.a3, DL.cMin3, DL.aNil, DL.aCons, DL.dVar, DL.dC, DL.iI, DL.i1, DL.isB, DL.daI, DL.onE, DL.gN, List.length_cons, List.length_nil, Nat.reduceAdd, Nat.zero_add]
        rw [take_snoc hh, nexts_snoc]
        refine ⟨fit_str (hb.ho h1 hm), fit_strs hro, ?_⟩
        cases q : inL G h1.1 with
        | true =>
          have e : isNext (inL G) hs bs h1 = false := by unfold isNext; rw [q]; rfl
          refine xnF ((any_inL G h1.1).trans q) ?_
          refine ff ⟨Nat.zero_le _, ?_⟩
          rw [e, if_neg (by decide), List.append_nil]
          rfl
        | false =>
          refine xnT ((any_inL G h1.1).trans q) ?_
          refine ⟨List.nodup_nil, rfl, hs, bs, G, rfl, rfl, rfl, hb, hro, hb.ho h1 hm, rfl, ?_⟩
          refine bS (fun c => ?_) fun c => ?_
          · have e : isNext (inL G) hs bs h1 = true := by unfold isNext; rw [q, decide_eq_true c]; rfl
            refine ⟨by rw [List.length_map]; exact sz (by omega), Nat.zero_le _, ?_⟩
            rw [e, if_pos rfl, List.map_append]
            rfl
          · have e : isNext (inL G) hs bs h1 = false := by unfold isNext; rw [decide_eq_false c, Bool.and_false]
            refine ⟨Nat.zero_le _, ?_⟩
            rw [e, if_neg (by decide), List.append_nil]
            rfl
      · rintro s rfl
        rw [List.length_map, List.take_length]
        refine ⟨Nat.zero_le _, ?_⟩
        try dsimp only [DL.S.sE, DL.S.sM, DL.S.aM, DL.S.cM, DL.st, DL.gt, DL.sm, DL.gm, DL.putM, DL.pick, DL.muks, DL.nthN, DL.bkE, DL.st0, DL.nos, List.cons_append, List.nil_append, List.append_nil, List.drop_succ_cons, List.drop_nil, List.drop_zero, List.drop, DL.a1, DL.a2, DL.a3, DL.cMin3, DL.aNil, DL.aCons, DL.dVar, DL.dC, DL.iI, DL.i1, DL.isB, DL.daI, DL.onE, DL.gN, List.length_cons, List.length_nil, Nat.reduceAdd, Nat.zero_add]
        refine ⟨by rw [List.length_map, List.length_map]; exact Nat.le_of_lt (sz (by omega)), Nat.zero_le _, ?_⟩
        rw [List.map_append]
        rfl
    · rintro s rfl
      rw [List.length_map]
      exact hk
  · exact h.elim
def sp_next_failing : SpD := fun xs ms Ks => match xs, ms with
  | [.da x, .da y, .da F], [] => ∃ (hs : List Hs) (bs : List Bn) (kvs : List (Key × D)), isL hsD hs x ∧ isL bnD bs y ∧ F = dictD kvs ∧ HB hs bs ∧ Ks [] (.da (nextD (inF kvs) hs bs))
  | _, _ => False
theorem ok_next_failing (T : Tx K mg) (o_owed_of : Ok P w K mg base 3 "owed_of" s_owed_of ["houses", "bonds", "failing", "house"] 4 sp_owed_of) : Ok P w K mg base 4 "next_failing" s_next_failing ["houses", "bonds", "failing"] 3 sp_next_failing := by
  refine ok_data (n0 := 4) T.d_next_failing sc_next_failing _ (fun f cdv A outer s H E hr =>
  (dss_cons (ds_for [3, 4, 5, 6] 0 PassesOwn.never rfl (di_seq (dv 0)) (dg_tup (n := 3) rfl (dgs_cons (dg_name (i := 3) sc_next_failing.nd rfl (by first | exact .inl rfl | exact .inr rfl)) (dgs_cons (dg_name (i := 4) sc_next_failing.nd rfl (by first | exact .inl rfl | exact .inr rfl)) (dgs_cons (dg_name (i := 5) sc_next_failing.nd rfl (by first | exact .inl rfl | exact .inr rfl)) dgs_nil))))
    (dss_cons (ds_set (i := 6) sc_next_failing.nd rfl (by first | exact .inl rfl | exact .inr rfl) (de_callV o_owed_of (hr.mono (by omega)) (by rfl) (dan_cons (dv 0) (dan_cons (dv 1) (dan_cons (dv 2) (dan_cons (dv 3) dan_nil))))))
    (dss_one (ds_if (dt_bool (dw_and (dt_dnotinD (hu1 hr) (dv 3) (dv 2)) (dw_and1 (dt_gt (dv 6) (dv 4)))))
      (dss_one (ds_ret (de_tup (dan_cons (dv 3) (dan_cons (dv 6) dan_nil)))))
      dss_nil))))
  (dss_one (ds_ret de_non)))) (fun xs ms Ks h hl => ?_)
  unfold sp_next_failing at h
  split at h
  · rename_i x y F
    obtain ⟨hs, bs, kvs, hx, hy, rfl, hb, hk⟩ := h
    have hx0 := hx
    rcases hx with rfl | rfl
    all_goals
      refine ⟨fun (i : Nat) (s : S) => ∃ X, isL hsD hs X ∧ s = ⟨[.da X, .da y, .da (dictD kvs), .no, .no, .no, .no], [], 0⟩ ∧ ∀ z ∈ hs.take i, isNext (inF kvs) hs bs z = false, ⟨Nat.zero_le _, _, hx0, rfl, fun z hz => (by cases hz)⟩, ?_, ?_⟩
      · rintro i e s hi ⟨X, hX, rfl, hnone⟩
        obtain ⟨h1, hh, rfl⟩ := map_get hi
        have hm := List.mem_of_getElem? hh
        refine ⟨rfl, ?_⟩
        try dsimp only [DL.S.sE, DL.S.sM, DL.S.aM, DL.S.cM, DL.st, DL.gt, DL.sm, DL.gm, DL.putM, DL.pick, DL.muks, DL.nthN, DL.bkE, DL.st0, DL.nos, List.cons_append, List.nil_append, List.append_nil, List.drop_succ_cons, List.drop_nil, List.drop_zero, List.drop, DL.a1, DL.a2, DL.a3, DL.cMin3, DL.aNil, DL.aCons, DL.dVar, DL.dC, DL.iI, DL.i1, DL.isB, DL.daI, DL.onE, DL.gN, List.length_cons, List.length_nil, Nat.reduceAdd, Nat.zero_add]
        refine ⟨List.nodup_nil, rfl, hs, bs, kvs, hX, hy, rfl, hb.hl, hb.bl, hb.hin, hb.ho h1 hm, hb.bo, rfl, ?_⟩
        try dsimp only [DL.S.sE, DL.S.sM, DL.S.aM, DL.S.cM, DL.st, DL.gt, DL.sm, DL.gm, DL.putM, DL.pick, DL.muks, DL.nthN, DL.bkE, DL.st0, DL.nos, List.cons_append, List.nil_append, List.append_nil, List.drop_succ_cons, List.drop_nil, List.drop_zero, List.drop, DL.a1, DL.a2, DL.a3, DL.cMin3, DL.aNil, DL.aCons, DL.dVar, DL.dC, DL.iI, DL.i1, DL.isB, DL.daI, DL.onE, DL.gN, List.length_cons, List.length_nil, Nat.reduceAdd, Nat.zero_add]
        refine ⟨kvs, rfl, ?_⟩
        have go : isNext (inF kvs) hs bs h1 = false → ∀ z ∈ hs.take (i + 1), isNext (inF kvs) hs bs z = false := fun q z hz => by
          rw [take_snoc hh] at hz
          rcases List.mem_append.mp hz with hz | hz
          · exact hnone z hz
          · rw [List.mem_singleton.mp hz]; exact q
        cases q : inF kvs h1.1 with
        | true =>
          refine xnF q ?_
          refine ff ⟨Nat.zero_le _, X, hX, rfl, go ?_⟩
          unfold isNext; rw [q]; rfl
        | false =>
          refine xnT q ?_
          refine bS (fun c => ?_) fun c => ?_
          · have hp : isNext (inF kvs) hs bs h1 = true := by unfold isNext; rw [q, decide_eq_true c]; rfl
            unfold nextD at hk
            rw [find_at hnone hh hp] at hk
            exact hk
          · refine ⟨Nat.zero_le _, X, hX, rfl, go ?_⟩
            unfold isNext; rw [decide_eq_false c, Bool.and_false]
      · rintro s ⟨X, hX, rfl, hnone⟩
        rw [List.length_map, List.take_length] at hnone
        have e : hs.find? (isNext (inF kvs) hs bs) = none := List.find?_eq_none.mpr fun z hz => by rw [hnone z hz]; decide
        unfold nextD at hk
        rw [e] at hk
        exact hk
  · exact h.elim
def sp_owed_rows : SpD := fun xs ms Ks => match xs, ms with
  | [.da x, .da y, .da F], [] => ∃ (hs : List Hs) (bs : List Bn) (kvs : List (Key × D)), isL hsD hs x ∧ isL bnD bs y ∧ F = dictD kvs ∧ HB hs bs ∧ Ks [] (.da (.list ((owedRows (inF kvs) hs bs).map coinS)))
  | _, _ => False
theorem ok_owed_rows (T : Tx K mg) (o_owed_of : Ok P w K mg base 3 "owed_of" s_owed_of ["houses", "bonds", "failing", "house"] 4 sp_owed_of) : Ok P w K mg base 4 "owed_rows" s_owed_rows ["houses", "bonds", "failing"] 3 sp_owed_rows := by
  refine ok_data (n0 := 4) T.d_owed_rows sc_owed_rows _ (fun f cdv A outer s H E hr =>
  (dss_cons (ds_setLc (i := 3) [("house", 4), ("deposit", 5), ("need", 6)] rfl sc_owed_rows.nd rfl rfl rfl (di_seq (dv 0)) (BlkOk.mk (N := ["houses", "bonds", "failing", "names", "house", "deposit", "need"]) (sc := defScope s_owed_rows) rfl (by decide +kernel) (by decide +kernel) (by decide +kernel) (by decide +kernel)) (by decide) (fun _ _ _ _ _ => (dg_tup (n := 3) rfl (dgs_cons (dg_name (i := 4) sc_owed_rows.nd rfl (by first | exact .inl rfl | exact .inr rfl)) (dgs_cons (dg_name (i := 5) sc_owed_rows.nd rfl (by first | exact .inl rfl | exact .inr rfl)) (dgs_cons (dg_name (i := 6) sc_owed_rows.nd rfl (by first | exact .inl rfl | exact .inr rfl)) dgs_nil))))) (fun _ _ _ _ _ => (dts_one (dt_dnotinD (hu1 hr) (dv 4) (dv 2)))) (fun _ _ _ _ _ => (dv 4)))
  (dss_one (ds_ret (de_lc [("house", 4)] rfl sc_owed_rows.nd (di_list (dv 3)) (BlkOk.mk (N := ["houses", "bonds", "failing", "names", "house", "deposit", "need"]) (sc := defScope s_owed_rows) rfl (by decide +kernel) (by decide +kernel) (by decide +kernel) (by decide +kernel)) (by decide) (fun _ _ _ _ _ => (dg_name (i := 4) sc_owed_rows.nd rfl (by first | exact .inl rfl | exact .inr rfl))) (fun _ _ _ _ _ => dts_nil) (fun _ _ _ _ _ => (de_tup (dan_cons (dv 4) (dan_cons (de_callV o_owed_of (hr.mono (by omega)) (by rfl) (dan_cons (dv 0) (dan_cons (dv 1) (dan_cons (dv 2) (dan_cons (dv 4) dan_nil))))) dan_nil))))))))) (fun xs ms Ks h hl => ?_)
  unfold sp_owed_rows at h
  split at h
  · rename_i x y F
    obtain ⟨hs, bs, kvs, hx, hy, rfl, hb, hk⟩ := h
    have hx0 := hx
    have hhl := hb.hl
    rcases hx with rfl | rfl
    all_goals
      refine ⟨fun (i : Nat) (mo : List MO) (acc : List D) => mo = [] ∧ acc = (outs (inF kvs) (hs.take i)).map .str, ⟨rfl, rfl⟩, ?_, ?_⟩
      · rintro i e mo acc hi ⟨rfl, rfl⟩ _
        obtain ⟨h1, hh, rfl⟩ := map_get hi
        have hi2 : i < 20 := by have := (List.getElem?_eq_some_iff.mp hh).1; omega
        have ho := outs_len (P := inF kvs) (hs := hs.take i)
        have ho2 : (hs.take i).length ≤ i := by rw [List.length_take]; omega
        refine ⟨rfl, ?_⟩
        try dsimp only [DL.S.sE, DL.S.sM, DL.S.aM, DL.S.cM, DL.st, DL.gt, DL.sm, DL.gm, DL.putM, DL.pick, DL.muks, DL.nthN, DL.bkE, DL.st0, DL.nos, List.cons_append, List.nil_append, List.append_nil, List.drop_succ_cons, List.drop_nil, List.drop_zero, List.drop, DL.a1, DL.a2, DL.a3, DL.cMin3, DL.aNil, DL.aCons, DL.dVar, DL.dC, DL.iI, DL.i1, DL.isB, DL.daI, DL.onE, DL.gN, List.length_cons, List.length_nil, Nat.reduceAdd, Nat.zero_add]
        refine ⟨kvs, rfl, ?_⟩
        cases q : inF kvs h1.1 with
        | true =>
          refine xnF q ?_
          refine ⟨rfl, rfl, ?_⟩
          rw [take_snoc hh, outs_snoc, if_pos q, List.append_nil]
        | false =>
          refine xnT q ?_
          refine ⟨by rw [List.length_map]; exact sz (by omega), rfl, rfl, ?_⟩
          rw [take_snoc hh, outs_snoc, if_neg (by rw [q]; decide), List.map_append]
          rfl
      · rintro mo acc ⟨rfl, rfl⟩ _
        rw [List.length_map, List.take_length]
        try dsimp only [DL.S.sE, DL.S.sM, DL.S.aM, DL.S.cM, DL.st, DL.gt, DL.sm, DL.gm, DL.putM, DL.pick, DL.muks, DL.nthN, DL.bkE, DL.st0, DL.nos, List.cons_append, List.nil_append, List.append_nil, List.drop_succ_cons, List.drop_nil, List.drop_zero, List.drop, DL.a1, DL.a2, DL.a3, DL.cMin3, DL.aNil, DL.aCons, DL.dVar, DL.dC, DL.iI, DL.i1, DL.isB, DL.daI, DL.onE, DL.gN, List.length_cons, List.length_nil, Nat.reduceAdd, Nat.zero_add]
        have ho := outs_len (P := inF kvs) (hs := hs)
        have hmem : ∀ x ∈ outs (inF kvs) hs, ∃ h ∈ hs, h.1 = x := fun x hx => outs_mem hx
        have ek : owedRows (inF kvs) hs bs = (outs (inF kvs) hs).map fun x => (x, owed (inF kvs) hs bs x) := by
          unfold owedRows outs
          rw [List.map_map]
          rfl
        rw [ek] at hk
        generalize outs (inF kvs) hs = ns at *
        refine ⟨fun (i : Nat) (mo : List MO) (acc : List D) => mo = [] ∧ acc = ((ns.take i).map fun x => (x, owed (inF kvs) hs bs x)).map coinS, ⟨rfl, rfl⟩, ?_, ?_⟩
        · rintro i e mo acc hi ⟨rfl, rfl⟩ _
          obtain ⟨n1, hn, rfl⟩ := map_get hi
          have hi2 : i < 20 := by have := (List.getElem?_eq_some_iff.mp hn).1; omega
          obtain ⟨h1, hm1, e1⟩ := hmem n1 (List.mem_of_getElem? hn)
          refine tt ?_
          refine ⟨List.nodup_nil, rfl, hs, bs, kvs, hx0, hy, rfl, hb.hl, hb.bl, hb.hin, by rw [← e1]; exact hb.ho h1 hm1, hb.bo, rfl, ?_⟩
          refine ⟨by rw [List.length_map, List.length_map, List.length_take]; exact sz (by omega), rfl, rfl, ?_⟩
          rw [take_snoc hn, List.map_append, List.map_append]
          rfl
        · rintro mo acc ⟨rfl, rfl⟩ _
          rw [List.length_map, List.take_length]
          exact hk
  · exact h.elim
def sp_unpaid_rows : SpD := fun xs ms Ks => match xs, ms with
  | [.da x, .da y, .da F], [] => ∃ (hs : List Hs) (bs : List Bn) (kvs : List (Key × D)), isL hsD hs x ∧ isL bnD bs y ∧ F = dictD kvs ∧ HB hs bs ∧ Ks [] (.da (.list ((unpaidRows (inF kvs) hs bs).map coinS)))
  | _, _ => False
theorem ok_unpaid_rows (T : Tx K mg) (o_unpaid_of : Ok P w K mg base 3 "unpaid_of" s_unpaid_of ["houses", "bonds", "failing", "house"] 4 sp_unpaid_of) : Ok P w K mg base 4 "unpaid_rows" s_unpaid_rows ["houses", "bonds", "failing"] 3 sp_unpaid_rows := by
  refine ok_data (n0 := 4) T.d_unpaid_rows sc_unpaid_rows _ (fun f cdv A outer s H E hr =>
  (dss_cons (ds_setLc (i := 3) [("house", 4), ("deposit", 5), ("need", 6)] rfl sc_unpaid_rows.nd rfl rfl rfl (di_seq (dv 0)) (BlkOk.mk (N := ["houses", "bonds", "failing", "names", "house", "deposit", "need"]) (sc := defScope s_unpaid_rows) rfl (by decide +kernel) (by decide +kernel) (by decide +kernel) (by decide +kernel)) (by decide) (fun _ _ _ _ _ => (dg_tup (n := 3) rfl (dgs_cons (dg_name (i := 4) sc_unpaid_rows.nd rfl (by first | exact .inl rfl | exact .inr rfl)) (dgs_cons (dg_name (i := 5) sc_unpaid_rows.nd rfl (by first | exact .inl rfl | exact .inr rfl)) (dgs_cons (dg_name (i := 6) sc_unpaid_rows.nd rfl (by first | exact .inl rfl | exact .inr rfl)) dgs_nil))))) (fun _ _ _ _ _ => (dts_one (dt_dinD (hu1 hr) (dv 4) (dv 2)))) (fun _ _ _ _ _ => (dv 4)))
  (dss_one (ds_ret (de_lc [("house", 4)] rfl sc_unpaid_rows.nd (di_list (dv 3)) (BlkOk.mk (N := ["houses", "bonds", "failing", "names", "house", "deposit", "need"]) (sc := defScope s_unpaid_rows) rfl (by decide +kernel) (by decide +kernel) (by decide +kernel) (by decide +kernel)) (by decide) (fun _ _ _ _ _ => (dg_name (i := 4) sc_unpaid_rows.nd rfl (by first | exact .inl rfl | exact .inr rfl))) (fun _ _ _ _ _ => dts_nil) (fun _ _ _ _ _ => (de_tup (dan_cons (dv 4) (dan_cons (de_callV o_unpaid_of (hr.mono (by omega)) (by rfl) (dan_cons (dv 0) (dan_cons (dv 1) (dan_cons (dv 2) (dan_cons (dv 4) dan_nil))))) dan_nil))))))))) (fun xs ms Ks h hl => ?_)
  unfold sp_unpaid_rows at h
  split at h
  · rename_i x y F
    obtain ⟨hs, bs, kvs, hx, hy, rfl, hb, hk⟩ := h
    have hx0 := hx
    have hhl := hb.hl
    rcases hx with rfl | rfl
    all_goals
      refine ⟨fun (i : Nat) (mo : List MO) (acc : List D) => mo = [] ∧ acc = (ins (inF kvs) (hs.take i)).map .str, ⟨rfl, rfl⟩, ?_, ?_⟩
      · rintro i e mo acc hi ⟨rfl, rfl⟩ _
        obtain ⟨h1, hh, rfl⟩ := map_get hi
        have hi2 : i < 20 := by have := (List.getElem?_eq_some_iff.mp hh).1; omega
        have ho := ins_len (P := inF kvs) (hs := hs.take i)
        have ho2 : (hs.take i).length ≤ i := by rw [List.length_take]; omega
        refine ⟨rfl, ?_⟩
        try dsimp only [DL.S.sE, DL.S.sM, DL.S.aM, DL.S.cM, DL.st, DL.gt, DL.sm, DL.gm, DL.putM, DL.pick, DL.muks, DL.nthN, DL.bkE, DL.st0, DL.nos, List.cons_append, List.nil_append, List.append_nil, List.drop_succ_cons, List.drop_nil, List.drop_zero, List.drop, DL.a1, DL.a2, DL.a3, DL.cMin3, DL.aNil, DL.aCons, DL.dVar, DL.dC, DL.iI, DL.i1, DL.isB, DL.daI, DL.onE, DL.gN, List.length_cons, List.length_nil, Nat.reduceAdd, Nat.zero_add]
        refine ⟨kvs, rfl, ?_⟩
        cases q : inF kvs h1.1 with
        | false =>
          refine xF q ?_
          refine ⟨rfl, rfl, ?_⟩
          rw [take_snoc hh, ins_snoc, if_neg (by rw [q]; decide), List.append_nil]
        | true =>
          refine xT q ?_
          refine ⟨by rw [List.length_map]; exact sz (by omega), rfl, rfl, ?_⟩
          rw [take_snoc hh, ins_snoc, if_pos q, List.map_append]
          rfl
      · rintro mo acc ⟨rfl, rfl⟩ _
        rw [List.length_map, List.take_length]
        try dsimp only [DL.S.sE, DL.S.sM, DL.S.aM, DL.S.cM, DL.st, DL.gt, DL.sm, DL.gm, DL.putM, DL.pick, DL.muks, DL.nthN, DL.bkE, DL.st0, DL.nos, List.cons_append, List.nil_append, List.append_nil, List.drop_succ_cons, List.drop_nil, List.drop_zero, List.drop, DL.a1, DL.a2, DL.a3, DL.cMin3, DL.aNil, DL.aCons, DL.dVar, DL.dC, DL.iI, DL.i1, DL.isB, DL.daI, DL.onE, DL.gN, List.length_cons, List.length_nil, Nat.reduceAdd, Nat.zero_add]
        have ho := ins_len (P := inF kvs) (hs := hs)
        have hmem : ∀ x ∈ ins (inF kvs) hs, ∃ h ∈ hs, h.1 = x := fun x hx => ins_mem hx
        have ek : unpaidRows (inF kvs) hs bs = (ins (inF kvs) hs).map fun x => (x, unpaid (inF kvs) hs bs x) := by
          unfold unpaidRows ins
          rw [List.map_map]
          rfl
        rw [ek] at hk
        generalize ins (inF kvs) hs = ns at *
        refine ⟨fun (i : Nat) (mo : List MO) (acc : List D) => mo = [] ∧ acc = ((ns.take i).map fun x => (x, unpaid (inF kvs) hs bs x)).map coinS, ⟨rfl, rfl⟩, ?_, ?_⟩
        · rintro i e mo acc hi ⟨rfl, rfl⟩ _
          obtain ⟨n1, hn, rfl⟩ := map_get hi
          have hi2 : i < 20 := by have := (List.getElem?_eq_some_iff.mp hn).1; omega
          obtain ⟨h1, hm1, e1⟩ := hmem n1 (List.mem_of_getElem? hn)
          refine tt ?_
          refine ⟨List.nodup_nil, rfl, hs, bs, kvs, hx0, hy, rfl, hb, ⟨h1, hm1, e1⟩, rfl, ?_⟩
          refine ⟨by rw [List.length_map, List.length_map, List.length_take]; exact sz (by omega), rfl, rfl, ?_⟩
          rw [take_snoc hn, List.map_append, List.map_append]
          rfl
        · rintro mo acc ⟨rfl, rfl⟩ _
          rw [List.length_map, List.take_length]
          exact hk
  · exact h.elim
def sp_houses_by : SpD := fun xs ms Ks => match xs, ms with
  | [.mu 0, .da (.int many), .da (.int sort)], [.rnd n] => 1 ≤ many ∧ many ≤ 6 ∧ 0 ≤ sort ∧ sort < 4 ∧ 200 ≤ n ∧
    ∀ (m : Nat) (hs : List Hs), n ≤ m + 200 → HsOk hs → (hs.length : Int) = many → Ks [.rnd m] (.da (.list (hs.map hsD)))
  | _, _ => False
theorem ok_houses_by (T : Tx K mg) (o_coins_by : Ok P w K mg base 3 "_law_coins_by" s_coins_by ["_law_state", "_law_sort"] 2 sp_coins_by) (o_take : Ok P w K mg base 1 "_law_take" s_take ["_law_state", "_law_many"] 2 spTake) : Ok P w K mg base 4 "_law_houses_by" s_houses_by ["_law_state", "_law_many", "_law_sort"] 3 sp_houses_by := by
  refine ok_data (n0 := 6) T.d_houses_by sc_houses_by _ (fun f cdv A outer s H E hr =>
  (dss_cons (ds_asg (de_tup (dan_cons de_str (dan_cons de_str dan_nil))) (dg_tup (n := 2) rfl (dgs_cons (dg_name (i := 3) sc_houses_by.nd rfl (by first | exact .inl rfl | exact .inr rfl)) (dgs_cons (dg_name (i := 4) sc_houses_by.nd rfl (by first | exact .inl rfl | exact .inr rfl)) dgs_nil))))
  (dss_cons (ds_for [5, 6, 7, 8] 1 PassesOwn.never rfl (di_range1 (by rfl) (T.b_range) (da_cons (de_callV o_take (hr.mono (by omega)) (by rfl) (dan_cons (dv 0) (dan_cons de_int dan_nil))) da_nil)) (dg_name (i := 5) sc_houses_by.nd rfl (by first | exact .inl rfl | exact .inr rfl))
    (dss_one (ds_set (i := 4) sc_houses_by.nd rfl (by first | exact .inl rfl | exact .inr rfl) (de_addS (dv 4) (de_ix (dv 3) (de_callV o_take (hr.mono (by omega)) (by rfl) (dan_cons (dv 0) (dan_cons de_int dan_nil))))))))
  (dss_cons (ds_par (i := 6) (j := 7) rfl sc_houses_by.nd rfl rfl (by decide) rfl rfl (da_cons (de_callV o_take (hr.mono (by omega)) (by rfl) (dan_cons (dv 0) (dan_cons de_int dan_nil))) (da_cons (de_lstM dan_nil) da_nil)) rfl)
  (dss_cons (ds_for [1, 5, 8] 2 PassesOwn.never rfl (di_range1 (by rfl) (T.b_range) (da_cons (dv 1) da_nil)) (dg_name (i := 5) sc_houses_by.nd rfl (by first | exact .inl rfl | exact .inr rfl))
    (dss_cons (ds_set (i := 8) sc_houses_by.nd rfl (by first | exact .inl rfl | exact .inr rfl) (de_addS (de_ix (dv 3) (de_mod (de_add (dv 6) (de_mul de_int (dv 5))) de_int)) (dv 4)))
    (dss_one (ds_exp (de_append (dv 7) (de_tup (dan_cons (dv 8) (dan_cons (de_callV o_coins_by (hr.mono (by omega)) (by rfl) (dan_cons (dv 0) (dan_cons (dv 2) dan_nil))) (dan_cons (de_callV o_coins_by (hr.mono (by omega)) (by rfl) (dan_cons (dv 0) (dan_cons (dv 2) dan_nil))) dan_nil)))))))))
  (dss_frzV 7 (dss_one (ds_ret (dv 7))))))))) (fun xs ms Ks h hl => ?_)
  unfold sp_houses_by at h
  split at h
  · rename_i many sort n
    obtain ⟨m0, m1, s0, s1, hn, hk⟩ := h
    refine ⟨rfl, ?_⟩
    try dsimp only [DL.S.sE, DL.S.sM, DL.S.aM, DL.S.cM, DL.st, DL.gt, DL.sm, DL.gm, DL.putM, DL.pick, DL.muks, DL.nthN, DL.bkE, DL.st0, DL.nos, List.cons_append, List.nil_append, List.append_nil, List.drop_succ_cons, List.drop_nil, List.drop_zero, List.drop, DL.a1, DL.a2, DL.a3, DL.cMin3, DL.aNil, DL.aCons, DL.dVar, DL.dC, DL.iI, DL.i1, DL.isB, DL.daI, DL.onE, DL.gN, List.length_cons, List.length_nil, Nat.reduceAdd, Nat.zero_add]
    refine ⟨nd1, rfl, by omega, divA 8 (by decide) (by decide), fun a a0 a1 => ⟨rfl, ?_⟩⟩
    try dsimp only [DL.S.sE, DL.S.sM, DL.S.aM, DL.S.cM, DL.st, DL.gt, DL.sm, DL.gm, DL.putM, DL.pick, DL.muks, DL.nthN, DL.bkE, DL.st0, DL.nos, List.cons_append, List.nil_append, List.append_nil, List.drop_succ_cons, List.drop_nil, List.drop_zero, List.drop, DL.a1, DL.a2, DL.a3, DL.cMin3, DL.aNil, DL.aCons, DL.dVar, DL.dC, DL.iI, DL.i1, DL.isB, DL.daI, DL.onE, DL.gN, List.length_cons, List.length_nil, Nat.reduceAdd, Nat.zero_add]
    refine ⟨by omega, by omega, fun (i : Nat) (s : S) => ∃ q w, s = ⟨[.mu 0, .da (.int many), .da (.int sort), .da (.str "abcdefghijklmnopqrstuvwxyz"), .da (.str w), .no, .no, .no, .no], [.rnd q], 1⟩ ∧ n ≤ q + 1 + i ∧ wOk w ∧ w.length = i, ⟨Nat.le_refl 1, n - 1, _, rfl, by omega, (by unfold wOk; decide +kernel), (by decide +kernel)⟩, ?_, ?_⟩
    · rintro i d s hi ⟨q, w, rfl, hq, hw, hwl⟩
      have hi2 : i < 8 := by
        have := (List.getElem?_eq_some_iff.mp hi).1
        rw [rng_length] at this
        omega
      refine ⟨nd1, rfl, by omega, divA 8 (by decide) (by decide), fun e e0 e1 => ⟨rfl, ?_⟩⟩
      try dsimp only [DL.S.sE, DL.S.sM, DL.S.aM, DL.S.cM, DL.st, DL.gt, DL.sm, DL.gm, DL.putM, DL.pick, DL.muks, DL.nthN, DL.bkE, DL.st0, DL.nos, List.cons_append, List.nil_append, List.append_nil, List.drop_succ_cons, List.drop_nil, List.drop_zero, List.drop, DL.a1, DL.a2, DL.a3, DL.cMin3, DL.aNil, DL.aCons, DL.dVar, DL.dC, DL.iI, DL.i1, DL.isB, DL.daI, DL.onE, DL.gN, List.length_cons, List.length_nil, Nat.reduceAdd, Nat.zero_add]
      refine ⟨_, abc_at e0 e1, by decide +kernel, ?_, ?_⟩
      · show w.length + 1 ≤ sizeLine
        rw [hwl]
        exact Nat.le_of_lt (sz (by omega))
      · refine ⟨Nat.le_refl 1, _, _, rfl, by omega, hw.snoc (by omega), ?_⟩
        show (w.cps ++ #[_]).size = _
        rw [Array.size_append]
        show w.length + 1 = _
        omega
    · rintro s ⟨q, w, rfl, hq, hw, hwl⟩
      rw [rng_length] at hq hwl
      have hwl2 : w.length < 8 := by omega
      refine ⟨nd1, rfl, by omega, divA 8 (by decide) (by decide), fun f f0 f1 => ⟨rfl, ?_⟩⟩
      dsimp only [S.aM]
      try dsimp only [DL.S.sE, DL.S.sM, DL.S.aM, DL.S.cM, DL.st, DL.gt, DL.sm, DL.gm, DL.putM, DL.pick, DL.muks, DL.nthN, DL.bkE, DL.st0, DL.nos, List.cons_append, List.nil_append, List.append_nil, List.drop_succ_cons, List.drop_nil, List.drop_zero, List.drop, DL.a1, DL.a2, DL.a3, DL.cMin3, DL.aNil, DL.aCons, DL.dVar, DL.dC, DL.iI, DL.i1, DL.isB, DL.daI, DL.onE, DL.gN, List.length_cons, List.length_nil, Nat.reduceAdd, Nat.zero_add]
      refine ⟨by omega, by omega, fun (i : Nat) (s : S) => ∃ q1 hs, s = ⟨[.mu 0, .no, .da (.int sort), .da (.str "abcdefghijklmnopqrstuvwxyz"), .da (.str w), .no, .da (.int f), .mu 1, .no], [.rnd q1, .lst (hs.map hsD)], 1⟩ ∧ q ≤ q1 + 1 + 20 * i ∧ HsI w f i hs, ⟨Nat.le_succ 1, q - 1, [], rfl, by omega, ⟨rfl, fun x hx => by cases hx⟩⟩, ?_, ?_⟩
      · rintro i d s hi ⟨q1, hs, rfl, hq1, hh⟩
        have hi2 : i < 6 := by
          have := (List.getElem?_eq_some_iff.mp hi).1
          rw [rng_length] at this
          omega
        obtain ⟨hi3, rfl⟩ := rng_get hi
        have c0 : 0 ≤ (f + 7 * (0 + (i : Int))) % 26 := Int.emod_nonneg _ (by decide)
        have c1 : (f + 7 * (0 + (i : Int))) % 26 < 26 := Int.emod_lt_of_pos _ (by decide)
        refine ⟨mulA 8 8 (by decide) (by omega), by decide, _, abc_at c0 c1, by decide +kernel, ?_, ?_⟩
        · show 1 + w.length ≤ sizeLine
          exact Nat.le_of_lt (sz (by omega))
        · refine ⟨nd1, rfl, by omega, s0, s1, fun q2 v h1 v0 v1 => ⟨rfl, ?_⟩⟩
          try dsimp only [DL.S.sE, DL.S.sM, DL.S.aM, DL.S.cM, DL.st, DL.gt, DL.sm, DL.gm, DL.putM, DL.pick, DL.muks, DL.nthN, DL.bkE, DL.st0, DL.nos, List.cons_append, List.nil_append, List.append_nil, List.drop_succ_cons, List.drop_nil, List.drop_zero, List.drop, DL.a1, DL.a2, DL.a3, DL.cMin3, DL.aNil, DL.aCons, DL.dVar, DL.dC, DL.iI, DL.i1, DL.isB, DL.daI, DL.onE, DL.gN, List.length_cons, List.length_nil, Nat.reduceAdd, Nat.zero_add]
          refine ⟨nd1, rfl, by omega, s0, s1, fun q3 u h2 u0 u1 => ⟨rfl, ?_⟩⟩
          try dsimp only [DL.S.sE, DL.S.sM, DL.S.aM, DL.S.cM, DL.st, DL.gt, DL.sm, DL.gm, DL.putM, DL.pick, DL.muks, DL.nthN, DL.bkE, DL.st0, DL.nos, List.cons_append, List.nil_append, List.append_nil, List.drop_succ_cons, List.drop_nil, List.drop_zero, List.drop, DL.a1, DL.a2, DL.a3, DL.cMin3, DL.aNil, DL.aCons, DL.dVar, DL.dC, DL.iI, DL.i1, DL.isB, DL.daI, DL.onE, DL.gN, List.length_cons, List.length_nil, Nat.reduceAdd, Nat.zero_add]
          refine ⟨by rw [List.length_map, hh.len]; exact sz (by omega), Nat.le_succ 1, q3, _, ?_, by omega, hh.snoc v0 u0⟩
          rw [List.map_append, Int.zero_add]
          rfl
      · rintro s ⟨q1, hs, rfl, hq1, hh⟩
        rw [rng_length] at hq1 hh
        exact ⟨Nat.le_refl 1, hk _ _ (by omega) (hh.ok hw (by omega)) (by rw [hh.len]; omega)⟩
  · exact h.elim
def sp_bonds_by : SpD := fun xs ms Ks => match xs, ms with
  | [.mu 0, .da x, .da (.int many), .da (.int sort)], [.rnd n] => ∃ hs : List Hs, x = .list (hs.map hsD) ∧ 0 < hs.length ∧ hs.length ≤ 20 ∧ 0 ≤ many ∧ many ≤ 12 ∧ 0 ≤ sort ∧ sort < 4 ∧ 500 ≤ n ∧
    ∀ (m : Nat) (bs : List Bn), n ≤ m + 500 → BsOk hs bs → bs.length ≤ 24 → Ks [.rnd m] (.da (.list (bs.map bnD)))
  | _, _ => False
theorem ok_bonds_by (T : Tx K mg) (o_coins_by : Ok P w K mg base 3 "_law_coins_by" s_coins_by ["_law_state", "_law_sort"] 2 sp_coins_by) (o_take : Ok P w K mg base 1 "_law_take" s_take ["_law_state", "_law_many"] 2 spTake) : Ok P w K mg base 4 "_law_bonds_by" s_bonds_by ["_law_state", "_law_houses", "_law_many", "_law_sort"] 4 sp_bonds_by := by
  refine ok_data (n0 := 4) T.d_bonds_by sc_bonds_by _ (fun f cdv A outer s H E hr =>
  (dss_cons (ds_set (i := 4) sc_bonds_by.nd rfl (by first | exact .inl rfl | exact .inr rfl) (de_lstM dan_nil))
  (dss_cons (ds_for [5, 6, 7] 2 PassesOwn.never rfl (di_range1 (by rfl) (T.b_range) (da_cons (de_if (dt_gt (de_len (x := "") (by rfl) (T.b_len) (dv 1)) de_int) (dv 2) de_int) da_nil)) (dg_name (i := 5) sc_bonds_by.nd rfl (by first | exact .inl rfl | exact .inr rfl))
    (dss_cons (ds_set (i := 6) sc_bonds_by.nd rfl (by first | exact .inl rfl | exact .inr rfl) (de_callV o_take (hr.mono (by omega)) (by rfl) (dan_cons (dv 0) (dan_cons (de_len (x := "") (by rfl) (T.b_len) (dv 1)) dan_nil))))
    (dss_cons (ds_set (i := 7) sc_bonds_by.nd rfl (by first | exact .inl rfl | exact .inr rfl) (de_mod (de_add (de_add (dv 6) de_int) (de_callV o_take (hr.mono (by omega)) (by rfl) (dan_cons (dv 0) (dan_cons (de_sub (de_len (x := "") (by rfl) (T.b_len) (dv 1)) de_int) dan_nil)))) (de_len (x := "") (by rfl) (T.b_len) (dv 1))))
    (dss_cons (ds_exp (de_append (dv 4) (de_tup (dan_cons (de_ix (de_ix (dv 1) (dv 6)) de_int) (dan_cons (de_ix (de_ix (dv 1) (dv 7)) de_int) (dan_cons (de_callV o_coins_by (hr.mono (by omega)) (by rfl) (dan_cons (dv 0) (dan_cons (dv 3) dan_nil))) dan_nil))))))
    (dss_one (ds_if (dt_bool (dw_and (dt_eqS (de_callV o_take (hr.mono (by omega)) (by rfl) (dan_cons (dv 0) (dan_cons de_int dan_nil))) de_int) (dw_and1 (dt_lt (de_len (x := "") (by rfl) (T.b_len) (dv 4)) (dv 2)))))
      (dss_one (ds_exp (de_append (dv 4) (de_tup (dan_cons (de_ix (de_ix (dv 1) (dv 6)) de_int) (dan_cons (de_ix (de_ix (dv 1) (dv 7)) de_int) (dan_cons (de_callV o_coins_by (hr.mono (by omega)) (by rfl) (dan_cons (dv 0) (dan_cons (dv 3) dan_nil))) dan_nil)))))))
      dss_nil))))))
  (dss_frzV 4 (dss_one (ds_ret (de_slL (dv 4) do_none (do_some (dv 2))))))))) (fun xs ms Ks h hl => ?_)
  unfold sp_bonds_by at h
  split at h
  · rename_i x many sort n
    obtain ⟨hs, rfl, l0, l1, m0, m1, s0, s1, hn, hk⟩ := h
    have fin : ∀ (q : Nat) (bs : List Bn), n ≤ q + 480 → BsOk hs bs → bs.length ≤ 24 → ∀ u, Ks [.rnd q] (.da (.list (DL.cutD (bs.map bnD) none u))) := fun q bs hq hb hl u => by
      rw [cut_map]
      exact hk q _ (by omega) (fun b hm => hb b (cut_mem hm)) (Nat.le_trans cut_len hl)
    refine bS (fun c => ?_) fun c => ?_
    · have c : 1 < hs.length := by have c : (1 : Int) < ((hs.map hsD).length : Nat) := c; rw [List.length_map] at c; omega
      refine ⟨by omega, by omega, fun (i : Nat) (s : S) => ∃ q bs, s = ⟨[.mu 0, .da (.list (hs.map hsD)), .da (.int many), .da (.int sort), .mu 1, .no, .no, .no], [.rnd q, .lst (bs.map bnD)], 1⟩ ∧ n ≤ q + 40 * i ∧ BsOk hs bs ∧ bs.length ≤ 2 * i, ⟨Nat.le_succ 1, n, [], rfl, by omega, fun b hb => (by cases hb), Nat.le_refl _⟩, ?_, ?_⟩
      · rintro i d s hi ⟨q, bs, rfl, hq, hb, hbl⟩
        have hi2 : i < 12 := by
          have := (List.getElem?_eq_some_iff.mp hi).1
          rw [rng_length] at this
          omega
        refine ⟨nd1, rfl, by omega, divA 8 (by rw [List.length_map]; omega) (by rw [List.length_map]; omega), fun a a0 a1 => ⟨rfl, ?_⟩⟩
        try dsimp only [DL.S.sE, DL.S.sM, DL.S.aM, DL.S.cM, DL.st, DL.gt, DL.sm, DL.gm, DL.putM, DL.pick, DL.muks, DL.nthN, DL.bkE, DL.st0, DL.nos, List.cons_append, List.nil_append, List.append_nil, List.drop_succ_cons, List.drop_nil, List.drop_zero, List.drop, DL.a1, DL.a2, DL.a3, DL.cMin3, DL.aNil, DL.aCons, DL.dVar, DL.dC, DL.iI, DL.i1, DL.isB, DL.daI, DL.onE, DL.gN, List.length_cons, List.length_nil, Nat.reduceAdd, Nat.zero_add]
        rw [List.length_map] at a1
        refine ⟨nd1, rfl, by omega, divA 8 (by rw [List.length_map]; omega) (by rw [List.length_map]; omega), fun e e0 e1 => ⟨rfl, by rw [List.length_map]; omega, ?_⟩⟩
        try dsimp only [DL.S.sE, DL.S.sM, DL.S.aM, DL.S.cM, DL.st, DL.gt, DL.sm, DL.gm, DL.putM, DL.pick, DL.muks, DL.nthN, DL.bkE, DL.st0, DL.nos, List.cons_append, List.nil_append, List.append_nil, List.drop_succ_cons, List.drop_nil, List.drop_zero, List.drop, DL.a1, DL.a2, DL.a3, DL.cMin3, DL.aNil, DL.aCons, DL.dVar, DL.dC, DL.iI, DL.i1, DL.isB, DL.daI, DL.onE, DL.gN, List.length_cons, List.length_nil, Nat.reduceAdd, Nat.zero_add]
        obtain ⟨x1, hx1, g1⟩ := at_get (f := hsD) a0 a1
        obtain ⟨x2, hx2, g2⟩ := at_get (l := hs) (f := hsD) (t := (a + 1 + e) % ((hs.map hsD).length : Nat)) (Int.emod_nonneg _ (by rw [List.length_map]; omega)) (by rw [List.length_map]; exact Int.emod_lt_of_pos _ (by omega))
        refine ⟨_, g1, _, rfl, _, g2, _, rfl, nd1, rfl, by omega, s0, s1, fun q1 v h1 v0 v1 => ⟨rfl, ?_⟩⟩
        try dsimp only [DL.S.sE, DL.S.sM, DL.S.aM, DL.S.cM, DL.st, DL.gt, DL.sm, DL.gm, DL.putM, DL.pick, DL.muks, DL.nthN, DL.bkE, DL.st0, DL.nos, List.cons_append, List.nil_append, List.append_nil, List.drop_succ_cons, List.drop_nil, List.drop_zero, List.drop, DL.a1, DL.a2, DL.a3, DL.cMin3, DL.aNil, DL.aCons, DL.dVar, DL.dC, DL.iI, DL.i1, DL.isB, DL.daI, DL.onE, DL.gN, List.length_cons, List.length_nil, Nat.reduceAdd, Nat.zero_add]
        refine ⟨by rw [List.length_map]; exact sz (by omega), ?_⟩
        try dsimp only [DL.S.sE, DL.S.sM, DL.S.aM, DL.S.cM, DL.st, DL.gt, DL.sm, DL.gm, DL.putM, DL.pick, DL.muks, DL.nthN, DL.bkE, DL.st0, DL.nos, List.cons_append, List.nil_append, List.append_nil, List.drop_succ_cons, List.drop_nil, List.drop_zero, List.drop, DL.a1, DL.a2, DL.a3, DL.cMin3, DL.aNil, DL.aCons, DL.dVar, DL.dC, DL.iI, DL.i1, DL.isB, DL.daI, DL.onE, DL.gN, List.length_cons, List.length_nil, Nat.reduceAdd, Nat.zero_add]
        have ok1 := hb.snoc (c := v) hx1 hx2 v0
        have eb : bs.map bnD ++ [.tuple [.str x1.1, .str x2.1, .int v]] = (bs ++ [(x1.1, x2.1, v)]).map bnD := by rw [List.map_append]; rfl
        rw [eb]
        have ll : (bs ++ [(x1.1, x2.1, v)]).length = bs.length + 1 := by rw [List.length_append]; rfl
        generalize bs ++ [(x1.1, x2.1, v)] = bs1 at *
        refine ⟨nd1, rfl, by omega, divA 8 (by decide) (by decide), fun t t0 t1 => ⟨rfl, ?_⟩⟩
        refine bS (fun c1 => ?_) fun c1 => ?_
        · refine bS (fun c2 => ?_) fun c2 => ?_
          · refine ⟨_, g1, _, rfl, _, g2, _, rfl, nd1, rfl, by omega, s0, s1, fun q2 u h2 u0 u1 => ⟨rfl, ?_⟩⟩
            try dsimp only [DL.S.sE, DL.S.sM, DL.S.aM, DL.S.cM, DL.st, DL.gt, DL.sm, DL.gm, DL.putM, DL.pick, DL.muks, DL.nthN, DL.bkE, DL.st0, DL.nos, List.cons_append, List.nil_append, List.append_nil, List.drop_succ_cons, List.drop_nil, List.drop_zero, List.drop, DL.a1, DL.a2, DL.a3, DL.cMin3, DL.aNil, DL.aCons, DL.dVar, DL.dC, DL.iI, DL.i1, DL.isB, DL.daI, DL.onE, DL.gN, List.length_cons, List.length_nil, Nat.reduceAdd, Nat.zero_add]
            refine ⟨by rw [List.length_map]; exact sz (by omega), Nat.le_succ 1, q2, bs1 ++ [(x1.1, x2.1, u)], by rw [List.map_append]; rfl, by omega, ok1.snoc hx1 hx2 u0, by rw [List.length_append]; show bs1.length + 1 ≤ _; omega⟩
          · exact ⟨Nat.le_succ 1, _, bs1, rfl, by omega, ok1, by omega⟩
        · exact ff ⟨Nat.le_succ 1, _, bs1, rfl, by omega, ok1, by omega⟩
      · rintro s ⟨q, bs, rfl, hq, hb, hbl⟩
        rw [rng_length] at hq hbl
        exact ⟨Nat.le_refl 1, fin q bs (by omega) hb (by omega) _⟩
    · refine ⟨by decide, by decide, fun (i : Nat) (s : S) => s = ⟨[.mu 0, .da (.list (hs.map hsD)), .da (.int many), .da (.int sort), .mu 1, .no, .no, .no], [.rnd n, .lst []], 1⟩, ⟨Nat.le_succ 1, rfl⟩, ?_, ?_⟩
      · rintro i d s hi rfl
        have := (List.getElem?_eq_some_iff.mp hi).1
        rw [rng_length] at this
        exact absurd this (by show ¬ i < 0; omega)
      · rintro s rfl
        exact ⟨Nat.le_refl 1, fin n [] (by omega) (fun b hb => by cases hb) (Nat.zero_le _) _⟩
  · exact h.elim
def sp_falls : SpD := fun xs ms Ks => match xs, ms with
  | [.da x, .da y, .da z], [] => ∃ (hs : List Hs) (bs : List Bn) (F : List Str), isL hsD hs x ∧ isL bnD bs y ∧ isL PyData.str F z ∧ HB hs bs ∧ F.length ≤ 20 ∧
    ∀ (os : List (Str × Int)) (kvs : List (Key × D)), Ord hs bs F os → hs.find? (isNext (inL (F ++ os.map (·.1))) hs bs) = none → (∀ x, inF kvs x = inL (F ++ os.map (·.1)) x) → Ks [] (.da (.tuple [.list (os.map coinS), dictD kvs]))
  | _, _ => False
theorem ok_falls (T : Tx K mg) (o_next_failing : Ok P w K mg base 4 "next_failing" s_next_failing ["houses", "bonds", "failing"] 3 sp_next_failing) : Ok P w K mg base 5 "falls" s_falls ["houses", "bonds", "first"] 3 sp_falls := by
  refine ok_data (n0 := 4) T.d_falls sc_falls _ (fun f cdv A outer s H E hr =>
  (dss_cons (ds_set (i := 3) sc_falls.nd rfl (by first | exact .inl rfl | exact .inr rfl) (de_dictP rfl (by rfl) (T.b_dict) (de_lc [("house", 6)] rfl sc_falls.nd (di_seq (dv 2)) (BlkOk.mk (N := ["houses", "bonds", "first", "failing", "order", "one", "house"]) (sc := defScope s_falls) rfl (by decide +kernel) (by decide +kernel) (by decide +kernel) (by decide +kernel)) (by decide) (fun _ _ _ _ _ => (dg_name (i := 6) sc_falls.nd rfl (by first | exact .inl rfl | exact .inr rfl))) (fun _ _ _ _ _ => dts_nil) (fun _ _ _ _ _ => (de_tup (dan_cons (dv 6) (dan_cons de_bl dan_nil)))))))
  (dss_cons (ds_set (i := 4) sc_falls.nd rfl (by first | exact .inl rfl | exact .inr rfl) (de_lstM dan_nil))
  (dss_cons (ds_set (i := 5) sc_falls.nd rfl (by first | exact .inl rfl | exact .inr rfl) (de_lkD 3 (de_callV o_next_failing (hr.mono (by omega)) (by rfl) (dan_cons (dv 0) (dan_cons (dv 1) (dan_cons (dv 3) dan_nil))))))
  (dss_cons (ds_while [2, 6] 2 PassesOwn.never (dt_notN (dv 5) de_non)
    (dss_cons (ds_exp (de_append (dv 4) (dv 5)))
    (dss_cons (ds_asg de_bl (dg_setD (hu1 hr) (dv 3) (de_ix (dv 5) de_int)))
    (dss_one (ds_set (i := 5) sc_falls.nd rfl (by first | exact .inl rfl | exact .inr rfl) (de_lkD 3 (de_callV o_next_failing (hr.mono (by omega)) (by rfl) (dan_cons (dv 0) (dan_cons (dv 1) (dan_cons (dv 3) dan_nil))))))))))
  (dss_frzV 4 (dss_frzD 3 (dss_one (ds_ret (de_tup (dan_cons (dv 4) (dan_cons (dv 3) dan_nil)))))))))))) (fun xs ms Ks h hl => ?_)
  unfold sp_falls at h
  split at h
  · rename_i x y z
    obtain ⟨hs, bs, F, hx, hy, hz, hb, hF, hk⟩ := h
    have nm : ∀ {kvs : List (Key × D)} {os : List (Str × Int)}, VB kvs → ∀ j, nM (gm [.dct kvs, .lst (os.map coinS)] j) = true := fun {kvs os} hv j => by
      match j with
      | 0 => exact hv.nD
      | 1 => exact coins_nD
      | j + 2 => rfl
    rcases hz with rfl | rfl
    all_goals
      refine ⟨fun (i : Nat) (mo : List MO) (acc : List D) => mo = [] ∧ acc = (F.take i).map truS, ⟨rfl, rfl⟩, ?_, ?_⟩
      · rintro i e mo acc hi ⟨rfl, rfl⟩ _
        obtain ⟨a, ha, rfl⟩ := map_get hi
        have hi2 : i < 20 := by have := (List.getElem?_eq_some_iff.mp ha).1; omega
        refine tt ?_
        refine ⟨by rw [List.length_map, List.length_take]; exact sz (by omega), rfl, rfl, ?_⟩
        rw [take_snoc ha, List.map_append]
        rfl
      · rintro mo acc ⟨rfl, rfl⟩ _
        rw [List.length_map, List.take_length]
        refine onO_mk (pairs_tru F) ?_
        obtain ⟨g1, g2, g3⟩ := merge_tru F [] (fun z hz => by cases hz)
        generalize mergeD [] (F.map fun x => ((.inr x : Key), PyData.bool true)) = kvs0 at *
        try dsimp only [DL.S.sE, DL.S.sM, DL.S.aM, DL.S.cM, DL.st, DL.gt, DL.sm, DL.gm, DL.putM, DL.pick, DL.muks, DL.nthN, DL.bkE, DL.st0, DL.nos, List.cons_append, List.nil_append, List.append_nil, List.drop_succ_cons, List.drop_nil, List.drop_zero, List.drop, DL.a1, DL.a2, DL.a3, DL.cMin3, DL.aNil, DL.aCons, DL.dVar, DL.dC, DL.iI, DL.i1, DL.isB, DL.daI, DL.onE, DL.gN, List.length_cons, List.length_nil, Nat.reduceAdd, Nat.zero_add]
        refine ⟨Nat.zero_le _, nm (os := []) g2, List.nodup_nil, rfl, hs, bs, kvs0, hx, hy, rfl, hb, rfl, next_nD, rfl, ?_⟩
        try dsimp only [DL.S.sE, DL.S.sM, DL.S.aM, DL.S.cM, DL.st, DL.gt, DL.sm, DL.gm, DL.putM, DL.pick, DL.muks, DL.nthN, DL.bkE, DL.st0, DL.nos, List.cons_append, List.nil_append, List.append_nil, List.drop_succ_cons, List.drop_nil, List.drop_zero, List.drop, DL.a1, DL.a2, DL.a3, DL.cMin3, DL.aNil, DL.aCons, DL.dVar, DL.dC, DL.iI, DL.i1, DL.isB, DL.daI, DL.onE, DL.gN, List.length_cons, List.length_nil, Nat.reduceAdd, Nat.zero_add]
        refine ⟨fun s => ∃ os kvs, s = ⟨[.da x, .da y, .no, .mu 0, .mu 1, .da (nextD (inF kvs) hs bs), .no], [.dct kvs, .lst (os.map coinS)], 0⟩ ∧ Ord hs bs F os ∧ (∀ x, inF kvs x = inL (F ++ os.map (·.1)) x) ∧ VB kvs ∧ kvs.length ≤ F.length + os.length,
          fun s => match gm s.ms 1 with | .lst ds => 21 - ds.length | _ => 0, ⟨Nat.zero_le _, [], kvs0, rfl, .nil, fun x => by rw [g1]; show (false || _) = _; rw [Bool.false_or, List.map_nil, List.append_nil], g2, by simpa using g3⟩, ?_⟩
        rintro s ⟨os, kvs, rfl, ho, hin, hv, hl⟩
        have hol := ho.len
        have hhl := hb.hl
        have hP : inF kvs = inL (F ++ os.map (·.1)) := funext hin
        cases q : hs.find? (isNext (inF kvs) hs bs) with
        | none =>
          have e : nextD (inF kvs) hs bs = .none := by unfold nextD; rw [q]
          rw [e]
          refine ff ?_
          rw [hP] at q
          refine ⟨Nat.zero_le _, Nat.zero_le _, ?_⟩
          exact hk os kvs ho q hin
        | some h =>
          have e : nextD (inF kvs) hs bs = .tuple [.str h.1, .int (owed (inF kvs) hs bs h.1)] := by unfold nextD; rw [q]
          rw [e]
          refine tt ?_
          refine ⟨by rw [List.length_map]; exact sz (by omega), ?_⟩
          try dsimp only [DL.S.sE, DL.S.sM, DL.S.aM, DL.S.cM, DL.st, DL.gt, DL.sm, DL.gm, DL.putM, DL.pick, DL.muks, DL.nthN, DL.bkE, DL.st0, DL.nos, List.cons_append, List.nil_append, List.append_nil, List.drop_succ_cons, List.drop_nil, List.drop_zero, List.drop, DL.a1, DL.a2, DL.a3, DL.cMin3, DL.aNil, DL.aCons, DL.dVar, DL.dC, DL.iI, DL.i1, DL.isB, DL.daI, DL.onE, DL.gN, List.length_cons, List.length_nil, Nat.reduceAdd, Nat.zero_add]
          refine ⟨_, rfl, sz (by omega), ?_⟩
          try dsimp only [DL.S.sE, DL.S.sM, DL.S.aM, DL.S.cM, DL.st, DL.gt, DL.sm, DL.gm, DL.putM, DL.pick, DL.muks, DL.nthN, DL.bkE, DL.st0, DL.nos, List.cons_append, List.nil_append, List.append_nil, List.drop_succ_cons, List.drop_nil, List.drop_zero, List.drop, DL.a1, DL.a2, DL.a3, DL.cMin3, DL.aNil, DL.aCons, DL.dVar, DL.dC, DL.iI, DL.i1, DL.isB, DL.daI, DL.onE, DL.gN, List.length_cons, List.length_nil, Nat.reduceAdd, Nat.zero_add]
          have e2 : os.map coinS ++ [.tuple [.str h.1, .int (owed (inF kvs) hs bs h.1)]] = (os ++ [(h.1, owed (inF kvs) hs bs h.1)]).map coinS := by rw [List.map_append]; rfl
          rw [e2]
          have hn : isNext (inF kvs) hs bs h = true := List.find?_some q
          have hm : h ∈ hs := List.mem_of_find?_eq_some q
          have ho2 : Ord hs bs F (os ++ [(h.1, owed (inF kvs) hs bs h.1)]) := by
            rw [hP] at hn ⊢
            exact ho.snoc hm hn
          have hlen := putD_len kvs (.inr h.1) (.bool true)
          refine ⟨Nat.zero_le _, nm hv.put, List.nodup_nil, rfl, hs, bs, putD kvs (.inr h.1) (.bool true), hx, hy, rfl, hb, rfl, next_nD, rfl, ?_⟩
          try dsimp only [DL.S.sE, DL.S.sM, DL.S.aM, DL.S.cM, DL.st, DL.gt, DL.sm, DL.gm, DL.putM, DL.pick, DL.muks, DL.nthN, DL.bkE, DL.st0, DL.nos, List.cons_append, List.nil_append, List.append_nil, List.drop_succ_cons, List.drop_nil, List.drop_zero, List.drop, DL.a1, DL.a2, DL.a3, DL.cMin3, DL.aNil, DL.aCons, DL.dVar, DL.dC, DL.iI, DL.i1, DL.isB, DL.daI, DL.onE, DL.gN, List.length_cons, List.length_nil, Nat.reduceAdd, Nat.zero_add]
          refine ⟨Nat.zero_le _, ⟨_, _, rfl, ho2, fun x => ?_, hv.put, by rw [List.length_append]; show _ ≤ F.length + (os.length + 1); omega⟩, ?_⟩
          · rw [inF_put, hin]
            unfold inL
            rw [List.map_append, ← List.append_assoc]
            by_cases e3 : h.1 = x
            · rw [e3]; simp
            · have e4 : ¬ x = h.1 := fun z => e3 z.symm
              simp [e3, e4]
          · show 21 - ((os ++ [(h.1, owed (inF kvs) hs bs h.1)]).map coinS).length < 21 - (os.map coinS).length
            rw [List.length_map, List.length_map, List.length_append]
            show 21 - (os.length + 1) < _
            omega
  · exact h.elim
def sp_fallen : SpD := fun xs ms Ks => match xs, ms with
  | [.da x, .da y, .da z], [] => ∃ (hs : List Hs) (bs : List Bn) (F : List Str), isL hsD hs x ∧ isL bnD bs y ∧ isL PyData.str F z ∧ HB hs bs ∧ F.length ≤ 20 ∧
    ∀ (os : List (Str × Int)) (G : List Str), G = F ++ os.map (·.1) → Ord hs bs F os → hs.find? (isNext (inL G) hs bs) = none → Ks [] (.da (.tuple [.list (os.map coinS), .list ((owedRows (inL G) hs bs).map coinS), .list ((unpaidRows (inL G) hs bs).map coinS)]))
  | _, _ => False
theorem ok_fallen (T : Tx K mg) (o_falls : Ok P w K mg base 5 "falls" s_falls ["houses", "bonds", "first"] 3 sp_falls) (o_owed_rows : Ok P w K mg base 4 "owed_rows" s_owed_rows ["houses", "bonds", "failing"] 3 sp_owed_rows) (o_unpaid_rows : Ok P w K mg base 4 "unpaid_rows" s_unpaid_rows ["houses", "bonds", "failing"] 3 sp_unpaid_rows) : Ok P w K mg base 6 "fallen" s_fallen ["houses", "bonds", "first"] 3 sp_fallen := by
  refine ok_data (n0 := 2) T.d_fallen sc_fallen _ (fun f cdv A outer s H E hr =>
  (dss_cons (ds_asg (de_callV o_falls (hr.mono (by omega)) (by rfl) (dan_cons (dv 0) (dan_cons (dv 1) (dan_cons (dv 2) dan_nil)))) (dg_tup (n := 2) rfl (dgs_cons (dg_name (i := 3) sc_fallen.nd rfl (by first | exact .inl rfl | exact .inr rfl)) (dgs_cons (dg_name (i := 4) sc_fallen.nd rfl (by first | exact .inl rfl | exact .inr rfl)) dgs_nil))))
  (dss_one (ds_ret (de_tup (dan_cons (dv 3) (dan_cons (de_callV o_owed_rows (hr.mono (by omega)) (by rfl) (dan_cons (dv 0) (dan_cons (dv 1) (dan_cons (dv 4) dan_nil)))) (dan_cons (de_callV o_unpaid_rows (hr.mono (by omega)) (by rfl) (dan_cons (dv 0) (dan_cons (dv 1) (dan_cons (dv 4) dan_nil)))) dan_nil)))))))) (fun xs ms Ks h hl => ?_)
  unfold sp_fallen at h
  split at h
  · rename_i x y z
    obtain ⟨hs, bs, F, hx, hy, hz, hb, hF, hk⟩ := h
    refine ⟨List.nodup_nil, rfl, hs, bs, F, hx, hy, hz, hb, hF, fun os kvs ho hf hin => ⟨rfl, rfl, ?_⟩⟩
    try dsimp only [DL.S.sE, DL.S.sM, DL.S.aM, DL.S.cM, DL.st, DL.gt, DL.sm, DL.gm, DL.putM, DL.pick, DL.muks, DL.nthN, DL.bkE, DL.st0, DL.nos, List.cons_append, List.nil_append, List.append_nil, List.drop_succ_cons, List.drop_nil, List.drop_zero, List.drop, DL.a1, DL.a2, DL.a3, DL.cMin3, DL.aNil, DL.aCons, DL.dVar, DL.dC, DL.iI, DL.i1, DL.isB, DL.daI, DL.onE, DL.gN, List.length_cons, List.length_nil, Nat.reduceAdd, Nat.zero_add]
    have hP : inF kvs = inL (F ++ os.map (·.1)) := funext hin
    refine ⟨List.nodup_nil, rfl, hs, bs, kvs, hx, hy, rfl, hb, rfl, ?_⟩
    try dsimp only [DL.S.sE, DL.S.sM, DL.S.aM, DL.S.cM, DL.st, DL.gt, DL.sm, DL.gm, DL.putM, DL.pick, DL.muks, DL.nthN, DL.bkE, DL.st0, DL.nos, List.cons_append, List.nil_append, List.append_nil, List.drop_succ_cons, List.drop_nil, List.drop_zero, List.drop, DL.a1, DL.a2, DL.a3, DL.cMin3, DL.aNil, DL.aCons, DL.dVar, DL.dC, DL.iI, DL.i1, DL.isB, DL.daI, DL.onE, DL.gN, List.length_cons, List.length_nil, Nat.reduceAdd, Nat.zero_add]
    refine ⟨List.nodup_nil, rfl, hs, bs, kvs, hx, hy, rfl, hb, rfl, ?_⟩
    rw [hP]
    exact hk os _ rfl ho hf
  · exact h.elim
def sp_brought_down : SpD := fun xs ms Ks => match xs, ms with
  | [.da x, .da y, .da (.str nm)], [] => ∃ (hs : List Hs) (bs : List Bn), isL hsD hs x ∧ isL bnD bs y ∧ HB hs bs ∧
    ∀ (os : List (Str × Int)) (G : List Str), G = [nm] ++ os.map (·.1) → Ord hs bs [nm] os → hs.find? (isNext (inL G) hs bs) = none → Ks [.lst ((ins (inL G) hs).map .str)] (.mu 0)
  | _, _ => False
theorem ok_brought_down (T : Tx K mg) (o_falls : Ok P w K mg base 5 "falls" s_falls ["houses", "bonds", "first"] 3 sp_falls) : Ok P w K mg base 6 "brought_down" s_brought_down ["houses", "bonds", "house"] 3 sp_brought_down := by
  refine ok_data (n0 := 5) T.d_brought_down sc_brought_down _ (fun f cdv A outer s H E hr =>
  (dss_cons (ds_asg (de_callV o_falls (hr.mono (by omega)) (by rfl) (dan_cons (dv 0) (dan_cons (dv 1) (dan_cons (de_lst (dan_cons (dv 2) dan_nil)) dan_nil)))) (dg_tup (n := 2) rfl (dgs_cons (dg_name (i := 3) sc_brought_down.nd rfl (by first | exact .inl rfl | exact .inr rfl)) (dgs_cons (dg_name (i := 4) sc_brought_down.nd rfl (by first | exact .inl rfl | exact .inr rfl)) dgs_nil))))
  (dss_one (ds_ret (de_lcM [("name", 5), ("deposit", 6), ("need", 7)] rfl sc_brought_down.nd (di_seq (dv 0)) (BlkOk.mk (N := ["houses", "bonds", "house", "order", "failing", "name", "deposit", "need"]) (sc := defScope s_brought_down) rfl (by decide +kernel) (by decide +kernel) (by decide +kernel) (by decide +kernel)) (by decide) (fun _ _ _ _ _ => (dg_tup (n := 3) rfl (dgs_cons (dg_name (i := 5) sc_brought_down.nd rfl (by first | exact .inl rfl | exact .inr rfl)) (dgs_cons (dg_name (i := 6) sc_brought_down.nd rfl (by first | exact .inl rfl | exact .inr rfl)) (dgs_cons (dg_name (i := 7) sc_brought_down.nd rfl (by first | exact .inl rfl | exact .inr rfl)) dgs_nil))))) (fun _ _ _ _ _ => (dts_one (dt_dinD (hu1 hr) (dv 5) (dv 4)))) (fun _ _ _ _ _ => (dv 5))))))) (fun xs ms Ks h hl => ?_)
  unfold sp_brought_down at h
  split at h
  · rename_i x y nm
    obtain ⟨hs, bs, hx, hy, hb, hk⟩ := h
    refine ⟨List.nodup_nil, rfl, hs, bs, [nm], hx, hy, .inl rfl, hb, (by show 1 ≤ 20; decide), fun os kvs ho hf hin => ⟨rfl, rfl, ?_⟩⟩
    try dsimp only [DL.S.sE, DL.S.sM, DL.S.aM, DL.S.cM, DL.st, DL.gt, DL.sm, DL.gm, DL.putM, DL.pick, DL.muks, DL.nthN, DL.bkE, DL.st0, DL.nos, List.cons_append, List.nil_append, List.append_nil, List.drop_succ_cons, List.drop_nil, List.drop_zero, List.drop, DL.a1, DL.a2, DL.a3, DL.cMin3, DL.aNil, DL.aCons, DL.dVar, DL.dC, DL.iI, DL.i1, DL.isB, DL.daI, DL.onE, DL.gN, List.length_cons, List.length_nil, Nat.reduceAdd, Nat.zero_add]
    have hP : inF kvs = inL ([nm] ++ os.map (·.1)) := funext hin
    have hhl := hb.hl
    rcases hx with rfl | rfl
    all_goals
      refine ⟨fun (i : Nat) (mo : List MO) (acc : List D) => mo = [] ∧ acc = (ins (inF kvs) (hs.take i)).map .str, ⟨rfl, rfl⟩, ?_, ?_⟩
      · rintro i e mo acc hi ⟨rfl, rfl⟩ _
        obtain ⟨h1, hh, rfl⟩ := map_get hi
        have hi2 : i < 20 := by have := (List.getElem?_eq_some_iff.mp hh).1; omega
        have ho := ins_len (P := inF kvs) (hs := hs.take i)
        have ho2 : (hs.take i).length ≤ i := by rw [List.length_take]; omega
        refine ⟨rfl, ?_⟩
        try dsimp only [DL.S.sE, DL.S.sM, DL.S.aM, DL.S.cM, DL.st, DL.gt, DL.sm, DL.gm, DL.putM, DL.pick, DL.muks, DL.nthN, DL.bkE, DL.st0, DL.nos, List.cons_append, List.nil_append, List.append_nil, List.drop_succ_cons, List.drop_nil, List.drop_zero, List.drop, DL.a1, DL.a2, DL.a3, DL.cMin3, DL.aNil, DL.aCons, DL.dVar, DL.dC, DL.iI, DL.i1, DL.isB, DL.daI, DL.onE, DL.gN, List.length_cons, List.length_nil, Nat.reduceAdd, Nat.zero_add]
        refine ⟨kvs, rfl, ?_⟩
        cases q : inF kvs h1.1 with
        | false =>
          refine xF q ?_
          refine ⟨rfl, rfl, ?_⟩
          rw [take_snoc hh, ins_snoc, if_neg (by rw [q]; decide), List.append_nil]
        | true =>
          refine xT q ?_
          refine ⟨by rw [List.length_map]; exact sz (by omega), rfl, rfl, ?_⟩
          rw [take_snoc hh, ins_snoc, if_pos q, List.map_append]
          rfl
      · rintro mo acc ⟨rfl, rfl⟩ _
        rw [List.length_map, List.take_length, hP]
        exact hk os _ rfl ho hf
  · exact h.elim
abbrev sp_same : SpD := spSame false 8
theorem ok_same_step {n : Nat} (T : Tx K mg) (o_same : Ok P w K mg base n "_law_same" s_same ["_law_found", "_law_due"] 2 (spSame false n)) : Ok P w K mg base (n + 1) "_law_same" s_same ["_law_found", "_law_due"] 2 (spSame false (n + 1)) := by
  refine ok_data (n0 := 2) T.d_same sc_same _ (fun f cdv A outer s H E hr =>
  (dss_cons (ds_if (dt_isN (dv 1) de_non)
    (dss_one (ds_ret (de_isN (dv 0) de_non)))
    dss_nil)
  (dss_cons (ds_if (dt_bool (dw_or (dt_val (de_isi .list (by rfl) (T.b_isinstance) (by rfl) (T.b_list) (by decide +kernel) (dv 1))) (dw_or1 (dt_val (de_isi .tuple (by rfl) (T.b_isinstance) (by rfl) (T.b_tuple) (by decide +kernel) (dv 1))))))
    (dss_cons (ds_if (dt_neS (de_isi .list (by rfl) (T.b_isinstance) (by rfl) (T.b_list) (by decide +kernel) (dv 0)) (de_isi .list (by rfl) (T.b_isinstance) (by rfl) (T.b_list) (by decide +kernel) (dv 1)))
      (dss_one (ds_ret de_bl))
      dss_nil)
    (dss_cons (ds_if (dt_bool (dw_or (dt_neS (de_isi .tuple (by rfl) (T.b_isinstance) (by rfl) (T.b_tuple) (by decide +kernel) (dv 0)) (de_isi .tuple (by rfl) (T.b_isinstance) (by rfl) (T.b_tuple) (by decide +kernel) (dv 1))) (dw_or1 (dt_neS (de_len (x := "") (by rfl) (T.b_len) (dv 0)) (de_len (x := "") (by rfl) (T.b_len) (dv 1))))))
      (dss_one (ds_ret de_bl))
      dss_nil)
    (dss_one (ds_ret (de_all rfl (by rfl) (T.b_all) (de_lc [("_law_one", 2), ("_law_other", 3)] rfl sc_same.nd (di_zip (by rfl) (T.b_zip) (da_cons (dv 0) (da_cons (dv 1) da_nil))) (BlkOk.mk (N := ["_law_found", "_law_due", "_law_one", "_law_other"]) (sc := defScope s_same) rfl (by decide +kernel) (by decide +kernel) (by decide +kernel) (by decide +kernel)) (by decide) (fun _ _ _ _ _ => (dg_tup (n := 2) rfl (dgs_cons (dg_name (i := 2) sc_same.nd rfl (by first | exact .inl rfl | exact .inr rfl)) (dgs_cons (dg_name (i := 3) sc_same.nd rfl (by first | exact .inl rfl | exact .inr rfl)) dgs_nil)))) (fun _ _ _ _ _ => dts_nil) (fun _ _ _ _ _ => (de_callV o_same (hr.mono (by omega)) (by rfl) (dan_cons (dv 2) (dan_cons (dv 3) dan_nil))))))))))
    dss_nil)
  (dss_cons (ds_if (dt_val (de_isi .str (by rfl) (T.b_isinstance) (by rfl) (T.b_str) (by decide +kernel) (dv 1)))
    (dss_one (ds_ret (de_and (de_isi .str (by rfl) (T.b_isinstance) (by rfl) (T.b_str) (by decide +kernel) (dv 0)) (de_one (de_eqD (hu64 hr) (dv 0) (dv 1))))))
    dss_nil)
  (dss_one (ds_ret (de_and (de_isi .int (by rfl) (T.b_isinstance) (by rfl) (T.b_int) (by decide +kernel) (dv 0)) (de_and (de_not (de_isi .bool (by rfl) (T.b_isinstance) (by rfl) (T.b_bool) (by decide +kernel) (dv 0))) (de_one (de_eqD (hu64 hr) (dv 0) (dv 1))))))))))) (fun xs ms Ks h hl => ?_)
  unfold spSame at h
  split at h
  · rename_i d e
    obtain ⟨rfl, hs, hd, hn, hk⟩ := h
    cases d with
    | none => exact tt hk
    | bool b => cases hs
    | dict kvs => cases hs
    | int i =>
      refine ff (ff (ff (ff (tt (tt ?_)))))
      refine ⟨rfl, rfl, ?_⟩
      show Ks [] (.da (.bool (PyData.eqv (.int i) (.int i))))
      rw [SeqAt.eqv_refl _ (okS_lay hs)]
      exact hk
    | str x =>
      have hsh := shaped_of hs (by simp [PyData.depth])
      refine ff (ff (ff (tt (tt ?_))))
      refine ⟨hsh, hsh, ?_⟩
      show Ks [] (.da (.bool (PyData.eqv (.str x) (.str x))))
      rw [SeqAt.eqv_refl _ (okS_lay hs)]
      exact hk
    | list ds =>
      have hs' := hs
      simp only [okS, Bool.and_eq_true, decide_eq_true_eq] at hs
      refine ff ?_
      refine tt ?_
      refine tt ?_
      refine ff ?_
      refine ff ?_
      refine nF (p := ((ds.length : Int) = (ds.length : Int))) rfl ?_
      refine ⟨fun (i : Nat) (ms : List MO) (acc : List D) => ms = [] ∧ acc = (List.replicate i true).map .bool, ⟨rfl, rfl⟩, ?_, ?_⟩
      · rintro i z ms acc hz ⟨rfl, rfl⟩ _
        obtain ⟨x, y, hx, hy, rfl⟩ := zipD_get hz
        have e := Option.some.inj (hx.symm.trans hy)
        subst e
        have hlt : i < ds.length := (List.getElem?_eq_some_iff.mp hx).1
        have hdx := depth_get hx
        simp only [PyData.depth] at hd
        refine ⟨rfl, ?_⟩
        refine tt ?_
        refine ⟨List.nodup_nil, rfl, rfl, okSs_get hs.1 hx, by omega, by omega, rfl, ?_⟩
        refine ⟨by rw [List.length_map, List.length_replicate]; omega, rfl, rfl, ?_⟩
        rw [List.replicate_succ', List.map_append]
        rfl
      · rintro ms acc ⟨rfl, rfl⟩ _
        refine ⟨_, rfl, ?_⟩
        rw [all_true]
        exact hk
    | tuple ds =>
      have hs' := hs
      simp only [okS, Bool.and_eq_true, decide_eq_true_eq] at hs
      refine ff ?_
      refine ff ?_
      refine tt ?_
      refine ff ?_
      refine ff ?_
      refine nF (p := ((ds.length : Int) = (ds.length : Int))) rfl ?_
      refine ⟨fun (i : Nat) (ms : List MO) (acc : List D) => ms = [] ∧ acc = (List.replicate i true).map .bool, ⟨rfl, rfl⟩, ?_, ?_⟩
      · rintro i z ms acc hz ⟨rfl, rfl⟩ _
        obtain ⟨x, y, hx, hy, rfl⟩ := zipD_get hz
        have e := Option.some.inj (hx.symm.trans hy)
        subst e
        have hlt : i < ds.length := (List.getElem?_eq_some_iff.mp hx).1
        have hdx := depth_get hx
        simp only [PyData.depth] at hd
        refine ⟨rfl, ?_⟩
        refine tt ?_
        refine ⟨List.nodup_nil, rfl, rfl, okSs_get hs.1 hx, by omega, by omega, rfl, ?_⟩
        refine ⟨by rw [List.length_map, List.length_replicate]; omega, rfl, rfl, ?_⟩
        rw [List.replicate_succ', List.map_append]
        rfl
      · rintro ms acc ⟨rfl, rfl⟩ _
        refine ⟨_, rfl, ?_⟩
        rw [all_true]
        exact hk
  · exact h.elim
theorem ok_same (T : Tx K mg) : Ok P w K mg base 8 "_law_same" s_same ["_law_found", "_law_due"] 2 sp_same := by
  have all : ∀ n : Nat, Ok P w K mg base n "_law_same" s_same ["_law_found", "_law_due"] 2 (spSame false n) := fun n => by
    induction n with
    | zero =>
      refine Ok.none T.d_same fun xs ms Ks h => ?_
      unfold spSame at h
      split at h
      · exact absurd h.2.2.1 (Nat.not_lt_zero _)
      · exact h
    | succ n ih => exact ok_same_step T ih
  exact all 8
theorem ok_law' {f : Addr} {fd : FuncData} (F : Fun K "law" "law" s_law f fd) (T : Tx K mg) (o_all_failing : Ok P w K mg base 3 "_law_all_failing" s_all_failing ["_law_houses", "_law_bonds", "_law_first"] 3 sp_all_failing) (o_bonds_by : Ok P w K mg base 4 "_law_bonds_by" s_bonds_by ["_law_state", "_law_houses", "_law_many", "_law_sort"] 4 sp_bonds_by) (o_given : Ok P w K mg base 2 "_law_given" s_given ["_law_state", "_law_rows"] 2 sp_given) (o_houses_by : Ok P w K mg base 4 "_law_houses_by" s_houses_by ["_law_state", "_law_many", "_law_sort"] 3 sp_houses_by) (o_same : Ok P w K mg base 8 "_law_same" s_same ["_law_found", "_law_due"] 2 sp_same) (o_take : Ok P w K mg base 1 "_law_take" s_take ["_law_state", "_law_many"] 2 spTake) (o_brought_down : Ok P w K mg base 6 "brought_down" s_brought_down ["houses", "bonds", "house"] 3 sp_brought_down) (o_fallen : Ok P w K mg base 6 "fallen" s_fallen ["houses", "bonds", "first"] 3 sp_fallen) : FnOkG P w K mg base CX0 9 f fd ["_law_script"] (spLawH K) := by
  obtain ⟨fB, fdB, aB⟩ := T.d_begin
  have GB : FnOk P w K mg base CX0 8 fB fdB ["_law_script"] (spBeginH K) := ok_begin aB.F T.b_list
  refine ok_law (n := 21) F sc_law rfl rfl rfl (by first | exact .inl rfl | exact .inr rfl) (by first | exact .inl rfl | exact .inr (.inl rfl)) rfl GB aB.kp aB.b aB.g (fun cdv A outer s H E hr =>
  (dss_cons (ds_for [0, 2, 3, 4, 5, 6, 7, 8, 9, 10, 11, 12, 13, 14, 15, 16, 17, 18, 19, 20, 21, 22] 1 PassesOwn.never rfl (di_range1 (by rfl) (T.b_range) (da_cons de_int da_nil)) (dg_name (i := 2) sc_law.nd rfl (by first | exact .inl rfl | exact .inr rfl))
    (dss_cons (ds_set (i := 3) sc_law.nd rfl (by first | exact .inl rfl | exact .inr rfl) (de_callV o_take (hr.mono (by omega)) (by rfl) (dan_cons (dv 1) (dan_cons de_int dan_nil))))
    (dss_cons (ds_set (i := 4) sc_law.nd rfl (by first | exact .inl rfl | exact .inr rfl) (de_callV o_houses_by (hr.mono (by omega)) (by rfl) (dan_cons (dv 1) (dan_cons (de_add de_int (de_callV o_take (hr.mono (by omega)) (by rfl) (dan_cons (dv 1) (dan_cons de_int dan_nil)))) (dan_cons (dv 3) dan_nil)))))
    (dss_cons (ds_set (i := 5) sc_law.nd rfl (by first | exact .inl rfl | exact .inr rfl) (de_callV o_bonds_by (hr.mono (by omega)) (by rfl) (dan_cons (dv 1) (dan_cons (dv 4) (dan_cons (de_ix (de_lst (dan_cons de_int (dan_cons (de_callV o_take (hr.mono (by omega)) (by rfl) (dan_cons (dv 1) (dan_cons de_int dan_nil))) dan_nil))) (de_callV o_take (hr.mono (by omega)) (by rfl) (dan_cons (dv 1) (dan_cons de_int dan_nil)))) (dan_cons (dv 3) dan_nil))))))
    (dss_cons (ds_set (i := 6) sc_law.nd rfl (by first | exact .inl rfl | exact .inr rfl) (de_lst (dan_cons (de_callV o_given (hr.mono (by omega)) (by rfl) (dan_cons (dv 1) (dan_cons (dv 4) dan_nil))) (dan_cons (de_callV o_given (hr.mono (by omega)) (by rfl) (dan_cons (dv 1) (dan_cons (dv 5) dan_nil))) dan_nil))))
    (dss_cons (ds_set (i := 7) sc_law.nd rfl (by first | exact .inl rfl | exact .inr rfl) de_newD)
    (dss_cons (ds_for [0, 2, 3, 8, 9, 10, 11, 12, 13, 14, 15, 16, 17, 18, 19, 20, 21, 22] 2 PassesOwn.never rfl (di_list (dv 4)) (dg_tup (n := 3) rfl (dgs_cons (dg_name (i := 8) sc_law.nd rfl (by first | exact .inl rfl | exact .inr rfl)) (dgs_cons (dg_name (i := 9) sc_law.nd rfl (by first | exact .inl rfl | exact .inr rfl)) (dgs_cons (dg_name (i := 10) sc_law.nd rfl (by first | exact .inl rfl | exact .inr rfl)) dgs_nil))))
      (dss_cons (ds_set (i := 11) sc_law.nd rfl (by first | exact .inl rfl | exact .inr rfl) (de_callV o_all_failing (hr.mono (by omega)) (by rfl) (dan_cons (dv 4) (dan_cons (dv 5) (dan_cons (de_lst (dan_cons (dv 8) dan_nil)) dan_nil)))))
      (dss_cons (ds_setLc (i := 12) [("_law_name", 18), ("_law_own", 20), ("_law_much", 21)] rfl sc_law.nd rfl rfl rfl (di_list (dv 4)) (BlkOk.mk (N := ["_law_script", "_law_state", "_law_turn", "_law_sort", "_law_houses", "_law_bonds", "_law_handed", "_law_lists", "_law_house", "_law_deposit", "_law_need", "_law_failing", "_law_due", "_law_found", "_law_told", "_law_one", "_law_other", "_law_both", "_law_name", "_law_coins", "_law_own", "_law_much", "_law_part"]) (sc := defScope s_law) rfl (by decide +kernel) (by decide +kernel) (by decide +kernel) (by decide +kernel)) (by decide) (fun _ _ _ _ _ => (dg_tup (n := 3) rfl (dgs_cons (dg_name (i := 18) sc_law.nd rfl (by first | exact .inl rfl | exact .inr rfl)) (dgs_cons (dg_name (i := 20) sc_law.nd rfl (by first | exact .inl rfl | exact .inr rfl)) (dgs_cons (dg_name (i := 21) sc_law.nd rfl (by first | exact .inl rfl | exact .inr rfl)) dgs_nil))))) (fun _ _ _ _ _ => (dts_one (dt_inD (hu64 hr) (dv 18) (dv 11)))) (fun _ _ _ _ _ => (dv 18)))
      (dss_cons (ds_set (i := 13) sc_law.nd rfl (by first | exact .inl rfl | exact .inr rfl) (de_callV o_brought_down (hr.mono (by omega)) (by rfl) (dan_cons (de_ix (dv 6) de_int) (dan_cons (de_ix (dv 6) de_int) (dan_cons (dv 8) dan_nil)))))
      (dss_cons (ds_if (dt_not (dt_val (de_callB' o_same (hr.mono (by omega)) (by rfl) (dan_cons (dv 13) (dan_cons (dv 12) dan_nil)))))
        (dss_one (ds_ret de_bl))
        dss_nil)
      (dss_cons (ds_exp (de_append (dv 13) de_str))
      (dss_cons (ds_set (i := 14) sc_law.nd rfl (by first | exact .inl rfl | exact .inr rfl) (de_callV o_fallen (hr.mono (by omega)) (by rfl) (dan_cons (dv 4) (dan_cons (dv 5) (dan_cons (de_lst (dan_cons (dv 8) dan_nil)) dan_nil)))))
      (dss_cons (ds_if (dt_neD (hu64 hr) (de_sortD (hu64 hr) (by rfl) (T.b_sorted) (de_cat (de_lst (dan_cons (dv 8) dan_nil)) (de_lc [("_law_name", 18), ("_law_coins", 19)] rfl sc_law.nd (di_seq (de_ix (dv 14) de_int)) (BlkOk.mk (N := ["_law_script", "_law_state", "_law_turn", "_law_sort", "_law_houses", "_law_bonds", "_law_handed", "_law_lists", "_law_house", "_law_deposit", "_law_need", "_law_failing", "_law_due", "_law_found", "_law_told", "_law_one", "_law_other", "_law_both", "_law_name", "_law_coins", "_law_own", "_law_much", "_law_part"]) (sc := defScope s_law) rfl (by decide +kernel) (by decide +kernel) (by decide +kernel) (by decide +kernel)) (by decide) (fun _ _ _ _ _ => (dg_tup (n := 2) rfl (dgs_cons (dg_name (i := 18) sc_law.nd rfl (by first | exact .inl rfl | exact .inr rfl)) (dgs_cons (dg_name (i := 19) sc_law.nd rfl (by first | exact .inl rfl | exact .inr rfl)) dgs_nil)))) (fun _ _ _ _ _ => dts_nil) (fun _ _ _ _ _ => (dv 18))))) (de_sortD (hu64 hr) (by rfl) (T.b_sorted) (dv 12)))
        (dss_one (ds_ret de_bl))
        dss_nil)
      (dss_cons (ds_asg (dv 12) (dg_setD (hu1 hr) (dv 7) (dv 8)))
      (dss_one (ds_if (dt_not (dt_val (de_callB' o_same (hr.mono (by omega)) (by rfl) (dan_cons (de_callV o_brought_down (hr.mono (by omega)) (by rfl) (dan_cons (de_ix (dv 6) de_int) (dan_cons (de_ix (dv 6) de_int) (dan_cons (dv 8) dan_nil)))) (dan_cons (dv 12) dan_nil)))))
        (dss_one (ds_ret de_bl))
        dss_nil)))))))))))
    (dss_cons (ds_par (i := 15) (j := 16) rfl sc_law.nd rfl rfl (by decide) rfl rfl (da_cons (de_ix (de_ix (dv 4) (de_callV o_take (hr.mono (by omega)) (by rfl) (dan_cons (dv 1) (dan_cons (de_len (x := "") (by rfl) (T.b_len) (dv 4)) dan_nil)))) de_int) (da_cons (de_ix (de_ix (dv 4) (de_callV o_take (hr.mono (by omega)) (by rfl) (dan_cons (dv 1) (dan_cons (de_len (x := "") (by rfl) (T.b_len) (dv 4)) dan_nil)))) de_int) da_nil)) rfl)
    (dss_cons (ds_set (i := 17) sc_law.nd rfl (by first | exact .inl rfl | exact .inr rfl) (de_lc [("_law_name", 18), ("_law_coins", 19)] rfl sc_law.nd (di_seq (de_ix (de_callV o_fallen (hr.mono (by omega)) (by rfl) (dan_cons (dv 4) (dan_cons (dv 5) (dan_cons (de_sortSetT rfl (by rfl) (T.b_sorted) (by rfl) (T.b_set) (de_lst (dan_cons (dv 15) (dan_cons (dv 16) dan_nil)))) dan_nil)))) de_int)) (BlkOk.mk (N := ["_law_script", "_law_state", "_law_turn", "_law_sort", "_law_houses", "_law_bonds", "_law_handed", "_law_lists", "_law_house", "_law_deposit", "_law_need", "_law_failing", "_law_due", "_law_found", "_law_told", "_law_one", "_law_other", "_law_both", "_law_name", "_law_coins", "_law_own", "_law_much", "_law_part"]) (sc := defScope s_law) rfl (by decide +kernel) (by decide +kernel) (by decide +kernel) (by decide +kernel)) (by decide) (fun _ _ _ _ _ => (dg_tup (n := 2) rfl (dgs_cons (dg_name (i := 18) sc_law.nd rfl (by first | exact .inl rfl | exact .inr rfl)) (dgs_cons (dg_name (i := 19) sc_law.nd rfl (by first | exact .inl rfl | exact .inr rfl)) dgs_nil)))) (fun _ _ _ _ _ => dts_nil) (fun _ _ _ _ _ => (dv 18))))
    (dss_cons (ds_if (dt_not (dt_val (de_all rfl (by rfl) (T.b_all) (de_lc [("_law_name", 18)] rfl sc_law.nd (di_seq (de_cat (de_dget (hu1 hr) (dv 7) (dv 15)) (de_dget (hu1 hr) (dv 7) (dv 16)))) (BlkOk.mk (N := ["_law_script", "_law_state", "_law_turn", "_law_sort", "_law_houses", "_law_bonds", "_law_handed", "_law_lists", "_law_house", "_law_deposit", "_law_need", "_law_failing", "_law_due", "_law_found", "_law_told", "_law_one", "_law_other", "_law_both", "_law_name", "_law_coins", "_law_own", "_law_much", "_law_part"]) (sc := defScope s_law) rfl (by decide +kernel) (by decide +kernel) (by decide +kernel) (by decide +kernel)) (by decide) (fun _ _ _ _ _ => (dg_name (i := 18) sc_law.nd rfl (by first | exact .inl rfl | exact .inr rfl))) (fun _ _ _ _ _ => dts_nil) (fun _ _ _ _ _ => (de_inD (hu64 hr) (dv 18) (dv 17)))))))
      (dss_one (ds_ret de_bl))
      dss_nil)
    (dss_one (ds_if (dt_neD (hu64 hr) (de_lc [("_law_part", 22)] rfl sc_law.nd (di_list (dv 6)) (BlkOk.mk (N := ["_law_script", "_law_state", "_law_turn", "_law_sort", "_law_houses", "_law_bonds", "_law_handed", "_law_lists", "_law_house", "_law_deposit", "_law_need", "_law_failing", "_law_due", "_law_found", "_law_told", "_law_one", "_law_other", "_law_both", "_law_name", "_law_coins", "_law_own", "_law_much", "_law_part"]) (sc := defScope s_law) rfl (by decide +kernel) (by decide +kernel) (by decide +kernel) (by decide +kernel)) (by decide) (fun _ _ _ _ _ => (dg_name (i := 22) sc_law.nd rfl (by first | exact .inl rfl | exact .inr rfl))) (fun _ _ _ _ _ => dts_nil) (fun _ _ _ _ _ => (de_list (by rfl) (T.b_list) (dv 22)))) (de_lst (dan_cons (dv 4) (dan_cons (dv 5) dan_nil))))
      (dss_one (ds_ret de_bl))
      dss_nil))))))))))))
  (dss_one (ds_ret de_bl)))) ?_
  refine ⟨by decide, by decide, fun (i : Nat) (s : S) => ∃ m, s = ⟨[.no, .mu 0, .no, .no, .no, .no, .no, .no, .no, .no, .no, .no, .no, .no, .no, .no, .no, .no, .no, .no, .no, .no, .no], [.rnd m], 0⟩ ∧ fuel0 ≤ m + 2000 * i, ⟨Nat.zero_le _, fuel0, rfl, by omega⟩, ?_, ?_⟩
  · rintro i d s hi ⟨m, rfl, hm⟩
    have hi12 : i < 4 := by
      have := (List.getElem?_eq_some_iff.mp hi).1
      rwa [rng_length] at this
    have hm2 : 3000 ≤ m := by unfold fuel0 at hm; omega
    refine ⟨nd1, rfl, by omega, divA 8 (by decide) (by decide), fun sort s0 s1 => ⟨rfl, ?_⟩⟩
    try dsimp only [DL.S.sE, DL.S.sM, DL.S.aM, DL.S.cM, DL.st, DL.gt, DL.sm, DL.gm, DL.putM, DL.pick, DL.muks, DL.nthN, DL.bkE, DL.st0, DL.nos, List.cons_append, List.nil_append, List.append_nil, List.drop_succ_cons, List.drop_nil, List.drop_zero, List.drop, DL.a1, DL.a2, DL.a3, DL.cMin3, DL.aNil, DL.aCons, DL.dVar, DL.dC, DL.iI, DL.i1, DL.isB, DL.daI, DL.onE, DL.gN, List.length_cons, List.length_nil, Nat.reduceAdd, Nat.zero_add]
    refine ⟨nd1, rfl, by omega, divA 8 (by decide) (by decide), fun a a0 a1 => ⟨rfl, ?_⟩⟩
    try dsimp only [DL.S.sE, DL.S.sM, DL.S.aM, DL.S.cM, DL.st, DL.gt, DL.sm, DL.gm, DL.putM, DL.pick, DL.muks, DL.nthN, DL.bkE, DL.st0, DL.nos, List.cons_append, List.nil_append, List.append_nil, List.drop_succ_cons, List.drop_nil, List.drop_zero, List.drop, DL.a1, DL.a2, DL.a3, DL.cMin3, DL.aNil, DL.aCons, DL.dVar, DL.dC, DL.iI, DL.i1, DL.isB, DL.daI, DL.onE, DL.gN, List.length_cons, List.length_nil, Nat.reduceAdd, Nat.zero_add]
    refine ⟨nd1, rfl, by omega, by omega, s0, s1, by omega, fun q hs h1 ho hl => ⟨rfl, ?_⟩⟩
    try dsimp only [DL.S.sE, DL.S.sM, DL.S.aM, DL.S.cM, DL.st, DL.gt, DL.sm, DL.gm, DL.putM, DL.pick, DL.muks, DL.nthN, DL.bkE, DL.st0, DL.nos, List.cons_append, List.nil_append, List.append_nil, List.drop_succ_cons, List.drop_nil, List.drop_zero, List.drop, DL.a1, DL.a2, DL.a3, DL.cMin3, DL.aNil, DL.aCons, DL.dVar, DL.dC, DL.iI, DL.i1, DL.isB, DL.daI, DL.onE, DL.gN, List.length_cons, List.length_nil, Nat.reduceAdd, Nat.zero_add]
    refine ⟨nd1, rfl, by omega, divA 8 (by decide) (by decide), fun b b0 b1 => ⟨rfl, ?_⟩⟩
    try dsimp only [DL.S.sE, DL.S.sM, DL.S.aM, DL.S.cM, DL.st, DL.gt, DL.sm, DL.gm, DL.putM, DL.pick, DL.muks, DL.nthN, DL.bkE, DL.st0, DL.nos, List.cons_append, List.nil_append, List.append_nil, List.drop_succ_cons, List.drop_nil, List.drop_zero, List.drop, DL.a1, DL.a2, DL.a3, DL.cMin3, DL.aNil, DL.aCons, DL.dVar, DL.dC, DL.iI, DL.i1, DL.isB, DL.daI, DL.onE, DL.gN, List.length_cons, List.length_nil, Nat.reduceAdd, Nat.zero_add]
    refine ⟨nd1, rfl, by omega, divA 8 (by decide) (by decide), fun c c0 c1 => ⟨rfl, ?_⟩⟩
    try dsimp only [DL.S.sE, DL.S.sM, DL.S.aM, DL.S.cM, DL.st, DL.gt, DL.sm, DL.gm, DL.putM, DL.pick, DL.muks, DL.nthN, DL.bkE, DL.st0, DL.nos, List.cons_append, List.nil_append, List.append_nil, List.drop_succ_cons, List.drop_nil, List.drop_zero, List.drop, DL.a1, DL.a2, DL.a3, DL.cMin3, DL.aNil, DL.aCons, DL.dVar, DL.dC, DL.iI, DL.i1, DL.isB, DL.daI, DL.onE, DL.gN, List.length_cons, List.length_nil, Nat.reduceAdd, Nat.zero_add]
    obtain ⟨many, hmany, y0, y1⟩ : ∃ many : Int, atI [PyData.int 12, PyData.int b] c = some (.int many) ∧ 0 ≤ many ∧ many ≤ 12 := by
      obtain rfl | rfl : c = 0 ∨ c = 1 := by omega
      · exact ⟨_, rfl, by omega, by omega⟩
      · exact ⟨_, rfl, by omega, by omega⟩
    refine ⟨_, hmany, nd1, rfl, hs, rfl, by omega, by omega, y0, y1, s0, s1, by omega, fun q2 bs h2 hbs hbl => ⟨rfl, ?_⟩⟩
    try dsimp only [DL.S.sE, DL.S.sM, DL.S.aM, DL.S.cM, DL.st, DL.gt, DL.sm, DL.gm, DL.putM, DL.pick, DL.muks, DL.nthN, DL.bkE, DL.st0, DL.nos, List.cons_append, List.nil_append, List.append_nil, List.drop_succ_cons, List.drop_nil, List.drop_zero, List.drop, DL.a1, DL.a2, DL.a3, DL.cMin3, DL.aNil, DL.aCons, DL.dVar, DL.dC, DL.iI, DL.i1, DL.isB, DL.daI, DL.onE, DL.gN, List.length_cons, List.length_nil, Nat.reduceAdd, Nat.zero_add]
    refine ⟨nd1, rfl, by omega, fun q4 X h4 hX => ⟨rfl, ?_⟩⟩
    try dsimp only [DL.S.sE, DL.S.sM, DL.S.aM, DL.S.cM, DL.st, DL.gt, DL.sm, DL.gm, DL.putM, DL.pick, DL.muks, DL.nthN, DL.bkE, DL.st0, DL.nos, List.cons_append, List.nil_append, List.append_nil, List.drop_succ_cons, List.drop_nil, List.drop_zero, List.drop, DL.a1, DL.a2, DL.a3, DL.cMin3, DL.aNil, DL.aCons, DL.dVar, DL.dC, DL.iI, DL.i1, DL.isB, DL.daI, DL.onE, DL.gN, List.length_cons, List.length_nil, Nat.reduceAdd, Nat.zero_add]
    refine ⟨nd1, rfl, by omega, fun q5 Y h5 hY => ⟨rfl, ?_⟩⟩
    try dsimp only [DL.S.sE, DL.S.sM, DL.S.aM, DL.S.cM, DL.st, DL.gt, DL.sm, DL.gm, DL.putM, DL.pick, DL.muks, DL.nthN, DL.bkE, DL.st0, DL.nos, List.cons_append, List.nil_append, List.append_nil, List.drop_succ_cons, List.drop_nil, List.drop_zero, List.drop, DL.a1, DL.a2, DL.a3, DL.cMin3, DL.aNil, DL.aCons, DL.dVar, DL.dC, DL.iI, DL.i1, DL.isB, DL.daI, DL.onE, DL.gN, List.length_cons, List.length_nil, Nat.reduceAdd, Nat.zero_add]
    have hb : HB hs bs := hbs.HB ho (by omega) (by omega)
    have b0 : ∀ b ∈ bs, 0 ≤ b.2.2 := fun b h => (hbs b h).1
    have hsl : hs.length ≤ 6 := by omega
    have dok : ∀ x, ∀ y ∈ down hs bs x, sOk y := fun x y hy => by
      obtain ⟨z, hz, e⟩ := ins_mem hy
      rw [← e]; exact ho.ok z hz
    have dlen : ∀ x, (down hs bs x).length ≤ 6 := fun x => Nat.le_trans ins_len hsl
    refine ⟨fun (j : Nat) (s : S) => ∃ kvs : List (Key × D), s = ⟨[.no, .mu 0, .no, .no, .da (.list (hs.map hsD)), .da (.list (bs.map bnD)), .da (.list [X, Y]), .mu 1, .no, .no, .no, .no, .no, .no, .no, .no, .no, .no, .no, .no, .no, .no, .no], [.rnd q5, .dct kvs], 0⟩ ∧ kvs.length ≤ j ∧ ∀ h ∈ hs.take j, findD kvs (.inr h.1) = some (.list ((down hs bs h.1).map .str)), ⟨Nat.zero_le _, [], by (simp only [DL.clS, DL.killL, DL.limL, DL.limE_mu, DL.limE_da, DL.limE_no, DL.takM, DL.limM, DL.frzS, DL.subL, DL.subE_mu, DL.subE_da, DL.subE_no, DL.subS, DL.subM, DL.S.sE, DL.S.sM, DL.S.aM, DL.S.cM, DL.st, DL.gt, DL.sm, DL.gm, DL.putM, DL.pick, DL.muks, DL.nthN, DL.bkE, DL.st0, DL.nos, List.cons_append, List.nil_append, List.append_nil, List.drop_succ_cons, List.drop_nil, List.drop_zero, List.length_cons, List.length_nil, List.map_cons, List.map_nil, List.map_append, Nat.reduceAdd, Nat.zero_add, Nat.reduceLT, Nat.reduceEqDiff, if_true, if_false, ↓reduceIte, Nat.lt_irrefl, Nat.not_lt_zero] <;> rfl), Nat.le_refl 0, fun h hh => by simp at hh⟩, ?_, ?_⟩
    · rintro j e s hj ⟨kvs, rfl, hkl, hkv⟩
      obtain ⟨h1, hh, rfl⟩ := map_get hj
      have hm1 := List.mem_of_getElem? hh
      have hx1 : h1.1 ∈ hs.map (·.1) := List.mem_map.mpr ⟨h1, hm1, rfl⟩
      have hj6 : j < 6 := by have := (List.getElem?_eq_some_iff.mp hh).1; omega
      have ok1 : ∀ x ∈ [h1.1], sOk x := fun x hx => by rw [List.mem_singleton.mp hx]; exact ho.ok h1 hm1
      refine ⟨rfl, ?_⟩
      try dsimp only [DL.S.sE, DL.S.sM, DL.S.aM, DL.S.cM, DL.st, DL.gt, DL.sm, DL.gm, DL.putM, DL.pick, DL.muks, DL.nthN, DL.bkE, DL.st0, DL.nos, List.cons_append, List.nil_append, List.append_nil, List.drop_succ_cons, List.drop_nil, List.drop_zero, List.drop, DL.a1, DL.a2, DL.a3, DL.cMin3, DL.aNil, DL.aCons, DL.dVar, DL.dC, DL.iI, DL.i1, DL.isB, DL.daI, DL.onE, DL.gN, List.length_cons, List.length_nil, Nat.reduceAdd, Nat.zero_add]
      refine ⟨List.nodup_nil, rfl, hs, bs, [h1.1], rfl, rfl, rfl, hb, ok1, (by show 1 ≤ 20; decide), rfl, ?_⟩
      try dsimp only [DL.S.sE, DL.S.sM, DL.S.aM, DL.S.cM, DL.st, DL.gt, DL.sm, DL.gm, DL.putM, DL.pick, DL.muks, DL.nthN, DL.bkE, DL.st0, DL.nos, List.cons_append, List.nil_append, List.append_nil, List.drop_succ_cons, List.drop_nil, List.drop_zero, List.drop, DL.a1, DL.a2, DL.a3, DL.cMin3, DL.aNil, DL.aCons, DL.dVar, DL.dC, DL.iI, DL.i1, DL.isB, DL.daI, DL.onE, DL.gN, List.length_cons, List.length_nil, Nat.reduceAdd, Nat.zero_add]
      have rok := rounds_ok (bs := bs) (F := [h1.1]) hb ok1 hs.length
      refine ⟨fun (i : Nat) (mo : List MO) (acc : List D) => mo = [.rnd q5, .dct kvs] ∧ acc = (ins (inL (rounds hs bs [h1.1] hs.length)) (hs.take i)).map .str, ⟨by (simp only [DL.clS, DL.killL, DL.limL, DL.limE_mu, DL.limE_da, DL.limE_no, DL.takM, DL.limM, DL.frzS, DL.subL, DL.subE_mu, DL.subE_da, DL.subE_no, DL.subS, DL.subM, DL.S.sE, DL.S.sM, DL.S.aM, DL.S.cM, DL.st, DL.gt, DL.sm, DL.gm, DL.putM, DL.pick, DL.muks, DL.nthN, DL.bkE, DL.st0, DL.nos, List.cons_append, List.nil_append, List.append_nil, List.drop_succ_cons, List.drop_nil, List.drop_zero, List.length_cons, List.length_nil, List.map_cons, List.map_nil, List.map_append, Nat.reduceAdd, Nat.zero_add, Nat.reduceLT, Nat.reduceEqDiff, if_true, if_false, ↓reduceIte, Nat.lt_irrefl, Nat.not_lt_zero] <;> rfl), rfl⟩, ?_, ?_⟩
      · rintro i e mo acc hi ⟨rfl, rfl⟩ _
        obtain ⟨h2, hh2, rfl⟩ := map_get hi
        have hm2 := List.mem_of_getElem? hh2
        have hi2 : i < 6 := by have := (List.getElem?_eq_some_iff.mp hh2).1; omega
        have hil := ins_len (P := inL (rounds hs bs [h1.1] hs.length)) (hs := hs.take i)
        have ht : (hs.take i).length ≤ i := by rw [List.length_take]; omega
        refine ⟨rfl, ?_⟩
        try dsimp only [DL.S.sE, DL.S.sM, DL.S.aM, DL.S.cM, DL.st, DL.gt, DL.sm, DL.gm, DL.putM, DL.pick, DL.muks, DL.nthN, DL.bkE, DL.st0, DL.nos, List.cons_append, List.nil_append, List.append_nil, List.drop_succ_cons, List.drop_nil, List.drop_zero, List.drop, DL.a1, DL.a2, DL.a3, DL.cMin3, DL.aNil, DL.aCons, DL.dVar, DL.dC, DL.iI, DL.i1, DL.isB, DL.daI, DL.onE, DL.gN, List.length_cons, List.length_nil, Nat.reduceAdd, Nat.zero_add]
        refine ⟨fit_str (ho.ok h2 hm2), fit_strs rok, ?_⟩
        cases q : inL (rounds hs bs [h1.1] hs.length) h2.1 with
        | false =>
          refine xF ((any_inL _ _).trans q) ?_
          refine ⟨by (simp only [DL.clS, DL.killL, DL.limL, DL.limE_mu, DL.limE_da, DL.limE_no, DL.takM, DL.limM, DL.frzS, DL.subL, DL.subE_mu, DL.subE_da, DL.subE_no, DL.subS, DL.subM, DL.S.sE, DL.S.sM, DL.S.aM, DL.S.cM, DL.st, DL.gt, DL.sm, DL.gm, DL.putM, DL.pick, DL.muks, DL.nthN, DL.bkE, DL.st0, DL.nos, List.cons_append, List.nil_append, List.append_nil, List.drop_succ_cons, List.drop_nil, List.drop_zero, List.length_cons, List.length_nil, List.map_cons, List.map_nil, List.map_append, Nat.reduceAdd, Nat.zero_add, Nat.reduceLT, Nat.reduceEqDiff, if_true, if_false, ↓reduceIte, Nat.lt_irrefl, Nat.not_lt_zero] <;> rfl), by (simp only [DL.clS, DL.killL, DL.limL, DL.limE_mu, DL.limE_da, DL.limE_no, DL.takM, DL.limM, DL.frzS, DL.subL, DL.subE_mu, DL.subE_da, DL.subE_no, DL.subS, DL.subM, DL.S.sE, DL.S.sM, DL.S.aM, DL.S.cM, DL.st, DL.gt, DL.sm, DL.gm, DL.putM, DL.pick, DL.muks, DL.nthN, DL.bkE, DL.st0, DL.nos, List.cons_append, List.nil_append, List.append_nil, List.drop_succ_cons, List.drop_nil, List.drop_zero, List.length_cons, List.length_nil, List.map_cons, List.map_nil, List.map_append, Nat.reduceAdd, Nat.zero_add, Nat.reduceLT, Nat.reduceEqDiff, if_true, if_false, ↓reduceIte, Nat.lt_irrefl, Nat.not_lt_zero] <;> rfl), ?_⟩
          rw [take_snoc hh2, ins_snoc, if_neg (by rw [q]; decide), List.append_nil]
        | true =>
          refine xT ((any_inL _ _).trans q) ?_
          refine ⟨by rw [List.length_map]; exact sz (by omega), by (simp only [DL.clS, DL.killL, DL.limL, DL.limE_mu, DL.limE_da, DL.limE_no, DL.takM, DL.limM, DL.frzS, DL.subL, DL.subE_mu, DL.subE_da, DL.subE_no, DL.subS, DL.subM, DL.S.sE, DL.S.sM, DL.S.aM, DL.S.cM, DL.st, DL.gt, DL.sm, DL.gm, DL.putM, DL.pick, DL.muks, DL.nthN, DL.bkE, DL.st0, DL.nos, List.cons_append, List.nil_append, List.append_nil, List.drop_succ_cons, List.drop_nil, List.drop_zero, List.length_cons, List.length_nil, List.map_cons, List.map_nil, List.map_append, Nat.reduceAdd, Nat.zero_add, Nat.reduceLT, Nat.reduceEqDiff, if_true, if_false, ↓reduceIte, Nat.lt_irrefl, Nat.not_lt_zero] <;> rfl), by (simp only [DL.clS, DL.killL, DL.limL, DL.limE_mu, DL.limE_da, DL.limE_no, DL.takM, DL.limM, DL.frzS, DL.subL, DL.subE_mu, DL.subE_da, DL.subE_no, DL.subS, DL.subM, DL.S.sE, DL.S.sM, DL.S.aM, DL.S.cM, DL.st, DL.gt, DL.sm, DL.gm, DL.putM, DL.pick, DL.muks, DL.nthN, DL.bkE, DL.st0, DL.nos, List.cons_append, List.nil_append, List.append_nil, List.drop_succ_cons, List.drop_nil, List.drop_zero, List.length_cons, List.length_nil, List.map_cons, List.map_nil, List.map_append, Nat.reduceAdd, Nat.zero_add, Nat.reduceLT, Nat.reduceEqDiff, if_true, if_false, ↓reduceIte, Nat.lt_irrefl, Nat.not_lt_zero] <;> rfl), ?_⟩
          rw [take_snoc hh2, ins_snoc, if_pos q, List.map_append]
          rfl
      rintro mo acc ⟨rfl, rfl⟩ _
      rw [List.length_map, List.take_length, show ins (inL (rounds hs bs [h1.1] hs.length)) hs = down hs bs h1.1 from rfl]
      try dsimp only [DL.S.sE, DL.S.sM, DL.S.aM, DL.S.cM, DL.st, DL.gt, DL.sm, DL.gm, DL.putM, DL.pick, DL.muks, DL.nthN, DL.bkE, DL.st0, DL.nos, List.cons_append, List.nil_append, List.append_nil, List.drop_succ_cons, List.drop_nil, List.drop_zero, List.drop, DL.a1, DL.a2, DL.a3, DL.cMin3, DL.aNil, DL.aCons, DL.dVar, DL.dC, DL.iI, DL.i1, DL.isB, DL.daI, DL.onE, DL.gN, List.length_cons, List.length_nil, Nat.reduceAdd, Nat.zero_add]
      refine ⟨_, rfl, _, rfl, List.nodup_nil, rfl, hs, bs, hX, hY, hb, fun os G hG hO hc => ⟨rfl, ?_⟩⟩
      try dsimp only [DL.S.sE, DL.S.sM, DL.S.aM, DL.S.cM, DL.st, DL.gt, DL.sm, DL.gm, DL.putM, DL.pick, DL.muks, DL.nthN, DL.bkE, DL.st0, DL.nos, List.cons_append, List.nil_append, List.append_nil, List.drop_succ_cons, List.drop_nil, List.drop_zero, List.drop, DL.a1, DL.a2, DL.a3, DL.cMin3, DL.aNil, DL.aCons, DL.dVar, DL.dC, DL.iI, DL.i1, DL.isB, DL.daI, DL.onE, DL.gN, List.length_cons, List.length_nil, Nat.reduceAdd, Nat.zero_add]
      have eG : ins (inL G) hs = down hs bs h1.1 := by
        rw [hG] at hc ⊢
        exact ins_ext fun x => inL_ext (same_fail b0 hO hc) x
      rw [eG]
      refine ⟨rfl, names_ok (dok _) (Nat.le_trans (dlen _) (by decide)), names_dep _ (by decide), by decide, rfl, ?_⟩
      refine ff ?_
      refine ⟨by rw [List.length_map]; exact sz (by have := dlen h1.1; omega), ?_⟩
      try dsimp only [DL.S.sE, DL.S.sM, DL.S.aM, DL.S.cM, DL.st, DL.gt, DL.sm, DL.gm, DL.putM, DL.pick, DL.muks, DL.nthN, DL.bkE, DL.st0, DL.nos, List.cons_append, List.nil_append, List.append_nil, List.drop_succ_cons, List.drop_nil, List.drop_zero, List.drop, DL.a1, DL.a2, DL.a3, DL.cMin3, DL.aNil, DL.aCons, DL.dVar, DL.dC, DL.iI, DL.i1, DL.isB, DL.daI, DL.onE, DL.gN, List.length_cons, List.length_nil, Nat.reduceAdd, Nat.zero_add]
      refine ⟨List.nodup_nil, rfl, hs, bs, [h1.1], .inl rfl, .inl rfl, .inl rfl, hb, (by show 1 ≤ 20; decide), fun os2 G2 hG2 hO2 hc2 => ⟨rfl, ?_⟩⟩
      try dsimp only [DL.S.sE, DL.S.sM, DL.S.aM, DL.S.cM, DL.st, DL.gt, DL.sm, DL.gm, DL.putM, DL.pick, DL.muks, DL.nthN, DL.bkE, DL.st0, DL.nos, List.cons_append, List.nil_append, List.append_nil, List.drop_succ_cons, List.drop_nil, List.drop_zero, List.drop, DL.a1, DL.a2, DL.a3, DL.cMin3, DL.aNil, DL.aCons, DL.dVar, DL.dC, DL.iI, DL.i1, DL.isB, DL.daI, DL.onE, DL.gN, List.length_cons, List.length_nil, Nat.reduceAdd, Nat.zero_add]
      rw [hG2] at hc2
      have hp := down_perm ho.nd b0 hx1 hO2 hc2
      have hol := hO2.len
      refine ⟨_, rfl, ?_⟩
      refine ⟨fun (i : Nat) (mo : List MO) (acc : List D) => mo = [.rnd q5, .dct kvs, .lst ((down hs bs h1.1).map .str ++ [.str "more"])] ∧ acc = ((os2.take i).map (·.1)).map .str, ⟨by (simp only [DL.clS, DL.killL, DL.limL, DL.limE_mu, DL.limE_da, DL.limE_no, DL.takM, DL.limM, DL.frzS, DL.subL, DL.subE_mu, DL.subE_da, DL.subE_no, DL.subS, DL.subM, DL.S.sE, DL.S.sM, DL.S.aM, DL.S.cM, DL.st, DL.gt, DL.sm, DL.gm, DL.putM, DL.pick, DL.muks, DL.nthN, DL.bkE, DL.st0, DL.nos, List.cons_append, List.nil_append, List.append_nil, List.drop_succ_cons, List.drop_nil, List.drop_zero, List.length_cons, List.length_nil, List.map_cons, List.map_nil, List.map_append, Nat.reduceAdd, Nat.zero_add, Nat.reduceLT, Nat.reduceEqDiff, if_true, if_false, ↓reduceIte, Nat.lt_irrefl, Nat.not_lt_zero] <;> rfl), rfl⟩, ?_, ?_⟩
      · rintro i e mo acc hi ⟨rfl, rfl⟩ _
        obtain ⟨z, hz, rfl⟩ := map_get hi
        have hi2 := (List.getElem?_eq_some_iff.mp hz).1
        refine ⟨rfl, tt ?_⟩
        try dsimp only [DL.S.sE, DL.S.sM, DL.S.aM, DL.S.cM, DL.st, DL.gt, DL.sm, DL.gm, DL.putM, DL.pick, DL.muks, DL.nthN, DL.bkE, DL.st0, DL.nos, List.cons_append, List.nil_append, List.append_nil, List.drop_succ_cons, List.drop_nil, List.drop_zero, List.drop, DL.a1, DL.a2, DL.a3, DL.cMin3, DL.aNil, DL.aCons, DL.dVar, DL.dC, DL.iI, DL.i1, DL.isB, DL.daI, DL.onE, DL.gN, List.length_cons, List.length_nil, Nat.reduceAdd, Nat.zero_add]
        refine ⟨by rw [List.length_map, List.length_map, List.length_take]; exact sz (by omega), by (simp only [DL.clS, DL.killL, DL.limL, DL.limE_mu, DL.limE_da, DL.limE_no, DL.takM, DL.limM, DL.frzS, DL.subL, DL.subE_mu, DL.subE_da, DL.subE_no, DL.subS, DL.subM, DL.S.sE, DL.S.sM, DL.S.aM, DL.S.cM, DL.st, DL.gt, DL.sm, DL.gm, DL.putM, DL.pick, DL.muks, DL.nthN, DL.bkE, DL.st0, DL.nos, List.cons_append, List.nil_append, List.append_nil, List.drop_succ_cons, List.drop_nil, List.drop_zero, List.length_cons, List.length_nil, List.map_cons, List.map_nil, List.map_append, Nat.reduceAdd, Nat.zero_add, Nat.reduceLT, Nat.reduceEqDiff, if_true, if_false, ↓reduceIte, Nat.lt_irrefl, Nat.not_lt_zero] <;> rfl), by (simp only [DL.clS, DL.killL, DL.limL, DL.limE_mu, DL.limE_da, DL.limE_no, DL.takM, DL.limM, DL.frzS, DL.subL, DL.subE_mu, DL.subE_da, DL.subE_no, DL.subS, DL.subM, DL.S.sE, DL.S.sM, DL.S.aM, DL.S.cM, DL.st, DL.gt, DL.sm, DL.gm, DL.putM, DL.pick, DL.muks, DL.nthN, DL.bkE, DL.st0, DL.nos, List.cons_append, List.nil_append, List.append_nil, List.drop_succ_cons, List.drop_nil, List.drop_zero, List.length_cons, List.length_nil, List.map_cons, List.map_nil, List.map_append, Nat.reduceAdd, Nat.zero_add, Nat.reduceLT, Nat.reduceEqDiff, if_true, if_false, ↓reduceIte, Nat.lt_irrefl, Nat.not_lt_zero] <;> rfl), ?_⟩
        rw [take_snoc hz, List.map_append, List.map_append]
        rfl
      rintro mo acc ⟨rfl, rfl⟩ _
      rw [List.length_map, List.take_length]
      refine ⟨by rw [List.length_map, List.length_map, List.length_singleton]; exact Nat.le_of_lt (sz (by omega)), ?_⟩
      rw [show [PyData.str h1.1] ++ (os2.map (·.1)).map .str = ([h1.1] ++ os2.map (·.1)).map .str from rfl]
      refine ⟨_, rfl, can_strs fun x hx => dok h1.1 x (hp.mem_iff.mp hx), _, rfl, can_strs (dok h1.1), ?_⟩
      rw [sortD_perm hp]
      obtain ⟨so1, so2⟩ := sort_okS (dok h1.1) (Nat.le_trans (dlen _) (by decide))
      refine ⟨so2, so2, ?_⟩
      refine xnF (SeqAt.eqv_refl _ (okS_lay so1)) ?_
      try dsimp only [DL.S.sE, DL.S.sM, DL.S.aM, DL.S.cM, DL.st, DL.gt, DL.sm, DL.gm, DL.putM, DL.pick, DL.muks, DL.nthN, DL.bkE, DL.st0, DL.nos, List.cons_append, List.nil_append, List.append_nil, List.drop_succ_cons, List.drop_nil, List.drop_zero, List.drop, DL.a1, DL.a2, DL.a3, DL.cMin3, DL.aNil, DL.aCons, DL.dVar, DL.dC, DL.iI, DL.i1, DL.isB, DL.daI, DL.onE, DL.gN, List.length_cons, List.length_nil, Nat.reduceAdd, Nat.zero_add]
      refine ⟨sz (by omega), ?_⟩
      try dsimp only [DL.S.sE, DL.S.sM, DL.S.aM, DL.S.cM, DL.st, DL.gt, DL.sm, DL.gm, DL.putM, DL.pick, DL.muks, DL.nthN, DL.bkE, DL.st0, DL.nos, List.cons_append, List.nil_append, List.append_nil, List.drop_succ_cons, List.drop_nil, List.drop_zero, List.drop, DL.a1, DL.a2, DL.a3, DL.cMin3, DL.aNil, DL.aCons, DL.dVar, DL.dC, DL.iI, DL.i1, DL.isB, DL.daI, DL.onE, DL.gN, List.length_cons, List.length_nil, Nat.reduceAdd, Nat.zero_add]
      refine ⟨_, rfl, _, rfl, List.nodup_nil, rfl, hs, bs, hX, hY, hb, fun os3 G3 hG3 hO3 hc3 => ⟨rfl, ?_⟩⟩
      try dsimp only [DL.S.sE, DL.S.sM, DL.S.aM, DL.S.cM, DL.st, DL.gt, DL.sm, DL.gm, DL.putM, DL.pick, DL.muks, DL.nthN, DL.bkE, DL.st0, DL.nos, List.cons_append, List.nil_append, List.append_nil, List.drop_succ_cons, List.drop_nil, List.drop_zero, List.drop, DL.a1, DL.a2, DL.a3, DL.cMin3, DL.aNil, DL.aCons, DL.dVar, DL.dC, DL.iI, DL.i1, DL.isB, DL.daI, DL.onE, DL.gN, List.length_cons, List.length_nil, Nat.reduceAdd, Nat.zero_add]
      have eG3 : ins (inL G3) hs = down hs bs h1.1 := by
        rw [hG3] at hc3 ⊢
        exact ins_ext fun x => inL_ext (same_fail b0 hO3 hc3) x
      rw [eG3]
      refine ⟨rfl, names_ok (dok _) (Nat.le_trans (dlen _) (by decide)), names_dep _ (by decide), by decide, rfl, ?_⟩
      refine ff ?_
      refine ⟨Nat.zero_le _, _, by (simp only [DL.clS, DL.killL, DL.limL, DL.limE_mu, DL.limE_da, DL.limE_no, DL.takM, DL.limM, DL.frzS, DL.subL, DL.subE_mu, DL.subE_da, DL.subE_no, DL.subS, DL.subM, DL.S.sE, DL.S.sM, DL.S.aM, DL.S.cM, DL.st, DL.gt, DL.sm, DL.gm, DL.putM, DL.pick, DL.muks, DL.nthN, DL.bkE, DL.st0, DL.nos, List.cons_append, List.nil_append, List.append_nil, List.drop_succ_cons, List.drop_nil, List.drop_zero, List.length_cons, List.length_nil, List.map_cons, List.map_nil, List.map_append, Nat.reduceAdd, Nat.zero_add, Nat.reduceLT, Nat.reduceEqDiff, if_true, if_false, ↓reduceIte, Nat.lt_irrefl, Nat.not_lt_zero] <;> rfl), ?_, ?_⟩
      · have := putD_len kvs (.inr h1.1) (.list ((down hs bs h1.1).map .str))
        omega
      · intro h hh3
        rw [find_put]
        by_cases e : h1.1 = h.1
        · rw [if_pos (congrArg Sum.inr e), e]
        · rw [if_neg (fun z => e (Sum.inr.inj z))]
          refine hkv h ?_
          rw [take_snoc hh] at hh3
          rcases List.mem_append.mp hh3 with z | z
          · exact z
          · exact absurd (congrArg (·.1) (List.mem_singleton.mp z)).symm e
    rintro s ⟨kvs, rfl, hkl, hkv⟩
    rw [List.length_map, List.take_length] at hkv
    have hpos : 0 < hs.length := by omega
    have hml : ((hs.map hsD).length : Int) = hs.length := by rw [List.length_map]
    refine ⟨nd1, rfl, by omega, divA 8 (by omega) (by omega), fun u u0 u1 => ⟨rfl, ?_⟩⟩
    rw [hml] at u1
    try dsimp only [DL.S.sE, DL.S.sM, DL.S.aM, DL.S.cM, DL.st, DL.gt, DL.sm, DL.gm, DL.putM, DL.pick, DL.muks, DL.nthN, DL.bkE, DL.st0, DL.nos, List.cons_append, List.nil_append, List.append_nil, List.drop_succ_cons, List.drop_nil, List.drop_zero, List.drop, DL.a1, DL.a2, DL.a3, DL.cMin3, DL.aNil, DL.aCons, DL.dVar, DL.dC, DL.iI, DL.i1, DL.isB, DL.daI, DL.onE, DL.gN, List.length_cons, List.length_nil, Nat.reduceAdd, Nat.zero_add]
    obtain ⟨hA, hA1, hA2⟩ := at_get (l := hs) (f := hsD) u0 u1
    refine ⟨_, hA2, _, rfl, nd1, rfl, by omega, divA 8 (by omega) (by omega), fun v v0 v1 => ⟨rfl, ?_⟩⟩
    rw [hml] at v1
    try dsimp only [DL.S.sE, DL.S.sM, DL.S.aM, DL.S.cM, DL.st, DL.gt, DL.sm, DL.gm, DL.putM, DL.pick, DL.muks, DL.nthN, DL.bkE, DL.st0, DL.nos, List.cons_append, List.nil_append, List.append_nil, List.drop_succ_cons, List.drop_nil, List.drop_zero, List.drop, DL.a1, DL.a2, DL.a3, DL.cMin3, DL.aNil, DL.aCons, DL.dVar, DL.dC, DL.iI, DL.i1, DL.isB, DL.daI, DL.onE, DL.gN, List.length_cons, List.length_nil, Nat.reduceAdd, Nat.zero_add]
    obtain ⟨hB, hB1, hB2⟩ := at_get (l := hs) (f := hsD) v0 v1
    refine ⟨_, hB2, _, rfl, ?_⟩
    try dsimp only [DL.S.sE, DL.S.sM, DL.S.aM, DL.S.cM, DL.st, DL.gt, DL.sm, DL.gm, DL.putM, DL.pick, DL.muks, DL.nthN, DL.bkE, DL.st0, DL.nos, List.cons_append, List.nil_append, List.append_nil, List.drop_succ_cons, List.drop_nil, List.drop_zero, List.drop, DL.a1, DL.a2, DL.a3, DL.cMin3, DL.aNil, DL.aCons, DL.dVar, DL.dC, DL.iI, DL.i1, DL.isB, DL.daI, DL.onE, DL.gN, List.length_cons, List.length_nil, Nat.reduceAdd, Nat.zero_add]
    refine ⟨[hA.1, hB.1], rfl, (by show 2 < 64; decide), fun F hsF ndF hmF => ?_⟩
    try dsimp only [DL.S.sE, DL.S.sM, DL.S.aM, DL.S.cM, DL.st, DL.gt, DL.sm, DL.gm, DL.putM, DL.pick, DL.muks, DL.nthN, DL.bkE, DL.st0, DL.nos, List.cons_append, List.nil_append, List.append_nil, List.drop_succ_cons, List.drop_nil, List.drop_zero, List.drop, DL.a1, DL.a2, DL.a3, DL.cMin3, DL.aNil, DL.aCons, DL.dVar, DL.dC, DL.iI, DL.i1, DL.isB, DL.daI, DL.onE, DL.gN, List.length_cons, List.length_nil, Nat.reduceAdd, Nat.zero_add]
    have hFl : F.length ≤ 2 := nodup_lenS (m := [hA.1, hB.1]) ndF fun x hx => (hmF x).mp hx
    refine ⟨List.nodup_nil, rfl, hs, bs, F, .inl rfl, .inl rfl, .inl rfl, hb, by omega, fun os G hG hO hc => ⟨rfl, ?_⟩⟩
    try dsimp only [DL.S.sE, DL.S.sM, DL.S.aM, DL.S.cM, DL.st, DL.gt, DL.sm, DL.gm, DL.putM, DL.pick, DL.muks, DL.nthN, DL.bkE, DL.st0, DL.nos, List.cons_append, List.nil_append, List.append_nil, List.drop_succ_cons, List.drop_nil, List.drop_zero, List.drop, DL.a1, DL.a2, DL.a3, DL.cMin3, DL.aNil, DL.aCons, DL.dVar, DL.dC, DL.iI, DL.i1, DL.isB, DL.daI, DL.onE, DL.gN, List.length_cons, List.length_nil, Nat.reduceAdd, Nat.zero_add]
    refine ⟨_, rfl, ?_⟩
    have hcl : Cl hs bs F G := by rw [hG] at hc ⊢; exact cl_ord b0 hO hc
    have hul : (unpaidRows (inL G) hs bs).length ≤ 6 := by
      have := congrArg List.length (unpaid_names (P := inL G) (hs := hs) (bs := bs))
      rw [List.length_map] at this
      have := ins_len (P := inL G) (hs := hs)
      omega
    refine ⟨fun (i : Nat) (mo : List MO) (acc : List D) => mo = [.rnd (q5 - 1 - 1), .dct kvs] ∧ acc = (((unpaidRows (inL G) hs bs).take i).map (·.1)).map .str, ⟨by (simp only [DL.clS, DL.killL, DL.limL, DL.limE_mu, DL.limE_da, DL.limE_no, DL.takM, DL.limM, DL.frzS, DL.subL, DL.subE_mu, DL.subE_da, DL.subE_no, DL.subS, DL.subM, DL.S.sE, DL.S.sM, DL.S.aM, DL.S.cM, DL.st, DL.gt, DL.sm, DL.gm, DL.putM, DL.pick, DL.muks, DL.nthN, DL.bkE, DL.st0, DL.nos, List.cons_append, List.nil_append, List.append_nil, List.drop_succ_cons, List.drop_nil, List.drop_zero, List.length_cons, List.length_nil, List.map_cons, List.map_nil, List.map_append, Nat.reduceAdd, Nat.zero_add, Nat.reduceLT, Nat.reduceEqDiff, if_true, if_false, ↓reduceIte, Nat.lt_irrefl, Nat.not_lt_zero] <;> rfl), rfl⟩, ?_, ?_⟩
    · rintro i e mo acc hi ⟨rfl, rfl⟩ _
      obtain ⟨z, hz, rfl⟩ := map_get hi
      have hi2 := (List.getElem?_eq_some_iff.mp hz).1
      refine ⟨rfl, tt ?_⟩
      try dsimp only [DL.S.sE, DL.S.sM, DL.S.aM, DL.S.cM, DL.st, DL.gt, DL.sm, DL.gm, DL.putM, DL.pick, DL.muks, DL.nthN, DL.bkE, DL.st0, DL.nos, List.cons_append, List.nil_append, List.append_nil, List.drop_succ_cons, List.drop_nil, List.drop_zero, List.drop, DL.a1, DL.a2, DL.a3, DL.cMin3, DL.aNil, DL.aCons, DL.dVar, DL.dC, DL.iI, DL.i1, DL.isB, DL.daI, DL.onE, DL.gN, List.length_cons, List.length_nil, Nat.reduceAdd, Nat.zero_add]
      refine ⟨by rw [List.length_map, List.length_map, List.length_take]; exact sz (by omega), by (simp only [DL.clS, DL.killL, DL.limL, DL.limE_mu, DL.limE_da, DL.limE_no, DL.takM, DL.limM, DL.frzS, DL.subL, DL.subE_mu, DL.subE_da, DL.subE_no, DL.subS, DL.subM, DL.S.sE, DL.S.sM, DL.S.aM, DL.S.cM, DL.st, DL.gt, DL.sm, DL.gm, DL.putM, DL.pick, DL.muks, DL.nthN, DL.bkE, DL.st0, DL.nos, List.cons_append, List.nil_append, List.append_nil, List.drop_succ_cons, List.drop_nil, List.drop_zero, List.length_cons, List.length_nil, List.map_cons, List.map_nil, List.map_append, Nat.reduceAdd, Nat.zero_add, Nat.reduceLT, Nat.reduceEqDiff, if_true, if_false, ↓reduceIte, Nat.lt_irrefl, Nat.not_lt_zero] <;> rfl), by (simp only [DL.clS, DL.killL, DL.limL, DL.limE_mu, DL.limE_da, DL.limE_no, DL.takM, DL.limM, DL.frzS, DL.subL, DL.subE_mu, DL.subE_da, DL.subE_no, DL.subS, DL.subM, DL.S.sE, DL.S.sM, DL.S.aM, DL.S.cM, DL.st, DL.gt, DL.sm, DL.gm, DL.putM, DL.pick, DL.muks, DL.nthN, DL.bkE, DL.st0, DL.nos, List.cons_append, List.nil_append, List.append_nil, List.drop_succ_cons, List.drop_nil, List.drop_zero, List.length_cons, List.length_nil, List.map_cons, List.map_nil, List.map_append, Nat.reduceAdd, Nat.zero_add, Nat.reduceLT, Nat.reduceEqDiff, if_true, if_false, ↓reduceIte, Nat.lt_irrefl, Nat.not_lt_zero] <;> rfl), ?_⟩
      rw [take_snoc hz, List.map_append, List.map_append]
      rfl
    rintro mo acc ⟨rfl, rfl⟩ _
    rw [List.length_map, List.take_length, unpaid_names]
    try dsimp only [DL.S.sE, DL.S.sM, DL.S.aM, DL.S.cM, DL.st, DL.gt, DL.sm, DL.gm, DL.putM, DL.pick, DL.muks, DL.nthN, DL.bkE, DL.st0, DL.nos, List.cons_append, List.nil_append, List.append_nil, List.drop_succ_cons, List.drop_nil, List.drop_zero, List.drop, DL.a1, DL.a2, DL.a3, DL.cMin3, DL.aNil, DL.aCons, DL.dVar, DL.dC, DL.iI, DL.i1, DL.isB, DL.daI, DL.onE, DL.gN, List.length_cons, List.length_nil, Nat.reduceAdd, Nat.zero_add]
    have gk : ∀ h ∈ hs, ∀ x ∈ [h.1], x ∈ F → ∀ y ∈ down hs bs h.1, y ∈ ins (inL G) hs := fun h hh x hx hF y hy => by
      obtain ⟨y1, y2⟩ := ins_iff.mp hy
      have cr := cl_rounds (hs := hs) (bs := bs) (F := [h.1]) b0
      refine ins_iff.mpr ⟨y1, decide_eq_true (cr.least G (fun z hz => ?_) hcl.cl y (of_decide_eq_true y2))⟩
      rw [List.mem_singleton.mp hz, ← List.mem_singleton.mp hx]
      exact hcl.sup x hF
    have gok : ∀ x ∈ ins (inL G) hs, sOk x := fun y hy => by
      obtain ⟨z, hz, e⟩ := ins_mem hy
      rw [← e]; exact ho.ok z hz
    refine ⟨_, hkv hA hA1, _, hkv hB hB1, ?_⟩
    have dl1 := dlen hA.1
    have dl2 := dlen hB.1
    refine ⟨by rw [List.length_map, List.length_map]; exact Nat.le_of_lt (sz (by omega)), ?_⟩
    rw [← List.map_append]
    try dsimp only [DL.S.sE, DL.S.sM, DL.S.aM, DL.S.cM, DL.st, DL.gt, DL.sm, DL.gm, DL.putM, DL.pick, DL.muks, DL.nthN, DL.bkE, DL.st0, DL.nos, List.cons_append, List.nil_append, List.append_nil, List.drop_succ_cons, List.drop_nil, List.drop_zero, List.drop, DL.a1, DL.a2, DL.a3, DL.cMin3, DL.aNil, DL.aCons, DL.dVar, DL.dC, DL.iI, DL.i1, DL.isB, DL.daI, DL.onE, DL.gN, List.length_cons, List.length_nil, Nat.reduceAdd, Nat.zero_add]
    refine ⟨fun (j : Nat) (mo : List MO) (acc : List D) => mo = [.rnd (q5 - 1 - 1), .dct kvs] ∧ acc = (List.replicate j true).map .bool, ⟨by (simp only [DL.clS, DL.killL, DL.limL, DL.limE_mu, DL.limE_da, DL.limE_no, DL.takM, DL.limM, DL.frzS, DL.subL, DL.subE_mu, DL.subE_da, DL.subE_no, DL.subS, DL.subM, DL.S.sE, DL.S.sM, DL.S.aM, DL.S.cM, DL.st, DL.gt, DL.sm, DL.gm, DL.putM, DL.pick, DL.muks, DL.nthN, DL.bkE, DL.st0, DL.nos, List.cons_append, List.nil_append, List.append_nil, List.drop_succ_cons, List.drop_nil, List.drop_zero, List.length_cons, List.length_nil, List.map_cons, List.map_nil, List.map_append, Nat.reduceAdd, Nat.zero_add, Nat.reduceLT, Nat.reduceEqDiff, if_true, if_false, ↓reduceIte, Nat.lt_irrefl, Nat.not_lt_zero] <;> rfl), rfl⟩, ?_, ?_⟩
    · rintro j e mo acc hj ⟨rfl, rfl⟩ _
      obtain ⟨y, hy, rfl⟩ := map_get hj
      have hym := List.mem_of_getElem? hy
      have hj2 := (List.getElem?_eq_some_iff.mp hy).1
      rw [List.length_append] at hj2
      have hyG : y ∈ ins (inL G) hs := by
        rcases List.mem_append.mp hym with z | z
        · exact gk hA hA1 hA.1 List.mem_cons_self ((hmF _).mpr List.mem_cons_self) y z
        · exact gk hB hB1 hB.1 List.mem_cons_self ((hmF _).mpr (List.mem_cons_of_mem _ List.mem_cons_self)) y z
      refine tt ?_
      try dsimp only [DL.S.sE, DL.S.sM, DL.S.aM, DL.S.cM, DL.st, DL.gt, DL.sm, DL.gm, DL.putM, DL.pick, DL.muks, DL.nthN, DL.bkE, DL.st0, DL.nos, List.cons_append, List.nil_append, List.append_nil, List.drop_succ_cons, List.drop_nil, List.drop_zero, List.drop, DL.a1, DL.a2, DL.a3, DL.cMin3, DL.aNil, DL.aCons, DL.dVar, DL.dC, DL.iI, DL.i1, DL.isB, DL.daI, DL.onE, DL.gN, List.length_cons, List.length_nil, Nat.reduceAdd, Nat.zero_add]
      refine ⟨fit_str (gok y hyG), fit_strs gok, ?_⟩
      refine ⟨by rw [List.length_map, List.length_replicate]; exact sz (by omega), by (simp only [DL.clS, DL.killL, DL.limL, DL.limE_mu, DL.limE_da, DL.limE_no, DL.takM, DL.limM, DL.frzS, DL.subL, DL.subE_mu, DL.subE_da, DL.subE_no, DL.subS, DL.subM, DL.S.sE, DL.S.sM, DL.S.aM, DL.S.cM, DL.st, DL.gt, DL.sm, DL.gm, DL.putM, DL.pick, DL.muks, DL.nthN, DL.bkE, DL.st0, DL.nos, List.cons_append, List.nil_append, List.append_nil, List.drop_succ_cons, List.drop_nil, List.drop_zero, List.length_cons, List.length_nil, List.map_cons, List.map_nil, List.map_append, Nat.reduceAdd, Nat.zero_add, Nat.reduceLT, Nat.reduceEqDiff, if_true, if_false, ↓reduceIte, Nat.lt_irrefl, Nat.not_lt_zero] <;> rfl), by (simp only [DL.clS, DL.killL, DL.limL, DL.limE_mu, DL.limE_da, DL.limE_no, DL.takM, DL.limM, DL.frzS, DL.subL, DL.subE_mu, DL.subE_da, DL.subE_no, DL.subS, DL.subM, DL.S.sE, DL.S.sM, DL.S.aM, DL.S.cM, DL.st, DL.gt, DL.sm, DL.gm, DL.putM, DL.pick, DL.muks, DL.nthN, DL.bkE, DL.st0, DL.nos, List.cons_append, List.nil_append, List.append_nil, List.drop_succ_cons, List.drop_nil, List.drop_zero, List.length_cons, List.length_nil, List.map_cons, List.map_nil, List.map_append, Nat.reduceAdd, Nat.zero_add, Nat.reduceLT, Nat.reduceEqDiff, if_true, if_false, ↓reduceIte, Nat.lt_irrefl, Nat.not_lt_zero] <;> rfl), ?_⟩
      rw [List.replicate_succ', (any_inL (ins (inL G) hs) y).trans (decide_eq_true hyG), List.map_append]
      rfl
    rintro mo acc ⟨rfl, rfl⟩ _
    try dsimp only [DL.S.sE, DL.S.sM, DL.S.aM, DL.S.cM, DL.st, DL.gt, DL.sm, DL.gm, DL.putM, DL.pick, DL.muks, DL.nthN, DL.bkE, DL.st0, DL.nos, List.cons_append, List.nil_append, List.append_nil, List.drop_succ_cons, List.drop_nil, List.drop_zero, List.drop, DL.a1, DL.a2, DL.a3, DL.cMin3, DL.aNil, DL.aCons, DL.dVar, DL.dC, DL.iI, DL.i1, DL.isB, DL.daI, DL.onE, DL.gN, List.length_cons, List.length_nil, Nat.reduceAdd, Nat.zero_add]
    refine ⟨_, rfl, ?_⟩
    rw [all_true]
    refine ff ?_
    have qX : seqD X = some (hs.map hsD) := by rcases hX with rfl | rfl <;> rfl
    have qY : seqD Y = some (bs.map bnD) := by rcases hY with rfl | rfl <;> rfl
    refine ⟨fun (j : Nat) (mo : List MO) (acc : List D) => mo = [.rnd (q5 - 1 - 1), .dct kvs] ∧ acc = ([.list (hs.map hsD), .list (bs.map bnD)] : List D).take j, ⟨by (simp only [DL.clS, DL.killL, DL.limL, DL.limE_mu, DL.limE_da, DL.limE_no, DL.takM, DL.limM, DL.frzS, DL.subL, DL.subE_mu, DL.subE_da, DL.subE_no, DL.subS, DL.subM, DL.S.sE, DL.S.sM, DL.S.aM, DL.S.cM, DL.st, DL.gt, DL.sm, DL.gm, DL.putM, DL.pick, DL.muks, DL.nthN, DL.bkE, DL.st0, DL.nos, List.cons_append, List.nil_append, List.append_nil, List.drop_succ_cons, List.drop_nil, List.drop_zero, List.length_cons, List.length_nil, List.map_cons, List.map_nil, List.map_append, Nat.reduceAdd, Nat.zero_add, Nat.reduceLT, Nat.reduceEqDiff, if_true, if_false, ↓reduceIte, Nat.lt_irrefl, Nat.not_lt_zero] <;> rfl), rfl⟩, ?_, ?_⟩
    · rintro j e mo acc hj ⟨rfl, rfl⟩ _
      match j, hj with
      | 0, hj =>
        cases hj
        refine tt ?_
        refine onO_mk qX ?_
        exact ⟨by show 0 < sizeLine; decide, by (simp only [DL.clS, DL.killL, DL.limL, DL.limE_mu, DL.limE_da, DL.limE_no, DL.takM, DL.limM, DL.frzS, DL.subL, DL.subE_mu, DL.subE_da, DL.subE_no, DL.subS, DL.subM, DL.S.sE, DL.S.sM, DL.S.aM, DL.S.cM, DL.st, DL.gt, DL.sm, DL.gm, DL.putM, DL.pick, DL.muks, DL.nthN, DL.bkE, DL.st0, DL.nos, List.cons_append, List.nil_append, List.append_nil, List.drop_succ_cons, List.drop_nil, List.drop_zero, List.length_cons, List.length_nil, List.map_cons, List.map_nil, List.map_append, Nat.reduceAdd, Nat.zero_add, Nat.reduceLT, Nat.reduceEqDiff, if_true, if_false, ↓reduceIte, Nat.lt_irrefl, Nat.not_lt_zero] <;> rfl), by (simp only [DL.clS, DL.killL, DL.limL, DL.limE_mu, DL.limE_da, DL.limE_no, DL.takM, DL.limM, DL.frzS, DL.subL, DL.subE_mu, DL.subE_da, DL.subE_no, DL.subS, DL.subM, DL.S.sE, DL.S.sM, DL.S.aM, DL.S.cM, DL.st, DL.gt, DL.sm, DL.gm, DL.putM, DL.pick, DL.muks, DL.nthN, DL.bkE, DL.st0, DL.nos, List.cons_append, List.nil_append, List.append_nil, List.drop_succ_cons, List.drop_nil, List.drop_zero, List.length_cons, List.length_nil, List.map_cons, List.map_nil, List.map_append, Nat.reduceAdd, Nat.zero_add, Nat.reduceLT, Nat.reduceEqDiff, if_true, if_false, ↓reduceIte, Nat.lt_irrefl, Nat.not_lt_zero] <;> rfl), rfl⟩
      | 1, hj =>
        cases hj
        refine tt ?_
        refine onO_mk qY ?_
        exact ⟨by show 1 < sizeLine; decide, by (simp only [DL.clS, DL.killL, DL.limL, DL.limE_mu, DL.limE_da, DL.limE_no, DL.takM, DL.limM, DL.frzS, DL.subL, DL.subE_mu, DL.subE_da, DL.subE_no, DL.subS, DL.subM, DL.S.sE, DL.S.sM, DL.S.aM, DL.S.cM, DL.st, DL.gt, DL.sm, DL.gm, DL.putM, DL.pick, DL.muks, DL.nthN, DL.bkE, DL.st0, DL.nos, List.cons_append, List.nil_append, List.append_nil, List.drop_succ_cons, List.drop_nil, List.drop_zero, List.length_cons, List.length_nil, List.map_cons, List.map_nil, List.map_append, Nat.reduceAdd, Nat.zero_add, Nat.reduceLT, Nat.reduceEqDiff, if_true, if_false, ↓reduceIte, Nat.lt_irrefl, Nat.not_lt_zero] <;> rfl), by (simp only [DL.clS, DL.killL, DL.limL, DL.limE_mu, DL.limE_da, DL.limE_no, DL.takM, DL.limM, DL.frzS, DL.subL, DL.subE_mu, DL.subE_da, DL.subE_no, DL.subS, DL.subM, DL.S.sE, DL.S.sM, DL.S.aM, DL.S.cM, DL.st, DL.gt, DL.sm, DL.gm, DL.putM, DL.pick, DL.muks, DL.nthN, DL.bkE, DL.st0, DL.nos, List.cons_append, List.nil_append, List.append_nil, List.drop_succ_cons, List.drop_nil, List.drop_zero, List.length_cons, List.length_nil, List.map_cons, List.map_nil, List.map_append, Nat.reduceAdd, Nat.zero_add, Nat.reduceLT, Nat.reduceEqDiff, if_true, if_false, ↓reduceIte, Nat.lt_irrefl, Nat.not_lt_zero] <;> rfl), rfl⟩
      | j + 2, hj => cases hj
    · rintro mo acc ⟨rfl, rfl⟩ _
      have hok := pair_ok hb
      have hsh := shaped_of hok pair_dep
      refine ⟨hsh, hsh, ?_⟩
      refine xnF (SeqAt.eqv_refl _ (okS_lay hok)) ?_
      exact ⟨Nat.zero_le _, _, by (simp only [DL.clS, DL.killL, DL.limL, DL.limE_mu, DL.limE_da, DL.limE_no, DL.takM, DL.limM, DL.frzS, DL.subL, DL.subE_mu, DL.subE_da, DL.subE_no, DL.subS, DL.subM, DL.S.sE, DL.S.sM, DL.S.aM, DL.S.cM, DL.st, DL.gt, DL.sm, DL.gm, DL.putM, DL.pick, DL.muks, DL.nthN, DL.bkE, DL.st0, DL.nos, List.cons_append, List.nil_append, List.append_nil, List.drop_succ_cons, List.drop_nil, List.drop_zero, List.length_cons, List.length_nil, List.map_cons, List.map_nil, List.map_append, Nat.reduceAdd, Nat.zero_add, Nat.reduceLT, Nat.reduceEqDiff, if_true, if_false, ↓reduceIte, Nat.lt_irrefl, Nat.not_lt_zero] <;> rfl), by omega⟩
  · rintro s ⟨m, rfl, hm⟩
    rfl
end
theorem law_all {f : Addr} {fd : FuncData} {P : Program} {w : World} {K : PySem.W.Frag} {mg : Str → Option Value} {base : Heap} (F : Fun K "law" "law" s_law f fd) (T : Tx K mg) : FnOkG P w K mg base CX0 9 f fd ["_law_script"] (spLawH K) := by
  have h_take : Ok P w K mg base 1 "_law_take" s_take ["_law_state", "_law_many"] 2 spTake := o_take' T
  have h_lacks_of := ok_lacks_of (P := P) (w := w) (base := base) T 
  have h_each_owes := ok_each_owes (P := P) (w := w) (base := base) T 
  have h_owed_by := ok_owed_by (P := P) (w := w) (base := base) T h_lacks_of
  have h_number := ok_number (P := P) (w := w) (base := base) T h_take
  have h_given := ok_given (P := P) (w := w) (base := base) T h_take
  have h_owed := ok_owed (P := P) (w := w) (base := base) T h_each_owes
  have h_owed_of := ok_owed_of (P := P) (w := w) (base := base) T h_owed_by
  have h_unpaid_of := ok_unpaid_of (P := P) (w := w) (base := base) T h_lacks_of h_owed_by
  have h_coins_by := ok_coins_by (P := P) (w := w) (base := base) T h_number h_take
  have h_all_failing := ok_all_failing (P := P) (w := w) (base := base) T h_owed
  have h_next_failing := ok_next_failing (P := P) (w := w) (base := base) T h_owed_of
  have h_owed_rows := ok_owed_rows (P := P) (w := w) (base := base) T h_owed_of
  have h_unpaid_rows := ok_unpaid_rows (P := P) (w := w) (base := base) T h_unpaid_of
  have h_houses_by := ok_houses_by (P := P) (w := w) (base := base) T h_coins_by h_take
  have h_bonds_by := ok_bonds_by (P := P) (w := w) (base := base) T h_coins_by h_take
  have h_falls := ok_falls (P := P) (w := w) (base := base) T h_next_failing
  have h_fallen := ok_fallen (P := P) (w := w) (base := base) T h_falls h_owed_rows h_unpaid_rows
  have h_brought_down := ok_brought_down (P := P) (w := w) (base := base) T h_falls
  have h_same := ok_same (P := P) (w := w) (base := base) T 
  exact ok_law' F T h_all_failing h_bonds_by h_given h_houses_by h_same h_take h_brought_down h_fallen
theorem all_mk {l : PySem.W.OpenLaw} {w : World} {K : PySem.W.Frag} {h : Heap} {mg : Str → Option Value} {fa : Addr} (X : K.In h) (G : h.Ns mainGlobals mg) (hfa : mg "law" = some (.ref fa))
    {f0 : Addr} {od0 an0 : Option Addr} {sl0 : Array (Option Value)} {oc0 kV0 dc0 pm0 cd0 ct0 : Value}
    {f1 : Addr} {od1 an1 : Option Addr} {sl1 : Array (Option Value)} {oc1 kV1 dc1 pm1 cd1 ct1 : Value}
    {f2 : Addr} {od2 an2 : Option Addr} {sl2 : Array (Option Value)} {oc2 kV2 dc2 pm2 cd2 ct2 : Value}
    {f3 : Addr} {od3 an3 : Option Addr} {sl3 : Array (Option Value)} {oc3 kV3 dc3 pm3 cd3 ct3 : Value}
    {f4 : Addr} {od4 an4 : Option Addr} {sl4 : Array (Option Value)} {oc4 kV4 dc4 pm4 cd4 ct4 : Value}
    {f5 : Addr} {od5 an5 : Option Addr} {sl5 : Array (Option Value)} {oc5 kV5 dc5 pm5 cd5 ct5 : Value}
    {f6 : Addr} {od6 an6 : Option Addr} {sl6 : Array (Option Value)} {oc6 kV6 dc6 pm6 cd6 ct6 : Value}
    {f7 : Addr} {od7 an7 : Option Addr} {sl7 : Array (Option Value)} {oc7 kV7 dc7 pm7 cd7 ct7 : Value}
    {f8 : Addr} {od8 an8 : Option Addr} {sl8 : Array (Option Value)} {oc8 kV8 dc8 pm8 cd8 ct8 : Value}
    {f9 : Addr} {od9 an9 : Option Addr} {sl9 : Array (Option Value)} {oc9 kV9 dc9 pm9 cd9 ct9 : Value}
    {f10 : Addr} {od10 an10 : Option Addr} {sl10 : Array (Option Value)} {oc10 kV10 dc10 pm10 cd10 ct10 : Value}
    {f11 : Addr} {od11 an11 : Option Addr} {sl11 : Array (Option Value)} {oc11 kV11 dc11 pm11 cd11 ct11 : Value}
    {f12 : Addr} {od12 an12 : Option Addr} {sl12 : Array (Option Value)} {oc12 kV12 dc12 pm12 cd12 ct12 : Value}
    {f13 : Addr} {od13 an13 : Option Addr} {sl13 : Array (Option Value)} {oc13 kV13 dc13 pm13 cd13 ct13 : Value}
    {f14 : Addr} {od14 an14 : Option Addr} {sl14 : Array (Option Value)} {oc14 kV14 dc14 pm14 cd14 ct14 : Value}
    {f15 : Addr} {od15 an15 : Option Addr} {sl15 : Array (Option Value)} {oc15 kV15 dc15 pm15 cd15 ct15 : Value}
    {f16 : Addr} {od16 an16 : Option Addr} {sl16 : Array (Option Value)} {oc16 kV16 dc16 pm16 cd16 ct16 : Value}
    {f17 : Addr} {od17 an17 : Option Addr} {sl17 : Array (Option Value)} {oc17 kV17 dc17 pm17 cd17 ct17 : Value}
    {f18 : Addr} {od18 an18 : Option Addr} {sl18 : Array (Option Value)} {oc18 kV18 dc18 pm18 cd18 ct18 : Value}
    {f19 : Addr} {od19 an19 : Option Addr} {sl19 : Array (Option Value)} {oc19 kV19 dc19 pm19 cd19 ct19 : Value}
    {f20 : Addr} {od20 an20 : Option Addr} {sl20 : Array (Option Value)} {oc20 kV20 dc20 pm20 cd20 ct20 : Value}
    {f21 : Addr} {od21 an21 : Option Addr} {sl21 : Array (Option Value)} {oc21 kV21 dc21 pm21 cd21 ct21 : Value}
    (a0 : PySem.W.nsIn K mainGlobals "lacks_of" = some (some (.ref f0))) (l0 : K.lookup f0 = some ⟨oc0, od0, .func (PySem.W.fnOf "lacks_of" "lacks_of" (defArgs s_lacks_of) (defBody s_lacks_of) (defScope s_lacks_of) .none kV0 dc0 pm0 an0 cd0 ct0), sl0⟩) (c0 : PySem.W.codeIn K cd0 "lacks_of" = true) (k0 : PySem.W.keepIn K (.ref f0) = true)
    (a1 : PySem.W.nsIn K mainGlobals "owed_by" = some (some (.ref f1))) (l1 : K.lookup f1 = some ⟨oc1, od1, .func (PySem.W.fnOf "owed_by" "owed_by" (defArgs s_owed_by) (defBody s_owed_by) (defScope s_owed_by) .none kV1 dc1 pm1 an1 cd1 ct1), sl1⟩) (c1 : PySem.W.codeIn K cd1 "owed_by" = true) (k1 : PySem.W.keepIn K (.ref f1) = true)
    (a2 : PySem.W.nsIn K mainGlobals "owed_of" = some (some (.ref f2))) (l2 : K.lookup f2 = some ⟨oc2, od2, .func (PySem.W.fnOf "owed_of" "owed_of" (defArgs s_owed_of) (defBody s_owed_of) (defScope s_owed_of) .none kV2 dc2 pm2 an2 cd2 ct2), sl2⟩) (c2 : PySem.W.codeIn K cd2 "owed_of" = true) (k2 : PySem.W.keepIn K (.ref f2) = true)
    (a3 : PySem.W.nsIn K mainGlobals "next_failing" = some (some (.ref f3))) (l3 : K.lookup f3 = some ⟨oc3, od3, .func (PySem.W.fnOf "next_failing" "next_failing" (defArgs s_next_failing) (defBody s_next_failing) (defScope s_next_failing) .none kV3 dc3 pm3 an3 cd3 ct3), sl3⟩) (c3 : PySem.W.codeIn K cd3 "next_failing" = true) (k3 : PySem.W.keepIn K (.ref f3) = true)
    (a4 : PySem.W.nsIn K mainGlobals "falls" = some (some (.ref f4))) (l4 : K.lookup f4 = some ⟨oc4, od4, .func (PySem.W.fnOf "falls" "falls" (defArgs s_falls) (defBody s_falls) (defScope s_falls) .none kV4 dc4 pm4 an4 cd4 ct4), sl4⟩) (c4 : PySem.W.codeIn K cd4 "falls" = true) (k4 : PySem.W.keepIn K (.ref f4) = true)
    (a5 : PySem.W.nsIn K mainGlobals "unpaid_of" = some (some (.ref f5))) (l5 : K.lookup f5 = some ⟨oc5, od5, .func (PySem.W.fnOf "unpaid_of" "unpaid_of" (defArgs s_unpaid_of) (defBody s_unpaid_of) (defScope s_unpaid_of) .none kV5 dc5 pm5 an5 cd5 ct5), sl5⟩) (c5 : PySem.W.codeIn K cd5 "unpaid_of" = true) (k5 : PySem.W.keepIn K (.ref f5) = true)
    (a6 : PySem.W.nsIn K mainGlobals "owed_rows" = some (some (.ref f6))) (l6 : K.lookup f6 = some ⟨oc6, od6, .func (PySem.W.fnOf "owed_rows" "owed_rows" (defArgs s_owed_rows) (defBody s_owed_rows) (defScope s_owed_rows) .none kV6 dc6 pm6 an6 cd6 ct6), sl6⟩) (c6 : PySem.W.codeIn K cd6 "owed_rows" = true) (k6 : PySem.W.keepIn K (.ref f6) = true)
    (a7 : PySem.W.nsIn K mainGlobals "unpaid_rows" = some (some (.ref f7))) (l7 : K.lookup f7 = some ⟨oc7, od7, .func (PySem.W.fnOf "unpaid_rows" "unpaid_rows" (defArgs s_unpaid_rows) (defBody s_unpaid_rows) (defScope s_unpaid_rows) .none kV7 dc7 pm7 an7 cd7 ct7), sl7⟩) (c7 : PySem.W.codeIn K cd7 "unpaid_rows" = true) (k7 : PySem.W.keepIn K (.ref f7) = true)
    (a8 : PySem.W.nsIn K mainGlobals "fallen" = some (some (.ref f8))) (l8 : K.lookup f8 = some ⟨oc8, od8, .func (PySem.W.fnOf "fallen" "fallen" (defArgs s_fallen) (defBody s_fallen) (defScope s_fallen) .none kV8 dc8 pm8 an8 cd8 ct8), sl8⟩) (c8 : PySem.W.codeIn K cd8 "fallen" = true) (k8 : PySem.W.keepIn K (.ref f8) = true)
    (a9 : PySem.W.nsIn K mainGlobals "brought_down" = some (some (.ref f9))) (l9 : K.lookup f9 = some ⟨oc9, od9, .func (PySem.W.fnOf "brought_down" "brought_down" (defArgs s_brought_down) (defBody s_brought_down) (defScope s_brought_down) .none kV9 dc9 pm9 an9 cd9 ct9), sl9⟩) (c9 : PySem.W.codeIn K cd9 "brought_down" = true) (k9 : PySem.W.keepIn K (.ref f9) = true)
    (a10 : PySem.W.nsIn K mainGlobals "_law_begin" = some (some (.ref f10))) (l10 : K.lookup f10 = some ⟨oc10, od10, .func (PySem.W.fnOf "_law_begin" "_law_begin" (defArgs s_begin) (defBody s_begin) (defScope s_begin) .none kV10 dc10 pm10 an10 cd10 ct10), sl10⟩) (c10 : PySem.W.codeIn K cd10 "_law_begin" = true) (k10 : PySem.W.keepIn K (.ref f10) = true)
    (a11 : PySem.W.nsIn K mainGlobals "_law_take" = some (some (.ref f11))) (l11 : K.lookup f11 = some ⟨oc11, od11, .func (PySem.W.fnOf "_law_take" "_law_take" (defArgs s_take) (defBody s_take) (defScope s_take) .none kV11 dc11 pm11 an11 cd11 ct11), sl11⟩) (c11 : PySem.W.codeIn K cd11 "_law_take" = true) (k11 : PySem.W.keepIn K (.ref f11) = true)
    (a12 : PySem.W.nsIn K mainGlobals "_law_same" = some (some (.ref f12))) (l12 : K.lookup f12 = some ⟨oc12, od12, .func (PySem.W.fnOf "_law_same" "_law_same" (defArgs s_same) (defBody s_same) (defScope s_same) .none kV12 dc12 pm12 an12 cd12 ct12), sl12⟩) (c12 : PySem.W.codeIn K cd12 "_law_same" = true) (k12 : PySem.W.keepIn K (.ref f12) = true)
    (a13 : PySem.W.nsIn K mainGlobals "_law_number" = some (some (.ref f13))) (l13 : K.lookup f13 = some ⟨oc13, od13, .func (PySem.W.fnOf "_law_number" "_law_number" (defArgs s_number) (defBody s_number) (defScope s_number) .none kV13 dc13 pm13 an13 cd13 ct13), sl13⟩) (c13 : PySem.W.codeIn K cd13 "_law_number" = true) (k13 : PySem.W.keepIn K (.ref f13) = true)
    (a14 : PySem.W.nsIn K mainGlobals "_law_given" = some (some (.ref f14))) (l14 : K.lookup f14 = some ⟨oc14, od14, .func (PySem.W.fnOf "_law_given" "_law_given" (defArgs s_given) (defBody s_given) (defScope s_given) .none kV14 dc14 pm14 an14 cd14 ct14), sl14⟩) (c14 : PySem.W.codeIn K cd14 "_law_given" = true) (k14 : PySem.W.keepIn K (.ref f14) = true)
    (a15 : PySem.W.nsIn K mainGlobals "_law_houses_by" = some (some (.ref f15))) (l15 : K.lookup f15 = some ⟨oc15, od15, .func (PySem.W.fnOf "_law_houses_by" "_law_houses_by" (defArgs s_houses_by) (defBody s_houses_by) (defScope s_houses_by) .none kV15 dc15 pm15 an15 cd15 ct15), sl15⟩) (c15 : PySem.W.codeIn K cd15 "_law_houses_by" = true) (k15 : PySem.W.keepIn K (.ref f15) = true)
    (a16 : PySem.W.nsIn K mainGlobals "_law_coins_by" = some (some (.ref f16))) (l16 : K.lookup f16 = some ⟨oc16, od16, .func (PySem.W.fnOf "_law_coins_by" "_law_coins_by" (defArgs s_coins_by) (defBody s_coins_by) (defScope s_coins_by) .none kV16 dc16 pm16 an16 cd16 ct16), sl16⟩) (c16 : PySem.W.codeIn K cd16 "_law_coins_by" = true) (k16 : PySem.W.keepIn K (.ref f16) = true)
    (a17 : PySem.W.nsIn K mainGlobals "_law_bonds_by" = some (some (.ref f17))) (l17 : K.lookup f17 = some ⟨oc17, od17, .func (PySem.W.fnOf "_law_bonds_by" "_law_bonds_by" (defArgs s_bonds_by) (defBody s_bonds_by) (defScope s_bonds_by) .none kV17 dc17 pm17 an17 cd17 ct17), sl17⟩) (c17 : PySem.W.codeIn K cd17 "_law_bonds_by" = true) (k17 : PySem.W.keepIn K (.ref f17) = true)
    (a18 : PySem.W.nsIn K mainGlobals "_law_each_owes" = some (some (.ref f18))) (l18 : K.lookup f18 = some ⟨oc18, od18, .func (PySem.W.fnOf "_law_each_owes" "_law_each_owes" (defArgs s_each_owes) (defBody s_each_owes) (defScope s_each_owes) .none kV18 dc18 pm18 an18 cd18 ct18), sl18⟩) (c18 : PySem.W.codeIn K cd18 "_law_each_owes" = true) (k18 : PySem.W.keepIn K (.ref f18) = true)
    (a19 : PySem.W.nsIn K mainGlobals "_law_owed" = some (some (.ref f19))) (l19 : K.lookup f19 = some ⟨oc19, od19, .func (PySem.W.fnOf "_law_owed" "_law_owed" (defArgs s_owed) (defBody s_owed) (defScope s_owed) .none kV19 dc19 pm19 an19 cd19 ct19), sl19⟩) (c19 : PySem.W.codeIn K cd19 "_law_owed" = true) (k19 : PySem.W.keepIn K (.ref f19) = true)
    (a20 : PySem.W.nsIn K mainGlobals "_law_all_failing" = some (some (.ref f20))) (l20 : K.lookup f20 = some ⟨oc20, od20, .func (PySem.W.fnOf "_law_all_failing" "_law_all_failing" (defArgs s_all_failing) (defBody s_all_failing) (defScope s_all_failing) .none kV20 dc20 pm20 an20 cd20 ct20), sl20⟩) (c20 : PySem.W.codeIn K cd20 "_law_all_failing" = true) (k20 : PySem.W.keepIn K (.ref f20) = true)
    (a21 : PySem.W.nsIn K mainGlobals "law" = some (some (.ref f21))) (l21 : K.lookup f21 = some ⟨oc21, od21, .func (PySem.W.fnOf "law" "law" (defArgs s_law) (defBody s_law) (defScope s_law) .none kV21 dc21 pm21 an21 cd21 ct21), sl21⟩) (c21 : PySem.W.codeIn K cd21 "law" = true) (k21 : PySem.W.keepIn K (.ref f21) = true)
    (z_all : PySem.W.nsIn K mainGlobals "all" = some none)
    (z_bool : PySem.W.nsIn K mainGlobals "bool" = some none)
    (z_dict : PySem.W.nsIn K mainGlobals "dict" = some none)
    (z_divmod : PySem.W.nsIn K mainGlobals "divmod" = some none)
    (z_int : PySem.W.nsIn K mainGlobals "int" = some none)
    (z_isinstance : PySem.W.nsIn K mainGlobals "isinstance" = some none)
    (z_len : PySem.W.nsIn K mainGlobals "len" = some none)
    (z_list : PySem.W.nsIn K mainGlobals "list" = some none)
    (z_max : PySem.W.nsIn K mainGlobals "max" = some none)
    (z_min : PySem.W.nsIn K mainGlobals "min" = some none)
    (z_range : PySem.W.nsIn K mainGlobals "range" = some none)
    (z_set : PySem.W.nsIn K mainGlobals "set" = some none)
    (z_sorted : PySem.W.nsIn K mainGlobals "sorted" = some none)
    (z_str : PySem.W.nsIn K mainGlobals "str" = some none)
    (z_sum : PySem.W.nsIn K mainGlobals "sum" = some none)
    (z_tuple : PySem.W.nsIn K mainGlobals "tuple" = some none)
    (z_zip : PySem.W.nsIn K mainGlobals "zip" = some none)
    : ∃ fd : FuncData, (∀ (s : Shared) (v : Value), BindsTo s fd ⟨[v], []⟩ [("_law_script", v)]) ∧ ∀ base : Heap, K.In base → base.Ns mainGlobals mg → FnOkG l.prog w K mg base CX0 9 fa fd ["_law_script"] (spLawH K) := by
  have e := hfa.symm.trans (PySem.W.mg_of X G a21)
  cases e
  have FL := fun_mk (st := s_law) l21 c21 k21
  have F0 := fun_mk (st := s_lacks_of) l0 c0 k0
  have b0 := F0.binds (ps := ["houses", "failing"]) fun _ _ _ _ _ _ us hl => match us, hl with | [_, _], _ => rfl
  have F1 := fun_mk (st := s_owed_by) l1 c1 k1
  have b1 := F1.binds (ps := ["houses", "bonds", "failing"]) fun _ _ _ _ _ _ us hl => match us, hl with | [_, _, _], _ => rfl
  have F2 := fun_mk (st := s_owed_of) l2 c2 k2
  have b2 := F2.binds (ps := ["houses", "bonds", "failing", "house"]) fun _ _ _ _ _ _ us hl => match us, hl with | [_, _, _, _], _ => rfl
  have F3 := fun_mk (st := s_next_failing) l3 c3 k3
  have b3 := F3.binds (ps := ["houses", "bonds", "failing"]) fun _ _ _ _ _ _ us hl => match us, hl with | [_, _, _], _ => rfl
  have F4 := fun_mk (st := s_falls) l4 c4 k4
  have b4 := F4.binds (ps := ["houses", "bonds", "first"]) fun _ _ _ _ _ _ us hl => match us, hl with | [_, _, _], _ => rfl
  have F5 := fun_mk (st := s_unpaid_of) l5 c5 k5
  have b5 := F5.binds (ps := ["houses", "bonds", "failing", "house"]) fun _ _ _ _ _ _ us hl => match us, hl with | [_, _, _, _], _ => rfl
  have F6 := fun_mk (st := s_owed_rows) l6 c6 k6
  have b6 := F6.binds (ps := ["houses", "bonds", "failing"]) fun _ _ _ _ _ _ us hl => match us, hl with | [_, _, _], _ => rfl
  have F7 := fun_mk (st := s_unpaid_rows) l7 c7 k7
  have b7 := F7.binds (ps := ["houses", "bonds", "failing"]) fun _ _ _ _ _ _ us hl => match us, hl with | [_, _, _], _ => rfl
  have F8 := fun_mk (st := s_fallen) l8 c8 k8
  have b8 := F8.binds (ps := ["houses", "bonds", "first"]) fun _ _ _ _ _ _ us hl => match us, hl with | [_, _, _], _ => rfl
  have F9 := fun_mk (st := s_brought_down) l9 c9 k9
  have b9 := F9.binds (ps := ["houses", "bonds", "house"]) fun _ _ _ _ _ _ us hl => match us, hl with | [_, _, _], _ => rfl
  have F10 := fun_mk (st := s_begin) l10 c10 k10
  have b10 := F10.binds (ps := ["_law_script"]) fun _ _ _ _ _ _ us hl => match us, hl with | [_], _ => rfl
  have F11 := fun_mk (st := s_take) l11 c11 k11
  have b11 := F11.binds (ps := ["_law_state", "_law_many"]) fun _ _ _ _ _ _ us hl => match us, hl with | [_, _], _ => rfl
  have F12 := fun_mk (st := s_same) l12 c12 k12
  have b12 := F12.binds (ps := ["_law_found", "_law_due"]) fun _ _ _ _ _ _ us hl => match us, hl with | [_, _], _ => rfl
  have F13 := fun_mk (st := s_number) l13 c13 k13
  have b13 := F13.binds (ps := ["_law_state", "_law_sort"]) fun _ _ _ _ _ _ us hl => match us, hl with | [_, _], _ => rfl
  have F14 := fun_mk (st := s_given) l14 c14 k14
  have b14 := F14.binds (ps := ["_law_state", "_law_rows"]) fun _ _ _ _ _ _ us hl => match us, hl with | [_, _], _ => rfl
  have F15 := fun_mk (st := s_houses_by) l15 c15 k15
  have b15 := F15.binds (ps := ["_law_state", "_law_many", "_law_sort"]) fun _ _ _ _ _ _ us hl => match us, hl with | [_, _, _], _ => rfl
  have F16 := fun_mk (st := s_coins_by) l16 c16 k16
  have b16 := F16.binds (ps := ["_law_state", "_law_sort"]) fun _ _ _ _ _ _ us hl => match us, hl with | [_, _], _ => rfl
  have F17 := fun_mk (st := s_bonds_by) l17 c17 k17
  have b17 := F17.binds (ps := ["_law_state", "_law_houses", "_law_many", "_law_sort"]) fun _ _ _ _ _ _ us hl => match us, hl with | [_, _, _, _], _ => rfl
  have F18 := fun_mk (st := s_each_owes) l18 c18 k18
  have b18 := F18.binds (ps := ["_law_houses", "_law_bonds", "_law_failing"]) fun _ _ _ _ _ _ us hl => match us, hl with | [_, _, _], _ => rfl
  have F19 := fun_mk (st := s_owed) l19 c19 k19
  have b19 := F19.binds (ps := ["_law_houses", "_law_bonds", "_law_failing", "_law_house"]) fun _ _ _ _ _ _ us hl => match us, hl with | [_, _, _, _], _ => rfl
  have F20 := fun_mk (st := s_all_failing) l20 c20 k20
  have b20 := F20.binds (ps := ["_law_houses", "_law_bonds", "_law_first"]) fun _ _ _ _ _ _ us hl => match us, hl with | [_, _, _], _ => rfl
  have T : Tx K mg := ⟨⟨_, _, F0, PySem.W.mg_of X G a0, k0, b0⟩,
    ⟨_, _, F1, PySem.W.mg_of X G a1, k1, b1⟩,
    ⟨_, _, F2, PySem.W.mg_of X G a2, k2, b2⟩,
    ⟨_, _, F3, PySem.W.mg_of X G a3, k3, b3⟩,
    ⟨_, _, F4, PySem.W.mg_of X G a4, k4, b4⟩,
    ⟨_, _, F5, PySem.W.mg_of X G a5, k5, b5⟩,
    ⟨_, _, F6, PySem.W.mg_of X G a6, k6, b6⟩,
    ⟨_, _, F7, PySem.W.mg_of X G a7, k7, b7⟩,
    ⟨_, _, F8, PySem.W.mg_of X G a8, k8, b8⟩,
    ⟨_, _, F9, PySem.W.mg_of X G a9, k9, b9⟩,
    ⟨_, _, F10, PySem.W.mg_of X G a10, k10, b10⟩,
    ⟨_, _, F11, PySem.W.mg_of X G a11, k11, b11⟩,
    ⟨_, _, F12, PySem.W.mg_of X G a12, k12, b12⟩,
    ⟨_, _, F13, PySem.W.mg_of X G a13, k13, b13⟩,
    ⟨_, _, F14, PySem.W.mg_of X G a14, k14, b14⟩,
    ⟨_, _, F15, PySem.W.mg_of X G a15, k15, b15⟩,
    ⟨_, _, F16, PySem.W.mg_of X G a16, k16, b16⟩,
    ⟨_, _, F17, PySem.W.mg_of X G a17, k17, b17⟩,
    ⟨_, _, F18, PySem.W.mg_of X G a18, k18, b18⟩,
    ⟨_, _, F19, PySem.W.mg_of X G a19, k19, b19⟩,
    ⟨_, _, F20, PySem.W.mg_of X G a20, k20, b20⟩,
    PySem.W.mg_none_of X G z_all,
    PySem.W.mg_none_of X G z_bool,
    PySem.W.mg_none_of X G z_dict,
    PySem.W.mg_none_of X G z_divmod,
    PySem.W.mg_none_of X G z_int,
    PySem.W.mg_none_of X G z_isinstance,
    PySem.W.mg_none_of X G z_len,
    PySem.W.mg_none_of X G z_list,
    PySem.W.mg_none_of X G z_max,
    PySem.W.mg_none_of X G z_min,
    PySem.W.mg_none_of X G z_range,
    PySem.W.mg_none_of X G z_set,
    PySem.W.mg_none_of X G z_sorted,
    PySem.W.mg_none_of X G z_str,
    PySem.W.mg_none_of X G z_sum,
    PySem.W.mg_none_of X G z_tuple,
    PySem.W.mg_none_of X G z_zip⟩
  exact ⟨PySem.W.fnOf "law" "law" (defArgs s_law) (defBody s_law) (defScope s_law) .none kV21 dc21 pm21 an21 cd21 ct21, fun s v => .of_eq rfl, fun base _ _ => law_all FL T⟩
end K64
open PySem PySem.W PyProof.Rows
set_option maxHeartbeats 0 in
theorem PySem.Challenge.cw_strengthbond_k64_brought_down_holds : PySem.Challenge.rw_strengthbond_k64_brought_down.Holds := by
  w_on; o_law; k_head; (case hw => w_witness2)
  k_fill
  refine DL.walk_byG (l := PySem.Challenge.rw_strengthbond_k64_brought_down) (n := 63) (k := 9) (x := "_law_script") (CX := fun _ => L2.CX0) (sp := fun w => DL.spLawH _) rfl (by decide) rfl ⟨rfl, by decide, by decide⟩ (fun w h Y => PySem.W.kIn_of Y) ?F (fun _ _ a ns hl _ hS => ⟨a, ns, rfl, hS, hl, fun _ => rfl⟩) (fun _ _ _ _ _ h => h)
  case F =>
    intro w mg fa h KX G hmg
    refine' K64.all_mk KX G hmg ?a0 ?l0 ?c0 ?k0 ?a1 ?l1 ?c1 ?k1 ?a2 ?l2 ?c2 ?k2 ?a3 ?l3 ?c3 ?k3 ?a4 ?l4 ?c4 ?k4 ?a5 ?l5 ?c5 ?k5 ?a6 ?l6 ?c6 ?k6 ?a7 ?l7 ?c7 ?k7 ?a8 ?l8 ?c8 ?k8 ?a9 ?l9 ?c9 ?k9 ?a10 ?l10 ?c10 ?k10 ?a11 ?l11 ?c11 ?k11 ?a12 ?l12 ?c12 ?k12 ?a13 ?l13 ?c13 ?k13 ?a14 ?l14 ?c14 ?k14 ?a15 ?l15 ?c15 ?k15 ?a16 ?l16 ?c16 ?k16 ?a17 ?l17 ?c17 ?k17 ?a18 ?l18 ?c18 ?k18 ?a19 ?l19 ?c19 ?k19 ?a20 ?l20 ?c20 ?k20 ?a21 ?l21 ?c21 ?k21 ?z_all ?z_bool ?z_dict ?z_divmod ?z_int ?z_isinstance ?z_len ?z_list ?z_max ?z_min ?z_range ?z_set ?z_sorted ?z_str ?z_sum ?z_tuple ?z_zip
    (case a0 => k_is)
    (case l0 => k_is)
    (case c0 => k_is)
    (case k0 => k_is)
    (case a1 => k_is)
    (case l1 => k_is)
    (case c1 => k_is)
    (case k1 => k_is)
    (case a2 => k_is)
    (case l2 => k_is)
    (case c2 => k_is)
    (case k2 => k_is)
    (case a3 => k_is)
    (case l3 => k_is)
    (case c3 => k_is)
    (case k3 => k_is)
    (case a4 => k_is)
    (case l4 => k_is)
    (case c4 => k_is)
    (case k4 => k_is)
    (case a5 => k_is)
    (case l5 => k_is)
    (case c5 => k_is)
    (case k5 => k_is)
    (case a6 => k_is)
    (case l6 => k_is)
    (case c6 => k_is)
    (case k6 => k_is)
    (case a7 => k_is)
    (case l7 => k_is)
    (case c7 => k_is)
    (case k7 => k_is)
    (case a8 => k_is)
    (case l8 => k_is)
    (case c8 => k_is)
    (case k8 => k_is)
    (case a9 => k_is)
    (case l9 => k_is)
    (case c9 => k_is)
    (case k9 => k_is)
    (case a10 => k_is)
    (case l10 => k_is)
    (case c10 => k_is)
    (case k10 => k_is)
    (case a11 => k_is)
    (case l11 => k_is)
    (case c11 => k_is)
    (case k11 => k_is)
    (case a12 => k_is)
    (case l12 => k_is)
    (case c12 => k_is)
    (case k12 => k_is)
    (case a13 => k_is)
    (case l13 => k_is)
    (case c13 => k_is)
    (case k13 => k_is)
    (case a14 => k_is)
    (case l14 => k_is)
    (case c14 => k_is)
    (case k14 => k_is)
    (case a15 => k_is)
    (case l15 => k_is)
    (case c15 => k_is)
    (case k15 => k_is)
    (case a16 => k_is)
    (case l16 => k_is)
    (case c16 => k_is)
    (case k16 => k_is)
    (case a17 => k_is)
    (case l17 => k_is)
    (case c17 => k_is)
    (case k17 => k_is)
    (case a18 => k_is)
    (case l18 => k_is)
    (case c18 => k_is)
    (case k18 => k_is)
    (case a19 => k_is)
    (case l19 => k_is)
    (case c19 => k_is)
    (case k19 => k_is)
    (case a20 => k_is)
    (case l20 => k_is)
    (case c20 => k_is)
    (case k20 => k_is)
    (case a21 => k_is)
    (case l21 => k_is)
    (case c21 => k_is)
    (case k21 => k_is)
    (case z_all => k_is)
    (case z_bool => k_is)
    (case z_dict => k_is)
    (case z_divmod => k_is)
    (case z_int => k_is)
    (case z_isinstance => k_is)
    (case z_len => k_is)
    (case z_list => k_is)
    (case z_max => k_is)
    (case z_min => k_is)
    (case z_range => k_is)
    (case z_set => k_is)
    (case z_sorted => k_is)
    (case z_str => k_is)
    (case z_sum => k_is)
    (case z_tuple => k_is)
    (case z_zip => k_is)
