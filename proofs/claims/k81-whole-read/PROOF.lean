import PyProof.Rows.All
import Wide.All
import OpenK.AllK
import Wide.FinOn
import HandS.ForMost
import HandS.TupAny
import HandS.TupMul
import HandS.IsInst
import HandS.Deep
import HandS.Zip
import HandS.Rev
import HandS.Conv
import HandS.Exc
import HandS.ExcOwn
import HandS.TryOnly
import HandS.WordsExc
import KE.GoesEnum
import HandS.Walk
import PyProof.StrOps2
import PyProof.Rows.IntBool
import HandS.More
import HandS.Style
import HandS.ExcIs
import HandS.HeadHook1
import HandS.SetFor
import PyProof.ExcBaseAll.ValueError
import HandS.Defaults
import KE.KStateDown
import HandS.Head0
import HandS.Head1
import HandS.Head2
import HandS.HeadEnd
import HandS.HeadHook2
import HandS.HeadHook3
import HandS.HeadHook4
import PyProof.DictCalls
import PyProof.StrLawsIn
import PySem.Challenge.RW_textkinds_k81_whole_read
set_option Elab.async false
set_option linter.all false
set_option maxRecDepth 100000
set_option maxHeartbeats 8000000
/-! Pure data, and how values of the heap denote it. -/
namespace Tk
open PySem PySem.Spec PyProof.Rows L2

inductive D where
  | non
  | bl (b : Bool)
  | int (i : Int)
  | str (z : List Nat)
  | tup (xs : List D)
  | lst (xs : List D)
  | dic (kvs : List (D × D))
  | obj (c : Nat) (fs : List D)
  /-- the script: a list of whole numbers, only read -/
  | scr (ns : List Int)

namespace D
mutual
/-- Python's own == of plain data -/
def eqD : D → D → Bool
  | .non, .non => true
  | .bl a, .bl b => a == b
  | .bl a, .int j => (if a then 1 else 0) == j
  | .int i, .bl b => i == (if b then 1 else 0)
  | .int i, .int j => i == j
  | .str x, .str y => x == y
  | .lst xs, .lst ys => eqAll xs ys
  | .tup xs, .tup ys => eqAll xs ys
  | _, _ => false
def eqAll : List D → List D → Bool
  | [], [] => true
  | x :: xs, y :: ys => eqD x y && eqAll xs ys
  | _, _ => false
end
mutual
/-- no dict, no object within -/
def pln : D → Bool
  | .str z => z.all (· < 0x110000)
  | .tup xs => plnAll xs
  | .lst xs => plnAll xs
  | .dic _ => false
  | .obj _ _ => false
  | .scr _ => false
  | _ => true
def plnAll : List D → Bool
  | [] => true
  | x :: xs => pln x && plnAll xs
end
mutual
def dep : D → Nat
  | .tup xs => depAll xs + 1
  | .lst xs => depAll xs + 1
  | _ => 0
def depAll : List D → Nat
  | [] => 0
  | x :: xs => max (dep x) (depAll xs)
end
mutual
def py : D → PyData
  | .non => .none
  | .bl b => .bool b
  | .int i => .int i
  | .str z => .str ⟨z.toArray⟩
  | .tup xs => .tuple (pyAll xs)
  | .lst xs => .list (pyAll xs)
  | .dic _ => .dict []
  | .obj _ _ => .dict []
  | .scr _ => .dict []
def pyAll : List D → List PyData
  | [] => []
  | x :: xs => py x :: pyAll xs
end
/-- what may be compared -/
def sh (d : D) : Bool := d.pln && decide (d.dep ≤ 64)
end D


open D
theorem str_beq (x y : List Nat) : ((⟨x.toArray⟩ : Str) == ⟨y.toArray⟩) = (x == y) := by
  by_cases h : x = y
  · subst h; simp
  · have h2 : ¬ ((⟨x.toArray⟩ : Str) = ⟨y.toArray⟩) := fun e => h (by
      have := congrArg (fun s : Str => s.cps.toList) e
      simpa using this)
    rw [beq_eq_false_iff_ne.mpr h2, beq_eq_false_iff_ne.mpr h]
mutual
theorem eqv_py : ∀ (a b : D), a.pln = true → b.pln = true → PyData.eqv a.py b.py = eqD a b
  | .non, b, _, hb => by cases b <;> simp_all [py, PyData.eqv, eqD, pln]
  | .bl x, b, _, hb => by cases b <;> simp_all [py, PyData.eqv, eqD, pln]
  | .int x, b, _, hb => by cases b <;> simp_all [py, PyData.eqv, eqD, pln]
  | .str x, b, _, hb => by
    cases b <;> simp only [py, PyData.eqv, eqD, pln, Bool.false_eq_true] at hb ⊢
    exact str_beq _ _
  | .tup xs, b, ha, hb => by
    cases b <;> simp_all [py, PyData.eqv, eqD, pln]
    rename_i ys
    exact eqvAll_py xs ys ha hb
  | .lst xs, b, ha, hb => by
    cases b <;> simp_all [py, PyData.eqv, eqD, pln]
    rename_i ys
    exact eqvAll_py xs ys ha hb
  | .dic _, _, ha, _ => by simp [pln] at ha
  | .obj _ _, _, ha, _ => by simp [pln] at ha
  | .scr _, _, ha, _ => by simp [pln] at ha
theorem eqvAll_py : ∀ (a b : List D), plnAll a = true → plnAll b = true → PyData.eqvAll (pyAll a) (pyAll b) = eqAll a b
  | [], b, _, _ => by cases b <;> simp [pyAll, PyData.eqvAll, eqAll]
  | x :: xs, [], _, _ => by simp [pyAll, PyData.eqvAll, eqAll]
  | x :: xs, y :: ys, ha, hb => by
    simp only [plnAll, Bool.and_eq_true] at ha hb
    simp [pyAll, PyData.eqvAll, eqAll, eqv_py x y ha.1 hb.1, eqvAll_py xs ys ha.2 hb.2]
end
mutual
theorem py_depth : ∀ a : D, a.pln = true → a.py.depth = a.dep
  | .non, _ | .bl _, _ | .int _, _ | .str _, _ => by simp [py, PyData.depth, dep]
  | .tup xs, h => by simp [py, PyData.depth, dep, pyAll_depth xs (by simpa [pln] using h)]
  | .lst xs, h => by simp [py, PyData.depth, dep, pyAll_depth xs (by simpa [pln] using h)]
  | .dic _, h | .obj _ _, h | .scr _, h => by simp [pln] at h
theorem pyAll_depth : ∀ a : List D, plnAll a = true → PyData.depthAll (pyAll a) = depAll a
  | [], _ => by simp [pyAll, PyData.depthAll, depAll]
  | x :: xs, h => by
    simp only [plnAll, Bool.and_eq_true] at h
    simp [pyAll, PyData.depthAll, depAll, py_depth x h.1, pyAll_depth xs h.2]
end
mutual
theorem py_lay : ∀ a : D, a.pln = true → a.py.canLay0 = true
  | .non, _ | .bl _, _ | .int _, _ => by simp [py, PyData.canLay0]
  | .str z, h => by
    simp only [py, PyData.canLay0, PyData.strOk]
    simpa [pln] using h
  | .tup xs, h => by simp [py, PyData.canLay0, pyAll_lay xs (by simpa [pln] using h)]
  | .lst xs, h => by simp [py, PyData.canLay0, pyAll_lay xs (by simpa [pln] using h)]
  | .dic _, h | .obj _ _, h | .scr _, h => by simp [pln] at h
theorem pyAll_lay : ∀ a : List D, plnAll a = true → PyData.canLayAll0 (pyAll a) = true
  | [], _ => by simp [pyAll, PyData.canLayAll0]
  | x :: xs, h => by
    simp only [plnAll, Bool.and_eq_true] at h
    simp [pyAll, PyData.canLayAll0, py_lay x h.1, pyAll_lay xs h.2]
end
theorem sh_pln {d : D} (h : d.sh = true) : d.pln = true := (Bool.and_eq_true_iff.mp h).1
theorem sh_shaped {d : D} (h : d.sh = true) : SeqAt.shaped d.py = true := by
  obtain ⟨h1, h2⟩ := Bool.and_eq_true_iff.mp h
  unfold SeqAt.shaped
  rw [py_lay d h1, py_depth d h1]
  simpa using h2

/-! ### what a value denotes -/
/-- cl: classes by number: where they stand, their fields' names in order; kd: the module's own dicts with text keys; ex: classes of errors by number -/
structure CT where
  cl : Nat → Option (Addr × List Str)
  kd : Addr → Option (List (List Nat × D))
  ex : Nat → Option Addr
def kdD (ps : List (List Nat × D)) : List (D × D) := ps.map fun p => (.str p.1, p.2)
def kD : Key → D
  | .inl i => .int i
  | .inr x => .str x.cps.toList
mutual
inductive Den (K : PySem.W.Frag) (ct : CT) (H : Hp) : V → D → Prop
  | non : Den K ct H .non .non
  | bl (b : Bool) : Den K ct H (.bl b) (.bl b)
  | int (i : Int) : Den K ct H (.int i) (.int i)
  | str (x : Str) : Den K ct H (.str x) (.str x.cps.toList)
  | tup {a : Addr} {xs : List V} {ds : List D} : SqT K H a xs → DenAll K ct H xs ds → Den K ct H (.ref a) (.tup ds)
  | lst {a : Addr} {xs : List V} {ds : List D} : Rd H a (.lst xs) → DenAll K ct H xs ds → Den K ct H (.ref a) (.lst ds)
  | dK {a : Addr} {kvs : List (Key × V)} {ps : List (D × D)} : H a = some (.dK kvs) → DenK K ct H kvs ps → Den K ct H (.ref a) (.dic ps)
  | dW {a : Addr} {ps : List (List Nat × D)} : ct.kd a = some ps → Den K ct H (.ref a) (.dic (kdD ps))
  | obj {a C dx : Addr} {c : Nat} {ns : List Str} {fs : List (Str × V)} {ds : List D} : H a = some (.ins C dx fs) → ct.cl c = some (C, ns) → fs.map (·.1) = ns → DenAll K ct H (fs.map (·.2)) ds → Den K ct H (.ref a) (.obj c ds)
  | scr {a : Addr} {ns : List Int} : SqL K H a (ns.map V.int) → Den K ct H (.ref a) (.scr ns)
inductive DenAll (K : PySem.W.Frag) (ct : CT) (H : Hp) : List V → List D → Prop
  | nil : DenAll K ct H [] []
  | cons {v : V} {vs : List V} {d : D} {ds : List D} : Den K ct H v d → DenAll K ct H vs ds → DenAll K ct H (v :: vs) (d :: ds)
inductive DenK (K : PySem.W.Frag) (ct : CT) (H : Hp) : List (Key × V) → List (D × D) → Prop
  | nil : DenK K ct H [] []
  | cons {k : Key} {v : V} {kvs : List (Key × V)} {d : D} {ps : List (D × D)} : Den K ct H v d → DenK K ct H kvs ps → DenK K ct H ((k, v) :: kvs) ((kD k, d) :: ps)
end
section
variable {K : PySem.W.Frag} {ct : CT} {H H' : Hp}
theorem same_seqT {H H' : Hp} {a : Addr} {xs : List V} (e : Same H H') (h : SqT K H a xs) : SqT K H' a xs := by
  rcases h with (h | ⟨o, h⟩) | h
  · exact .inl (.inl (e _ _ h))
  · exact .inl (.inr ⟨o, e _ _ h⟩)
  · exact .inr h
theorem same_rd {H H' : Hp} {a : Addr} {o : HO} (e : Same H H') (h : Rd H a o) : Rd H' a o := by
  rcases h with h | ⟨u, h⟩
  · exact .inl (e _ _ h)
  · exact .inr ⟨u, e _ _ h⟩
mutual
theorem Den.mono (s : Same H H') : ∀ (d : D) (v : V), Den K ct H v d → Den K ct H' v d
  | .non, _, h => by cases h; exact .non
  | .bl b, _, h => by cases h; exact .bl b
  | .int b, _, h => by cases h; exact .int b
  | .str b, _, h => by cases h; exact .str _
  | .tup ds, _, h => by cases h with | tup h1 h2 => exact .tup (same_seqT s h1) (DenAll.mono s ds _ h2)
  | .lst ds, _, h => by cases h with | lst h1 h2 => exact .lst (same_rd s h1) (DenAll.mono s ds _ h2)
  | .dic ps, _, h => by
    cases h with
    | dK h1 h2 => exact .dK (s _ _ h1) (DenK.mono s ps _ h2)
    | dW h1 => exact .dW h1
  | .obj c ds, _, h => by cases h with | obj h1 h2 h3 h4 => exact .obj (s _ _ h1) h2 h3 (DenAll.mono s ds _ h4)
  | .scr ns, _, h => by cases h with | scr h1 => exact .scr (h1.imp (same_rd s) id)
theorem DenAll.mono (s : Same H H') : ∀ (ds : List D) (vs : List V), DenAll K ct H vs ds → DenAll K ct H' vs ds
  | [], _, h => by cases h; exact .nil
  | d :: ds, _, h => by cases h with | cons h1 h2 => exact .cons (Den.mono s d _ h1) (DenAll.mono s ds _ h2)
theorem DenK.mono (s : Same H H') : ∀ (ds : List (D × D)) (vs : List (Key × V)), DenK K ct H vs ds → DenK K ct H' vs ds
  | [], _, h => by cases h; exact .nil
  | (a, d) :: ds, _, h => by cases h with | cons h1 h2 => exact .cons (Den.mono s d _ h1) (DenK.mono s ds _ h2)
end
mutual
theorem Den.dp : ∀ (d : D) (v : V), Den K ct H v d → d.pln = true → Dp K H v d.py
  | .non, _, h, _ => by cases h; exact .non
  | .bl b, _, h, _ => by cases h; exact .bl b
  | .int b, _, h, _ => by cases h; exact .int b
  | .str b, _, h, _ => by
    cases h with
    | str x =>
      have e : (D.str x.cps.toList).py = .str x := by simp [py]
      rw [e]
      exact .str _
  | .tup ds, _, h, q => by cases h with | tup h1 h2 => exact .tup h1 (DenAll.dp ds _ h2 (by simpa [pln] using q))
  | .lst ds, _, h, q => by cases h with | lst h1 h2 => exact .lst (.inl h1) (DenAll.dp ds _ h2 (by simpa [pln] using q))
  | .dic ps, _, h, q => by simp [pln] at q
  | .obj c ds, _, h, q => by simp [pln] at q
  | .scr ds, _, h, q => by simp [pln] at q
theorem DenAll.dp : ∀ (ds : List D) (vs : List V), DenAll K ct H vs ds → plnAll ds = true → DpAll K H vs (pyAll ds)
  | [], _, h, _ => by cases h; exact .nil
  | d :: ds, _, h, q => by
    simp only [plnAll, Bool.and_eq_true] at q
    cases h with | cons h1 h2 => exact .cons (Den.dp d _ h1 q.1) (DenAll.dp ds _ h2 q.2)
end
theorem DenAll.length : ∀ {vs : List V} {ds : List D}, DenAll K ct H vs ds → vs.length = ds.length
  | [], _, h => by cases h; rfl
  | v :: vs, _, h => by cases h with | cons h1 h2 => simp [DenAll.length h2]
theorem DenAll.get : ∀ {vs : List V} {ds : List D} {i : Nat} {d : D}, DenAll K ct H vs ds → ds[i]? = some d → ∃ v, vs[i]? = some v ∧ Den K ct H v d
  | [], _, i, d, h, e => by cases h; simp at e
  | v :: vs, _, 0, d, h, e => by cases h with | cons h1 h2 => simp at e; subst e; exact ⟨v, rfl, h1⟩
  | v :: vs, _, i + 1, d, h, e => by cases h with | cons h1 h2 => exact (DenAll.get (i := i) h2 (by simpa using e)).imp fun w hw => ⟨by simpa using hw.1, hw.2⟩
theorem DenAll.append : ∀ {vs ws : List V} {ds es : List D}, DenAll K ct H vs ds → DenAll K ct H ws es → DenAll K ct H (vs ++ ws) (ds ++ es)
  | [], _, _, _, h, q => by cases h; exact q
  | v :: vs, _, _, _, h, q => by cases h with | cons h1 h2 => exact .cons h1 (DenAll.append h2 q)
theorem DenAll.take : ∀ {vs : List V} {ds : List D} (n : Nat), DenAll K ct H vs ds → DenAll K ct H (vs.take n) (ds.take n)
  | _, _, 0, _ => by simp; exact .nil
  | [], _, n + 1, h => by cases h; exact .nil
  | v :: vs, _, n + 1, h => by cases h with | cons h1 h2 => exact .cons h1 (DenAll.take n h2)
theorem DenAll.drop : ∀ {vs : List V} {ds : List D} (n : Nat), DenAll K ct H vs ds → DenAll K ct H (vs.drop n) (ds.drop n)
  | _, _, 0, h => by simpa using h
  | [], _, n + 1, h => by cases h; exact .nil
  | v :: vs, _, n + 1, h => by cases h with | cons h1 h2 => exact DenAll.drop n h2
theorem DenAll.reverse : ∀ {vs : List V} {ds : List D}, DenAll K ct H vs ds → DenAll K ct H vs.reverse ds.reverse
  | [], _, h => by cases h; exact .nil
  | v :: vs, _, h => by
    cases h with
    | cons h1 h2 =>
      rw [List.reverse_cons, List.reverse_cons]
      exact (DenAll.reverse h2).append (.cons h1 .nil)
end
end Tk
/-! The small language and its interpreter over pure data. -/
namespace Tk
open PySem PySem.Spec PyProof.Rows L2
open D

inductive Res (α : Type) where
  | ok (a : α)
  | exc (c : Nat)
  | bad
namespace Res
def bind {α β : Type} (r : Res α) (f : α → Res β) : Res β := match r with
  | .ok a => f a
  | .exc c => .exc c
  | .bad => .bad
@[simp] theorem bind_ok {α β : Type} (a : α) (f : α → Res β) : (Res.ok a).bind f = f a := rfl
@[simp] theorem bind_exc {α β : Type} (c : Nat) (f : α → Res β) : (Res.exc c : Res α).bind f = .exc c := rfl
@[simp] theorem bind_bad {α β : Type} (f : α → Res β) : (Res.bad : Res α).bind f = .bad := rfl
end Res

inductive Bo where
  | add | sub | mul | mod | fdiv | pow
  deriving DecidableEq
inductive Co where
  | eq | ne | lt | le | gt | ge | isin | notin | isN | notN
  deriving DecidableEq
/-- built-in calls, and methods of built-in types (the receiver first) -/
inductive Bi where
  | len | int | tuple | list | sum | any | all | isi (t : Nat) | listR | min2 | max2 | join | sindex | str1
  | sorted | sortedSet | lenSet | dict | get2 | get1 | lindex | tcount | minL | maxL | items | max1 | min1 | scount | sortedStr
  deriving DecidableEq

abbrev En := List (Option D)

mutual
inductive SE where
  | var (i : Nat)
  | con (d : D)
  | tup (es : List SE)
  | lst (es : List SE)
  | bin (op : Bo) (a b : SE)
  | neg (a : SE)
  | nt (a : SE)
  | cmp (op : Co) (a b : SE)
  | cmp2 (op op' : Co) (a b c : SE)
  | an (a b : SE)
  | orr (a b : SE)
  | ite (c a b : SE)
  | ix (a i : SE)
  | sl (a : SE) (lo hi : Option SE)
  | rev (a : SE)
  | call (f : Nat) (es : List SE)
  | bi (b : Bi) (es : List SE)
  | lc (t : List Nat) (one : Bool) (it : SI) (ifs : List SE) (elt : SE)
  | dict (ks : List SE) (vs : List SE)
  | mk (c : Nat) (es : List SE)
  | fld (o : SE) (k : Str)
  | meth (o : SE) (m : Str) (es : List SE)
  | isx (cs : List Nat)
  | me (b : Bi) (o : SE) (es : List SE)
inductive SI where
  | of (a : SE)
  | rng (a b : SE)
  | enm (a : SE)
  | zip (a b : SE)
  | rev (a : SE)
end

/-! ### operations on data -/
/-- 2 ^ 24: the longest list or text that is made -/
def big : Nat := 16777216
def okN (n : Nat) : Bool := decide (n ≤ big)
def inR (i : Int) : Bool := decide (-(2 ^ 64) < i) && decide (i < 2 ^ 64)
def repL {α : Type} (xs : List α) (k : Int) : List α := (List.replicate k.toNat xs).flatten
def binD : Bo → D → D → Res D
  | .add, .int i, .int j => .ok (.int (i + j))
  | .add, .str x, .str y => if okN (x.length + y.length) then .ok (.str (x ++ y)) else .bad
  | .add, .lst x, .lst y => if okN (x.length + y.length) then .ok (.lst (x ++ y)) else .bad
  | .add, .tup x, .tup y => if okN (x.length + y.length) then .ok (.tup (x ++ y)) else .bad
  | .sub, .int i, .int j => .ok (.int (i - j))
  | .add, .bl i, .int j => .ok (.int ((if i then 1 else 0) + j))
  | .add, .int i, .bl j => .ok (.int (i + if j then 1 else 0))
  | .sub, .bl i, .int j => .ok (.int ((if i then 1 else 0) - j))
  | .sub, .int i, .bl j => .ok (.int (i - if j then 1 else 0))
  | .mul, .int i, .int j => if inR i || inR j then .ok (.int (i * j)) else .bad
  | .mul, .lst x, .int k => if decide (0 ≤ k) && decide (k < 1000) && decide (x.length < 1000) then .ok (.lst (repL x k)) else .bad
  | .mul, .tup x, .int k => if decide (2 ≤ k) && decide (k ≤ 1000) && decide (x.length ≤ 1000) && !x.isEmpty then .ok (.tup (repL x k)) else .bad
  | .mul, .str x, .int k => if decide (2 ≤ k) && decide (k ≤ 1000) && decide (x.length = 1) then .ok (.str (repL x k)) else .bad
  | .mod, .int i, .int j => if decide (0 < j) then .ok (.int (i % j)) else .bad
  | .fdiv, .int i, .int j => if decide (0 < j) && decide (j < 1073741824) then .ok (.int (i / j)) else .bad
  | .pow, .int i, .int j => if decide (0 ≤ j) && decide (j ≤ 100) && inR i then .ok (.int (i ^ j.toNat)) else .bad
  | _, _, _ => .bad
def D.flat : D → Bool
  | .non => true
  | .bl _ => true
  | .int _ => true
  | .str _ => true
  | _ => false
def anyEq (d : D) (xs : List D) : Bool := xs.any fun z => eqD z d
/-- is the text x within y -/
def subText (x y : List Nat) : Bool := !(Builtin.Str.occurrences ⟨y.toArray⟩ ⟨x.toArray⟩ 0 y.length 1).isEmpty
def isStrKey : D → Bool
  | .str _ => true
  | .int _ => true
  | _ => false
/-- a key that may be looked up: a text; an int where all keys are ints -/
def keyOk (k : D) (ps : List (D × D)) : Bool := match k with
  | .str _ => true
  | .int _ => ps.all fun p => match p.1 with | .int _ => true | _ => false
  | _ => false
def cmpD : Co → D → D → Res D
  | .eq, .scr ns, .lst [] => .ok (.bl ns.isEmpty)
  | .eq, x, y => if x.sh && y.sh then .ok (.bl (eqD x y)) else .bad
  | .ne, x, y => if x.sh && y.sh then .ok (.bl (!eqD x y)) else .bad
  | .lt, .int i, .int j => .ok (.bl (decide (i < j)))
  | .le, .int i, .int j => .ok (.bl (decide (i ≤ j)))
  | .gt, .int i, .int j => .ok (.bl (decide (j < i)))
  | .ge, .int i, .int j => .ok (.bl (decide (j ≤ i)))
  | .lt, .str i, .str j => .ok (.bl (decide (i < j)))
  | .isin, .str x, .str y => .ok (.bl (subText x y))
  | .notin, .str x, .str y => .ok (.bl (!subText x y))
  | .isin, x, .lst ys => if x.sh && (D.lst ys).sh then .ok (.bl (anyEq x ys)) else .bad
  | .notin, x, .lst ys => if x.sh && (D.lst ys).sh then .ok (.bl (!anyEq x ys)) else .bad
  | .isin, x, .tup ys => if x.sh && (D.tup ys).sh then .ok (.bl (anyEq x ys)) else .bad
  | .notin, x, .tup ys => if x.sh && (D.tup ys).sh then .ok (.bl (!anyEq x ys)) else .bad
  | .isin, x, .dic ps => if keyOk x ps then .ok (.bl (ps.any fun p => eqD p.1 x)) else .bad
  | .notin, x, .dic ps => if keyOk x ps then .ok (.bl (!(ps.any fun p => eqD p.1 x))) else .bad
  | .isN, x, .non => .ok (.bl (match x with | .non => true | _ => false))
  | .notN, x, .non => .ok (.bl (match x with | .non => false | _ => true))
  | _, _, _ => .bad
def lookD (k : D) : List (D × D) → Option D
  | [] => none
  | p :: ps => if eqD p.1 k then some p.2 else lookD k ps
def ixD : D → D → Res D
  | .lst xs, .int i => match atI xs i with | some d => .ok d | none => .bad
  | .tup xs, .int i => match atI xs i with | some d => .ok d | none => .bad
  | .scr ns, .int i => match atI ns i with | some k => .ok (.int k) | none => .bad
  | .str z, .int i => if okN z.length then (match atI z i with | some c => .ok (.str [c]) | none => .bad) else .bad
  | .dic ps, k => if keyOk k ps then (match lookD k ps with | some d => .ok d | none => .bad) else .bad
  | _, _ => .bad
def cutL {α : Type} (xs : List α) (lo hi : Option Int) : List α := (xs.drop (HT.sIx xs.length 0 lo)).take (HT.sIx xs.length xs.length hi - HT.sIx xs.length 0 lo)
def slD (a : D) (lo hi : Option Int) : Res D := match a with
  | .lst xs => .ok (.lst (cutL xs lo hi))
  | .tup xs => .ok (.tup (cutL xs lo hi))
  | .str z => if okN z.length then .ok (.str (cutL z lo hi)) else .bad
  | _ => .bad
def revD : D → Res D
  | .str z => if okN z.length then .ok (.str z.reverse) else .bad
  | .tup xs => .ok (.tup xs.reverse)
  | .lst xs => .ok (.lst xs.reverse)
  | _ => .bad
def asInt : D → Res Int
  | .int i => .ok i
  | _ => .bad
def asBl : D → Res Bool
  | .bl b => .ok b
  | _ => .bad
def intsO : List D → Option (List Int)
  | [] => some []
  | .int i :: r => (intsO r).map (i :: ·)
  | _ => none
def blsO : List D → Option (List Bool)
  | [] => some []
  | .bl b :: r => (blsO r).map (b :: ·)
  | _ => none
def strsO : List D → Option (List (List Nat))
  | [] => some []
  | .str z :: r => (strsO r).map (z :: ·)
  | _ => none
/-- isinstance: 0 str 1 int 2 bool 3 tuple 4 list -/
def isiD (t : Nat) : D → Res D
  | .non => if t < 5 then .ok (.bl false) else .bad
  | .bl _ => if t < 5 then .ok (.bl (t == 1 || t == 2)) else .bad
  | .int _ => if t < 5 then .ok (.bl (t == 1)) else .bad
  | .str _ => if t < 5 then .ok (.bl (t == 0)) else .bad
  | .tup _ => if t < 5 then .ok (.bl (t == 3)) else .bad
  | .lst _ => if t < 5 then .ok (.bl (t == 4)) else .bad
  | _ => .bad
def rangeL (lo hi : Int) : List D := (List.range (hi - lo).toNat).map fun (k : Nat) => D.int (lo + (k : Int))
def small62 (i : Int) : Bool := decide (-(2 ^ 62) ≤ i) && decide (i < 2 ^ 62)
/-- what a method may be called of -/
def recv : Bi → D → Bool
  | .join, .str [] => true
  | .sindex, .str _ => true
  | .get2, .dic _ => true
  | .get1, .dic _ => true
  | _, _ => false
def biD : Bi → List D → Res D
  | .len, [.lst xs] => .ok (.int xs.length)
  | .len, [.tup xs] => .ok (.int xs.length)
  | .len, [.scr xs] => .ok (.int xs.length)
  | .len, [.str xs] => if okN xs.length then .ok (.int xs.length) else .bad
  | .int, [.int i] => .ok (.int i)
  | .int, [.bl b] => .ok (.int (if b then 1 else 0))
  | .tuple, [.lst xs] => .ok (.tup xs)
  | .tuple, [.tup xs] => .ok (.tup xs)
  | .list, [.lst xs] => .ok (.lst xs)
  | .list, [.tup xs] => .ok (.lst xs)
  | .sum, [.lst xs] => match intsO xs with | some ns => .ok (.int ns.sum) | none => .bad
  | .max1, [.lst xs] => match intsO xs with | some ns => (match ns with | n :: r => .ok (.int (r.foldl max n)) | [] => .bad) | none => .bad
  | .lenSet, [.lst xs] => match intsO xs with | some ns => if decide (ns.length < 1000) then .ok (.int (firstMet (fun i => ns.getD i 0) ns.length).length) else .bad | none => .bad
  | .any, [.lst xs] => match blsO xs with | some bs => .ok (.bl (bs.any id)) | none => .bad
  | .all, [.lst xs] => match blsO xs with | some bs => .ok (.bl (bs.all id)) | none => .bad
  | .isi t, [d] => isiD t d
  | .join, [.str [], .lst xs] => match strsO xs with
    | some zs => if okN zs.flatten.length then .ok (.str zs.flatten) else .bad
    | none => .bad
  | .sindex, [.str z, .str c] => match Builtin.Str.occurrences ⟨z.toArray⟩ ⟨c.toArray⟩ 0 z.length 1 with | i :: _ => .ok (.int i) | [] => .bad
  | .get2, [.dic ps, k, d] => if keyOk k ps then .ok ((lookD k ps).getD d) else .bad
  | .get1, [.dic ps, k] => if keyOk k ps then .ok ((lookD k ps).getD .non) else .bad
  | .str1, [.bl b] => .ok (.str (if b then [84, 114, 117, 101] else [70, 97, 108, 115, 101]))
  | .str1, [.int i] => if decide (i.natAbs.log2 < 1920) then .ok (.str (Str.ofString (toString i)).cps.toList) else .bad
  | _, _ => .bad

def setD (k d : D) : List (D × D) → List (D × D)
  | [] => [(k, d)]
  | p :: ps => if eqD p.1 k then (p.1, d) :: ps else p :: setD k d ps
def mkD : List (D × D) → List (D × D) → List (D × D)
  | [], acc => acc
  | p :: ps, acc => mkD ps (setD p.1 p.2 acc)
/-! ### expressions -/
def bindT (t : List Nat) (one : Bool) (d : D) (ρ : En) : Option En := match one, t with
  | true, [i] => some (ρ.set i (some d))
  | false, [i, j] => (match d with
    | .tup [x, y] => some ((ρ.set i (some x)).set j (some y))
    | _ => none)
  | _, _ => none
/-- the turns of a comprehension -/
def compL (f : D → Res (Option D)) : List D → Res (List D)
  | [] => .ok []
  | d :: ds => match f d with
    | .ok o => (match compL f ds with
      | .ok r => .ok (match o with | some x => x :: r | none => r)
      | _ => .bad)
    | _ => .bad
def itemsD : D → Res (List D)
  | .lst xs => .ok xs
  | .tup xs => .ok xs
  | .str z => .ok (z.map fun c => D.str [c])
  | _ => .bad
def enumL : Nat → List D → List D
  | _, [] => []
  | k, d :: ds => .tup [.int k, d] :: enumL (k + 1) ds
def zipL : List D → List D → List D
  | x :: xs, y :: ys => .tup [x, y] :: zipL xs ys
  | _, _ => []

/-- what stands around: the defs; the class of the error that is handled -/
structure Ar where
  Φ : Nat → List D → Res D
  Ψ : Nat → Str → List D → Res D
  fl : Nat → List Str
  hot : Option Nat
  F : Nat
section
variable (A : Ar)
mutual
def ev : SE → En → Res D
  | .var i, ρ => match ρ[i]? with | some (some d) => .ok d | _ => .bad
  | .con d, _ => .ok d
  | .tup es, ρ => (evs es ρ).bind fun ds => .ok (.tup ds)
  | .lst es, ρ => (evs es ρ).bind fun ds => .ok (.lst ds)
  | .bin op a b, ρ => (ev a ρ).bind fun x => (ev b ρ).bind fun y => binD op x y
  | .neg a, ρ => (ev a ρ).bind fun x => (asInt x).bind fun i => .ok (.int (-i))
  | .nt a, ρ => (ev a ρ).bind fun x => (asBl x).bind fun b => .ok (.bl (!b))
  | .cmp op a b, ρ => (ev a ρ).bind fun x => (ev b ρ).bind fun y => cmpD op x y
  | .cmp2 op op' a b c, ρ => (ev a ρ).bind fun x => (ev b ρ).bind fun y => (cmpD op x y).bind fun r => (asBl r).bind fun k =>
      if k then (ev c ρ).bind fun z => cmpD op' y z else .ok (.bl false)
  | .an a b, ρ => (ev a ρ).bind fun x => (asBl x).bind fun k => if k then (ev b ρ).bind fun y => (asBl y).bind fun q => .ok (.bl q) else .ok (.bl false)
  | .orr a b, ρ => (ev a ρ).bind fun x => (asBl x).bind fun k => if k then .ok (.bl true) else (ev b ρ).bind fun y => (asBl y).bind fun q => .ok (.bl q)
  | .ite c a b, ρ => (ev c ρ).bind fun x => (asBl x).bind fun k => if k then ev a ρ else ev b ρ
  | .ix a i, ρ => (ev a ρ).bind fun x => (ev i ρ).bind fun y => ixD x y
  | .sl a lo hi, ρ => (ev a ρ).bind fun x => (evo lo ρ).bind fun l => (evo hi ρ).bind fun h => slD x l h
  | .rev a, ρ => (ev a ρ).bind revD
  | .call f es, ρ => (evs es ρ).bind fun ds => A.Φ f ds
  | .bi b es, ρ => (evs es ρ).bind fun ds => biD b ds
  | .lc t one it ifs elt, ρ => (evi it ρ).bind fun ds => (compL (fun d => match bindT t one d ρ with
      | some ρ' => (evc ifs ρ').bind fun k => if k then (ev elt ρ').bind fun x => .ok (some x) else .ok none
      | none => .bad) ds).bind fun r => if okN r.length then .ok (.lst r) else .bad
  | .dict ks vs, ρ => (evs ks ρ).bind fun xs => (evs vs ρ).bind fun ys => if xs.all isStrKey && decide (xs.length ≤ 15) && decide (1 ≤ xs.length) then .ok (.dic (mkD (xs.zip ys) [])) else .bad
  | .mk c es, ρ => (evs es ρ).bind fun ds => A.Ψ c Str.empty ds
  | .fld o k, ρ => (ev o ρ).bind fun x => match x with
    | .obj c fs => (match (A.fl c).findIdx? (· == k) with
      | some i => (match fs[i]? with | some d => .ok d | none => .bad)
      | none => .bad)
    | _ => .bad
  | .meth o m es, ρ => (ev o ρ).bind fun x => (evs es ρ).bind fun ds => match x with
    | .obj c fs => A.Ψ c m (x :: ds)
    | _ => .bad
  | .me b o es, ρ => (ev o ρ).bind fun x => if recv b x then (evs es ρ).bind fun ds => biD b (x :: ds) else .bad
  | .isx cs, _ => match A.hot with | some c => .ok (.bl (cs.contains c)) | none => .bad
def evs : List SE → En → Res (List D)
  | [], _ => .ok []
  | e :: es, ρ => (ev e ρ).bind fun x => (evs es ρ).bind fun r => .ok (x :: r)
def evo : Option SE → En → Res (Option Int)
  | none, _ => .ok none
  | some e, ρ => (ev e ρ).bind fun x => (asInt x).bind fun i => .ok (some i)
def evc : List SE → En → Res Bool
  | [], _ => .ok true
  | e :: es, ρ => (ev e ρ).bind fun x => (asBl x).bind fun k => if k then evc es ρ else .ok false
def evi : SI → En → Res (List D)
  | .of a, ρ => (ev a ρ).bind itemsD
  | .rng a b, ρ => (ev a ρ).bind fun x => (ev b ρ).bind fun y => (asInt x).bind fun i => (asInt y).bind fun j => if small62 i && small62 j then .ok (rangeL i j) else .bad
  | .enm a, ρ => (ev a ρ).bind fun x => (itemsD x).bind fun ds => .ok (enumL 0 ds)
  | .zip a b, ρ => (ev a ρ).bind fun x => (ev b ρ).bind fun y => (itemsD x).bind fun ds => (itemsD y).bind fun es => .ok (zipL ds es)
  | .rev a, ρ => (ev a ρ).bind fun x => match x with | .lst xs => .ok xs.reverse | .tup xs => .ok xs.reverse | _ => .bad
end
end

/-! ### statements -/
inductive SS where
  | asg (i : Nat) (e : SE)
  | asgF (i : Nat) (e : SE)
  | asgT (t : List Nat) (e : SE)
  | ret (e : SE)
  | retN
  | ifs (c : SE) (a b : List SS)
  | forr (t : List Nat) (one : Bool) (it : SI) (body : List SS)
  | whl (c : SE) (body : List SS)
  | brk
  | pass
  | app (i : Nat) (e : SE)
  | ext (i : Nat) (e : SE)
  | setK (i : Nat) (k e : SE)
  | ex (e : SE)
  | rse (c : Nat)
  | tryS (body : List SS) (cs : List Nat) (i : Option Nat) (suite : List SS)

inductive Fl where
  | nx (ρ : En)
  | rt (d : D)
  | bk (ρ : En)
  | exc (c : Nat) (ρ : En)
  | bad
def Fl.then (r : Fl) (f : En → Fl) : Fl := match r with
  | .nx ρ => f ρ
  | .rt d => .rt d
  | .bk ρ => .bk ρ
  | .exc c ρ => .exc c ρ
  | .bad => .bad
@[simp] theorem Fl.then_nx (ρ : En) (f : En → Fl) : (Fl.nx ρ).then f = f ρ := rfl
@[simp] theorem Fl.then_rt (d : D) (f : En → Fl) : (Fl.rt d).then f = .rt d := rfl
@[simp] theorem Fl.then_bk (ρ : En) (f : En → Fl) : (Fl.bk ρ).then f = .bk ρ := rfl
@[simp] theorem Fl.then_exc (c : Nat) (ρ : En) (f : En → Fl) : (Fl.exc c ρ).then f = .exc c ρ := rfl
@[simp] theorem Fl.then_bad (f : En → Fl) : (Fl.bad).then f = .bad := rfl
def withR {α : Type} (ρ : En) (r : Res α) (f : α → Fl) : Fl := match r with
  | .ok d => f d
  | .exc c => .exc c ρ
  | .bad => .bad
@[simp] theorem withR_ok {α : Type} (ρ : En) (a : α) (f : α → Fl) : withR ρ (.ok a) f = f a := rfl
@[simp] theorem withR_exc {α : Type} (ρ : En) (c : Nat) (f : α → Fl) : withR ρ (.exc c : Res α) f = .exc c ρ := rfl
@[simp] theorem withR_bad {α : Type} (ρ : En) (f : α → Fl) : withR ρ (.bad : Res α) f = .bad := rfl
/-- the turns of a for: f d ρ runs the target's binding and the body -/
def forL (f : D → En → Fl) : List D → En → Fl
  | [], ρ => .nx ρ
  | d :: ds, ρ => match f d ρ with
    | .nx ρ' => forL f ds ρ'
    | .bk ρ' => .nx ρ'
    | .rt d => .rt d
    | .exc c ρ' => .exc c ρ'
    | .bad => .bad
/-- the turns of a while, so many at most -/
def whlL (c : En → Res Bool) (f : En → Fl) : Nat → En → Fl
  | 0, _ => .bad
  | n + 1, ρ => match c ρ with
    | .ok true => (match f ρ with
      | .nx ρ' => whlL c f n ρ'
      | .bk ρ' => .nx ρ'
      | .rt d => .rt d
      | .exc c ρ' => .exc c ρ'
      | .bad => .bad)
    | .ok false => .nx ρ
    | .exc e => .exc e ρ
    | .bad => .bad
/-- an except suite's end: the error's name is gone; nothing may leave it -/
def endS (i : Option Nat) : Fl → Fl
  | .nx ρ => .nx (match i with | some j => ρ.set j none | none => ρ)
  | .rt d => .rt d
  | _ => .bad
mutual
def run1 (A : Ar) : SS → En → Fl
  | .asg i e, ρ => withR ρ (ev A e ρ) fun d => .nx (ρ.set i (some d))
  | .asgF i e, ρ => withR ρ (ev A e ρ) fun d => .nx (ρ.set i (some d))
  | .asgT t e, ρ => withR ρ (ev A e ρ) fun d => match bindT t false d ρ with | some ρ' => .nx ρ' | none => .bad
  | .ret e, ρ => withR ρ (ev A e ρ) fun d => .rt d
  | .retN, _ => .rt .non
  | .ifs c a b, ρ => withR ρ (ev A c ρ) fun x => withR ρ (asBl x) fun k => if k then run A a ρ else run A b ρ
  | .forr t one it body, ρ => withR ρ (evi A it ρ) fun ds => forL (fun d ρ => match bindT t one d ρ with | some ρ' => run A body ρ' | none => .bad) ds ρ
  | .whl c body, ρ => whlL (fun ρ => (ev A c ρ).bind asBl) (fun ρ => run A body ρ) A.F ρ
  | .brk, ρ => .bk ρ
  | .pass, ρ => .nx ρ
  | .app i e, ρ => (match ρ[i]? with
    | some (some (.lst xs)) => withR ρ (ev A e ρ) fun d => if decide (xs.length < big) then .nx (ρ.set i (some (.lst (xs ++ [d])))) else .bad
    | _ => .bad)
  | .ext i e, ρ => (match ρ[i]? with
    | some (some (.lst xs)) => withR ρ (ev A e ρ) fun d => (match d with
      | .lst ys => if okN (xs.length + ys.length) then .nx (ρ.set i (some (.lst (xs ++ ys)))) else .bad
      | _ => .bad)
    | _ => .bad)
  | .setK i k e, ρ => withR ρ (ev A e ρ) fun d => withR ρ (ev A k ρ) fun kd => match ρ[i]? with
    | some (some (.dic ps)) => if isStrKey kd && decide (ps.length < big) then .nx (ρ.set i (some (.dic (setD kd d ps)))) else .bad
    | _ => .bad
  | .ex e, ρ => withR ρ (ev A e ρ) fun _ => .nx ρ
  | .rse c, ρ => .exc c ρ
  | .tryS body cs i suite, ρ => match run A body ρ with
    | .nx ρ' => .nx ρ'
    | .rt d => .rt d
    | .exc c ρ' => if cs.contains c && decide (i.getD 0 < ρ'.length) then endS i (run { A with hot := some c } suite (match i with | some j => ρ'.set j none | none => ρ')) else .bad
    | _ => .bad
def run (A : Ar) : List SS → En → Fl
  | [], ρ => .nx ρ
  | s :: ss, ρ => (run1 A s ρ).then fun ρ' => run A ss ρ'
end
end Tk
/-! zip and enumerate over texts, lists and tuples of any kind. -/
namespace Tk
open PySem PySem.Spec PyProof.Rows L2

/-- what zip and enumerate walk -/
inductive Src where
  | str (x : Str)
  | lst (a : Addr)
  | tup (a : Addr)
def Src.has (K : PySem.W.Frag) : Src → Hp → List V → Prop
  | .str x, _, vs => vs = x.cps.toList.map fun c => V.str ⟨#[c]⟩
  | .lst a, H, vs => SqL K H a vs
  | .tup a, H, vs => SqT K H a vs
def Src.val : Src → V
  | .str x => .str x
  | .lst a => .ref a
  | .tup a => .ref a
def Src.at : Src → Addr → Prop
  | .str _, _ => False
  | .lst a, b => b = a
  | .tup a, b => b = a
/-- its iterator's cell -/
def Src.cell (t : Tok) : Src → Addr → Nat → Heap → Prop
  | .str x, it, i, h => h.IsStrIter it (strIterType x) x t i
  | .lst a, it, i, h => h.IsListIter it a i
  | .tup a, it, i, h => h.IsTupleIter it a i
theorem Src.cell_obj {S : Src} {t : Tok} {it : Addr} {i : Nat} {h : Heap} (c : S.cell t it i h) : ∃ o, h.get? it = some o ∧ ∀ v, o.data ≠ .cell v := by
  cases S with
  | str x => obtain ⟨o, e, _, d⟩ := c; exact ⟨o, e, fun v z => by rw [d] at z; cases z⟩
  | lst a => obtain ⟨o, e, _, d⟩ := c; exact ⟨o, e, fun v z => by rw [d] at z; cases z⟩
  | tup a => obtain ⟨o, e, _, d⟩ := c; exact ⟨o, e, fun v z => by rw [d] at z; cases z⟩
theorem Src.cell_keep {S : Src} {t : Tok} {it : Addr} {i : Nat} {h h' : Heap} (c : S.cell t it i h) (k : ∀ o, h.get? it = some o → h'.get? it = some o) : S.cell t it i h' := by
  cases S with
  | str x => obtain ⟨o, e, r⟩ := c; exact ⟨o, k o e, r⟩
  | lst a => obtain ⟨o, e, r⟩ := c; exact ⟨o, k o e, r⟩
  | tup a => obtain ⟨o, e, r⟩ := c; exact ⟨o, k o e, r⟩
section
variable {X : Cx} {pins : List (Addr × Obj)} {σ : L2.St} {H : Hp} {s : Shared}
theorem Src.inj (I : Inv X pins σ H s) {S : Src} {xs ys : List V} (h1 : S.has X.K H xs) (h2 : S.has X.K H ys) : xs = ys := by
  cases S with
  | str x => exact h1.trans h2.symm
  | lst a => exact I.list_inj h1 h2
  | tup a => exact I.tuple_inj h1 h2
theorem vals_get2 : ∀ {xs : List V} {us : List Value} {i : Nat} {u : Value}, Vals xs us → us[i]? = some u → ∃ x, xs[i]? = some x ∧ RelV x u
  | [], _, i, u, r, h => by cases r; simp at h
  | x :: xs, _, 0, u, r, h => by cases r with | cons r1 r2 => simp at h; subst h; exact ⟨x, rfl, r1⟩
  | x :: xs, _, i + 1, u, r, h => by cases r with | cons r1 r2 => exact (vals_get2 (i := i) r2 (by simpa using h)).imp fun w hw => ⟨by simpa using hw.1, hw.2⟩
theorem Src.draws (I : Inv X pins σ H s) (hc : X.calm = true) {S : Src} {vs : List V} (h : S.has X.K H vs) {t : Tok} {it : Addr} {i : Nat} (st : S.cell t it i s.heap) (hne : ¬ S.at it) :
    ∃ fp P St, Draws X.prog X.w X.A.in1 it fp vs.length P St ∧ St i s.heap ∧ (∀ j u, P j u → ∃ v, vs[j]? = some v ∧ RelV v u) ∧ (∀ j h', St j h' → S.cell t it j h') ∧ it ∈ fp ∧ ∀ b ∈ fp, b = it ∨ S.at b := by
  have hh : X.A.in1.handled = none := I.ok.hd hc
  cases S with
  | str x =>
    have e : vs.length = x.cps.size := by rw [h]; simp
    rw [e]
    refine ⟨_, _, _, Draws.text hh it x t, st, ?_, fun _ _ q => q, by simp, by simp⟩
    rintro j u ⟨c, tk, hcx, rfl⟩
    refine ⟨.str ⟨#[c]⟩, ?_, tk, rfl⟩
    rw [h, List.getElem?_map]
    have : x.cps.toList[j]? = some c := by simpa using hcx
    rw [this]; rfl
  | lst a =>
    obtain ⟨its, rv, p, _⟩ := I.list h
    have e : vs.length = its.toArray.size := by rw [rv.length]; simp
    rw [e]
    refine ⟨_, _, _, Draws.list hh it a (fun q => hne q.symm) its.toArray, ⟨st, p.isList⟩, ?_, fun _ _ q => q.1, by simp, ?_⟩
    · intro j u hu
      have hu : its[j]? = some u := by simpa using hu
      exact vals_get2 rv hu
    · intro b hb
      simpa [Src.at] using hb
  | tup a =>
    obtain ⟨its, rv, p, _⟩ := I.tuple h
    have e : vs.length = its.toArray.size := by rw [rv.length]; simp
    rw [e]
    refine ⟨_, _, _, Draws.tuple hh it a (fun q => hne q.symm) its.toArray, ⟨st, p⟩, ?_, fun _ _ q => q.1, by simp, ?_⟩
    · intro j u hu
      have hu : its[j]? = some u := by simpa using hu
      exact vals_get2 rv hu
    · intro b hb
      simpa [Src.at] using hb
end
theorem zsep {S S2 : Src} {z TI TO i1 i2 : Addr} {fp fp2 : List Addr} (hd : [z, TI, TO, i1, i2].Nodup) (ap : ∀ b ∈ [z, TI, TO, i1, i2], ¬ S.at b ∧ ¬ S2.at b) (m : i1 ∈ fp) (h : ∀ b ∈ fp, b = i1 ∨ S.at b) (m2 : i2 ∈ fp2) (h2 : ∀ b ∈ fp2, b = i2 ∨ S2.at b) : ZipSep2 z TI TO i1 i2 fp fp2 := by
  simp only [List.nodup_cons, List.mem_cons, List.not_mem_nil, or_false, not_or, List.nodup_nil, and_true, not_false_eq_true] at hd
  obtain ⟨⟨a1, a2, a3, a4⟩, ⟨b1, b2, b3⟩, ⟨c1, c2⟩, d1⟩ := hd
  have n1 : ∀ b ∈ [z, TI, TO, i1, i2], b ≠ i1 → b ∉ fp := fun b hb q r => (h b r).elim q (ap b hb).1
  have n2 : ∀ b ∈ [z, TI, TO, i1, i2], b ≠ i2 → b ∉ fp2 := fun b hb q r => (h2 b r).elim q (ap b hb).2
  exact { TIz := Ne.symm a1, TOz := Ne.symm a2, TITO := b1, TIi1 := b2, mem1 := m, zf1 := n1 _ (by simp) a3, Tf1 := n1 _ (by simp) c1, TIi2 := b3, mem2 := m2, zf2 := n2 _ (by simp) a4, Tf2 := n2 _ (by simp) c2, sep1_2 := n2 _ (by simp) d1, sep2_1 := n1 _ (by simp) (Ne.symm d1) }
/-! ### enumerate -/
def ItE (K : PySem.W.Frag) (S : Src) : It :=
  ⟨fun i H => ∃ (xs : List V) (x : V), S.has K H xs ∧ xs[i]? = some x, fun i H v H' => ∃ T x, v = .ref T ∧ H T = none ∧ H' = upd H T (.tup [.int (i : Nat), x]) ∧ ∀ xs, S.has K H xs → xs[i]? = some x, fun i H => ∃ xs : List V, S.has K H xs ∧ xs.length = i⟩
theorem turn_enumS {P : Program} {w : World} {K : PySem.W.Frag} {elts : List Expr} {kk : Nat} {tpos : Pos} (S : Src) (t : Tok) (e it : Addr) (hne : e ≠ it) (ae : ¬ S.at e) (ai : ¬ S.at it) :
    Turn P w K (.Tuple elts kk tpos) (ItE K S) [e, it] e (fun i h => (∃ old, IsEnum h e it ((i : Nat) : Int) old) ∧ S.cell t it i h) where
  mem := by simp
  obj := fun i h st b hb => by
    obtain ⟨⟨old, he⟩, hcell⟩ := st
    have e' : b = e ∨ b = it := by simpa using hb
    rcases e' with z | z
    · rw [z]; exact ⟨_, he, fun v q => nomatch q⟩
    · rw [z]; exact Src.cell_obj hcell
  keep := fun i h h' st k => let ⟨⟨old, he⟩, hi⟩ := st; ⟨⟨old, k e (by simp) _ he⟩, Src.cell_keep hi fun o q => k it (by simp) o q⟩
  item := by
    intro X hP hw hK hc i pins s σ H E I hf st hg
    subst hP hw hK
    obtain ⟨⟨old, he⟩, hit⟩ := st
    obtain ⟨xs, x, hq, hx⟩ := hg
    obtain ⟨fp, P, St, D, hst, hP, hcell, hmem, hfp⟩ := Src.draws I hc hq hit ai
    have hef : e ∉ fp := fun q => by
      rcases hfp e q with z | z
      · exact hne z
      · exact ae z
    have hel : e < s.heap.objs.size := Heap.lt_size he
    have hil : it < s.heap.objs.size := by obtain ⟨o, q, _⟩ := Src.cell_obj hit; exact Heap.lt_size q
    have hi : i < xs.length := by
      have := List.getElem?_eq_some_iff.mp hx
      exact this.1
    refine wpAny_pyNext_enum_itemC D he hst hi hne hef fun u h' tk hPu ho hst' hT hsz hk => ?_
    obtain ⟨x2, hx2, ru⟩ := hP _ _ hPu
    rw [hx] at hx2
    cases hx2
    refine ⟨_, rfl, wpAny_letOwnedTupleGo_enum (s := { s with heap := h', toks := tk + 1 }) ho fun h'' he' sb => ?_⟩
    have hT2 : h''.get? s.heap.objs.size = some { cls := .type "tuple", data := .seq #[.int i tk, u] } := (sb.2 _ (Nat.ne_of_gt hel)).trans hT
    have new : ObjOk X.prog X.w (upd H s.heap.objs.size (.tup [.int (i : Nat), x])) h'' s.heap.objs.size (.tup [.int (i : Nat), x]) :=
      ⟨by show 2 ≤ sizeLine; decide, [.int i tk, u], .cons ⟨_, rfl⟩ (.cons ru .nil), ⟨_, hT2, rfl, _, rfl⟩⟩
    have I1 : Inv X pins σ (upd H s.heap.objs.size (.tup [.int (i : Nat), x])) { s with heap := h'', toks := tk + 1 } :=
      I.turnedNew (ch := [e, it]) (fun b ob hb q => (sb.2 b (fun z => hb (by simp [z]))).trans (hk b ob (fun z => hb (by simp [z])) (fun z => hb (by simp [z])) q)) hf (Nat.le_refl _) new
    refine ⟨.ref s.heap.objs.size, _, I1, rfl, ⟨_, x, rfl, I.hok.fresh (Nat.le_refl _), rfl, fun ys hy => by rw [Src.inj I hy hq]; exact hx⟩, ⟨⟨u, ?_⟩, Src.cell_keep (hcell _ _ hst') fun o q => (sb.2 it (Ne.symm hne)).trans q⟩, fun b hb => ?_⟩
    · have e1 : ((i + 1 : Nat) : Int) = (i : Int) + 1 := by omega
      rw [e1]; exact he'
    · have hb' : b < s.heap.objs.size := by
        have e' : b = e ∨ b = it := by simpa using hb
        rcases e' with z | z
        · rw [z]; exact hel
        · rw [z]; exact hil
      rw [upd_ne (Nat.ne_of_lt hb')]
      exact (hf b hb).1
  done := by
    intro X hP hw hK hc i pins s σ H E I hf st hg
    subst hP hw hK
    obtain ⟨⟨old, he⟩, hit⟩ := st
    obtain ⟨xs, hq, hx⟩ := hg
    obtain ⟨fp, P, St, D, hst, hP, hcell, hmem, hfp⟩ := Src.draws I hc hq hit ai
    subst hx
    exact wpAny_pyNext_enum_endD D he hst fun h' eb => ⟨rfl, I.turnedL (t' := s.toks) (ch := [e, it]) (fun b o hb q => eb b o (fun z => hb (by simp [z])) q) hf⟩
  self := fun A i s Q E st h => let ⟨⟨_, he⟩, _⟩ := st; wpAny_pyIter_enum he h
/-! ### zip -/
def ItZ (K : PySem.W.Frag) (S S2 : Src) : It :=
  ⟨fun i H => ∃ (xs ys : List V) (x y : V), S.has K H xs ∧ S2.has K H ys ∧ xs[i]? = some x ∧ ys[i]? = some y,
    fun i H v H' => ∃ T x y, v = .ref T ∧ H T = none ∧ H' = upd H T (.tup [x, y]) ∧ (∀ xs, S.has K H xs → xs[i]? = some x) ∧ ∀ ys, S2.has K H ys → ys[i]? = some y,
    fun i H => ∃ xs ys : List V, S.has K H xs ∧ S2.has K H ys ∧ min xs.length ys.length = i⟩
theorem turn_zipS {P : Program} {w : World} {K : PySem.W.Frag} {elts : List Expr} {kk : Nat} {tpos : Pos} (S S2 : Src) (t t2 : Tok) (z TI TO i1 i2 : Addr) (hd : [z, TI, TO, i1, i2].Nodup) (ap : ∀ b ∈ [z, TI, TO, i1, i2], ¬ S.at b ∧ ¬ S2.at b) :
    Turn P w K (.Tuple elts kk tpos) (ItZ K S S2) [z, TI, TO, i1, i2] z (fun i h => IsZip h z TI TO .none ∧ IsTupOf2 h TI (.ref i1) (.ref i2) ∧ (∃ x y, IsTupOf2 h TO x y) ∧ S.cell t i1 i h ∧ S2.cell t2 i2 i h) where
  mem := by simp
  obj := fun i h st c hc => by
    obtain ⟨hz, hTI, ⟨x, y, hTO⟩, h1, h2⟩ := st
    have e' : c = z ∨ c = TI ∨ c = TO ∨ c = i1 ∨ c = i2 := by simpa using hc
    rcases e' with q | q | q | q | q
    · rw [q]; exact ⟨_, hz, fun v q => nomatch q⟩
    · rw [q]; exact ⟨_, hTI, fun v q => nomatch q⟩
    · rw [q]; exact ⟨_, hTO, fun v q => nomatch q⟩
    · rw [q]; exact Src.cell_obj h1
    · rw [q]; exact Src.cell_obj h2
  keep := fun i h h' st k => by
    obtain ⟨hz, hTI, ⟨x, y, hTO⟩, h1, h2⟩ := st
    exact ⟨k z (by simp) _ hz, k TI (by simp) _ hTI, ⟨x, y, k TO (by simp) _ hTO⟩, Src.cell_keep h1 fun o q => k i1 (by simp) o q, Src.cell_keep h2 fun o q => k i2 (by simp) o q⟩
  item := by
    intro X hP hw hK hc i pins s σ H E I hf st hg
    subst hP hw hK
    obtain ⟨hz, hTI, ⟨x0, y0, hTO⟩, h1, h2⟩ := st
    obtain ⟨xs, ys, x, y, hqx, hqy, hx, hy⟩ := hg
    obtain ⟨fp, P, St, D, hst, hP, hcell, hmem, hfp⟩ := Src.draws I hc hqx h1 (ap i1 (by simp)).1
    obtain ⟨fp2, P2, St2, D2, hst2, hP2, hcell2, hmem2, hfp2⟩ := Src.draws I hc hqy h2 (ap i2 (by simp)).2
    have sep := zsep hd ap hmem hfp hmem2 hfp2
    have hzl : z < s.heap.objs.size := Heap.lt_size hz
    simp only [List.nodup_cons, List.mem_cons, List.not_mem_nil, or_false, not_or, List.nodup_nil, and_true, not_false_eq_true] at hd
    have hi : i < xs.length := (List.getElem?_eq_some_iff.mp hx).1
    have hi2 : i < ys.length := (List.getElem?_eq_some_iff.mp hy).1
    refine wpAny_pyNext_zipD2_item sep D D2 hz hTI hTO hst hst2 hi hi2 fun u u2 h' tk hu hu2 z' TO' h1' h2' hT hsz hk => ?_
    obtain ⟨x2, hx2, ru⟩ := hP _ _ hu
    rw [hx] at hx2
    cases hx2
    obtain ⟨y2, hy2, ru2⟩ := hP2 _ _ hu2
    rw [hy] at hy2
    cases hy2
    refine ⟨_, rfl, wpAny_letOwnedTupleGo_zip (s := { s with heap := h', toks := tk }) z' fun h'' z'' sb => ?_⟩
    have hT2 : h''.get? s.heap.objs.size = some { cls := .type "tuple", data := .seq #[u, u2] } := (sb.2 _ (Nat.ne_of_gt hzl)).trans hT
    have new : ObjOk X.prog X.w (upd H s.heap.objs.size (.tup [x, y])) h'' s.heap.objs.size (.tup [x, y]) :=
      ⟨by show 2 ≤ sizeLine; decide, [u, u2], .cons ru (.cons ru2 .nil), ⟨_, hT2, rfl, _, rfl⟩⟩
    have I1 : Inv X pins σ (upd H s.heap.objs.size (.tup [x, y])) { s with heap := h'', toks := tk } :=
      I.turnedNew (t' := tk) (ch := [z, TI, TO, i1, i2]) (fun c o hb q => (sb.2 c (fun q' => hb (by simp [q']))).trans (hk c o (fun q' => hb (by simp [q'])) (fun q' => hb (by simp [q'])) (fun q' => hb (by simp [q'])) (fun q' => hb (by simp [q'])) q)) hf (Nat.le_refl _) new
    refine ⟨.ref s.heap.objs.size, _, I1, rfl, ⟨_, x, y, rfl, I.hok.fresh (Nat.le_refl _), rfl, fun l hl => by rw [Src.inj I hl hqx]; exact hx, fun l hl => by rw [Src.inj I hl hqy]; exact hy⟩, ⟨z'', ?_, ⟨u, u2, ?_⟩, ?_, ?_⟩, fun c hcm => ?_⟩
    · exact (sb.2 _ (fun q => hd.1.1 q.symm)).trans (hk _ _ sep.TIz sep.TITO sep.TIi1 sep.TIi2 hTI)
    · exact (sb.2 _ sep.TOz).trans TO'
    · exact Src.cell_keep (hcell _ _ h1') fun o q => (sb.2 _ (fun q => hd.1.2.2.1 q.symm)).trans q
    · exact Src.cell_keep (hcell2 _ _ h2') fun o q => (sb.2 _ (fun q => hd.1.2.2.2 q.symm)).trans q
    · have hlt : c < s.heap.objs.size := by
        have e' : c = z ∨ c = TI ∨ c = TO ∨ c = i1 ∨ c = i2 := by simpa using hcm
        rcases e' with q | q | q | q | q
        · rw [q]; exact hzl
        · rw [q]; exact Heap.lt_size hTI
        · rw [q]; exact Heap.lt_size hTO
        · rw [q]; obtain ⟨_, e1, _⟩ := Src.cell_obj h1; exact Heap.lt_size e1
        · rw [q]; obtain ⟨_, e2, _⟩ := Src.cell_obj h2; exact Heap.lt_size e2
      rw [upd_ne (Nat.ne_of_lt hlt)]
      exact (hf c hcm).1
  done := by
    intro X hP hw hK hc i pins s σ H E I hf st hg
    subst hP hw hK
    obtain ⟨hz, hTI, ⟨x0, y0, hTO⟩, h1, h2⟩ := st
    obtain ⟨xs, ys, hqx, hqy, hend⟩ := hg
    obtain ⟨fp, P, St, D, hst, hP, hcell, hmem, hfp⟩ := Src.draws I hc hqx h1 (ap i1 (by simp)).1
    obtain ⟨fp2, P2, St2, D2, hst2, hP2, hcell2, hmem2, hfp2⟩ := Src.draws I hc hqy h2 (ap i2 (by simp)).2
    have sep := zsep hd ap hmem hfp hmem2 hfp2
    exact wpAny_pyNext_zipD2_end sep D D2 hz hTI hTO hst hst2 (by omega) (by omega) (by omega) fun h' tk hk => ⟨rfl, I.turnedL (t' := tk) (ch := [z, TI, TO, i1, i2]) (fun c o hb q =>
      hk c o (fun q' => hb (by simp [q'])) (fun q' => hb (by simp [q'])) (fun q' => hb (by simp [q'])) (fun q' => hb (by simp [q'])) q) hf⟩
  self := fun A i s Q E st h => wpAny_pyIter_zip st.1 h
/-! ### they begin -/
theorem Src.begins {X : Cx} {pins : List (Addr × Obj)} {σ : L2.St} {H : Hp} {s : Shared} (I : Inv X pins σ H s) {S : Src} {vs : List V} (h : S.has X.K H vs) {u : Value} (r : RelV S.val u) :
    ∃ (o : Obj) (Hh : Heap → Prop) (t : Tok), Begins u o Hh ∧ Hh s.heap ∧ (∀ (h' : Heap) (it : Addr), h'.get? it = some o → S.cell t it 0 h') ∧ ∀ b, S.at b → b < s.heap.objs.size := by
  cases S with
  | str x =>
    obtain ⟨t, rfl⟩ := r
    exact ⟨_, _, t, begins_text x t, trivial, fun h' it e => ⟨_, e, rfl, rfl⟩, fun b q => q.elim⟩
  | lst a =>
    cases r
    obtain ⟨its, rv, p, _⟩ := I.list h
    refine ⟨_, _, 0, begins_list a its.toArray, p.isList, fun h' it e => ⟨_, e, rfl, rfl⟩, fun b q => ?_⟩
    obtain ⟨o, e, _⟩ := p.isList
    cases q
    exact Heap.lt_size e
  | tup a =>
    cases r
    obtain ⟨its, rv, p, _⟩ := I.tuple h
    refine ⟨_, _, 0, begins_tuple a its.toArray, p, fun h' it e => ⟨_, e, rfl, rfl⟩, fun b q => ?_⟩
    obtain ⟨o, e, _⟩ := p
    cases q
    exact Heap.lt_size e
theorem meets_enum1 {v : Value} {o : Obj} {H : Heap → Prop} (B : Begins v o H) :
    Meets (Builtin.«enumerate.__new__» ⟨[.type "enumerate", v], []⟩) (fun _ R s => H s.heap ∧
      R (.ok (.ret (.ref (s.heap.push o).objs.size))) { s with heap := (s.heap.push o).push { cls := .type "enumerate", data := .fields #[.none, .bool false, .ref s.heap.objs.size, rawInt 0, .none, .none] } }) :=
  .of_wp fun prog w A R s h => by
    obtain ⟨hp, g, d, tk, os⟩ := s; obtain ⟨h1, h⟩ := h
    have hsub := sub_enumerate
    have q1 : ∀ {A' : Around} {E : Value → Shared → Prop} {Q : Value → Shared → Prop}, Q (.ref hp.objs.size) ⟨hp.push o, g, d, tk, os⟩ → wpAny (model prog w) A' (pyIter v) Q E ⟨hp, g, d, tk, os⟩ :=
      fun q => B.iter prog w _ _ ⟨hp, g, d, tk, os⟩ _ h1 q
    wp_walk using q1
    refine wpAny_stack_any fun st => wpAny_pure ?_
    split
    · rename_i c _ _ _ _ _
      cases (c == Value.type "enumerate")
      · wp_walk using q1
        exact ⟨_, rfl, h⟩
      · wp_walk using q1
        exact ⟨_, rfl, h⟩
    · wp_walk using q1
      exact ⟨_, rfl, h⟩
theorem enum1_begins {prog : Program} {w : World} {A : Around} {E : Value → Shared → Prop} {s : Shared} {v : Value} {o : Obj} {H : Heap → Prop} {Q : Value → Shared → Prop} (B : Begins v o H) (h1 : H s.heap)
    (h : ∀ h', IsEnum h' (s.heap.objs.size + 1) s.heap.objs.size 0 .none → h'.get? s.heap.objs.size = some o → h'.objs.size = s.heap.objs.size + 2 →
      (∀ b o, s.heap.get? b = some o → h'.get? b = some o) → Q (.ref (s.heap.objs.size + 1)) { s with heap := h' }) :
    wpAny (model prog w) A (call (.type "enumerate") [v]) Q E s := by
  refine callType_new F.called_enumerate (by decide) (F.typeCall_enumerate_1 _) (F.newCall_enumerate_1 _) (fun obj => F.args_object_init_2 obj _) F.entry_enumerate_new
    (meets_enum1 B) ⟨h1, ?_⟩
  have hz : (s.heap.push o).objs.size = s.heap.objs.size + 1 := Heap.size_push ..
  show _ ∧ _
  rw [hz]
  have he : IsEnum ((s.heap.push o).push { cls := .type "enumerate", data := .fields #[.none, .bool false, .ref s.heap.objs.size, rawInt 0, .none, .none] }) (s.heap.objs.size + 1) s.heap.objs.size 0 .none := by
    have := Heap.get?_push_size (s.heap.push o) (o := { cls := .type "enumerate", data := .fields #[.none, .bool false, .ref s.heap.objs.size, rawInt 0, .none, .none] }) rfl
    rw [hz] at this; exact this
  refine ⟨⟨_, he, rfl⟩, h _ he (Heap.get?_push_of_some _ (Heap.get?_push_size _ B.free)) (by rw [Heap.size_push, hz]) fun b o x => Heap.get?_push_of_some _ (Heap.get?_push_of_some _ x)⟩
def iEnumS (K : PySem.W.Frag) (ta : TA) : TI := fun σ H R => ta σ H fun vs H1 => ∃ S xs, vs = [S.val] ∧ S.has K H1 xs ∧ R (ItE K S) H1
theorem pi_enumS {X : Cx} {e : Expr} {ta : TA} {p pos tpos : Pos} {elts : List Expr} {kk : Nat} (hg : Gl X "enumerate") (hm : X.mg "enumerate" = none) (ha : PA X [e] ta) (hs : starEach [e] X.env = [(false, eval e X.env)] := by rfl) :
    PI X (.Tuple elts kk tpos) (.Call (.Name "enumerate" p) [e] [] pos) (iEnumS X.K ta) := by
  refine ⟨fun pins s σ H R I h => ?_⟩
  refine Call_ (ld_blt I hg hm boot_enumerate (PyProof.Rows.callWith_type1 (thn (ha.run pos pins s σ H _ I h) fun us s1 ⟨vs, H1, I1, r1, q1⟩ => ?_) hs rfl))
  obtain ⟨S, xs, ex, hq, q⟩ := q1
  subst ex
  cases r1 with
  | cons r rr =>
    cases rr
    obtain ⟨o, Hh, t, B, hB, hcell, hlt⟩ := Src.begins I1 hq r
    refine enum1_begins B hB fun h' he hit hsz hk => wpAny_pyIter_enum he ?_
    have I2 : Inv X pins σ H1 { s1 with heap := h' } := I1.kept (t' := s1.toks) hk
    refine ⟨s1.heap.objs.size + 1, [s1.heap.objs.size + 1, s1.heap.objs.size], _, _, H1, rfl, I2, turn_enumS S t (s1.heap.objs.size + 1) s1.heap.objs.size (Nat.succ_ne_self _) (fun z => absurd (hlt _ z) (by show ¬ (s1.heap.objs.size + 1 < s1.heap.objs.size); omega)) (fun z => absurd (hlt _ z) (Nat.lt_irrefl _)), ⟨⟨.none, he⟩, hcell _ _ hit⟩, fun b hb => ?_, q⟩
    have e' : b = s1.heap.objs.size + 1 ∨ b = s1.heap.objs.size := by simpa using hb
    have hle : s1.heap.objs.size ≤ b := by
      rcases e' with z | z
      · rw [z]; exact Nat.le_add_right _ _
      · rw [z]; exact Nat.le_refl _
    exact I1.fpOk hle (I1.hok.fresh hle)
def iZipS (K : PySem.W.Frag) (ta : TA) : TI := fun σ H R => ta σ H fun vs H1 => ∃ S S2 xs ys, vs = [S.val, S2.val] ∧ S.has K H1 xs ∧ S2.has K H1 ys ∧ R (ItZ K S S2) H1
theorem pi_zipS {X : Cx} {e e2 : Expr} {ta : TA} {p pos tpos : Pos} {elts : List Expr} {kk : Nat} (hg : Gl X "zip") (hm : X.mg "zip" = none) (ha : PA X [e, e2] ta)
    (hs : starEach [e, e2] X.env = (false, eval e X.env) :: starEach [e2] X.env := by rfl) (hpl : (backTo pos (starEach [e2] X.env)).any (·.1) = false := by rfl) :
    PI X (.Tuple elts kk tpos) (.Call (.Name "zip" p) [e, e2] [] pos) (iZipS X.K ta) := by
  refine ⟨fun pins s σ H R I h => ?_⟩
  refine Call_ (ld_blt I hg hm PyProof.Rows.boot_zip (PyProof.Rows.callWith_type1 (thn (ha.run pos pins s σ H _ I h) fun us s1 ⟨vs, H1, I1, r1, q1⟩ => ?_) hs hpl))
  obtain ⟨S, S2, xs, ys, ex, hqx, hqy, q⟩ := q1
  subst ex
  cases r1 with
  | cons r rr =>
    cases rr with
    | cons r' rr =>
      cases rr
      obtain ⟨o, Hh, t, B, hB, hcell, hlt⟩ := Src.begins I1 hqx r
      obtain ⟨o2, Hh2, t2, B2, hB2, hcell2, hlt2⟩ := Src.begins I1 hqy r'
      have ge5 : ∀ c, c ∈ [s1.heap.objs.size + 4, s1.heap.objs.size + 2, s1.heap.objs.size + 3, s1.heap.objs.size, s1.heap.objs.size + 1] → s1.heap.objs.size ≤ c := fun c hcm => by
        have e' : c = s1.heap.objs.size + 4 ∨ c = s1.heap.objs.size + 2 ∨ c = s1.heap.objs.size + 3 ∨ c = s1.heap.objs.size ∨ c = s1.heap.objs.size + 1 := by simpa using hcm
        rcases e' with z | z | z | z | z
        · rw [z]; exact Nat.le_add_right _ _
        · rw [z]; exact Nat.le_add_right _ _
        · rw [z]; exact Nat.le_add_right _ _
        · rw [z]; exact Nat.le_refl _
        · rw [z]; exact Nat.le_add_right _ _
      refine zip_begins2 B B2 hB hB2 fun h' hz hTI hTO h1 h2 hsz hk => wpAny_pyIter_zip hz ?_
      have I2 : Inv X pins σ H1 { s1 with heap := h' } := I1.kept (t' := s1.toks) hk
      refine ⟨s1.heap.objs.size + 4, [s1.heap.objs.size + 4, s1.heap.objs.size + 2, s1.heap.objs.size + 3, s1.heap.objs.size, s1.heap.objs.size + 1], _, _, H1, rfl, I2,
        turn_zipS S S2 t t2 _ _ _ _ _ (by simp) (fun b hb => ⟨fun z => absurd (Nat.lt_of_le_of_lt (ge5 b hb) (hlt _ z)) (Nat.lt_irrefl _), fun z => absurd (Nat.lt_of_le_of_lt (ge5 b hb) (hlt2 _ z)) (Nat.lt_irrefl _)⟩),
        ⟨hz, hTI, ⟨.none, .none, hTO⟩, hcell _ _ h1, hcell2 _ _ h2⟩, fun b hb => ?_, q⟩
      exact I1.fpOk (ge5 b hb) (I1.hok.fresh (ge5 b hb))
end Tk
/-! From Python's syntax to the small language, with the checks that the walk asks. -/
namespace Tk
open PySem PySem.Spec PyProof.Rows L2
open D

/-- what stands around a def: its names by slot, the module's constants, functions (number, how many parameters), built-in names that the module leaves free, classes of errors (its number; those below it) -/
structure CE where
  N : List Str
  gc : List (Str × D)
  fn : List (Str × (Nat × Nat))
  free : List Str
  ecl : List (Str × (Nat × List Nat))

def visB (sc : Scope) (x : Str) : Bool := match sc.names.lookup x with
  | some .local => true
  | some .cell => true
  | some .free => true
  | _ => false
def gloB (sc : Scope) (x : Str) : Bool := match sc.names.lookup x with
  | some .globalImplicit => true
  | _ => false
def locB (sc : Scope) (x : Str) : Bool := match sc.names.lookup x with
  | some .local => true
  | some .cell => true
  | _ => false
def loc1B (sc : Scope) (x : Str) : Bool := match sc.names.lookup x with
  | some .local => true
  | _ => false
def sOf (x : String) : Str := x
def plainName (x : Str) : Bool := !(x == ("" : Str)) && !(x == ("__debug__" : Str)) && !(x == ("__classdict__" : Str)) && !(x == ("__name__" : Str))
def slotOf (N : List Str) (x : Str) : Option Nat := N.findIdx? (· == x)
def boOf : Operator → Option Bo
  | .Add => some .add
  | .Sub => some .sub
  | .Mult => some .mul
  | .Mod => some .mod
  | .FloorDiv => some .fdiv
  | .Pow => some .pow
  | _ => none
def coOf : CmpOp → Option Co
  | .Eq => some .eq
  | .NotEq => some .ne
  | .Lt => some .lt
  | .LtE => some .le
  | .Gt => some .gt
  | .GtE => some .ge
  | .In => some .isin
  | .NotIn => some .notin
  | .Is => some .isN
  | .IsNot => some .notN
def constD : Const → Option D
  | .none => some .non
  | .bool b => some (.bl b)
  | .int i => some (.int i)
  | .str s => some (.str s.cps.toList)
  | _ => none
/-- built-in functions of one plain argument -/
def biOf (x : Str) : Option Bi :=
  if x == sOf "len" then some .len
  else if x == sOf "int" then some .int
  else if x == sOf "tuple" then some .tuple
  else if x == sOf "list" then some .list
  else if x == sOf "sum" then some .sum
  else if x == sOf "any" then some .any
  else if x == sOf "all" then some .all
  else if x == sOf "str" then some .str1
  else if x == sOf "max" then some .max1
  else none
def isiOf (x : Str) : Option Nat :=
  if x == sOf "str" then some 0
  else if x == sOf "int" then some 1
  else if x == sOf "bool" then some 2
  else if x == sOf "tuple" then some 3
  else if x == sOf "list" then some 4
  else none
def noStar : Expr → Bool
  | .Starred _ _ => false
  | _ => true
def noSl : Expr → Bool
  | .Slice _ _ _ _ => false
  | _ => true
def noSet : Expr → Bool
  | .Set _ _ _ => false
  | _ => true
def noLc : Expr → Bool
  | .ListComp _ _ _ _ => false
  | .SetComp _ _ _ _ => false
  | .DictComp _ _ _ _ _ => false
  | _ => true
/-- what may stand ahead of a method's name: no bare call -/
def baseOk : Expr → Bool
  | .Call _ _ _ _ => false
  | _ => true
/-- a dict display of constants with text keys, all different -/
def litV : Expr → Option V
  | .Constant (.int i) _ _ => some (.int i)
  | .Constant (.str s) _ _ => some (.str s)
  | _ => none
def litP : List (Option Expr) → List Expr → Option (List (Str × V))
  | [], [] => some []
  | some (.Constant (.str s) _ _) :: ks, v :: vs => (match litV v, litP ks vs with
    | some b, some r => some ((s, b) :: r)
    | _, _ => none)
  | _, _ => none
def vD : V → D
  | .int i => .int i
  | .str x => .str x.cps.toList
  | _ => .non
def disK : List (Str × V) → Bool
  | [] => true
  | p :: r => !(r.any fun q => q.1.cps.toList == p.1.cps.toList) && disK r
def litD (ks : List (Option Expr)) (vs : List Expr) : Option D := match litP ks vs with
  | some l => if disK l && decide (l.length ≤ 15) && !l.isEmpty then some (.dic (l.map fun p => (.str p.1.cps.toList, vD p.2))) else none
  | none => none
/-- set(a) alone -/
def isSet : List Expr → Bool
  | [.Call (.Name g _) [_] [] _] => g == sOf "set"
  | _ => false
/-- target of a for or a comprehension: its slots, one name or two -/
def tgtOf (N : List Str) (sc : Scope) : Expr → Option (List Nat × Bool)
  | .Name x _ => if locB sc x && plainName x then (slotOf N x).map fun i => ([i], true) else none
  | .Tuple [.Name x _, .Name y _] _ _ => if locB sc x && plainName x && locB sc y && plainName y then
      (match slotOf N x, slotOf N y with
        | some i, some j => if i == j then none else some ([i, j], false)
        | _, _ => none) else none
  | _ => none
def tgtNames : Expr → List Str
  | .Name x _ => [x]
  | .Tuple [.Name x _, .Name y _] _ _ => [x, y]
  | _ => []
/-- the classes of errors that C stands for -/
def exsOf (c : CE) (x : Str) : Option (List Nat) := if x == sOf "ValueError" then (if c.free.contains x then some (c.ecl.map fun p => p.2.1) else none) else (c.ecl.lookup x).map (·.2)

mutual
def cE (c : CE) (ev : Option Str) : Nat → Scope → Expr → Option SE
  | 0, _, _ => none
  | n + 1, sc, e => match e with
    | .Name x _ => if !plainName x then none else if visB sc x then (if ev == some x then none else (slotOf c.N x).map .var)
      else if gloB sc x then (c.gc.lookup x).map .con else none
    | .Constant k _ _ => (constD k).map .con
    | .Tuple es _ _ => (match cEs c ev n sc es with | some xs => if xs.length ≤ 1000 then some (.tup xs) else none | none => none)
    | .List es _ => (match cEs c ev n sc es with | some xs => if xs.length ≤ 1000 then some (.lst xs) else none | none => none)
    | .BinOp a op b _ => (match boOf op, cE c ev n sc a, cE c ev n sc b with
      | some o, some x, some y => some (.bin o x y)
      | _, _, _ => none)
    | .UnaryOp .USub a _ => (cE c ev n sc a).map .neg
    | .UnaryOp .Not a _ => (cE c ev n sc a).map .nt
    | .BoolOp .And [a] _ => cE c ev n sc a
    | .BoolOp .Or [a] _ => cE c ev n sc a
    | .BoolOp .And (a :: b :: r) p => (match cE c ev n sc a, cE c ev n sc (.BoolOp .And (b :: r) p) with
      | some x, some y => some (.an x y)
      | _, _ => none)
    | .BoolOp .Or (a :: b :: r) p => (match cE c ev n sc a, cE c ev n sc (.BoolOp .Or (b :: r) p) with
      | some x, some y => some (.orr x y)
      | _, _ => none)
    | .Compare a [op] [b] _ => (match coOf op, cE c ev n sc a, cE c ev n sc b with
      | some o, some x, some y => if noSet b then some (.cmp o x y) else none
      | _, _, _ => none)
    | .Compare a [op, op'] [b, d] _ => (match coOf op, coOf op', cE c ev n sc a, cE c ev n sc b, cE c ev n sc d with
      | some o, some o', some x, some y, some z => if noSet b && noSet d then some (.cmp2 o o' x y z) else none
      | _, _, _, _, _ => none)
    | .IfExp t a b _ => (match cE c ev n sc t, cE c ev n sc a, cE c ev n sc b with
      | some x, some y, some z => some (.ite x y z)
      | _, _, _ => none)
    | .Subscript a (.Slice none none (some (.UnaryOp .USub (.Constant (.int 1) _ _) _)) _) _ => (cE c ev n sc a).map .rev
    | .Subscript a (.Slice lo hi none _) _ => (match cE c ev n sc a, cO c ev n sc lo, cO c ev n sc hi with
      | some x, some l, some h => some (.sl x l h)
      | _, _, _ => none)
    | .Subscript a i _ => if noSl i then (match cE c ev n sc a, cE c ev n sc i with
      | some x, some y => some (.ix x y)
      | _, _ => none) else none
    | .Call (.Name f _) args [] _ => if !plainName f || !gloB sc f then none else
        (match c.fn.lookup f with
        | some (k, m) => if args.length == m && ev == none then (cEs c ev n sc args).map (.call k) else none
        | none => if !c.free.contains f then none else
          if f == sOf "isinstance" then (match args with
            | [a, .Name t _] => if !(gloB sc t && plainName t && noStar a) then none else (match ev with
              | some v => (match a with
                | .Name x _ => if x == v && visB sc x && plainName x then (exsOf c t).map .isx else none
                | _ => none)
              | none => if c.free.contains t then (match isiOf t, cE c ev n sc a with
                | some k, some x => some (.bi (.isi k) [x])
                | _, _ => none) else none)
            | _ => none)
          else if f == sOf "len" && isSet args then (match args with
            | [.Call (.Name g _) [a] [] _] => if gloB sc g && c.free.contains g && noStar a && ev == none && g == sOf "set" then (cE c ev n sc a).map fun x => .bi .lenSet [x] else none
            | _ => none)
          else (match biOf f, args with
            | some b, [a] => if noStar a && ev == none then (cE c ev n sc a).map fun x => .bi b [x] else none
            | _, _ => none))
    | .Call (.Attribute (.Dict ks vs _) m ap) [a] [] cp => if !((ap.endLine == cp.line) && noStar a && ev == none && m == sOf "get") then none else
        (match litD ks vs, cE c ev n sc a with
          | some d, some x => some (.me .get1 (.con d) [x])
          | _, _ => none)
    | .Call (.Attribute o m ap) [a] [] cp => if !(baseOk o && (ap.endLine == cp.line) && noStar a && ev == none) then none else
        (match cE c ev n sc o, cE c ev n sc a with
          | some x, some y => if m == sOf "join" then some (.me .join x [y]) else if m == sOf "index" then some (.me .sindex x [y]) else none
          | _, _ => none)
    | .Call (.Attribute (.Dict ks vs _) m ap) [a, b] [] cp => if !((ap.endLine == cp.line) && noStar a && noStar b && ev == none && m == sOf "get") then none else
        (match litD ks vs, cE c ev n sc a, cE c ev n sc b with
          | some d, some x, some (.con y) => some (.me .get2 (.con d) [x, .con y])
          | _, _, _ => none)
    | .Dict ks vs _ => if ev == none then (litD ks vs).map .con else none
    | .ListComp elt [⟨tg, iter, ifs, 0⟩] scope _ =>
        (match tgtOf c.N scope tg, cI c ev n sc tg iter, cTs c ev n (relS scope sc) ifs, cE c ev n (relS scope sc) elt with
        | some (t, one), some it, some ts, some el => if noSet iter && blkC c.N sc scope ((tgtNames tg).zip t) && ev == none then some (.lc t one it ts el) else none
        | _, _, _, _ => none)
    | _ => none
def cTs (c : CE) (ev : Option Str) : Nat → Scope → List Expr → Option (List SE)
  | 0, _, _ => none
  | n + 1, sc, es => match es with
    | [] => some []
    | [e] => (cE c ev n sc e).map fun x => [x]
    | _ => none
def cEs (c : CE) (ev : Option Str) : Nat → Scope → List Expr → Option (List SE)
  | 0, _, _ => none
  | n + 1, sc, es => match es with
    | [] => some []
    | e :: r => (match cE c ev n sc e, cEs c ev n sc r with
      | some x, some y => if noStar e then some (x :: y) else none
      | _, _ => none)
def cO (c : CE) (ev : Option Str) : Nat → Scope → Option Expr → Option (Option SE)
  | 0, _, _ => none
  | n + 1, sc, e => match e with
    | none => some none
    | some e => (cE c ev n sc e).map some
/-- what is walked -/
def cI (c : CE) (ev : Option Str) : Nat → Scope → Expr → Expr → Option SI
  | 0, _, _, _ => none
  | n + 1, sc, tg, e => match e with
    | .Call (.Name f p) args [] q =>
        if gloB sc f && plainName f && c.free.contains f then
          (if f == sOf "range" then (match args with
            | [a] => if noStar a then (cE c ev n sc a).map fun x => .rng (.con (.int 0)) x else none
            | [a, b] => if noStar a && noStar b then (match cE c ev n sc a, cE c ev n sc b with
              | some x, some y => some (.rng x y)
              | _, _ => none) else none
            | _ => none)
          else if f == sOf "enumerate" then (match tg, args with
            | .Tuple _ _ _, [a] => if noStar a then (cE c ev n sc a).map .enm else none
            | _, _ => none)
          else if f == sOf "zip" then (match tg, args with
            | .Tuple _ _ _, [a, b] => if noStar a && noStar b then (match cE c ev n sc a, cE c ev n sc b with
              | some x, some y => some (.zip x y)
              | _, _ => none) else none
            | _, _ => none)
          else (cE c ev n sc (.Call (.Name f p) args [] q)).map .of)
        else (cE c ev n sc (.Call (.Name f p) args [] q)).map .of
    | e => (cE c ev n sc e).map .of
end

/-! ### statements -/
/-- a new list: the name that gets it may own it -/
def frE : Expr → Bool
  | .List _ _ => true
  | .ListComp _ _ _ _ => true
  | .Call (.Name f _) [_] [] _ => f == sOf "list"
  | _ => false
mutual
def cSt (c : CE) (sc : Scope) (ev : Option Str) : Nat → Stmt → Option SS
  | 0, _ => none
  | n + 1, st => match st with
    | .Return (some e) _ => (cE c ev n sc e).map .ret
    | .Return none _ => some .retN
    | .Pass _ => some .pass
    | .Break _ => if ev == none then some .brk else none
    | .If t a b _ => (match cE c ev n sc t, cB c sc ev n a, cB c sc ev n b with
      | some x, some y, some z => some (.ifs x y z)
      | _, _, _ => none)
    | .Assign [.Name x _] e _ => if !(plainName x && locB sc x && !(ev == some x)) then none else (match slotOf c.N x, cE c ev n sc e with
      | some i, some y => if frE e && (c.fn.lookup (sOf "list")).isNone then some (.asgF i y) else some (.asg i y)
      | _, _ => none)
    | .Assign [.Tuple es k p] e _ => (match tgtOf c.N sc (.Tuple es k p), cE c ev n sc e, e with
      | some (t, false), some y, .Name _ _ => if ev == none then some (.asgT t y) else none
      | _, _, _ => none)
    | .For tg iter body [] _ => (match tgtOf c.N sc tg, cI c ev n sc tg iter with
      | some (t, one), some it => if !(noSet iter && ev == none) then none else (cB c sc ev n body).map (.forr t one it)
      | _, _ => none)
    | .While t body [] _ => (match cE c ev n sc t, cB c sc ev n body with
      | some x, some b => if ev == none then some (.whl x b) else none
      | _, _ => none)
    | .Raise (some (.Call (.Name x _) [.Constant (.str _) _ _] [] _)) none _ => if gloB sc x && plainName x && ev == none then (c.ecl.lookup x).map fun p => .rse p.1 else none
    | .Try body [.ExceptHandler (some (.Name x _)) nm (b0 :: suite) _] [] [] _ => (match cB c sc ev n body, c.ecl.lookup x, nm with
      | some b, some (_, cs), some y => if gloB sc x && plainName x && loc1B sc y && plainName y && ev == none then (match slotOf c.N y, cB c sc (some y) n (b0 :: suite) with
        | some i, some s => some (.tryS b cs (some i) s)
        | _, _ => none) else none
      | some b, some (_, cs), none => if gloB sc x && plainName x && ev == none then (cB c sc (some (sOf "")) n (b0 :: suite)).map fun s => .tryS b cs none s else none
      | _, _, _ => none)
    | .Expr (.Call (.Attribute (.Name x p) m ap) [a] [] cp) _ => if !(plainName x && locB sc x && (ap.endLine == cp.line) && noStar a && ev == none) then none else (match slotOf c.N x with
      | some i => if m == sOf "append" then (cE c ev n sc a).map fun y => .app i y else if m == sOf "extend" then (cE c ev n sc a).map fun y => .ext i y else none
      | none => none)
    | .Expr e _ => if noLc e && ev == none then (cE c ev n sc e).map .ex else none
    | _ => none
def cB (c : CE) (sc : Scope) (ev : Option Str) : Nat → List Stmt → Option (List SS)
  | 0, _ => none
  | n + 1, st => match st with
    | [] => some []
    | s :: r => (match cSt c sc ev n s, cB c sc ev n r with
      | some x, some y => some (x :: y)
      | _, _ => none)
end

/-! ### which slots are owned -/
def isVar : SE → Bool
  | .var _ => true
  | _ => false
mutual
/-- the slots whose objects leave an expression -/
def esc : SE → List Nat
  | .var i => [i]
  | .con _ => []
  | .tup es => escs es
  | .lst es => escs es
  | .bin _ a b => (if isVar a then [] else esc a) ++ (if isVar b then [] else esc b)
  | .neg a => esc a
  | .nt a => esc a
  | .cmp _ a b => (if isVar a then [] else esc a) ++ (if isVar b then [] else esc b)
  | .cmp2 _ _ a b c => (if isVar a then [] else esc a) ++ ((if isVar b then [] else esc b) ++ (if isVar c then [] else esc c))
  | .an a b => esc a ++ esc b
  | .orr a b => esc a ++ esc b
  | .ite c a b => esc c ++ (esc a ++ esc b)
  | .ix a i => (if isVar a then [] else esc a) ++ (if isVar i then [] else esc i)
  | .sl a lo hi => (if isVar a then [] else esc a) ++ (esco lo ++ esco hi)
  | .rev a => (if isVar a then [] else esc a)
  | .call _ es => escs es
  | .bi _ es => escSs es
  | .lc t _ it ifs elt => t ++ (esci it ++ (escs ifs ++ esc elt))
  | .dict ks vs => escs ks ++ escs vs
  | .mk _ es => escs es
  | .fld o _ => (if isVar o then [] else esc o)
  | .meth o _ es => esc o ++ escs es
  | .isx _ => []
  | .me _ o es => (if isVar o then [] else esc o) ++ escSs es
def escs : List SE → List Nat
  | [] => []
  | e :: es => esc e ++ escs es
def escSs : List SE → List Nat
  | [] => []
  | e :: es => (if isVar e then [] else esc e) ++ escSs es
def esco : Option SE → List Nat
  | none => []
  | some e => esc e
def esci : SI → List Nat
  | .of a => esc a
  | .rng a b => esc a ++ esc b
  | .enm a => esc a
  | .zip a b => esc a ++ esc b
  | .rev a => esc a
end
def escS (e : SE) : List Nat := if isVar e then [] else esc e
def rem (O E : List Nat) : List Nat := O.filter fun i => !E.contains i
def joinO (a b : List Nat) : List Nat := a.filter fun i => b.contains i
def subO (a b : List Nat) : Bool := a.all fun i => b.contains i
/-- the owned slots that a loop's turn keeps -/
def flL (f : List Nat → Option (List Nat)) (O : List Nat) : Option (List Nat) := match f O with
  | some O1 => if subO O O1 then some O else (match f (joinO O O1) with
    | some O2 => if subO (joinO O O1) O2 then some (joinO O O1) else none
    | none => none)
  | none => none
mutual
/-- the owned slots behind a statement; M: the slots that are written; B: those that a break is to leave -/
def fl1 (M : List Nat) : SS → Option (List Nat) → List Nat → Option (List Nat)
  | .asg i e, _, O => some (rem (rem O (esc e)) [i])
  | .asgF i e, _, O => some (if M.contains i then i :: rem (rem O (esc e)) [i] else rem (rem O (esc e)) [i])
  | .asgT t e, _, O => some (rem (rem O (esc e)) t)
  | .ret e, _, O => some (rem O (esc e))
  | .retN, _, O => some O
  | .ifs c a b, B, O => (match flB M a B (rem O (esc c)), flB M b B (rem O (esc c)) with
    | some x, some y => some (joinO x y)
    | _, _ => none)
  | .forr t _ it body, _, O => flL (fun O => flB M body (some O) O) (rem (rem O (esci it)) t)
  | .whl c body, _, O => flL (fun O => flB M body (some O) O) (rem O (esc c))
  | .brk, B, O => (match B with
    | some b => if subO b O then some O else none
    | none => none)
  | .pass, _, O => some O
  | .app i e, _, O => if (rem O (esc e)).contains i then some (rem O (esc e)) else none
  | .ext i e, _, O => if (rem O (esc e)).contains i then some (rem O (esc e)) else none
  | .setK i k e, _, O => if (rem O (esc k ++ esc e)).contains i then some (rem O (esc k ++ esc e)) else none
  | .ex e, _, O => some (rem O (esc e))
  | .rse _, _, O => some O
  | .tryS body _ _ suite, _, O => (match flB M body none O, flB M suite none [] with
    | some x, some y => some (joinO x y)
    | _, _ => none)
def flB (M : List Nat) : List SS → Option (List Nat) → List Nat → Option (List Nat)
  | [], _, O => some O
  | s :: r, B, O => (match fl1 M s B O with
    | some O1 => flB M r B O1
    | none => none)
end
mutual
def mut1 : SS → List Nat
  | .ifs _ a b => mutB a ++ mutB b
  | .forr _ _ _ b => mutB b
  | .whl _ b => mutB b
  | .app i _ => [i]
  | .ext i _ => [i]
  | .setK i _ _ => [i]
  | .tryS a _ _ b => mutB a ++ mutB b
  | _ => []
def mutB : List SS → List Nat
  | [] => []
  | s :: r => mut1 s ++ mutB r
end
end Tk
/-! The relation between states, and the operations on values. -/
namespace Tk
open PySem PySem.Spec PyProof.Rows L2
open D

/-- the heap grows from H to H', its frozen part from Z to Z'; what was not frozen stays so -/
structure Ext (Z H Z' H' : Hp) : Prop where
  hh : Same H H'
  zz : Same Z Z'
  zh : Same Z' H'
  keep : ∀ b o, H b = some o → Z' b = Z b
  new : ∀ b, H b = none → Z' b = none → H' b = none
theorem Ext.refl {Z H : Hp} (s : Same Z H) : Ext Z H Z H := ⟨.refl _, .refl _, s, fun _ _ _ => rfl, fun _ h _ => h⟩
theorem Ext.trans {Z H Z1 H1 Z2 H2 : Hp} (a : Ext Z H Z1 H1) (b : Ext Z1 H1 Z2 H2) : Ext Z H Z2 H2 :=
  ⟨a.hh.trans b.hh, a.zz.trans b.zz, b.zh, fun c o e => (b.keep c o (a.hh c o e)).trans (a.keep c o e), fun c h z => by
    cases q : H1 c with
    | none => exact b.new c q z
    | some u =>
      have z1 : Z1 c = none := (b.zz.free z)
      rw [a.new c h z1] at q
      cases q⟩
theorem same_upd {H : Hp} {p : Addr} {o : HO} (h : H p = none) : Same H (upd H p o) := fun b x e => by
  rw [upd_ne (ne_of_none e h)]
  exact e
/-- a new object, frozen at once -/
theorem Ext.mk1 {Z H : Hp} {p : Addr} {o : HO} (s : Same Z H) (hn : H p = none) : Ext Z H (upd Z p o) (upd H p o) := by
  have zn : Z p = none := s.free hn
  refine ⟨same_upd hn, same_upd zn, fun b x e => ?_, fun b x e => ?_, fun b e z => ?_⟩
  · by_cases hb : b = p
    · subst hb
      rw [upd_same] at e ⊢
      exact e
    · rw [upd_ne hb] at e ⊢
      exact s b x e
  · rw [upd_ne (ne_of_none e hn)]
  · by_cases hb : b = p
    · subst hb
      rw [upd_same] at z
      cases z
    · rw [upd_ne hb]
      exact e
section
variable (K : PySem.W.Frag) (ct : CT)
/-- an owned list (or dict): the object itself stands outside the frozen part, its items within -/
def Own (Z H : Hp) (a : Addr) (d : D) : Prop :=
  (∃ vs ds, d = .lst ds ∧ H a = some (.lst vs) ∧ DenAll K ct Z vs ds) ∨ (∃ kvs ps, d = .dic ps ∧ H a = some (.dK kvs) ∧ DenK K ct Z kvs ps)
def ShDen (Z H : Hp) (v : V) (d : D) : Prop := Den K ct Z v d ∨ ∃ a, v = .ref a ∧ Z a = none ∧ Own K ct Z H a d
/-- what stands outside the frozen part: lists and dicts -/
def Dif (Z H : Hp) : Prop := ∀ b o, H b = some o → Z b = none → (∃ xs, o = .lst xs) ∨ ∃ kvs, o = .dK kvs
structure RelE (Z H : Hp) (O : List Nat) (σ : L2.St) (ρ : En) : Prop where
  sub : Same Z H
  dif : Dif Z H
  len : σ.length = ρ.length
  fr : ∀ i d, i ∉ O → ρ[i]? = some (some d) → ∃ v, σ[i]? = some (some v) ∧ Den K ct Z v d
  ow : ∀ i d, i ∈ O → ρ[i]? = some (some d) → ∃ a, σ[i]? = some (some (.ref a)) ∧ Z a = none ∧ Own K ct Z H a d
  inj : ∀ i j d e a, i ∈ O → j ∈ O → i ≠ j → ρ[i]? = some (some d) → ρ[j]? = some (some e) → σ[i]? = some (some (.ref a)) → σ[j]? ≠ some (some (.ref a))
end
section
variable {K : PySem.W.Frag} {ct : CT} {Z H Z' H' : Hp} {O : List Nat} {σ : L2.St} {ρ : En} {v : V} {d : D}
theorem Own.ext {a : Addr} (x : Own K ct Z H a d) (e : Ext Z H Z' H') : Own K ct Z' H' a d := by
  rcases x with ⟨vs, ds, r, h1, h2⟩ | ⟨kvs, ps, r, h1, h2⟩
  · exact .inl ⟨vs, ds, r, e.hh _ _ h1, DenAll.mono e.zz _ _ h2⟩
  · exact .inr ⟨kvs, ps, r, e.hh _ _ h1, DenK.mono e.zz _ _ h2⟩
theorem Own.at {a : Addr} (x : Own K ct Z H a d) : ∃ o, H a = some o := by
  rcases x with ⟨vs, ds, r, h1, h2⟩ | ⟨kvs, ps, r, h1, h2⟩
  · exact ⟨_, h1⟩
  · exact ⟨_, h1⟩
theorem ShDen.ext (x : ShDen K ct Z H v d) (e : Ext Z H Z' H') : ShDen K ct Z' H' v d := by
  rcases x with x | ⟨a, r, n, o⟩
  · exact .inl (Den.mono e.zz _ _ x)
  · obtain ⟨ob, h⟩ := o.at
    exact .inr ⟨a, r, (e.keep a ob h).trans n, o.ext e⟩
theorem ShDen.den (x : ShDen K ct Z H v d) (s : Same Z H) : Den K ct H v d := by
  rcases x with x | ⟨a, r, n, o⟩
  · exact Den.mono s _ _ x
  · subst r
    rcases o with ⟨vs, ds, r, h1, h2⟩ | ⟨kvs, ps, r, h1, h2⟩
    · subst r
      exact .lst (.inl h1) (DenAll.mono s _ _ h2)
    · subst r
      exact .dK h1 (DenK.mono s _ _ h2)
theorem ShDen.lst {ds : List D} (x : ShDen K ct Z H v (.lst ds)) (s : Same Z H) : ∃ a vs, v = .ref a ∧ Rd H a (.lst vs) ∧ DenAll K ct Z vs ds := by
  rcases x with x | ⟨a, r, n, o⟩
  · cases x with
    | lst h1 h2 => exact ⟨_, _, rfl, same_rd s h1, h2⟩
  · subst r
    rcases o with ⟨vs, ds, r, h1, h2⟩ | ⟨kvs, ps, r, h1, h2⟩
    · cases r
      exact ⟨_, _, rfl, .inl h1, h2⟩
    · cases r
theorem ShDen.tup {ds : List D} (x : ShDen K ct Z H v (.tup ds)) (s : Same Z H) : ∃ a vs, v = .ref a ∧ SqT K H a vs ∧ DenAll K ct Z vs ds := by
  rcases x with x | ⟨a, r, n, o⟩
  · cases x with
    | tup h1 h2 => exact ⟨_, _, rfl, same_seqT s h1, h2⟩
  · rcases o with ⟨vs, ds, r, h1, h2⟩ | ⟨kvs, ps, r, h1, h2⟩ <;> cases r
theorem ShDen.dic {ps : List (D × D)} (x : ShDen K ct Z H v (.dic ps)) (s : Same Z H) : (∃ a kvs, v = .ref a ∧ H a = some (.dK kvs) ∧ DenK K ct Z kvs ps) ∨ ∃ a qs, v = .ref a ∧ ct.kd a = some qs ∧ ps = kdD qs := by
  rcases x with x | ⟨a, r, n, o⟩
  · cases x with
    | dK h1 h2 => exact .inl ⟨_, _, rfl, s _ _ h1, h2⟩
    | dW h1 => exact .inr ⟨_, _, rfl, h1, rfl⟩
  · subst r
    rcases o with ⟨vs, ds, r, h1, h2⟩ | ⟨kvs, ps, r, h1, h2⟩
    · cases r
    · cases r
      exact .inl ⟨_, _, rfl, h1, h2⟩
theorem ShDen.int {i : Int} (x : ShDen K ct Z H v (.int i)) : v = .int i := by
  rcases x with x | ⟨a, r, n, o⟩
  · cases x; rfl
  · rcases o with ⟨vs, ds, r, h1, h2⟩ | ⟨kvs, ps, r, h1, h2⟩ <;> cases r
theorem ShDen.bl {i : Bool} (x : ShDen K ct Z H v (.bl i)) : v = .bl i := by
  rcases x with x | ⟨a, r, n, o⟩
  · cases x; rfl
  · rcases o with ⟨vs, ds, r, h1, h2⟩ | ⟨kvs, ps, r, h1, h2⟩ <;> cases r
theorem ShDen.non (x : ShDen K ct Z H v .non) : v = .non := by
  rcases x with x | ⟨a, r, n, o⟩
  · cases x; rfl
  · rcases o with ⟨vs, ds, r, h1, h2⟩ | ⟨kvs, ps, r, h1, h2⟩ <;> cases r
theorem ShDen.str {z : List Nat} (x : ShDen K ct Z H v (.str z)) : v = .str ⟨z.toArray⟩ := by
  rcases x with x | ⟨a, r, n, o⟩
  · cases x; simp
  · rcases o with ⟨vs, ds, r, h1, h2⟩ | ⟨kvs, ps, r, h1, h2⟩ <;> cases r
theorem den_str (K : PySem.W.Frag) (ct : CT) (H : Hp) (z : List Nat) : Den K ct H (.str ⟨z.toArray⟩) (.str z) := by
  have := Den.str (K := K) (ct := ct) (H := H) ⟨z.toArray⟩
  simpa using this
theorem Dif.ext (x : Dif Z H) (e : Ext Z H Z' H') (n : ∀ b, H b = none → Z' b = none → H' b = none) : Dif Z' H' := fun b o h z => by
  cases q : H b with
  | none => rw [n b q z] at h; cases h
  | some u =>
    have h2 := e.hh b u q
    rw [h] at h2
    cases h2
    rw [e.keep b o q] at z
    exact x b o q z
theorem RelE.ext (x : RelE K ct Z H O σ ρ) (e : Ext Z H Z' H') : RelE K ct Z' H' O σ ρ := by
  refine ⟨e.zh, x.dif.ext e e.new, x.len, fun i d h q => ?_, fun i d h q => ?_, x.inj⟩
  · obtain ⟨v, a, b⟩ := x.fr i d h q
    exact ⟨v, a, Den.mono e.zz _ _ b⟩
  · obtain ⟨a, h1, h2, h3⟩ := x.ow i d h q
    obtain ⟨o, ho⟩ := h3.at
    exact ⟨a, h1, (e.keep a o ho).trans h2, h3.ext e⟩
theorem RelE.at (x : RelE K ct Z H O σ ρ) {i : Nat} {d : D} (q : ρ[i]? = some (some d)) : ∃ v, σ[i]? = some (some v) ∧ ShDen K ct Z H v d := by
  by_cases h : i ∈ O
  · obtain ⟨a, h1, h2, h3⟩ := x.ow i d h q
    exact ⟨_, h1, .inr ⟨a, rfl, h2, h3⟩⟩
  · obtain ⟨v, h1, h2⟩ := x.fr i d h q
    exact ⟨_, h1, .inl h2⟩

/-- what an operation is to reach -/
def Fin (K : PySem.W.Frag) (ct : CT) (Z H : Hp) (r : Res D) (Q : VK) : Prop := match r with
  | .ok d => ∀ v H' Z', Ext Z H Z' H' → Den K ct Z' v d → Q v H'
  | .exc _ => False
  | .bad => False
theorem Fin.ret {r : Res D} {Q : VK} (h : Fin K ct Z H r Q) (s : Same Z H) (e : r = .ok d) (q : Den K ct Z v d) : Q v H := by
  subst e
  exact h v H Z (.refl s) q
/-- a new object comes -/
theorem Fin.new {r : Res D} {Q : VK} {o : HO} (h : Fin K ct Z H r Q) (s : Same Z H) (e : r = .ok d) (q : ∀ p, Den K ct (upd Z p o) (.ref p) d ∨ H p ≠ none) : ∀ p, H p = none → Q (.ref p) (upd H p o) := fun p hn => by
  subst e
  rcases q p with q | q
  · exact h _ _ _ (.mk1 s hn) q
  · exact absurd hn q
def R2D (K : PySem.W.Frag) (ct : CT) (f : D → D → Res D) : R2 := fun x y H Q => ∃ Z dx dy, Same Z H ∧ ShDen K ct Z H x dx ∧ ShDen K ct Z H y dy ∧ Fin K ct Z H (f dx dy) Q
end
section
variable {X : Cx} {ct : CT}
theorem okN_le {n : Nat} (h : okN n = true) : n ≤ sizeLine := by
  rw [sizeLine_eq]
  exact of_decide_eq_true h
theorem inR_of {i : Int} (h : inR i = true) : -(2 ^ 64) < i ∧ i < 2 ^ 64 := by
  unfold inR at h
  simpa using h
theorem strlen (z : List Nat) : (⟨z.toArray⟩ : Str).length = z.length := by
  simp [Str.length]
theorem strapp (x y : List Nat) : (⟨x.toArray⟩ : Str) ++ ⟨y.toArray⟩ = ⟨(x ++ y).toArray⟩ := by
  show Str.append _ _ = _
  simp [Str.append]
theorem den_tupNew {K : PySem.W.Frag} {Z : Hp} {p : Addr} {vs : List V} {ds : List D} (hp : Z p = none) (h : DenAll K ct Z vs ds) : Den K ct (upd Z p (.tup vs)) (.ref p) (.tup ds) :=
  .tup (.inl (.inl upd_same)) (DenAll.mono (same_upd hp) _ _ h)
theorem den_lstNew {K : PySem.W.Frag} {Z : Hp} {p : Addr} {vs : List V} {ds : List D} (hp : Z p = none) (h : DenAll K ct Z vs ds) : Den K ct (upd Z p (.lst vs)) (.ref p) (.lst ds) :=
  .lst (.inl upd_same) (DenAll.mono (same_upd hp) _ _ h)
theorem Fin.newT {K : PySem.W.Frag} {Z H : Hp} {r : Res D} {Q : VK} {vs : List V} {ds : List D} (h : Fin K ct Z H r Q) (s : Same Z H) (e : r = .ok (.tup ds)) (q : DenAll K ct Z vs ds) : ∀ p, H p = none → Q (.ref p) (upd H p (.tup vs)) := fun p hn => by
  subst e
  exact h _ _ _ (.mk1 s hn) (den_tupNew (s.free hn) q)
theorem Fin.newL {K : PySem.W.Frag} {Z H : Hp} {r : Res D} {Q : VK} {vs : List V} {ds : List D} (h : Fin K ct Z H r Q) (s : Same Z H) (e : r = .ok (.lst ds)) (q : DenAll K ct Z vs ds) : ∀ p, H p = none → Q (.ref p) (upd H p (.lst vs)) := fun p hn => by
  subst e
  exact h _ _ _ (.mk1 s hn) (den_lstNew (s.free hn) q)
theorem DenAll.nil_iff {K : PySem.W.Frag} {H : Hp} {vs : List V} {ds : List D} (h : DenAll K ct H vs ds) : vs = [] ↔ ds = [] := by
  cases h <;> simp
theorem Inv.rdL {pins : List (Addr × Obj)} {σ : L2.St} {H : Hp} {s : Shared} {l : Addr} {xs : List V} (I : Inv X pins σ H s) (hH : Rd H l (.lst xs)) : xs.length ≤ sizeLine ∧ ∃ (its : List Value) (n : Nat), Vals xs its ∧ xs.length = its.length ∧ s.heap.get? l = some { cls := .type "list", data := .seq its.toArray n } := by
  obtain ⟨z, its, n, r, e⟩ := hH.ok I.hok
  exact ⟨z, its, n, r, r.length, e⟩
/-- list + list, both only read -/
def rCatS : R2 := fun x y H Q => ∃ l b xs zs, x = .ref l ∧ y = .ref b ∧ Rd H l (.lst xs) ∧ Rd H b (.lst zs) ∧ xs.length + zs.length ≤ sizeLine ∧ ∀ p, H p = none → Q (.ref p) (upd H p (.lst (xs ++ zs)))
theorem op_catS : OpR X (binaryOp .Add) rCatS := by
  intro pins s σ H x y v u Q I rx ry h
  obtain ⟨l, b, xs, zs, rfl, rfl, hH, hB, hz, q⟩ := h
  cases rx
  cases ry
  obtain ⟨z, its, n, r, hl, e⟩ := Inv.rdL I hH
  obtain ⟨z2, its2, n2, r2, hl2, e2⟩ := Inv.rdL I hB
  refine PySem.P.add_list e e2 ?_ (by rw [List.size_toArray, List.size_toArray]; omega)
  have ea : its.toArray ++ its2.toArray = (its ++ its2).toArray := by simp
  rw [ea]
  exact ⟨.ref _, _, I.lnew (t' := s.toks) (r.append r2) (by rw [List.length_append]; omega), rfl, q _ I.fresh⟩
theorem opr_add : OpR X (binaryOp .Add) (R2D X.K ct (binD .add)) := by
  intro pins s σ H x y v u Q I rx ry h
  obtain ⟨Z, dx, dy, sz, hx, hy, f⟩ := h
  cases dx with
  | int i => cases dy with
    | int j => exact op_add pins s σ H _ _ v u Q I rx ry ⟨i, j, hx.int, hy.int, f.ret sz rfl (.int _)⟩
    | bl j =>
      have e1 := hx.int
      have e2 := hy.bl
      subst e1 e2
      obtain ⟨t, rfl⟩ := rx
      cases ry
      exact add_int_bool ⟨.int _, H, I.tok _, ⟨_, rfl⟩, f.ret sz rfl (.int _)⟩
    | _ => exact (show False from f).elim
  | bl i => cases dy with
    | int j =>
      have e1 := hx.bl
      have e2 := hy.int
      subst e1 e2
      cases rx
      obtain ⟨t, rfl⟩ := ry
      exact PySem.IntBool.add_bool_int ⟨.int _, H, I.tok _, ⟨_, rfl⟩, f.ret sz rfl (.int _)⟩
    | _ => exact (show False from f).elim
  | str i => cases dy with
    | str j =>
      by_cases c : okN (i.length + j.length) = true
      · have e : binD .add (.str i) (.str j) = .ok (.str (i ++ j)) := if_pos c
        refine op_add_str pins s σ H _ _ v u Q I rx ry ⟨_, _, hx.str, hy.str, ?_, ?_⟩
        · rw [strlen, strlen]; exact okN_le c
        · rw [strapp]; exact f.ret sz e (den_str _ _ _ _)
      · have e : binD .add (.str i) (.str j) = .bad := if_neg c
        rw [e] at f; exact (show False from f).elim
    | _ => exact (show False from f).elim
  | lst i => cases dy with
    | lst j =>
      by_cases c : okN (i.length + j.length) = true
      · have e : binD .add (.lst i) (.lst j) = .ok (.lst (i ++ j)) := if_pos c
        obtain ⟨a, vs, rfl, h1, h2⟩ := hx.lst sz
        obtain ⟨b, ws, rfl, h3, h4⟩ := hy.lst sz
        exact op_catS pins s σ H _ _ v u Q I rx ry ⟨a, b, vs, ws, rfl, rfl, h1, h3, by rw [h2.length, h4.length]; exact okN_le c, f.newL sz e (h2.append h4)⟩
      · have e : binD .add (.lst i) (.lst j) = .bad := if_neg c
        rw [e] at f; exact (show False from f).elim
    | _ => exact (show False from f).elim
  | tup i => cases dy with
    | tup j =>
      by_cases c : okN (i.length + j.length) = true
      · have e : binD .add (.tup i) (.tup j) = .ok (.tup (i ++ j)) := if_pos c
        obtain ⟨a, vs, rfl, h1, h2⟩ := hx.tup sz
        obtain ⟨b, ws, rfl, h3, h4⟩ := hy.tup sz
        have hX : Den X.K ct Z (.ref a) (.tup i) ∧ Den X.K ct Z (.ref b) (.tup j) := by
          refine ⟨?_, ?_⟩
          · rcases hx with z | ⟨_, _, _, o⟩
            · exact z
            · rcases o with ⟨_, _, r, _⟩ | ⟨_, _, r, _⟩ <;> cases r
          · rcases hy with z | ⟨_, _, _, o⟩
            · exact z
            · rcases o with ⟨_, _, r, _⟩ | ⟨_, _, r, _⟩ <;> cases r
        refine op_catA pins s σ H _ _ v u Q I rx ry ⟨a, b, vs, ws, rfl, rfl, h1, h3, by rw [h2.length, h4.length]; exact okN_le c, fun z => ?_, fun _ z => ?_, fun _ _ => f.newT sz e (h2.append h4)⟩
        · have z2 := h2.nil_iff.mp z
          subst z2
          exact f.ret sz e hX.2
        · have z2 := h4.nil_iff.mp z
          subst z2
          exact f.ret sz (by rw [e, List.append_nil]) hX.1
      · have e : binD .add (.tup i) (.tup j) = .bad := if_neg c
        rw [e] at f; exact (show False from f).elim
    | _ => exact (show False from f).elim
  | _ => cases dy <;> exact (show False from f).elim
theorem opr_sub : OpR X (binaryOp .Sub) (R2D X.K ct (binD .sub)) := by
  intro pins s σ H x y v u Q I rx ry h
  obtain ⟨Z, dx, dy, sz, hx, hy, f⟩ := h
  cases dx with
  | int i => cases dy with
    | int j => exact op_sub pins s σ H _ _ v u Q I rx ry ⟨i, j, hx.int, hy.int, f.ret sz rfl (.int _)⟩
    | bl j =>
      have e1 := hx.int
      have e2 := hy.bl
      subst e1 e2
      obtain ⟨t, rfl⟩ := rx
      cases ry
      exact PySem.IntBool.sub_int_bool ⟨.int _, H, I.tok _, ⟨_, rfl⟩, f.ret sz rfl (.int _)⟩
    | _ => exact (show False from f).elim
  | bl i => cases dy with
    | int j =>
      have e1 := hx.bl
      have e2 := hy.int
      subst e1 e2
      cases rx
      obtain ⟨t, rfl⟩ := ry
      exact PySem.IntBool.sub_bool_int ⟨.int _, H, I.tok _, ⟨_, rfl⟩, f.ret sz rfl (.int _)⟩
    | _ => exact (show False from f).elim
  | _ => cases dy <;> exact (show False from f).elim
theorem opr_mod : OpR X (binaryOp .Mod) (R2D X.K ct (binD .mod)) := by
  intro pins s σ H x y v u Q I rx ry h
  obtain ⟨Z, dx, dy, sz, hx, hy, f⟩ := h
  cases dx with
  | int i => cases dy with
    | int j =>
      by_cases c : 0 < j
      · exact op_mod pins s σ H _ _ v u Q I rx ry ⟨i, j, hx.int, hy.int, c, f.ret sz (if_pos (decide_eq_true c)) (.int _)⟩
      · have e : binD .mod (.int i) (.int j) = .bad := if_neg (by simpa using c)
        rw [e] at f; exact (show False from f).elim
    | _ => exact (show False from f).elim
  | _ => cases dy <;> exact (show False from f).elim
theorem opr_fdiv : OpR X (binaryOp .FloorDiv) (R2D X.K ct (binD .fdiv)) := by
  intro pins s σ H x y v u Q I rx ry h
  obtain ⟨Z, dx, dy, sz, hx, hy, f⟩ := h
  cases dx with
  | int i => cases dy with
    | int j =>
      by_cases c : (decide (0 < j) && decide (j < 1073741824)) = true
      · exact op_fdiv pins s σ H _ _ v u Q I rx ry ⟨i, j, hx.int, hy.int, ⟨by simpa using (Bool.and_eq_true_iff.mp c).1, by simpa using (Bool.and_eq_true_iff.mp c).2⟩, f.ret sz (if_pos c) (.int _)⟩
      · have e : binD .fdiv (.int i) (.int j) = .bad := if_neg c
        rw [e] at f; exact (show False from f).elim
    | _ => exact (show False from f).elim
  | _ => cases dy <;> exact (show False from f).elim
theorem opr_pow : OpR X (binaryOp .Pow) (R2D X.K ct (binD .pow)) := by
  intro pins s σ H x y v u Q I rx ry h
  obtain ⟨Z, dx, dy, sz, hx, hy, f⟩ := h
  cases dx with
  | int i => cases dy with
    | int j =>
      by_cases c : (decide (0 ≤ j) && decide (j ≤ 100) && inR i) = true
      · obtain ⟨c1, c2⟩ := Bool.and_eq_true_iff.mp c
        obtain ⟨c3, c4⟩ := Bool.and_eq_true_iff.mp c1
        have r := inR_of c2
        have c3 : 0 ≤ j := of_decide_eq_true c3
        have c4 : j ≤ 100 := of_decide_eq_true c4
        exact op_pow pins s σ H _ _ v u Q I rx ry ⟨i, j, hx.int, hy.int, ⟨c3, by omega, by omega⟩, f.ret sz (if_pos c) (.int _)⟩
      · have e : binD .pow (.int i) (.int j) = .bad := if_neg c
        rw [e] at f; exact (show False from f).elim
    | _ => exact (show False from f).elim
  | _ => cases dy <;> exact (show False from f).elim
/-- list * int, the list only read -/
def rRepS : R2 := fun x y H Q => ∃ l k xs, x = .ref l ∧ y = .int k ∧ Rd H l (.lst xs) ∧ 0 ≤ k ∧ k < 1000 ∧ xs.length < 1000 ∧ ∀ p, H p = none → Q (.ref p) (upd H p (.lst (List.replicate k.toNat xs).flatten))
theorem op_repS : OpR X (binaryOp .Mult) rRepS := by
  intro pins s σ H x y v u Q I rx ry h
  obtain ⟨l, k, xs, rfl, rfl, hH, h1, h2, hz0, q⟩ := h
  have hz : xs.length * k.toNat ≤ sizeLine := by
    rw [sizeLine_eq]
    have a1 : xs.length * k.toNat ≤ 1000 * 1000 := Nat.mul_le_mul (by omega) (by omega)
    omega
  cases rx
  obtain ⟨t, rfl⟩ := ry
  obtain ⟨z, its, n, r, hl, e⟩ := Inv.rdL I hH
  have hlen : its.toArray.size * k.toNat ≤ sizeLine := by rw [List.size_toArray, ← hl]; exact hz
  have hcap : ¬ its.toArray.size * k.toNat > (2 ^ 63 - 1) / 8 := by
    have : (sizeLine : Nat) ≤ (2 ^ 63 - 1) / 8 := by decide
    omega
  have hfit : ¬ (!Builtin.List.listFitsIndex k) = true := by
    rw [fitsIndex_both (by omega) (by omega)]
    exact Bool.false_ne_true
  have hlong : ¬ Builtin.List.listTooLong (its.toArray.size * k.toNat) = true := by
    rw [notLongL hlen]
    exact Bool.false_ne_true
  have hnew : List.foldl (fun x1 x2 => x1 ++ x2) #[] (List.replicate (if its.toArray.isEmpty = true then 0 else k.toNat) its.toArray) = (List.replicate k.toNat its).flatten.toArray := by
    have f0 : ∀ m : Nat, List.foldl (fun x1 x2 => x1 ++ x2) #[] (List.replicate m its.toArray) = (List.replicate m its).flatten.toArray := fun m => by
      have := foldl_rep its m []
      rw [List.nil_append] at this
      exact this
    rw [f0]
    cases its with
    | nil => simp
    | cons a r' => rw [if_neg (by simp)]
  refine wpAny_binaryOp_repeat_ref (T := "list") (U := "int") (by decide) ⟨_, e, rfl⟩ (fun s' => typeIs_int s' k t) noFill_list_mul F.fills_int_mul F.slot_int_rmul repeat_list F.slot_int_index.lookup
    (call_meets F.slot_int_rmul (typeIs_int s k t) F.entry_int_rmul (F.args_int_rmul_2 _ _) (int___rmul___int_list k t l its.toArray n)
      ⟨e, rfl, ⟨_, e, rfl⟩, call_meets F.slot_list_mul ⟨_, e, rfl⟩ F.entry_list_mul (F.args_list_mul_2 _ _) (AutoListH.list___mul___list_int_3 l its.toArray n k t hfit hcap hlong) ⟨e, ?_⟩⟩)
  rw [hnew]
  exact ⟨.ref _, _, I.lnew (t' := s.toks) (r.rep k.toNat) (by rw [PyProof.Rows.lm_len_rep_flat, Nat.mul_comm]; exact hz), rfl, q _ I.fresh⟩
theorem DenAll.rep {K : PySem.W.Frag} {H : Hp} {vs : List V} {ds : List D} (h : DenAll K ct H vs ds) : ∀ k : Nat, DenAll K ct H (List.replicate k vs).flatten (List.replicate k ds).flatten
  | 0 => .nil
  | k + 1 => by
    rw [List.replicate_succ, List.replicate_succ, List.flatten_cons, List.flatten_cons]
    exact h.append (h.rep k)
theorem rep_arr (c : List Nat) : ∀ (n : Nat) (acc : Array Nat), (List.replicate n c.toArray).foldl (· ++ ·) acc = acc ++ (List.replicate n c).flatten.toArray
  | 0, acc => by simp
  | n + 1, acc => by
    rw [List.replicate_succ, List.foldl_cons, rep_arr c n, List.replicate_succ, List.flatten_cons]
    simp
theorem op_mulS : OpR X (binaryOp .Mult) (fun x y H Q => ∃ (z : List Nat) (k : Int), x = .str ⟨z.toArray⟩ ∧ y = .int k ∧ 2 ≤ k ∧ k ≤ 1000 ∧ z.length = 1 ∧ Q (.str ⟨(repL z k).toArray⟩) H) := by
  intro pins s σ H x y v u Q I rx ry h
  obtain ⟨z, k, rfl, rfl, k2, k3, hz, q⟩ := h
  obtain ⟨t, rfl⟩ := rx
  obtain ⟨t2, rfl⟩ := ry
  have hl : (⟨z.toArray⟩ : Str).length = 1 := by simp [Str.length, hz]
  have e1 : (k == 1 || (⟨z.toArray⟩ : Str).length == 0) = false := by
    rw [hl]
    have : (k == 1) = false := beq_eq_false_iff_ne.mpr (by omega)
    rw [this]
    rfl
  have ez : (⟨(List.replicate k.toNat z.toArray).foldl (· ++ ·) #[]⟩ : Str) = ⟨(repL z k).toArray⟩ := by
    rw [rep_arr]
    simp [repL]
  have ln : (repL z k).length = k.toNat := by simp [repL, hz]
  refine PySem.P.mul_str (by rw [decide_eq_false (by omega), decide_eq_false (by omega)]; rfl) (fun _ _ => ?_) (fun _ _ => ?_) ?_
  · rw [hl]
    have : (2 ^ 63 - 1) / k ≥ 1 := by
      have : (1 : Int) ≤ (2 ^ 63 - 1) / k := Int.le_ediv_of_mul_le (by omega) (by omega)
      exact this
    show ¬ ((1 : Nat) : Int) > _
    omega
  · rw [hl]
    unfold Builtin.Str.tooLong
    rw [sizeLine_eq]
    exact decide_eq_false (by omega)
  · rw [if_neg (by omega), if_neg (by rw [e1]; exact Bool.false_ne_true), ez]
    refine ⟨?_, .str ⟨(repL z k).toArray⟩, H, I.tok _, ⟨_, rfl⟩, q⟩
    show (repL z k).toArray.size ≤ sizeLine
    rw [List.size_toArray, ln, sizeLine_eq]
    omega
theorem opr_mul : OpR X (binaryOp .Mult) (R2D X.K ct (binD .mul)) := by
  intro pins s σ H x y v u Q I rx ry h
  obtain ⟨Z, dx, dy, sz, hx, hy, f⟩ := h
  cases dx with
  | int i => cases dy with
    | int j =>
      by_cases c : (inR i || inR j) = true
      · exact op_mul pins s σ H _ _ v u Q I rx ry ⟨i, j, hx.int, hy.int, (Bool.or_eq_true_iff.mp c).elim (fun z => .inl (inR_of z)) (fun z => .inr (inR_of z)), f.ret sz (if_pos c) (.int _)⟩
      · have e : binD .mul (.int i) (.int j) = .bad := if_neg c
        rw [e] at f; exact (show False from f).elim
    | _ => exact (show False from f).elim
  | lst i => cases dy with
    | int j =>
      by_cases c : (decide (0 ≤ j) && decide (j < 1000) && decide (i.length < 1000)) = true
      · obtain ⟨c1, c2⟩ := Bool.and_eq_true_iff.mp c
        obtain ⟨c3, c4⟩ := Bool.and_eq_true_iff.mp c1
        obtain ⟨a, vs, rfl, h1, h2⟩ := hx.lst sz
        exact op_repS pins s σ H _ _ v u Q I rx ry ⟨a, j, vs, rfl, hy.int, h1, of_decide_eq_true c3, of_decide_eq_true c4, by rw [h2.length]; exact of_decide_eq_true c2, f.newL sz (if_pos c) (h2.rep _)⟩
      · have e : binD .mul (.lst i) (.int j) = .bad := if_neg c
        rw [e] at f; exact (show False from f).elim
    | _ => exact (show False from f).elim
  | tup i => cases dy with
    | int j =>
      by_cases c : (decide (2 ≤ j) && decide (j ≤ 1000) && decide (i.length ≤ 1000) && !i.isEmpty) = true
      · obtain ⟨c0, c5⟩ := Bool.and_eq_true_iff.mp c
        obtain ⟨c1, c2⟩ := Bool.and_eq_true_iff.mp c0
        obtain ⟨c3, c4⟩ := Bool.and_eq_true_iff.mp c1
        obtain ⟨a, vs, rfl, h1, h2⟩ := hx.tup sz
        exact op_repT pins s σ H _ _ v u Q I rx ry ⟨a, j, vs, rfl, hy.int, h1, fun z => by rw [h2.nil_iff.mp z] at c5; simp at c5, of_decide_eq_true c3, of_decide_eq_true c4, by rw [h2.length]; exact of_decide_eq_true c2, f.newT sz (if_pos c) (h2.rep _)⟩
      · have e : binD .mul (.tup i) (.int j) = .bad := if_neg c
        rw [e] at f; exact (show False from f).elim
    | _ => exact (show False from f).elim
  | str i => cases dy with
    | int j =>
      by_cases c : (decide (2 ≤ j) && decide (j ≤ 1000) && decide (i.length = 1)) = true
      · obtain ⟨c1, c2⟩ := Bool.and_eq_true_iff.mp c
        obtain ⟨c3, c4⟩ := Bool.and_eq_true_iff.mp c1
        exact op_mulS pins s σ H _ _ v u Q I rx ry ⟨i, j, hx.str, hy.int, of_decide_eq_true c3, of_decide_eq_true c4, of_decide_eq_true c2, f.ret sz (if_pos c) (den_str _ _ _ _)⟩
      · have e : binD .mul (.str i) (.int j) = .bad := if_neg c
        rw [e] at f; exact (show False from f).elim
    | _ => exact (show False from f).elim
  | _ => cases dy <;> exact (show False from f).elim
theorem opr_bin {op : Operator} {b : Bo} (h : boOf op = some b) : OpR X (binaryOp op) (R2D X.K ct (binD b)) := by
  cases op <;> first | (cases h; first | exact opr_add | exact opr_sub | exact opr_mul | exact opr_mod | exact opr_fdiv | exact opr_pow) | cases h
end
end Tk
/-! Comparisons, subscripts, slices on values. -/
namespace Tk
open PySem PySem.Spec PyProof.Rows L2
open D
/-- the module's dicts are as ct tells -/
def KdOk (K : PySem.W.Frag) (w : World) (ct : CT) : Prop := ∀ a ps, ct.kd a = some ps → ps ≠ [] ∧ (∃ es n, KDict K w a es n) ∧ ∀ z : List Nat, ∃ r, PySem.W.nsIn K a ⟨z.toArray⟩ = some r ∧
  (match lookD (.str z) (kdD ps) with
    | some d => ∃ u v, r = some u ∧ RelV v u ∧ ∀ H, Den K ct H v d
    | none => r = none)
section
variable {X : Cx} {ct : CT}
theorem Fin.no {K : PySem.W.Frag} {Z H : Hp} {r : Res D} {Q : VK} (f : Fin K ct Z H r Q) (e : r = .bad) : False := by
  subst e
  exact f
theorem ShDen.scr {K : PySem.W.Frag} {Z H : Hp} {v : V} {ns : List Int} (x : ShDen K ct Z H v (.scr ns)) : ∃ a, v = .ref a ∧ SqL K Z a (ns.map V.int) := by
  rcases x with x | ⟨a, r, n, o⟩
  · cases x with
    | scr h1 => exact ⟨_, rfl, h1⟩
  · rcases o with ⟨vs, ds, r, h1, h2⟩ | ⟨kvs, ps, r, h1, h2⟩ <;> cases r
theorem dpInts {K : PySem.W.Frag} {H : Hp} : ∀ ns : List Int, DpAll K H (ns.map V.int) (ns.map PyData.int)
  | [] => .nil
  | n :: ns => .cons (.int n) (dpInts ns)
theorem shaped_ints (ns : List Int) : SeqAt.shaped (.list (ns.map PyData.int)) = true := by
  have h1 : ∀ ns : List Int, PyData.canLayAll0 (ns.map PyData.int) = true := by
    intro ns
    induction ns with
    | nil => rfl
    | cons n ns ih => simp [PyData.canLayAll0, PyData.canLay0, ih]
  have h2 : ∀ ns : List Int, PyData.depthAll (ns.map PyData.int) = 0 := by
    intro ns
    induction ns with
    | nil => rfl
    | cons n ns ih => simp [PyData.depthAll, PyData.depth, ih]
  unfold SeqAt.shaped
  simp [PyData.canLay0, PyData.depth, h1, h2]
theorem cmp_eq (hu : X.A.units + 64 < cLine) : OpR X (compareOp .Eq) (R2D X.K ct (cmpD .eq)) := by
  intro pins s σ H x y v u Q I rx ry h
  obtain ⟨Z, dx, dy, sz, hx, hy, f⟩ := h
  by_cases hscr : ∃ ns, dx = .scr ns ∧ dy = .lst []
  · obtain ⟨ns, rfl, rfl⟩ := hscr
    obtain ⟨a, rfl, h1⟩ := hx.scr
    obtain ⟨b, vs, rfl, h2, h3⟩ := hy.lst sz
    cases h3
    have d1 : Dp X.K H (.ref a) (.list (ns.map PyData.int)) := .lst (h1.imp (same_rd sz) id) (dpInts ns)
    have d2 : Dp X.K H (.ref b) (.list []) := .lst (.inl h2) .nil
    refine op_eqD hu pins s σ H _ _ v u Q I rx ry ⟨_, _, d1, d2, shaped_ints ns, by decide, ?_⟩
    have e : PyData.eqv (.list (ns.map PyData.int)) (.list []) = ns.isEmpty := by
      cases ns <;> simp [PyData.eqv, PyData.eqvAll]
    rw [e]
    exact f.ret sz rfl (.bl _)
  have hne : cmpD .eq dx dy = if dx.sh && dy.sh then .ok (.bl (eqD dx dy)) else .bad := by
    cases dx with
    | scr ns => cases dy with
      | lst ys => cases ys with
        | nil => exact absurd ⟨ns, rfl, rfl⟩ hscr
        | cons _ _ => rfl
      | _ => rfl
    | _ => rfl
  by_cases c : (dx.sh && dy.sh) = true
  · obtain ⟨c1, c2⟩ := Bool.and_eq_true_iff.mp c
    refine op_eqD hu pins s σ H x y v u Q I rx ry ⟨dx.py, dy.py, Den.dp _ _ (hx.den sz) (sh_pln c1), Den.dp _ _ (hy.den sz) (sh_pln c2), sh_shaped c1, sh_shaped c2, ?_⟩
    rw [eqv_py _ _ (sh_pln c1) (sh_pln c2)]
    exact f.ret sz (show cmpD .eq dx dy = _ from hne.trans (if_pos c)) (.bl _)
  · exact (f.no (show cmpD .eq dx dy = _ from hne.trans (if_neg c))).elim
theorem cmp_ne (hu : X.A.units + 64 < cLine) : OpR X (compareOp .NotEq) (R2D X.K ct (cmpD .ne)) := by
  intro pins s σ H x y v u Q I rx ry h
  obtain ⟨Z, dx, dy, sz, hx, hy, f⟩ := h
  by_cases c : (dx.sh && dy.sh) = true
  · obtain ⟨c1, c2⟩ := Bool.and_eq_true_iff.mp c
    refine op_neD hu pins s σ H x y v u Q I rx ry ⟨dx.py, dy.py, Den.dp _ _ (hx.den sz) (sh_pln c1), Den.dp _ _ (hy.den sz) (sh_pln c2), sh_shaped c1, sh_shaped c2, ?_⟩
    rw [eqv_py _ _ (sh_pln c1) (sh_pln c2)]
    exact f.ret sz (show cmpD .ne dx dy = _ from if_pos c) (.bl _)
  · exact (f.no (show cmpD .ne dx dy = _ from if_neg c)).elim
theorem cmp_lt : OpR X (compareOp .Lt) (R2D X.K ct (cmpD .lt)) := by
  intro pins s σ H x y v u Q I rx ry h
  obtain ⟨Z, dx, dy, sz, hx, hy, f⟩ := h
  cases dx with
  | int i => cases dy with
    | int j => exact op_lt pins s σ H _ _ v u Q I rx ry ⟨i, j, hx.int, hy.int, f.ret sz rfl (.bl _)⟩
    | _ => exact (f.no rfl).elim
  | str i => cases dy with
    | str j =>
      refine op_lt_str pins s σ H _ _ v u Q I rx ry ⟨_, _, hx.str, hy.str, ?_⟩
      exact f.ret sz rfl (.bl _)
    | _ => exact (f.no rfl).elim
  | _ => cases dy <;> exact (f.no rfl).elim
theorem cmp_le : OpR X (compareOp .LtE) (R2D X.K ct (cmpD .le)) := by
  intro pins s σ H x y v u Q I rx ry h
  obtain ⟨Z, dx, dy, sz, hx, hy, f⟩ := h
  cases dx with
  | int i => cases dy with
    | int j => exact op_le pins s σ H _ _ v u Q I rx ry ⟨i, j, hx.int, hy.int, f.ret sz rfl (.bl _)⟩
    | _ => exact (f.no rfl).elim
  | _ => cases dy <;> exact (f.no rfl).elim
theorem cmp_gt : OpR X (compareOp .Gt) (R2D X.K ct (cmpD .gt)) := by
  intro pins s σ H x y v u Q I rx ry h
  obtain ⟨Z, dx, dy, sz, hx, hy, f⟩ := h
  cases dx with
  | int i => cases dy with
    | int j => exact op_gt pins s σ H _ _ v u Q I rx ry ⟨i, j, hx.int, hy.int, f.ret sz rfl (.bl _)⟩
    | _ => exact (f.no rfl).elim
  | _ => cases dy <;> exact (f.no rfl).elim
theorem cmp_ge : OpR X (compareOp .GtE) (R2D X.K ct (cmpD .ge)) := by
  intro pins s σ H x y v u Q I rx ry h
  obtain ⟨Z, dx, dy, sz, hx, hy, f⟩ := h
  cases dx with
  | int i => cases dy with
    | int j => exact op_ge pins s σ H _ _ v u Q I rx ry ⟨i, j, hx.int, hy.int, f.ret sz rfl (.bl _)⟩
    | _ => exact (f.no rfl).elim
  | _ => cases dy <;> exact (f.no rfl).elim
theorem ShDen.nonB {K : PySem.W.Frag} {Z H : Hp} {v : V} {d : D} (h : ShDen K ct Z H v d) : decide (v = V.non) = (match d with | .non => true | _ => false) := by
  rcases h with h | ⟨a, rfl, _, o⟩
  · cases h <;> rfl
  · rcases o with ⟨_, _, rfl, _⟩ | ⟨_, _, rfl, _⟩ <;> rfl
theorem cmp_is : OpR X (compareOp .Is) (R2D X.K ct (cmpD .isN)) := by
  intro pins s σ H x y v u Q I rx ry h
  obtain ⟨Z, dx, dy, sz, hx, hy, f⟩ := h
  cases dy with
  | non =>
    refine op_isN pins s σ H _ _ v u Q I rx ry ⟨hy.non, ?_⟩
    rw [hx.nonB]
    exact f.ret sz (by cases dx <;> rfl) (.bl _)
  | _ => cases dx <;> exact (f.no rfl).elim
theorem cmp_isnot : OpR X (compareOp .IsNot) (R2D X.K ct (cmpD .notN)) := by
  intro pins s σ H x y v u Q I rx ry h
  obtain ⟨Z, dx, dy, sz, hx, hy, f⟩ := h
  cases dy with
  | non =>
    refine op_notN pins s σ H _ _ v u Q I rx ry ⟨hy.non, ?_⟩
    rw [hx.nonB]
    exact f.ret sz (by cases dx <;> rfl) (.bl _)
  | _ => cases dx <;> exact (f.no rfl).elim
def rInT (K : PySem.W.Frag) (neg : Bool) : R2 := fun x y H Q => ∃ d ds, Dp K H x d ∧ Dp K H y (.tuple ds) ∧ SeqAt.shaped d = true ∧ SeqAt.shaped (.tuple ds) = true ∧ Q (.bl (if neg then !ds.any (fun z => PyData.eqv z d) else ds.any fun z => PyData.eqv z d)) H
theorem op_inT (hu : X.A.units + 65 < cLine) : OpR X (compareOp .In) (rInT X.K false) := by
  intro pins s σ H x y v u Q I rx ry h
  obtain ⟨d, ds, hd, he, sd, se, q⟩ := h
  obtain ⟨as, r1⟩ := Dp.reads I d x v hd rx
  obtain ⟨bs, r2⟩ := Dp.reads I (.tuple ds) y u he ry
  exact SeqAt.in_tuple_reads r2 r1 (SeqAt.canLay_of_shaped se) (SeqAt.canLay_of_shaped sd) (room_in_shaped sd hu) ⟨.bl _, H, I, rfl, q⟩
theorem op_notInT (hu : X.A.units + 65 < cLine) : OpR X (compareOp .NotIn) (rInT X.K true) := by
  intro pins s σ H x y v u Q I rx ry h
  obtain ⟨d, ds, hd, he, sd, se, q⟩ := h
  obtain ⟨as, r1⟩ := Dp.reads I d x v hd rx
  obtain ⟨bs, r2⟩ := Dp.reads I (.tuple ds) y u he ry
  exact SeqAt.notIn_tuple_reads r2 r1 (SeqAt.canLay_of_shaped se) (SeqAt.canLay_of_shaped sd) (room_in_shaped sd hu) ⟨.bl _, H, I, rfl, q⟩
theorem den_flat {K : PySem.W.Frag} {Z H : Hp} {v : V} {d : D} (h : ShDen K ct Z H v d) (c : d.flat = true) : flatV v = true ∧ ∀ e w, Den K ct H w e → e.flat = true → eqV w v = eqD e d := by
  rcases h with h | ⟨a, rfl, _, o⟩
  · cases h <;> first | (cases c; done) | skip
    · exact ⟨rfl, fun e w hw ce => by cases hw <;> first | (cases ce; done) | rfl⟩
    · exact ⟨rfl, fun e w hw ce => by cases hw <;> first | (cases ce; done) | rfl⟩
    · exact ⟨rfl, fun e w hw ce => by cases hw <;> first | (cases ce; done) | rfl⟩
    · rename_i x
      refine ⟨rfl, fun e w hw ce => ?_⟩
      cases hw <;> first | (cases ce; done) | rfl | skip
      rename_i y
      have := str_beq y.cps.toList x.cps.toList
      simpa [eqV, eqD] using this
  · rcases o with ⟨_, _, rfl, _⟩ | ⟨_, _, rfl, _⟩ <;> cases c
theorem inV_flat {K : PySem.W.Frag} {Z H : Hp} {v : V} {d : D} (h : ShDen K ct Z H v d) (c : d.flat = true) : ∀ {ws : List V} {es : List D}, DenAll K ct H ws es → es.all D.flat = true → ws.all flatV = true ∧ inV v ws = anyEq d es
  | _, _, .nil, _ => ⟨rfl, rfl⟩
  | w :: ws, e :: es, .cons h1 h2, ce => by
    rw [List.all_cons, Bool.and_eq_true] at ce
    obtain ⟨i1, i2⟩ := inV_flat h c h2 ce.2
    have f1 := (den_flat (ct := ct) (Z := H) (H := H) (.inl h1) ce.1).1
    refine ⟨by rw [List.all_cons, f1, i1]; rfl, ?_⟩
    unfold inV anyEq at *
    rw [List.any_cons, List.any_cons, (den_flat h c).2 e w h1 ce.1, i2]
theorem any_py {d : D} (hd : d.pln = true) : ∀ {es : List D}, plnAll es = true → (pyAll es).any (fun z => PyData.eqv z d.py) = anyEq d es
  | [], _ => rfl
  | e :: es, h => by
    simp only [plnAll, Bool.and_eq_true] at h
    simp only [pyAll, List.any_cons, eqv_py _ _ h.1 hd]
    unfold anyEq
    rw [List.any_cons, any_py hd h.2]
    rfl
theorem DenK.val {K : PySem.W.Frag} {H : Hp} {k : Key} : ∀ {kvs : List (Key × V)} {ps : List (D × D)}, DenK K ct H kvs ps → (match valV kvs k with
    | some v => ∃ d, lookD (kD k) ps = some d ∧ Den K ct H v d
    | none => lookD (kD k) ps = none) ∧ (ps.any fun p => eqD p.1 (kD k)) = (valV kvs k).isSome
  | _, _, .nil => ⟨rfl, rfl⟩
  | (j, v) :: kvs, (_, d) :: ps, .cons h1 h2 => by
    have e : eqD (kD j) (kD k) = decide (j = k) := by
      cases j with
      | inl a => cases k with
        | inl b => rw [key_ll]; rfl
        | inr b => simp [kD, eqD]
      | inr a => cases k with
        | inl b => simp [kD, eqD]
        | inr b =>
          rw [key_rr]
          by_cases q : a = b
          · subst q; simp [kD, eqD]
          · have q2 : ¬ a.cps = b.cps := fun z => q (by cases a; cases b; simpa using z)
            simp [kD, eqD, q, q2]
    obtain ⟨i1, i2⟩ := DenK.val (k := k) h2
    by_cases q : j = k
    · have e1 : eqD (kD j) (kD k) = true := by rw [e]; exact decide_eq_true q
      rw [valV_pos (p := (j, v)) q]
      refine ⟨⟨d, ?_, h1⟩, ?_⟩
      · unfold lookD; rw [if_pos e1]
      · rw [List.any_cons, e1]; rfl
    · have e1 : eqD (kD j) (kD k) = false := by rw [e]; exact decide_eq_false q
      rw [valV_neg (p := (j, v)) q]
      refine ⟨?_, ?_⟩
      · have e2 : lookD (kD k) ((kD j, d) :: ps) = lookD (kD k) ps := by
          show (if eqD (kD j) (kD k) = true then _ else _) = _
          rw [if_neg (by rw [e1]; exact Bool.false_ne_true)]
        rw [e2]; exact i1
      · rw [List.any_cons, e1, i2]; rfl
theorem keyOk_is {k : D} {ps : List (D × D)} (h : keyOk k ps = true) : isStrKey k = true := by
  cases k <;> first | rfl | cases h
theorem key_den {K : PySem.W.Frag} {Z H : Hp} {v : V} {d : D} (h : ShDen K ct Z H v d) (c : isStrKey d = true) : ∃ k, v = kV k ∧ d = kD k := by
  cases d with
  | int i => exact ⟨.inl i, h.int, rfl⟩
  | str z => exact ⟨.inr ⟨z.toArray⟩, h.str, by simp [kD]⟩
  | _ => cases c
theorem dw_any {ps : List (List Nat × D)} {z : List Nat} : ((kdD ps).any fun p => eqD p.1 (.str z)) = (lookD (.str z) (kdD ps)).isSome := by
  induction ps with
  | nil => rfl
  | cons p ps ih =>
    show (eqD (.str p.1) (.str z) || ((kdD ps).any fun p => eqD p.1 (.str z))) = (if eqD (.str p.1) (.str z) = true then some p.2 else lookD (.str z) (kdD ps)).isSome
    cases e : eqD (.str p.1) (.str z) with
    | true => rfl
    | false => rw [ih]; rfl
theorem dw_int {ps : List (List Nat × D)} {i : Int} (ne : ps ≠ []) (c : keyOk (kD (.inl i)) (kdD ps) = true) : False := by
  cases ps with
  | nil => exact ne rfl
  | cons p ps => simp [keyOk, kD, kdD] at c
theorem dw_some {K : PySem.W.Frag} {ps : List (List Nat × D)} {z : List Nat} {r : Option Value} (hr : match lookD (.str z) (kdD ps) with
    | some d => ∃ u v, r = some u ∧ RelV v u ∧ ∀ H, Den K ct H v d
    | none => r = none) : r.isSome = (lookD (.str z) (kdD ps)).isSome := by
  cases q : lookD (.str z) (kdD ps) with
  | none => rw [q] at hr; rw [hr]; rfl
  | some d => rw [q] at hr; obtain ⟨u0, v0, r0, _⟩ := hr; rw [r0]; rfl
theorem cmp_in (hu : X.A.units + 65 < cLine) (kd : KdOk X.K X.w ct) : OpR X (compareOp .In) (R2D X.K ct (cmpD .isin)) := by
  intro pins s σ H x y v u Q I rx ry h
  obtain ⟨Z, dx, dy, sz, hx, hy, f⟩ := h
  cases dy with
  | str z => cases dx with
    | str i =>
      refine op_in_str pins s σ H _ _ v u Q I rx ry ⟨_, _, hx.str, hy.str, ?_⟩
      rw [strlen]
      exact f.ret sz rfl (.bl _)
    | _ => exact (f.no rfl).elim
  | lst ys =>
    by_cases c : (dx.sh && (D.lst ys).sh) = true
    · obtain ⟨c1, c2⟩ := Bool.and_eq_true_iff.mp c
      have p2 : plnAll ys = true := by have := sh_pln c2; simpa [pln] using this
      refine op_inD hu pins s σ H x y v u Q I rx ry ⟨dx.py, pyAll ys, Den.dp _ _ (hx.den sz) (sh_pln c1), Den.dp _ _ (hy.den sz) (sh_pln c2), sh_shaped c1, sh_shaped c2, ?_⟩
      rw [any_py (sh_pln c1) p2]
      exact f.ret sz (show cmpD .isin dx (.lst ys) = _ by cases dx <;> exact if_pos c) (.bl _)
    · exact (f.no (show cmpD .isin dx (.lst ys) = _ by cases dx <;> first | exact if_neg c | rfl)).elim
  | tup ys =>
    by_cases c : (dx.sh && (D.tup ys).sh) = true
    · obtain ⟨c1, c2⟩ := Bool.and_eq_true_iff.mp c
      have p2 : plnAll ys = true := by have := sh_pln c2; simpa [pln] using this
      refine op_inT hu pins s σ H x y v u Q I rx ry ⟨dx.py, pyAll ys, Den.dp _ _ (hx.den sz) (sh_pln c1), Den.dp _ _ (hy.den sz) (sh_pln c2), sh_shaped c1, sh_shaped c2, ?_⟩
      rw [any_py (sh_pln c1) p2]
      exact f.ret sz (show cmpD .isin dx (.tup ys) = _ by cases dx <;> exact if_pos c) (.bl _)
    · exact (f.no (show cmpD .isin dx (.tup ys) = _ by cases dx <;> first | exact if_neg c | rfl)).elim
  | dic ps =>
    by_cases c : keyOk dx ps = true
    · have e : cmpD .isin dx (.dic ps) = .ok (.bl (ps.any fun p => eqD p.1 dx)) := by cases dx <;> first | exact if_pos c | rfl
      obtain ⟨k, rfl, rfl⟩ := key_den hx (keyOk_is c)
      rcases hy.dic sz with ⟨a, kvs, rfl, h1, h2⟩ | ⟨a, qs, rfl, h1, rfl⟩
      · cases ry
        refine d_in (by omega) I (DGet.k h1) rx fun s' I' => ⟨.bl _, H, I', rfl, ?_⟩
        rw [← (DenK.val (k := k) h2).2]
        exact f.ret sz e (.bl _)
      · obtain ⟨ne, ⟨es, n, kD0⟩, look⟩ := kd a qs h1
        cases k with
        | inl i => exact (dw_int ne c).elim
        | inr z0 =>
          obtain ⟨r, er, hr⟩ := look z0.cps.toList
          refine op_in_kd kD0 pins s σ H _ _ v u Q I rx ry ⟨_, r, rfl, rfl, by simpa using er, ?_⟩
          rw [dw_some hr, ← dw_any]
          exact f.ret sz e (.bl _)
    · exact (f.no (show cmpD .isin dx (.dic ps) = _ by cases dx <;> first | exact if_neg c | rfl)).elim
  | _ => cases dx <;> exact (f.no rfl).elim
theorem cmp_notin (hu : X.A.units + 65 < cLine) (kd : KdOk X.K X.w ct) : OpR X (compareOp .NotIn) (R2D X.K ct (cmpD .notin)) := by
  intro pins s σ H x y v u Q I rx ry h
  obtain ⟨Z, dx, dy, sz, hx, hy, f⟩ := h
  cases dy with
  | str z => cases dx with
    | str i =>
      refine op_notin_str pins s σ H _ _ v u Q I rx ry ⟨_, _, hx.str, hy.str, ?_⟩
      rw [strlen]
      exact f.ret sz rfl (.bl _)
    | _ => exact (f.no rfl).elim
  | lst ys =>
    by_cases c : (dx.sh && (D.lst ys).sh) = true
    · obtain ⟨c1, c2⟩ := Bool.and_eq_true_iff.mp c
      have p2 : plnAll ys = true := by have := sh_pln c2; simpa [pln] using this
      refine op_notInD hu pins s σ H x y v u Q I rx ry ⟨dx.py, pyAll ys, Den.dp _ _ (hx.den sz) (sh_pln c1), Den.dp _ _ (hy.den sz) (sh_pln c2), sh_shaped c1, sh_shaped c2, ?_⟩
      rw [any_py (sh_pln c1) p2]
      exact f.ret sz (show cmpD .notin dx (.lst ys) = _ by cases dx <;> exact if_pos c) (.bl _)
    · exact (f.no (show cmpD .notin dx (.lst ys) = _ by cases dx <;> first | exact if_neg c | rfl)).elim
  | tup ys =>
    by_cases c : (dx.sh && (D.tup ys).sh) = true
    · obtain ⟨c1, c2⟩ := Bool.and_eq_true_iff.mp c
      have p2 : plnAll ys = true := by have := sh_pln c2; simpa [pln] using this
      refine op_notInT hu pins s σ H x y v u Q I rx ry ⟨dx.py, pyAll ys, Den.dp _ _ (hx.den sz) (sh_pln c1), Den.dp _ _ (hy.den sz) (sh_pln c2), sh_shaped c1, sh_shaped c2, ?_⟩
      rw [any_py (sh_pln c1) p2]
      exact f.ret sz (show cmpD .notin dx (.tup ys) = _ by cases dx <;> exact if_pos c) (.bl _)
    · exact (f.no (show cmpD .notin dx (.tup ys) = _ by cases dx <;> first | exact if_neg c | rfl)).elim
  | dic ps =>
    by_cases c : keyOk dx ps = true
    · have e : cmpD .notin dx (.dic ps) = .ok (.bl (!(ps.any fun p => eqD p.1 dx))) := by cases dx <;> first | exact if_pos c | rfl
      obtain ⟨k, rfl, rfl⟩ := key_den hx (keyOk_is c)
      rcases hy.dic sz with ⟨a, kvs, rfl, h1, h2⟩ | ⟨a, qs, rfl, h1, rfl⟩
      · cases ry
        refine d_notIn (by omega) I (DGet.k h1) rx fun s' I' => ⟨.bl _, H, I', rfl, ?_⟩
        rw [← (DenK.val (k := k) h2).2]
        exact f.ret sz e (.bl _)
      · obtain ⟨ne, ⟨es, n, kD0⟩, look⟩ := kd a qs h1
        cases k with
        | inl i => exact (dw_int ne c).elim
        | inr z0 =>
          obtain ⟨r, er, hr⟩ := look z0.cps.toList
          refine op_notIn_kd kD0 pins s σ H _ _ v u Q I rx ry ⟨_, r, rfl, rfl, by simpa using er, ?_⟩
          rw [dw_some hr, ← dw_any]
          exact f.ret sz e (.bl _)
    · exact (f.no (show cmpD .notin dx (.dic ps) = _ by cases dx <;> first | exact if_neg c | rfl)).elim
  | _ => cases dx <;> exact (f.no rfl).elim
theorem opr_cmp {op : CmpOp} {b : Co} (h : coOf op = some b) (hu : X.A.units + 65 < cLine) (kd : KdOk X.K X.w ct) : OpR X (compareOp op) (R2D X.K ct (cmpD b)) := by
  cases op <;> cases h <;> first | exact cmp_eq (by omega) | exact cmp_ne (by omega) | exact cmp_lt | exact cmp_le | exact cmp_gt | exact cmp_ge | exact cmp_is | exact cmp_isnot | exact cmp_in hu kd | exact cmp_notin hu kd
end
end Tk
/-! Subscripts, slices, built-in calls on values. -/
namespace Tk
open PySem PySem.Spec PyProof.Rows L2
open D
section
variable {X : Cx} {ct : CT}
theorem DenAll.ix {K : PySem.W.Frag} {H : Hp} {vs : List V} {ds : List D} {i : Int} {d : D} (h : DenAll K ct H vs ds) (e : atI ds i = some d) : ∃ v, atI vs i = some v ∧ Den K ct H v d := by
  unfold atI at e ⊢
  rw [h.length]
  cases q : ixN ds.length i with
  | none => rw [q] at e; cases e
  | some j =>
    rw [q] at e
    exact h.get e
theorem ix_dict (hu : X.A.units + 1 < cLine) : IxR X (fun x y H Q => ∃ a v, x = .ref a ∧ DGet H a y (some v) ∧ Q v H) := by
  intro value slice pins s σ H x y v u Q I rx ry h hs
  obtain ⟨a, w, rfl, g, q⟩ := h
  cases rx
  exact tail_any (dict_typeIs I g) PySem.F.slot_dict_getitem.lookup (d_getItem hu I g ry fun w' s' I' r' => ⟨w, H, I', r', q⟩) hs
theorem ixr (hu : X.A.units + 1 < cLine) (kd : KdOk X.K X.w ct) : IxR X (R2D X.K ct ixD) := by
  intro value slice pins s σ H x y v u Q I rx ry h hs
  obtain ⟨Z, dx, dy, sz, hx, hy, f⟩ := h
  cases dx with
  | lst ds => cases dy with
    | int i =>
      cases e : atI ds i with
      | none => exact (f.no (show (match atI ds i with | some d => Res.ok d | none => .bad) = _ by rw [e])).elim
      | some d =>
        obtain ⟨a, vs, rfl, h1, h2⟩ := hx.lst sz
        obtain ⟨w, e2, hd⟩ := h2.ix e
        exact ix_list value slice pins s σ H _ _ v u Q I rx ry ⟨a, vs, i, w, rfl, hy.int, .inl h1, e2, f.ret sz (show (match atI ds i with | some d => Res.ok d | none => .bad) = _ by rw [e]) hd⟩ hs
    | _ => exact (f.no rfl).elim
  | tup ds => cases dy with
    | int i =>
      cases e : atI ds i with
      | none => exact (f.no (show (match atI ds i with | some d => Res.ok d | none => .bad) = _ by rw [e])).elim
      | some d =>
        obtain ⟨a, vs, rfl, h1, h2⟩ := hx.tup sz
        obtain ⟨w, e2, hd⟩ := h2.ix e
        exact ix_tup value slice pins s σ H _ _ v u Q I rx ry ⟨a, vs, i, w, rfl, hy.int, h1, e2, f.ret sz (show (match atI ds i with | some d => Res.ok d | none => .bad) = _ by rw [e]) hd⟩ hs
    | _ => exact (f.no rfl).elim
  | scr ns => cases dy with
    | int i =>
      cases e : atI ns i with
      | none => exact (f.no (show (match atI ns i with | some d => Res.ok (D.int d) | none => .bad) = _ by rw [e])).elim
      | some d =>
        obtain ⟨a, rfl, h1⟩ := hx.scr
        have e2 : atI (ns.map V.int) i = some (.int d) := by
          unfold atI at e ⊢
          rw [List.length_map]
          cases q : ixN ns.length i with
          | none => rw [q] at e; cases e
          | some j =>
            rw [q] at e
            have e : ns[j]? = some d := e
            show (ns.map V.int)[j]? = _
            rw [List.getElem?_map, e]
            rfl
        exact ix_list value slice pins s σ H _ _ v u Q I rx ry ⟨a, _, i, _, rfl, hy.int, h1.imp (same_rd sz) id, e2, f.ret sz (show (match atI ns i with | some d => Res.ok (D.int d) | none => .bad) = _ by rw [e]) (.int _)⟩ hs
    | _ => exact (f.no rfl).elim
  | str z => cases dy with
    | int i =>
      by_cases c : okN z.length = true
      · have e0 : ixD (.str z) (.int i) = (match atI z i with | some c => .ok (.str [c]) | none => .bad) := if_pos c
        cases e : atI z i with
        | none => exact (f.no (by rw [e0, e])).elim
        | some d => exact ix_str value slice pins s σ H _ _ v u Q I rx ry ⟨_, i, d, hx.str, hy.int, by rw [strlen]; exact okN_le c, by simpa using e, f.ret sz (by rw [e0, e]) (den_str _ _ _ [d])⟩ hs
      · exact (f.no (show ixD (.str z) (.int i) = _ from if_neg c)).elim
    | _ => exact (f.no rfl).elim
  | dic ps =>
    by_cases c : keyOk dy ps = true
    · have e0 : ixD (.dic ps) dy = (match lookD dy ps with | some d => .ok d | none => .bad) := by cases dy <;> first | exact if_pos c | rfl
      obtain ⟨k, rfl, rfl⟩ := key_den hy (keyOk_is c)
      rcases hx.dic sz with ⟨a, kvs, rfl, h1, h2⟩ | ⟨a, qs, rfl, h1, rfl⟩
      · have z := (DenK.val (k := k) h2).1
        cases e : valV kvs k with
        | none =>
          rw [e] at z
          have z : lookD (kD k) ps = none := z
          exact (f.no (by rw [e0, z])).elim
        | some w =>
          rw [e] at z
          obtain ⟨d, z1, z2⟩ := z
          refine ix_dict hu value slice pins s σ H _ _ v u Q I rx ry ⟨a, w, rfl, ?_, f.ret sz (by rw [e0, z1]) z2⟩ hs
          rw [← e]
          exact DGet.k h1
      · obtain ⟨ne, ⟨es, n, kD0⟩, look⟩ := kd a qs h1
        cases k with
        | inl i => exact (dw_int ne c).elim
        | inr z0 =>
          obtain ⟨r, er, hr⟩ := look z0.cps.toList
          cases q : lookD (.str z0.cps.toList) (kdD qs) with
          | none => exact (f.no (by rw [e0]; show (match lookD (.str z0.cps.toList) (kdD qs) with | some d => Res.ok d | none => .bad) = _; rw [q])).elim
          | some d =>
            rw [q] at hr
            obtain ⟨u0, v0, r0, r1, r2⟩ := hr
            subst r0
            cases rx
            refine tail_any (kd_type kD0 I) PySem.F.slot_dict_getitem.lookup (op_item_kd kD0 pins s σ H (.ref a) _ _ u Q I (show RelV (.ref a) (.ref a) from rfl) ry ⟨z0, u0, v0, rfl, rfl, by simpa using er, r1, ?_⟩) hs
            exact f.ret sz (by rw [e0]; show (match lookD (.str z0.cps.toList) (kdD qs) with | some d => Res.ok d | none => .bad) = _; rw [q]) (r2 _)
    · exact (f.no (show ixD (.dic ps) dy = _ by cases dy <;> first | exact if_neg c | rfl)).elim
  | _ => exact (f.no (show ixD _ dy = _ by cases dy <;> rfl)).elim

theorem DenAll.cut {K : PySem.W.Frag} {H : Hp} {vs : List V} {ds : List D} (h : DenAll K ct H vs ds) (lo hi : Option Int) : DenAll K ct H (cutV vs lo hi) (cutL ds lo hi) := by
  unfold cutV cutL
  rw [h.length]
  exact (h.drop _).take _
theorem cutL_whole {α : Type} {ds : List α} {lo hi : Option Int} (h : HT.sIx ds.length 0 lo = 0 ∧ HT.sIx ds.length ds.length hi = ds.length) : cutL ds lo hi = ds := by
  unfold cutL
  rw [h.1, h.2]
  simp
def RSl (K : PySem.W.Frag) (ct : CT) : V → Option Int → Option Int → Hp → VK → Prop := fun x lo hi H Q => ∃ Z dx, Same Z H ∧ ShDen K ct Z H x dx ∧ Fin K ct Z H (slD dx lo hi) Q
theorem slr : SlR X (RSl X.K ct) := by
  intro pins s σ H x v vl vu lo hi sl Q I rx hs pl pu h
  obtain ⟨Z, dx, sz, hx, f⟩ := h
  cases dx with
  | lst ds =>
    obtain ⟨a, vs, rfl, h1, h2⟩ := hx.lst sz
    exact sl_list pins s σ H _ v vl vu lo hi sl Q I rx hs pl pu ⟨a, vs, rfl, .inl h1, f.newL sz rfl (h2.cut lo hi)⟩
  | tup ds =>
    obtain ⟨a, vs, rfl, h1, h2⟩ := hx.tup sz
    have hX : Den X.K ct Z (.ref a) (.tup ds) := by
      rcases hx with z | ⟨_, _, _, o⟩
      · exact z
      · rcases o with ⟨_, _, r, _⟩ | ⟨_, _, r, _⟩ <;> cases r
    refine sl_tupA pins s σ H _ v vl vu lo hi sl Q I rx hs pl pu ⟨a, vs, rfl, h1, fun w => ?_, fun _ => f.newT sz rfl (h2.cut lo hi)⟩
    rw [h2.length] at w
    exact f.ret sz (show Res.ok (D.tup (cutL ds lo hi)) = _ by rw [cutL_whole w]) hX
  | str z =>
    by_cases c : okN z.length = true
    · refine sl_str pins s σ H _ v vl vu lo hi sl Q I rx hs pl pu ⟨_, hx.str, by rw [strlen]; exact okN_le c, ?_⟩
      have e : cutS ⟨z.toArray⟩ lo hi = ⟨(cutL z lo hi).toArray⟩ := by
        unfold cutS cutL
        rw [strlen]
      rw [e]
      exact f.ret sz (show slD (.str z) lo hi = _ from if_pos c) (den_str _ _ _ _)
    · exact (f.no (show slD (.str z) lo hi = _ from if_neg c)).elim
  | _ => exact (f.no rfl).elim

/-! ### [::-1] -/
theorem rev_pick (xs : List Value) : ((List.range xs.length).filterMap fun (m : Nat) => xs.toArray[(((xs.length : Int) - 1) + (m : Int) * (-1)).toNat]?) = xs.reverse := by
  have h : ∀ (n : Nat) (hn : n ≤ xs.length), ((List.range n).filterMap fun (m : Nat) => xs.toArray[(((n : Int) - 1) + (m : Int) * (-1)).toNat]?) = (xs.take n).reverse := by
    intro n
    induction n with
    | zero => intro _; simp
    | succ n ih =>
      intro hn
      rw [List.range_succ_eq_map, List.filterMap_cons]
      have e0 : ((((n + 1 : Nat) : Int) - 1) + ((0 : Nat) : Int) * (-1)).toNat = n := by omega
      have g : xs.toArray[n]? = some xs[n] := by
        rw [List.getElem?_toArray, List.getElem?_eq_getElem (by omega)]
      rw [e0, g]
      show xs[n] :: _ = _
      rw [List.filterMap_map]
      have e1 : ((fun (m : Nat) => xs.toArray[((((n + 1 : Nat) : Int) - 1) + (m : Int) * (-1)).toNat]?) ∘ Nat.succ) = fun (m : Nat) => xs.toArray[(((n : Int) - 1) + (m : Int) * (-1)).toNat]? := by
        funext m
        have : ((((n + 1 : Nat) : Int) - 1) + ((m + 1 : Nat) : Int) * (-1)).toNat = (((n : Int) - 1) + (m : Int) * (-1)).toNat := by omega
        show xs.toArray[((((n + 1 : Nat) : Int) - 1) + ((m + 1 : Nat) : Int) * (-1)).toNat]? = _
        rw [this]
      rw [e1, ih (by omega), List.take_succ_eq_append_getElem (by omega), List.reverse_append]
      rfl
  have := h xs.length (Nat.le_refl _)
  simpa using this
theorem adjust_rev (n : Nat) : Builtin.Slice.sliceAdjust none none (-1) (n : Int) = ((n : Int) - 1, -1) := by
  unfold Builtin.Slice.sliceAdjust
  simp
theorem places_rev (n : Nat) : Builtin.Slice.slicePlaces ((n : Int) - 1) (-1) (-1) = n := by
  unfold Builtin.Slice.slicePlaces
  have h1 : ¬ ((-1 : Int) > 0) := by omega
  simp only [h1, if_false]
  have h2 : (- -1 : Int) = 1 := rfl
  rw [h2, Int.ediv_one]
  split <;> omega
theorem sliceApplied_rev {prog : Program} {w : World} {A : Around} {E : Value → Shared → Prop} {s : Shared} {sl : Addr} {vl vu vs : Value} {n : Nat} {Q : Int × Int × Nat → Shared → Prop} (hs : s.heap.IsSliceOf sl vl vu vs) (pl : IsPart vl none) (pu : IsPart vu none) (ps : IsPart vs (some (-1)))
    (h : Q ((n : Int) - 1, -1, n) s) : wpAny (model prog w) A (Builtin.Slice.sliceApplied (.ref sl) (pure (n : Int))) Q E s := by
  obtain ⟨os, hos, hcs, hds⟩ := id hs
  unfold Builtin.Slice.sliceApplied Builtin.Slice.sliceFields
  refine wpAny_bind (wpAny_bind (wpAny_field hos hds (x := vl) rfl (wpAny_bind (wpAny_field hos hds (x := vu) rfl (wpAny_bind (wpAny_field hos hds (x := vs) rfl (wpAny_pure ?_)))))))
  refine wpAny_bind (HT.slicePart_ ps ?_)
  show wpAny _ _ (if ((-1 : Int) == 0) = true then _ else _) _ _ s
  rw [if_neg (by decide)]
  refine wpAny_bind (HT.slicePart_ pl (wpAny_bind (HT.slicePart_ pu (wpAny_bind (wpAny_pure ?_)))))
  show wpAny _ _ (match Builtin.Slice.sliceAdjust none none (-1) (n : Int) with | (lo, hi) => pure (lo, (-1 : Int), Builtin.Slice.slicePlaces lo hi (-1))) _ _ s
  rw [adjust_rev n]
  show wpAny _ _ (pure ((n : Int) - 1, (-1 : Int), Builtin.Slice.slicePlaces ((n : Int) - 1) (-1) (-1))) _ _ s
  rw [places_rev]
  exact wpAny_pure h
theorem getItem_tuple_rev {prog : Program} {w : World} {A : Around} {E : Value → Shared → Prop} {s : Shared} {t sl : Addr} {its : List Value} {vl vu vs : Value} {Q : Value → Shared → Prop} (ht : IsTup s.heap t its.toArray) (hs : s.heap.IsSliceOf sl vl vu vs) (pl : IsPart vl none) (pu : IsPart vu none) (ps : IsPart vs (some (-1)))
    (h : Q (.ref s.heap.objs.size) { s with heap := s.heap.push { cls := .type "tuple", data := .seq its.reverse.toArray } })
    (hsz : its.length ≤ sizeLine) : wpAny (model prog w) A (getItem (.ref t) (.ref sl)) Q E s := by
  have htake : sizeOk (.seq its.reverse.toArray) := by
    show its.reverse.toArray.size ≤ sizeLine
    rw [List.size_toArray, List.length_reverse]
    exact hsz
  obtain ⟨os, hos, hcs, hds⟩ := id hs
  have hTs : s.TypeIs (.ref sl) "slice" := ⟨os, hos, hcs⟩
  unfold getItem
  try with_reducible refine wpAny_holding ?_
  first | refine wpAny_bind (wpAny_pure ?_) | skip
  refine wpAny_bind (wpAny_sequenceKey ht.typeIs (by decide) ?_)
  refine wpAny_bind (wpAny_callSpecial?_slot (name := Str.ofString "__getitem__") ht.typeIs PyProof.Rows.slot_tuple_getitem
    (wpAny_call_entry PyProof.Rows.slot_tuple_getitem ht.typeIs entry_tuple_getitem ?_ (args_tuple_getitem _ _)))
  show wpAny _ _ (Builtin.Tuple.tupleItemsOf (.ref t) >>= _) _ _ s
  refine wpAny_bind (tupleItemsOf_ ht ?_)
  refine wpAny_bind (wpAny_typeOf hTs ?_)
  rw [if_pos (by decide)]
  have e0 : (its.toArray.size : Int) = (its.length : Int) := by rw [List.size_toArray]
  refine wpAny_bind (sliceApplied_rev hs pl pu ps ?_)
  have hno : ¬ ((((its.toArray.size : Int) - 1) == 0 && (-1 : Int) == 1 && its.toArray.size == its.toArray.size) = true) := by
    intro q
    rw [Bool.and_eq_true, Bool.and_eq_true] at q
    exact absurd q.1.2 (by decide)
  show wpAny _ _ (if (((its.toArray.size : Int) - 1) == 0 && (-1 : Int) == 1 && its.toArray.size == its.toArray.size) = true then _ else _) _ _ s
  rw [if_neg hno]
  have epick : ((List.range its.toArray.size).filterMap fun (m : Nat) => its.toArray[(((its.toArray.size : Int) - 1) + (m : Int) * (-1)).toNat]?).toArray = its.reverse.toArray := by
    rw [List.size_toArray, rev_pick]
  rw [epick]
  first
    | exact wpAny_bind (m := Builtin.Tuple.tupleExact _) (wpAny_newObj_type (wpAny_pure ⟨_, rfl, wpAny_pure h⟩) htake)
    | exact wpAny_bind (m := Builtin.Tuple.tupleExact _) (wpAny_newObj_type (wpAny_bind (wpAny_pure (wpAny_pure ⟨_, rfl, wpAny_pure h⟩))) htake)
    | exact wpAny_bind (wpAny_bind (m := Builtin.Tuple.tupleExact _) (wpAny_newObj_type (wpAny_pure (wpAny_pure ⟨_, rfl, wpAny_pure h⟩)) htake))
    | exact wpAny_bind (wpAny_bind (m := Builtin.Tuple.tupleExact _) (wpAny_newObj_type (wpAny_pure ⟨_, rfl, wpAny_pure h⟩) htake))
end
end Tk
/-! Built-in calls on values. -/
namespace Tk
open PySem PySem.Spec PyProof.Rows L2
open D
inductive ShAll (K : PySem.W.Frag) (ct : CT) (Z H : Hp) : List V → List D → Prop
  | nil : ShAll K ct Z H [] []
  | cons {v : V} {vs : List V} {d : D} {ds : List D} : ShDen K ct Z H v d → ShAll K ct Z H vs ds → ShAll K ct Z H (v :: vs) (d :: ds)
def RBi (K : PySem.W.Frag) (ct : CT) (b : Bi) : List V → Hp → VK → Prop := fun xs H Q => ∃ Z ds, Same Z H ∧ ShAll K ct Z H xs ds ∧ Fin K ct Z H (biD b ds) Q
section
variable {X : Cx} {ct : CT}
theorem sh1 {K : PySem.W.Frag} {Z H : Hp} {xs : List V} {d : D} (h : ShAll K ct Z H xs [d]) : ∃ v, xs = [v] ∧ ShDen K ct Z H v d := by
  cases h with
  | cons h1 h2 => cases h2; exact ⟨_, rfl, h1⟩
theorem bi_one {b : Bi} {K : PySem.W.Frag} {H : Hp} {Q : VK} {xs : List V} (hb : ∀ ds, (∀ d, ds ≠ [d]) → biD b ds = .bad) (h : RBi K ct b xs H Q) : ∃ Z d v, Same Z H ∧ xs = [v] ∧ ShDen K ct Z H v d ∧ Fin K ct Z H (biD b [d]) Q := by
  obtain ⟨Z, ds, sz, hs, f⟩ := h
  by_cases q : ∃ d, ds = [d]
  · obtain ⟨d, rfl⟩ := q
    obtain ⟨v, rfl, hv⟩ := sh1 hs
    exact ⟨Z, d, v, sz, rfl, hv, f⟩
  · exact (f.no (hb ds fun d e => q ⟨d, e⟩)).elim
theorem DenK.length {K : PySem.W.Frag} {H : Hp} : ∀ {kvs : List (Key × V)} {ps : List (D × D)}, DenK K ct H kvs ps → kvs.length = ps.length
  | _, _, .nil => rfl
  | _, _, .cons _ h => by simp [DenK.length h]
theorem bi_len : CallR X (.builtin "len") (RBi X.K ct .len) := by
  intro pins s σ H xs us Q I r h
  obtain ⟨Z, d, v, sz, rfl, hv, f⟩ := bi_one (fun ds hd => by
    cases ds with
    | nil => rfl
    | cons d r => cases r with
      | nil => exact absurd rfl (hd d)
      | cons _ _ => cases d <;> rfl) h
  cases d with
  | lst ds =>
    obtain ⟨a, vs, rfl, h1, h2⟩ := hv.lst sz
    refine call_len_seq pins s σ H _ us Q I r ⟨a, vs, rfl, .inl (.inl h1), ?_⟩
    rw [h2.length]
    exact f.ret sz rfl (.int _)
  | tup ds =>
    obtain ⟨a, vs, rfl, h1, h2⟩ := hv.tup sz
    refine call_len_seq pins s σ H _ us Q I r ⟨a, vs, rfl, .inr h1, ?_⟩
    rw [h2.length]
    exact f.ret sz rfl (.int _)
  | scr ns =>
    obtain ⟨a, rfl, h1⟩ := hv.scr
    refine call_len_seq pins s σ H _ us Q I r ⟨a, _, rfl, .inl (h1.imp (same_rd sz) id), ?_⟩
    rw [List.length_map]
    exact f.ret sz rfl (.int _)
  | str z =>
    by_cases c : okN z.length = true
    · refine call_len_str pins s σ H _ us Q I r ⟨_, by rw [hv.str], by rw [strlen]; exact okN_le c, ?_⟩
      rw [strlen]
      exact f.ret sz (show biD .len [.str z] = _ from if_pos c) (.int _)
    · exact (f.no (show biD .len [.str z] = _ from if_neg c)).elim
  | _ => exact (f.no rfl).elim
theorem bi_int : CallR X (.type "int") (RBi X.K ct .int) := by
  intro pins s σ H xs us Q I r h
  obtain ⟨Z, d, v, sz, rfl, hv, f⟩ := bi_one (fun ds hd => by
    cases ds with
    | nil => rfl
    | cons d r => cases r with
      | nil => exact absurd rfl (hd d)
      | cons _ _ => cases d <;> rfl) h
  cases d with
  | int i => exact call_int1 pins s σ H _ us Q I r (.inl ⟨i, by rw [hv.int], f.ret sz rfl (.int _)⟩)
  | bl i => exact call_int1 pins s σ H _ us Q I r (.inr ⟨i, by rw [hv.bl], f.ret sz rfl (.int _)⟩)
  | _ => exact (f.no rfl).elim
theorem den_of_tup {K : PySem.W.Frag} {Z H : Hp} {v : V} {ds : List D} (hx : ShDen K ct Z H v (.tup ds)) : Den K ct Z v (.tup ds) := by
  rcases hx with z | ⟨_, _, _, o⟩
  · exact z
  · rcases o with ⟨_, _, r, _⟩ | ⟨_, _, r, _⟩ <;> cases r
theorem bi_tuple : CallR X (.type "tuple") (RBi X.K ct .tuple) := by
  intro pins s σ H xs us Q I r h
  obtain ⟨Z, d, v, sz, rfl, hv, f⟩ := bi_one (fun ds hd => by
    cases ds with
    | nil => rfl
    | cons d r => cases r with
      | nil => exact absurd rfl (hd d)
      | cons _ _ => cases d <;> rfl) h
  cases d with
  | lst ds =>
    obtain ⟨a, vs, rfl, h1, h2⟩ := hv.lst sz
    exact call_tuple_of pins s σ H _ us Q I r ⟨a, vs, rfl, .inl ⟨.inl h1, f.newT sz rfl h2⟩⟩
  | tup ds =>
    obtain ⟨a, vs, rfl, h1, h2⟩ := hv.tup sz
    exact call_tuple_of pins s σ H _ us Q I r ⟨a, vs, rfl, .inr ⟨h1, f.ret sz rfl (den_of_tup hv)⟩⟩
  | _ => exact (f.no rfl).elim
theorem bi_list : CallR X (.type "list") (RBi X.K ct .list) := by
  intro pins s σ H xs us Q I r h
  obtain ⟨Z, d, v, sz, rfl, hv, f⟩ := bi_one (fun ds hd => by
    cases ds with
    | nil => rfl
    | cons d r => cases r with
      | nil => exact absurd rfl (hd d)
      | cons _ _ => cases d <;> rfl) h
  cases d with
  | lst ds =>
    obtain ⟨a, vs, rfl, h1, h2⟩ := hv.lst sz
    exact call_list_of pins s σ H _ us Q I r ⟨a, vs, rfl, .inl (.inl h1), f.newL sz rfl h2⟩
  | tup ds =>
    obtain ⟨a, vs, rfl, h1, h2⟩ := hv.tup sz
    exact call_list_of pins s σ H _ us Q I r ⟨a, vs, rfl, .inr h1, f.newL sz rfl h2⟩
  | _ => exact (f.no rfl).elim
theorem den_intsO {K : PySem.W.Frag} {H : Hp} : ∀ {vs : List V} {ds : List D} {ns : List Int}, DenAll K ct H vs ds → intsO ds = some ns → vs = ns.map V.int
  | _, _, ns, .nil, e => by cases e; rfl
  | _ :: _, _ :: ds, ns, .cons h1 h2, e => by
    cases h1 <;> first | (cases e; done) | skip
    rename_i i
    simp only [intsO] at e
    cases q : intsO ds with
    | none => rw [q] at e; cases e
    | some ms =>
      rw [q] at e
      have e : i :: ms = ns := Option.some.inj e
      subst e
      rw [den_intsO h2 q]
      rfl
theorem den_blsO {K : PySem.W.Frag} {H : Hp} : ∀ {vs : List V} {ds : List D} {ns : List Bool}, DenAll K ct H vs ds → blsO ds = some ns → vs = ns.map V.bl
  | _, _, ns, .nil, e => by cases e; rfl
  | _ :: _, _ :: ds, ns, .cons h1 h2, e => by
    cases h1 <;> first | (cases e; done) | skip
    rename_i i
    simp only [blsO] at e
    cases q : blsO ds with
    | none => rw [q] at e; cases e
    | some ms =>
      rw [q] at e
      have e : i :: ms = ns := Option.some.inj e
      subst e
      rw [den_blsO h2 q]
      rfl
theorem den_strsO {K : PySem.W.Frag} {H : Hp} : ∀ {vs : List V} {ds : List D} {ns : List (List Nat)}, DenAll K ct H vs ds → strsO ds = some ns → vs = (ns.map fun z => (⟨z.toArray⟩ : Str)).map V.str
  | _, _, ns, .nil, e => by cases e; rfl
  | _ :: _, _ :: ds, ns, .cons h1 h2, e => by
    cases h1 <;> first | (cases e; done) | skip
    rename_i i
    simp only [strsO] at e
    cases q : strsO ds with
    | none => rw [q] at e; cases e
    | some ms =>
      rw [q] at e
      have e : i.cps.toList :: ms = ns := Option.some.inj e
      subst e
      rw [den_strsO h2 q]
      simp
theorem bi_sum (hc : X.calm = true) : CallR X (.builtin "sum") (RBi X.K ct .sum) := by
  intro pins s σ H xs us Q I r h
  obtain ⟨Z, d, v, sz, rfl, hv, f⟩ := bi_one (fun ds hd => by
    cases ds with
    | nil => rfl
    | cons d r => cases r with
      | nil => exact absurd rfl (hd d)
      | cons _ _ => cases d <;> rfl) h
  cases d with
  | lst ds =>
    obtain ⟨a, vs, rfl, h1, h2⟩ := hv.lst sz
    cases e : intsO ds with
    | none => exact (f.no (show (match intsO ds with | some ns => Res.ok (D.int ns.sum) | none => .bad) = _ by rw [e])).elim
    | some ns => exact cr_sum hc pins s σ H _ us Q I r ⟨a, ns, rfl, by rw [← den_intsO h2 e]; exact .inl h1, f.ret sz (show (match intsO ds with | some ns => Res.ok (D.int ns.sum) | none => .bad) = _ by rw [e]) (.int _)⟩
  | _ => exact (f.no rfl).elim
theorem foldl_max : ∀ (r : List Int) (n : Int), (r.foldl max n = n ∨ r.foldl max n ∈ r) ∧ n ≤ r.foldl max n ∧ ∀ y ∈ r, y ≤ r.foldl max n
  | [], n => ⟨.inl rfl, Int.le_refl _, fun y hy => by cases hy⟩
  | a :: r, n => by
    obtain ⟨h1, h2, h3⟩ := foldl_max r (max n a)
    refine ⟨?_, ?_, ?_⟩
    · rcases h1 with h1 | h1
      · by_cases c : n ≤ a
        · right
          show r.foldl max (max n a) ∈ a :: r
          rw [h1, Int.max_eq_right c]
          exact List.mem_cons_self
        · left
          show r.foldl max (max n a) = n
          rw [h1, Int.max_eq_left (by omega)]
      · right
        exact List.mem_cons_of_mem _ h1
    · exact Int.le_trans (Int.le_max_left n a) h2
    · intro y hy
      rcases List.mem_cons.mp hy with rfl | hy
      · exact Int.le_trans (Int.le_max_right n y) h2
      · exact h3 y hy
theorem bi_max (hc : X.calm = true) : CallR X (.builtin "max") (RBi X.K ct .max1) := by
  intro pins s σ H xs us Q I r h
  obtain ⟨Z, d, v, sz, rfl, hv, f⟩ := bi_one (fun ds hd => by
    cases ds with
    | nil => rfl
    | cons d r => cases r with
      | nil => exact absurd rfl (hd d)
      | cons _ _ => cases d <;> rfl) h
  cases d with
  | lst ds =>
    obtain ⟨a, vs, rfl, h1, h2⟩ := hv.lst sz
    cases e : intsO ds with
    | none => exact (f.no (show (match intsO ds with | some ns => (match ns with | n :: r => Res.ok (D.int (r.foldl max n)) | [] => .bad) | none => .bad) = _ by rw [e])).elim
    | some ns =>
      cases ns with
      | nil => exact (f.no (show (match intsO ds with | some ns => (match ns with | n :: r => Res.ok (D.int (r.foldl max n)) | [] => .bad) | none => .bad) = _ by rw [e])).elim
      | cons n r =>
        refine cr_max hc pins s σ H _ us Q I ‹_› ⟨a, n :: r, rfl, by rw [← den_intsO h2 e]; exact .inl h1, by simp, fun m hm hmax => ?_⟩
        obtain ⟨g1, g2, g3⟩ := foldl_max r n
        have em : m = r.foldl max n := by
          apply Int.le_antisymm
          · rcases List.mem_cons.mp hm with rfl | hm
            · exact g2
            · exact g3 m hm
          · rcases g1 with g1 | g1
            · rw [g1]; exact hmax n List.mem_cons_self
            · exact hmax _ (List.mem_cons_of_mem _ g1)
        subst em
        exact f.ret sz (show (match intsO ds with | some ns => (match ns with | n :: r => Res.ok (D.int (r.foldl max n)) | [] => .bad) | none => .bad) = _ by rw [e]) (.int _)
  | _ => exact (f.no rfl).elim
theorem bi_any (hc : X.calm = true) : CallR X (.builtin "any") (RBi X.K ct .any) := by
  intro pins s σ H xs us Q I r h
  obtain ⟨Z, d, v, sz, rfl, hv, f⟩ := bi_one (fun ds hd => by
    cases ds with
    | nil => rfl
    | cons d r => cases r with
      | nil => exact absurd rfl (hd d)
      | cons _ _ => cases d <;> rfl) h
  cases d with
  | lst ds =>
    obtain ⟨a, vs, rfl, h1, h2⟩ := hv.lst sz
    cases e : blsO ds with
    | none => exact (f.no (show (match blsO ds with | some bs => Res.ok (D.bl (bs.any id)) | none => .bad) = _ by rw [e])).elim
    | some ns => exact cr_any hc pins s σ H _ us Q I r ⟨a, ns, rfl, by rw [← den_blsO h2 e]; exact .inl h1, f.ret sz (show (match blsO ds with | some bs => Res.ok (D.bl (bs.any id)) | none => .bad) = _ by rw [e]) (.bl _)⟩
  | _ => exact (f.no rfl).elim
theorem bi_all (hc : X.calm = true) : CallR X (.builtin "all") (RBi X.K ct .all) := by
  intro pins s σ H xs us Q I r h
  obtain ⟨Z, d, v, sz, rfl, hv, f⟩ := bi_one (fun ds hd => by
    cases ds with
    | nil => rfl
    | cons d r => cases r with
      | nil => exact absurd rfl (hd d)
      | cons _ _ => cases d <;> rfl) h
  cases d with
  | lst ds =>
    obtain ⟨a, vs, rfl, h1, h2⟩ := hv.lst sz
    cases e : blsO ds with
    | none => exact (f.no (show (match blsO ds with | some bs => Res.ok (D.bl (bs.all id)) | none => .bad) = _ by rw [e])).elim
    | some ns => exact cr_all hc pins s σ H _ us Q I r ⟨a, ns, rfl, by rw [← den_blsO h2 e]; exact .inl h1, f.ret sz (show (match blsO ds with | some bs => Res.ok (D.bl (bs.all id)) | none => .bad) = _ by rw [e]) (.bl _)⟩
  | _ => exact (f.no rfl).elim
theorem bi_str1 : CallR X (.type "str") (RBi X.K ct .str1) := by
  intro pins s σ H xs us Q I r h
  obtain ⟨Z, d, v, sz, rfl, hv, f⟩ := bi_one (fun ds hd => by
    cases ds with
    | nil => rfl
    | cons d r => cases r with
      | nil => exact absurd rfl (hd d)
      | cons _ _ => cases d <;> rfl) h
  cases d with
  | int i =>
    by_cases c : decide (i.natAbs.log2 < 1920) = true
    · exact call_str_int pins s σ H _ us Q I r ⟨i, by rw [hv.int], of_decide_eq_true c, f.ret sz (show biD .str1 [.int i] = _ from if_pos c) (.str _)⟩
    · exact (f.no (show biD .str1 [.int i] = _ from if_neg c)).elim
  | bl b =>
    obtain ⟨u, rfl, r1⟩ := vals1 r
    rw [hv.bl] at r1
    cases r1
    refine P.str_of_bool ⟨.str _, H, I.tok _, ⟨_, rfl⟩, ?_⟩
    exact f.ret sz rfl (by
      cases b
      · exact Den.str ("False" : Str)
      · exact Den.str ("True" : Str))
  | _ => exact (f.no rfl).elim
/-- the type of a value -/
def tyN : D → Option String
  | .non => some "NoneType"
  | .bl _ => some "bool"
  | .int _ => some "int"
  | .str _ => some "str"
  | .tup _ => some "tuple"
  | .lst _ => some "list"
  | _ => none
theorem ty_of {K : PySem.W.Frag} {Z H : Hp} {v : V} {d : D} {T : String} (h : ShDen K ct Z H v d) (sz : Same Z H) (e : tyN d = some T) : TyX K H v (.type T) := by
  cases d with
  | non => cases e; rw [h.non]; exact .base .non
  | bl b => cases e; rw [h.bl]; exact .base (.bl b)
  | int b => cases e; rw [h.int]; exact .base (.int b)
  | str b => cases e; rw [h.str]; exact .base (.str _)
  | tup ds =>
    cases e
    obtain ⟨a, vs, rfl, h1, h2⟩ := h.tup sz
    rcases h1 with (h1 | ⟨o, h1⟩) | ⟨o, _, _, h1, h3, _⟩
    · exact .base (.tup h1)
    · exact .fTuple h1
    · exact .kTuple h1 h3
  | lst ds =>
    cases e
    obtain ⟨a, vs, rfl, h1, h2⟩ := h.lst sz
    rcases h1 with h1 | ⟨o, h1⟩
    · exact .base (.lst h1)
    · exact .base (.frz h1)
  | _ => cases e
def isiN : Nat → String
  | 0 => "str"
  | 1 => "int"
  | 2 => "bool"
  | 3 => "tuple"
  | _ => "list"
theorem kitB_all : ∀ (t : Nat), t < 5 → ∀ (d : D) (T : String) (b : Bool), tyN d = some T → isiD t d = .ok (.bl b) → kitB T (isiN t) = some b := by
  have key : ∀ t, t < 5 → kitB "NoneType" (isiN t) = some false ∧ kitB "bool" (isiN t) = some (t == 1 || t == 2) ∧ kitB "int" (isiN t) = some (t == 1) ∧ kitB "str" (isiN t) = some (t == 0) ∧ kitB "tuple" (isiN t) = some (t == 3) ∧ kitB "list" (isiN t) = some (t == 4) := by
    intro t ht
    have : t = 0 ∨ t = 1 ∨ t = 2 ∨ t = 3 ∨ t = 4 := by omega
    rcases this with rfl | rfl | rfl | rfl | rfl <;> decide +kernel
  intro t ht d T b e h
  obtain ⟨k0, k1, k2, k3, k4, k5⟩ := key t ht
  cases d <;> cases e <;> simp only [isiD, if_pos ht, Res.ok.injEq, D.bl.injEq] at h <;> subst h <;> assumption
theorem isiD_lt {t : Nat} {d : D} {r : D} (h : isiD t d = .ok r) : t < 5 ∧ ∃ b T, r = .bl b ∧ tyN d = some T := by
  by_cases c : t < 5
  · refine ⟨c, ?_⟩
    cases d <;> simp only [isiD, if_pos c, Res.ok.injEq] at h <;> first | exact ⟨_, _, h.symm, rfl⟩ | cases h
  · cases d <;> simp only [isiD, if_neg c] at h <;> cases h
theorem bi_isi {t : Nat} : CallR X (.builtin "isinstance") (fun xs H Q => ∃ v, xs = [v, .ty (isiN t)] ∧ RBi X.K ct (.isi t) [v] H Q) := by
  intro pins s σ H xs us Q I r h
  obtain ⟨v0, rfl, h⟩ := h
  obtain ⟨Z, ds, sz, hs, f⟩ := h
  cases hs with
  | cons h1 h2 =>
    cases h2
    rename_i d
    cases e : isiD t d with
    | ok r0 =>
      obtain ⟨c, b, T, rfl, hT⟩ := isiD_lt e
      exact call_isi pins s σ H _ us Q I r ⟨_, _, _, _, b, rfl, .ty _, ty_of h1 sz hT, kit_ty (kitB_all t c d T b hT e), f.ret sz (show isiD t d = _ from e) (.bl _)⟩
    | exc c =>
      have f : Fin X.K ct Z H (isiD t d) Q := f
      rw [e] at f
      exact (show False from f).elim
    | bad =>
      have f : Fin X.K ct Z H (isiD t d) Q := f
      rw [e] at f
      exact (show False from f).elim
theorem join0 : ∀ (zs : List (List Nat)), (Txt.join ⟨#[]⟩ (zs.map fun z => (⟨z.toArray⟩ : Str))) = ⟨zs.flatten.toArray⟩ := by
  intro zs
  show Builtin.Str.glued _ _ = _
  rw [StrLaws.glued_eq_join]
  induction zs with
  | nil => rfl
  | cons z r ih =>
    cases r with
    | nil => simp [Str.join]
    | cons y r =>
      have e : Str.join ⟨#[]⟩ ((z :: y :: r).map fun z => (⟨z.toArray⟩ : Str)) = (⟨z.toArray⟩ : Str) ++ (⟨#[]⟩ : Str) ++ Str.join ⟨#[]⟩ ((y :: r).map fun z => (⟨z.toArray⟩ : Str)) := by
        simp [Str.join]
      rw [e, ih]
      have e2 : ((⟨z.toArray⟩ : Str) ++ (⟨#[]⟩ : Str)) = ⟨z.toArray⟩ := by
        have := strapp z []
        simpa using this
      rw [e2, strapp]
      simp
theorem bi_join : MtR X "str.join" (fun x xs H Q => RBi X.K ct .join (x :: xs) H Q) := by
  intro pins s σ H x xs v us Q I rx rs h
  obtain ⟨Z, ds, sz, hs, f⟩ := h
  cases hs with
  | cons h1 h2 =>
    rename_i d ds
    cases d with
    | str sep =>
      cases sep with
      | cons _ _ => exact (f.no (by cases ds <;> rfl)).elim
      | nil =>
        cases h2 with
        | nil => exact (f.no rfl).elim
        | cons h3 h4 =>
          rename_i y ys e es
          cases h4 with
          | cons _ _ => exact (f.no (by cases e <;> rfl)).elim
          | nil =>
            cases e with
            | lst ws =>
              obtain ⟨a, vs, rfl, q1, q2⟩ := h3.lst sz
              cases e : strsO ws with
              | none => exact (f.no (show (match strsO ws with | some zs => if okN zs.flatten.length then Res.ok (D.str zs.flatten) else .bad | none => .bad) = _ by rw [e])).elim
              | some zs =>
                have e0 : biD .join [.str [], .lst ws] = if okN zs.flatten.length then Res.ok (D.str zs.flatten) else .bad := by
                  show (match strsO ws with | some zs => if okN zs.flatten.length then Res.ok (D.str zs.flatten) else .bad | none => .bad) = _
                  rw [e]
                by_cases c : okN zs.flatten.length = true
                · refine mt_join pins s σ H _ _ v us Q I rx rs ⟨_, a, zs.map fun z => (⟨z.toArray⟩ : Str), h1.str, rfl, .inl (by rw [← den_strsO q2 e]; exact .inl q1), ?_, ?_⟩
                  · have e1 : ((zs.map fun z => (⟨z.toArray⟩ : Str)).map (·.length)).sum = zs.flatten.length := by
                      rw [List.map_map, List.length_flatten]
                      have e3 : (Str.length ∘ fun z : List Nat => (⟨z.toArray⟩ : Str)) = List.length := funext fun z => strlen z
                      rw [e3]
                    rw [e1]
                    have := of_decide_eq_true c
                    unfold big at this
                    show zs.flatten.length + _ * (⟨#[]⟩ : Str).length ≤ 16777216
                    have e2 : (⟨#[]⟩ : Str).length = 0 := rfl
                    rw [e2]
                    first | omega | (rw [Nat.mul_zero]; omega)
                  · show Q (.str (Txt.join ⟨#[]⟩ _)) H
                    rw [join0]
                    exact f.ret sz (by rw [e0, if_pos c]) (den_str _ _ _ _)
                · exact (f.no (by rw [e0, if_neg c])).elim
            | _ => exact (f.no rfl).elim
    | _ => exact (f.no (by cases ds <;> rfl)).elim
end
end Tk
/-! A call leaves what it does not see; what a def promises over data. -/
namespace Tk
open PySem PySem.Spec PyProof.Rows L2
open D
section
variable {P : Program} {w : World} {Z H H1 : Hp}
theorem Dif.at (d : Dif Z H) (s : Same Z H) {b : Addr} {o : HO} (h : H b = some o) (n1 : ∀ xs, o ≠ .lst xs) (n2 : ∀ kvs, o ≠ .dK kvs) : Z b = some o := by
  cases q : Z b with
  | none =>
    rcases d b o h q with ⟨xs, e⟩ | ⟨kvs, e⟩
    · exact absurd e (n1 xs)
    · exact absurd e (n2 kvs)
  | some u =>
    have := s b u q
    rw [h] at this
    exact this.symm
theorem HOk.forget {h : Heap} (x : HOk P w H h) (s : Same Z H) (d : Dif Z H) : HOk P w Z h := fun a o e =>
  (x a o (s a o e)).stay (fun b u _ q => q) (fun b q => d.at s q (fun _ z => nomatch z) fun _ z => nomatch z) fun b xs q => d.at s q (fun _ z => nomatch z) fun _ z => nomatch z
/-- the two parts put together -/
def comb (H H1 : Hp) : Hp := fun b => match H1 b with
  | some o => some o
  | none => H b
theorem comb_l {H H1 : Hp} : Same H1 (comb H H1) := fun b o e => by
  unfold comb
  rw [e]
theorem comb_n {H H1 : Hp} {b : Addr} (h : H1 b = none) : comb H H1 b = H b := by
  unfold comb
  rw [h]
/-- H1 stands over Z; what was in H outside of Z is not in H1 -/
theorem comb_ext (s : Same Z H) (z : Same Z H1) (fr : ∀ b o, H b = some o → Z b = none → H1 b = none) : Ext Z H H1 (comb H H1) := by
  have kp : ∀ b o, H b = some o → H1 b = Z b := fun b o e => by
    cases q : Z b with
    | none => exact fr b o e q
    | some u => exact z b u q
  refine ⟨fun b o e => ?_, z, comb_l, kp, fun b h n => by rw [comb_n n]; exact h⟩
  cases q : Z b with
  | none => rw [comb_n (fr b o e q)]; exact e
  | some u =>
    have := s b u q
    rw [e] at this
    cases this
    exact comb_l b o (z b o q)
theorem HOk.comb {h h' : Heap} (x : HOk P w H h) (y : HOk P w H1 h') (s : Same Z H) (z : Same Z H1) (d : Dif Z H) (kp : ∀ b o ob, H b = some o → Z b = none → h.get? b = some ob → h'.get? b = some ob) : HOk P w (comb H H1) h' := fun a o e => by
  cases q : H1 a with
  | some u =>
    rw [comb_l a u q] at e
    cases e
    exact (y a o q).stay (fun b u _ r => r) (fun b r => comb_l _ _ r) fun b xs r => comb_l _ _ r
  | none =>
    rw [comb_n q] at e
    have zn : Z a = none := z.free q
    rcases d a o e zn with ⟨xs, rfl⟩ | ⟨kvs, rfl⟩
    · obtain ⟨l, its, n, r, g⟩ := x a _ e
      exact ⟨l, its, n, r, kp a _ _ e zn g⟩
    · obtain ⟨l, m, vs, r, o, es, ep, g, c⟩ := x a _ e
      exact ⟨l, m, vs, r, o, es, ep, kp a _ _ e zn g, c⟩
theorem objOk_there {h : Heap} {a : Addr} {o : HO} (x : ObjOk P w H h a o) : ∃ ob, h.get? a = some ob := objOk_get x
theorem Un.comb {fs : List Addr} {h h' : Heap} (u : Un fs [] Z H1 h h') (s : Same Z H) (d : Dif Z H) : Un fs [] H (comb H H1) h h' := by
  refine ⟨fun b o e n => u.keep b o e (s.free n), fun b o e n => u.slot b o e (s.free n), fun b o e n hx => ?_, u.there, fun b xs e => ?_, fun b o xs e => ?_, fun b ps e => ?_⟩
  · rw [comb_n (u.free b o e (s.free n) hx)]; exact n
  · exact comb_l _ _ (u.tups b xs (d.at s e (fun _ z => nomatch z) fun _ z => nomatch z))
  · exact comb_l _ _ (u.frzs b o xs (d.at s e (fun _ z => nomatch z) fun _ z => nomatch z))
  · obtain ⟨m, q⟩ := u.tbls b ps (d.at s e (fun _ z => nomatch z) fun _ z => nomatch z)
    exact ⟨m, comb_l _ _ q⟩
theorem UB.comb {fs : List Addr} {h B h' : Heap} (u : UB fs Z H1 h B h') (s : Same Z H) (d : Dif Z H) : UB fs H (comb H H1) h B h' := by
  refine ⟨fun b o e n => u.keep b o e (s.free n), u.slot, fun b o e n => ?_, u.there, fun b xs e => ?_, fun b o xs e => ?_, fun b ps e => ?_⟩
  · rw [comb_n (u.free b o e (s.free n))]; exact n
  · exact comb_l _ _ (u.tups b xs (d.at s e (fun _ z => nomatch z) fun _ z => nomatch z))
  · exact comb_l _ _ (u.frzs b o xs (d.at s e (fun _ z => nomatch z) fun _ z => nomatch z))
  · obtain ⟨m, q⟩ := u.tbls b ps (d.at s e (fun _ z => nomatch z) fun _ z => nomatch z)
    exact ⟨m, comb_l _ _ q⟩
end
/-- a promise, whatever stands aside -/
def spF (sp : Sp) : Sp := fun vs H Q E => ∃ Z, Same Z H ∧ Dif Z H ∧ sp vs Z (fun v H1 => ∀ H', Ext Z H H1 H' → Q v H') (fun c d H1 => ∀ H', Ext Z H H1 H' → E c d H')
/-- what the promise must keep: what stood stands -/
def Keeps (sp : Sp) : Prop := ∀ vs H Q E, sp vs H Q E → sp vs H (fun v H1 => Same H H1 ∧ Q v H1) (fun c d H1 => Same H H1 ∧ E c d H1)
theorem FnOk.frame {P : Program} {w : World} {K : PySem.W.Frag} {mg : Str → Option Value} {base : Heap} {k : Nat} {f : Addr} {fd : FuncData} {ps : List Str} {sp : Sp} (F : FnOk P w K mg base (L2.CX P w) k f fd ps sp) (kp : Keeps sp) : FnOk P w K mg base (L2.CX P w) k f fd ps (spF sp) := by
  refine ⟨fun vs H Q E ⟨Z, _, _, h⟩ => F.len _ _ _ _ h, fun A outer s H args us vs Q E hr e0 hb r hs => ?_⟩
  obtain ⟨Z, sz, d, hs⟩ := hs
  have e1 : Env0 P w K mg base A outer s Z := ⟨e0.frames, e0.mod, fun b o e => ⟨(e0.bs b o e).1, sz.free (e0.bs b o e).2⟩, e0.bsz, e0.funs, fun b hb => sz.free (e0.frf b hb), HOk.forget e0.hok sz d, e0.bare⟩
  have nofr : ∀ b o, H b = some o → b ∉ frs outer := fun b o e hb => by rw [e0.frf b hb] at e; cases e
  refine codeAny_mono (F.run A outer s Z args us vs _ _ hr e1 hb r (kp _ _ _ _ hs)) fun r s' hq => ?_
  cases r with
  | error e =>
    obtain ⟨a, B, H1, cls, d1, rfl, fl, hok, ub, na, os, ag, same, hE⟩ := hq
    have fr : ∀ b o, H b = some o → Z b = none → H1 b = none := fun b o e n => by
      obtain ⟨ob, g⟩ := objOk_there (e0.hok b o e)
      exact ub.free b ob g n
    have na2 : comb H H1 a = none := by
      rw [comb_n na]
      cases q : H a with
      | none => rfl
      | some o =>
        obtain ⟨ob, g⟩ := objOk_there (e0.hok a o q)
        obtain ⟨o', g2⟩ := ub.there a ob g (nofr a o q)
        obtain ⟨st, nb, _⟩ := fl
        rw [nb] at g2
        cases g2
    refine ⟨a, B, comb H H1, cls, d1, rfl, fl, HOk.comb e0.hok hok sz same d (fun b o ob e n g => ub.keep b ob g n (nofr b o e)), UB.comb ub sz d, na2, os, ag, hE _ (comb_ext sz same fr)⟩
  | ok fl =>
    cases fl with
    | ret u =>
      obtain ⟨v, H1, os, ag, un, hok, rv, same, q⟩ := hq
      have fr : ∀ b o, H b = some o → Z b = none → H1 b = none := fun b o e n => by
        obtain ⟨ob, g⟩ := objOk_there (e0.hok b o e)
        exact un.free b ob g n (by simp)
      exact ⟨v, comb H H1, os, ag, Un.comb un sz d, HOk.comb e0.hok hok sz same d (fun b o ob e n g => un.keep b ob g n (nofr b o e) (by simp)), rv, q _ (comb_ext sz same fr)⟩
    | next => exact hq
    | brk => exact hq
    | cont => exact hq
/-- a def over data: m arguments, g what it tells -/
def spD (K : PySem.W.Frag) (ct : CT) (g : List D → Res D) (m : Nat) : Sp := fun vs H Q E => vs.length = m ∧ ∃ ds, DenAll K ct H vs ds ∧ (match g ds with
  | .ok d => ∀ v H', Same H H' → Den K ct H' v d → Q v H'
  | .exc c => ∀ C H', ct.ex c = some C → Same H H' → E (.ref C) none H'
  | .bad => False)
theorem spD_keeps {K : PySem.W.Frag} {ct : CT} {g : List D → Res D} {m : Nat} : Keeps (spD K ct g m) := by
  intro vs H Q E ⟨hl, ds, hd, h⟩
  refine ⟨hl, ds, hd, ?_⟩
  cases e : g ds with
  | ok d => rw [e] at h; exact fun v H' s q => ⟨s, h v H' s q⟩
  | exc c => rw [e] at h; exact fun C H' q s => ⟨s, h C H' q s⟩
  | bad => rw [e] at h; exact h
end Tk
/-! What the small language tells, the model does: readings, and their rules. -/
namespace Tk
open PySem PySem.Spec PyProof.Rows L2
open D
/-- k of what r gives, wherever the heap has grown to; of an error W, of its class at the slots σ -/
def FinG (K : PySem.W.Frag) (ct : CT) (W : WX) (σ : L2.St) (Z H : Hp) {α : Type} (r : Res α) (k : α → Hp → Hp → Prop) : Prop := match r with
  | .ok a => ∀ Z' H', Ext Z H Z' H' → k a Z' H'
  | .exc c => ∀ C Z' H', ct.ex c = some C → Ext Z H Z' H' → W (.ref C) none σ H'
  | .bad => False
section
variable {K : PySem.W.Frag} {ct : CT} {W : WX} {σ : L2.St} {Z H Z' H' : Hp} {α β : Type} {r : Res α} {k k' : α → Hp → Hp → Prop}
theorem FinG.ext (h : FinG K ct W σ Z H r k) (e : Ext Z H Z' H') : FinG K ct W σ Z' H' r k := by
  cases r with
  | ok a => exact fun Z2 H2 e2 => h Z2 H2 (e.trans e2)
  | exc c => exact fun C Z2 H2 q e2 => h C Z2 H2 q (e.trans e2)
  | bad => exact h
theorem FinG.mono (h : FinG K ct W σ Z H r k) (f : ∀ a Z' H', r = .ok a → Ext Z H Z' H' → k a Z' H' → k' a Z' H') : FinG K ct W σ Z H r k' := by
  cases r with
  | ok a => exact fun Z2 H2 e2 => f a Z2 H2 rfl e2 (h Z2 H2 e2)
  | exc c => exact h
  | bad => exact h
theorem FinG.bind {f : α → Res β} {k : β → Hp → Hp → Prop} (h : FinG K ct W σ Z H (r.bind f) k) : FinG K ct W σ Z H r (fun a Z' H' => FinG K ct W σ Z' H' (f a) k) := by
  cases r with
  | ok a => exact fun Z2 H2 e2 => FinG.ext h e2
  | exc c => exact h
  | bad => exact h
theorem FinG.here {a : α} (h : FinG K ct W σ Z H (.ok a) k) (s : Same Z H) : k a Z H := h Z H (.refl s)
theorem FinG.fin {r : Res D} {Q : VK} (h : FinG K ct W σ Z H r fun d Z' H' => ∀ v, Den K ct Z' v d → Q v H') (n : ∀ c, r ≠ .exc c) : Fin K ct Z H r Q := by
  cases r with
  | ok d => exact fun v H2 Z2 e q => h Z2 H2 e v q
  | exc c => exact absurd rfl (n c)
  | bad => exact h
end
theorem _root_.L2.PE.imp {X : Cx} {e : Expr} {t t' : TE} (h : PE X e t) (f : ∀ σ H Q, t' σ H Q → t σ H Q) : PE X e t' := ⟨fun pins s σ H Q I q => h.run pins s σ H Q I (f σ H Q q)⟩
theorem _root_.L2.PT.imp {X : Cx} {e : Expr} {t t' : TT} (h : PT X e t) (f : ∀ σ H Q, t' σ H Q → t σ H Q) : PT X e t' := ⟨fun pins s σ H Q I q => h.run pins s σ H Q I (f σ H Q q)⟩
theorem _root_.L2.PTs.imp {X : Cx} {e : List Expr} {t t' : TT} (h : PTs X e t) (f : ∀ σ H Q, t' σ H Q → t σ H Q) : PTs X e t' := ⟨fun pins s σ H Q I q => h.run pins s σ H Q I (f σ H Q q)⟩
theorem _root_.L2.PA.imp {X : Cx} {e : List Expr} {t t' : TA} (h : PA X e t) (f : ∀ σ H Q, t' σ H Q → t σ H Q) : PA X e t' := ⟨fun pos pins s σ H Q I q => h.run pos pins s σ H Q I (f σ H Q q)⟩
theorem _root_.L2.PO.imp {X : Cx} {e : Option Expr} {t t' : TO} (h : PO X e t) (f : ∀ σ H Q, t' σ H Q → t σ H Q) : PO X e t' := ⟨fun pins s σ H Q I q => h.run pins s σ H Q I (f σ H Q q)⟩
theorem _root_.L2.PI.imp {X : Cx} {tg e : Expr} {t t' : TI} (h : PI X tg e t) (f : ∀ σ H Q, t' σ H Q → t σ H Q) : PI X tg e t' := ⟨fun pins s σ H Q I q => h.run pins s σ H Q I (f σ H Q q)⟩
theorem _root_.L2.PS.imp {X : Cx} {e : Stmt} {t t' : TS} (h : PS X e t) (f : ∀ D σ H, t' D σ H → t D σ H) : PS X e t' := ⟨fun pins s σ H Q I q => h.run pins s σ H Q I (f Q σ H q)⟩
theorem _root_.L2.PSs.imp {X : Cx} {e : List Stmt} {t t' : TS} (h : PSs X e t) (f : ∀ D σ H, t' D σ H → t D σ H) : PSs X e t' := ⟨fun pins s σ H Q I q => h.run pins s σ H Q I (f Q σ H q)⟩

def HotOk (hx : Option (Nat × Addr)) (σ : L2.St) : Prop := match hx with
  | none => True
  | some (i, a) => σ[i]? = some (some (.ref a))
/-- what is walked: it gives ds, whatever grows -/
def WalkD (K : PySem.W.Frag) (ct : CT) (J : It) (ds : List D) (Z : Hp) : Prop := ∃ G Y, Walk J ds.length G Y ∧ (∀ H, Same Z H → G H) ∧
  ∀ i H x H2 Z2 d, Same Z Z2 → Same Z2 H → Y i H x H2 → ds[i]? = some d → ∃ Z3, Ext Z2 H Z3 H2 ∧ Den K ct Z3 x d
section
variable (X : Cx) (ct : CT) (A : Ar) (W : WX) (O : List Nat) (hx : Option (Nat × Addr))
/-- the reading of what gives r at the slots ρ -/
def tG {α : Type} (r : En → Res α) (k : α → Hp → Hp → Prop) : L2.St → Hp → Prop := fun σ H => HotOk hx σ ∧ ∃ Z ρ, RelE X.K ct Z H O σ ρ ∧ FinG X.K ct W σ Z H (r ρ) k
def tE (se : SE) : TE := fun σ H Q => tG X ct W O hx (ev A se) (fun d Z' H' => ∀ v, Den X.K ct Z' v d → Q v H') σ H
def tS (se : SE) : TE := fun σ H Q => tG X ct W O hx (ev A se) (fun d Z' H' => ∀ v, ShDen X.K ct Z' H' v d → Q v H') σ H
def tT (se : SE) : TT := fun σ H Q => tG X ct W O hx (fun ρ => (ev A se ρ).bind asBl) (fun b _ H' => Q b H') σ H
def tTs (ses : List SE) : TT := fun σ H Q => tG X ct W O hx (evc A ses) (fun b _ H' => Q b H') σ H
def tAs (ses : List SE) : TA := fun σ H Q => tG X ct W O hx (evs A ses) (fun ds Z' H' => ∀ vs, DenAll X.K ct Z' vs ds → Q vs H') σ H
def tASs (ses : List SE) : TA := fun σ H Q => tG X ct W O hx (evs A ses) (fun ds Z' H' => ∀ vs, ShAll X.K ct Z' H' vs ds → Q vs H') σ H
def tOp' (so : Option SE) : TO := fun σ H Q => tG X ct W O hx (evo A so) (fun o _ H' => Q o H') σ H
def tI (si : SI) : TI := fun σ H Q => tG X ct W O hx (evi A si) (fun ds Z' H' => ∀ J, WalkD X.K ct J ds Z' → Q J H') σ H
end
-- what is known of the classes of errors
structure ExcsOk (K : PySem.W.Frag) (mg : Str → Option Value) (ct : CT) (c : CE) : Prop where
  nm : ∀ x k cs, c.ecl.lookup x = some (k, cs) → ∃ C, mg x = some (.ref C) ∧ ct.ex k = some C ∧ PySem.W.excIn K C He.veBase "ValueError.__new__" = true ∧ PySem.W.keepIn K (.ref C) = true ∧ PySem.W.subIn K (.ref C) (.type "BaseException") = some true ∧ PySem.W.typeIn K (.ref C) = some (.type "type") ∧
    ∀ k' C', ct.ex k' = some C' → PySem.W.exmOne K (.ref C') (.ref C) = some (cs.contains k') ∧ PySem.W.kitOne K (.ref C') (.ref C) = some (cs.contains k')
  all : ∀ k C, ct.ex k = some C → ExcC K C ∧ PySem.W.kitOne K (.ref C) (.type "ValueError") = some true ∧ (c.ecl.map fun p => p.2.1).contains k = true
/-- what a walk of a def's body may lean on -/
structure Sit (X : Cx) (ct : CT) (c : CE) (A : Ar) (L : Nat) (W : WX) (ev : Option Str) (hx : Option (Nat × Addr)) : Prop where
  N : X.N = c.N
  nd : c.N.Nodup
  calm : ev = none → X.calm = true
  tk : Takes X W
  un : X.A.units + 65 < cLine
  room : ev = none → Room L X.A
  fns : ∀ x k m, c.fn.lookup x = some (k, m) → ∃ f fd ps, X.mg x = some (.ref f) ∧ PySem.W.keepIn X.K (.ref f) = true ∧ Binds X.K fd ps [] ∧ FnOk X.prog X.w X.K X.mg X.base (L2.CX X.prog X.w) L f fd ps (spF (spD X.K ct (A.Φ k) m))
  kd : KdOk X.K X.w ct
  gc : ∀ x d, c.gc.lookup x = some d → ∃ u v, X.mg x = some u ∧ RelV v u ∧ ∀ H, Den X.K ct H v d
  free : ∀ x, c.free.contains x = true → X.mg x = none
  hot : ∀ i a, hx = some (i, a) → ∃ y oe C, ev = some y ∧ c.N[i]? = some y ∧ (a, oe) ∈ X.pn ∧ Zc (.ref C) none oe ∧ (∃ vs, oe.data = .fields vs) ∧ (∃ k, A.hot = some k ∧ ct.ex k = some C)
  exc : ExcsOk X.K X.mg ct c
/-- the soundness of all that is turned with n -/
structure Snd (ct : CT) (c : CE) (A : Ar) (L : Nat) (ev : Option Str) (hx : Option (Nat × Addr)) (n : Nat) : Prop where
  E : ∀ X W e se O, Sit X ct c A L W ev hx → cE c ev n X.env.scope e = some se → (∀ i ∈ esc se, i ∉ O) → PE X e (tE X ct A W O hx se) ∧ PT X e (tT X ct A W O hx se)
  S : ∀ X W e se O, Sit X ct c A L W ev hx → cE c ev n X.env.scope e = some se → (∀ i ∈ escS se, i ∉ O) → PE X e (tS X ct A W O hx se)
  As : ∀ X W es ses O, Sit X ct c A L W ev hx → cEs c ev n X.env.scope es = some ses → (∀ i ∈ escs ses, i ∉ O) → PA X es (tAs X ct A W O hx ses) ∧ (∀ e ∈ es, noStar e = true)
  Ts : ∀ X W es ses O, Sit X ct c A L W ev hx → cTs c ev n X.env.scope es = some ses → (∀ i ∈ escs ses, i ∉ O) → PTs X es (tTs X ct A W O hx ses)
  Op : ∀ X W e se O, Sit X ct c A L W ev hx → cO c ev n X.env.scope e = some se → (∀ i ∈ esco se, i ∉ O) → PO X e (tOp' X ct A W O hx se)
  I : ∀ X W tg e si O, Sit X ct c A L W ev hx → cI c ev n X.env.scope tg e = some si → (∀ i ∈ esci si, i ∉ O) → PI X tg e (tI X ct A W O hx si)
section
variable {X : Cx} {ct : CT} {A : Ar} {W : WX} {O : List Nat} {hx : Option (Nat × Addr)} {σ : L2.St} {H : Hp}
theorem ShDen.of_den {K : PySem.W.Frag} {Z H : Hp} {v : V} {d : D} (h : Den K ct Z v d) : ShDen K ct Z H v d := .inl h
theorem tS.toE {e : Expr} {se : SE} (p : PE X e (tE X ct A W O hx se)) : PE X e (tS X ct A W O hx se) := p.imp fun σ H Q ⟨hh, Z, ρ, rel, fin⟩ =>
  ⟨hh, Z, ρ, rel, fin.mono fun d Z' H' _ _ q v hv => q v (.inl hv)⟩
/-- a plain expression as a test -/
theorem pt_plain {e : Expr} {se : SE} (p : PE X e (tE X ct A W O hx se)) (he : ∀ whole, isTrue e X.env whole = (do let v ← whole; standAt e.pos; holding [v] (truthy v))) : PT X e (tT X ct A W O hx se) :=
  (pt_val p he).imp fun σ H Q ⟨hh, Z, ρ, rel, fin⟩ => ⟨hh, Z, ρ, rel, fin.bind.mono fun d Z' H' _ _ q v hv => by
    cases d with
    | bl b =>
      cases hv
      exact ⟨b, rfl, q.here (by
        exact (rel.ext (by assumption)).sub)⟩
    | _ => exact (show False from q).elim⟩
theorem binD_noexc {op : Bo} {x y : D} {c : Nat} : binD op x y ≠ .exc c := by
  intro h
  unfold binD at h
  split at h <;> first | (cases h; done) | (split at h <;> cases h)
theorem cmpD_noexc {op : Co} {x y : D} {c : Nat} : cmpD op x y ≠ .exc c := by
  intro h
  unfold cmpD at h
  split at h <;> first | (cases h; done) | (split at h <;> cases h)
theorem ixD_noexc {x y : D} {c : Nat} : ixD x y ≠ .exc c := by
  intro h
  unfold ixD at h
  split at h <;> first | (cases h; done) | (split at h <;> first | (cases h; done) | (split at h <;> cases h))
theorem slD_noexc {x : D} {lo hi : Option Int} {c : Nat} : slD x lo hi ≠ .exc c := by
  intro h
  unfold slD at h
  split at h <;> first | (cases h; done) | (split at h <;> cases h)
theorem isiD_noexc {x : D} {t : Nat} {c : Nat} : isiD t x ≠ .exc c := by
  intro h
  unfold isiD at h
  split at h <;> first | (cases h; done) | (split at h <;> cases h)
theorem biD_noexc {b : Bi} {ds : List D} {c : Nat} : biD b ds ≠ .exc c := by
  intro h
  unfold biD at h
  split at h <;> first | (cases h; done) | exact isiD_noexc h | (split at h <;> first | (cases h; done) | (split at h <;> cases h))
/-- two parts, then an operation on their values -/
theorem tOp_of {a b : SE} {f : D → D → Res D} {Q : VK} (hf : ∀ x y c, f x y ≠ .exc c) (h : tG X ct W O hx (fun ρ => (ev A a ρ).bind fun x => (ev A b ρ).bind fun y => f x y) (fun d Z' H' => ∀ v, Den X.K ct Z' v d → Q v H') σ H) :
    tOp (R2D X.K ct f) (tS X ct A W O hx a) (tS X ct A W O hx b) σ H Q := by
  obtain ⟨hh, Z, ρ, rel, fin⟩ := h
  refine ⟨hh, Z, ρ, rel, fin.bind.mono fun x Z1 H1 _ e1 f1 v hv => ?_⟩
  refine ⟨hh, Z1, ρ, rel.ext e1, f1.bind.mono fun y Z2 H2 _ e2 f2 u hu => ?_⟩
  exact ⟨Z2, x, y, ((rel.ext e1).ext e2).sub, hv.ext e2, hu, f2.fin (hf x y)⟩
theorem mem_l {a b : List Nat} (h : ∀ i ∈ a ++ b, i ∉ O) : (∀ i ∈ a, i ∉ O) ∧ ∀ i ∈ b, i ∉ O := ⟨fun i q => h i (List.mem_append_left _ q), fun i q => h i (List.mem_append_right _ q)⟩
end
end Tk
/-! Expressions, construct by construct. -/
namespace Tk
open PySem PySem.Spec PyProof.Rows L2
open D
theorem slotOf_get {N : List Str} {x : Str} {i : Nat} (h : slotOf N x = some i) : N[i]? = some x := by
  unfold slotOf at h
  obtain ⟨hi, q, _⟩ := List.findIdx?_eq_some_iff_getElem.mp h
  rw [List.getElem?_eq_getElem hi]
  exact congrArg some (beq_iff_eq.mp q)
theorem visB_vis {sc : Scope} {x : Str} (h : visB sc x = true) : Vis sc x := by
  unfold visB at h
  unfold Vis
  split at h <;> simp_all
theorem locB_loc {sc : Scope} {x : Str} (h : locB sc x = true) : L2.Loc sc x := by
  unfold locB at h
  unfold L2.Loc
  split at h <;> simp_all
theorem loc1B_loc {sc : Scope} {x : Str} (h : loc1B sc x = true) : sc.names.lookup x = some .local := by
  unfold loc1B at h
  split at h <;> simp_all
theorem gloB_gl {X : Cx} {x : Str} (h : gloB X.env.scope x = true) : Gl X x := by
  unfold gloB at h
  unfold Gl Env.kindOf
  split at h <;> simp_all
theorem plain_debug {x : Str} (h : plainName x = true) : (x == ("__debug__" : Str)) = false ∧ (x == ("__classdict__" : Str)) = false ∧ x ≠ "__name__" := by
  unfold plainName at h
  simp only [Bool.and_eq_true, Bool.not_eq_true'] at h
  exact ⟨h.1.1.2, h.1.2, fun e => by rw [e] at h; simp at h⟩
theorem noStar_each {e : Expr} {es : List Expr} {env : Env} (h : noStar e = true) : starEach (e :: es) env = (false, eval e env) :: starEach es env := by
  cases e <;> first | rfl | cases h
theorem noSet_mark {op : CmpOp} {b : Expr} (h : noSet b = true) : behindInMarks op b = false := by
  cases b <;> first | rfl | cases h
theorem noSl_plain {b : Expr} (h : noSl b = true) : PlainIx b := by
  intro o i
  cases b <;> first | rfl | cases h
theorem backTo_any {pos : Pos} {env : Env} : ∀ {es : List Expr}, (∀ e ∈ es, noStar e = true) → (backTo pos (starEach es env)).any (·.1) = false
  | [], _ => rfl
  | e :: es, h => by
    rw [noStar_each (h e List.mem_cons_self)]
    show (false || (backTo pos (starEach es env)).any (·.1)) = false
    rw [backTo_any fun e' he => h e' (List.mem_cons_of_mem _ he)]
    rfl
theorem evs_len {A : Ar} {ρ : En} : ∀ {ses : List SE} {ds : List D}, evs A ses ρ = .ok ds → ds.length = ses.length
  | [], ds, h => by cases h; rfl
  | e :: es, ds, h => by
    have h : (ev A e ρ).bind (fun x => (evs A es ρ).bind fun r => .ok (x :: r)) = .ok ds := h
    cases h1 : ev A e ρ with
    | ok x =>
      cases h2 : evs A es ρ with
      | ok r =>
        rw [h1, h2] at h
        cases h
        simp [evs_len h2]
      | _ => rw [h1, h2] at h; cases h
    | _ => rw [h1] at h; cases h
section
variable {ct : CT} {c : CE} {A : Ar} {L : Nat} {ev0 : Option Str} {hx : Option (Nat × Addr)} {n : Nat} {X : Cx} {W : WX} {O : List Nat}
/-- behind an expression's reading, as a value and as a test -/
def Both (X : Cx) (ct : CT) (A : Ar) (W : WX) (O : List Nat) (hx : Option (Nat × Addr)) (e : Expr) (se : SE) : Prop := PE X e (tE X ct A W O hx se) ∧ PT X e (tT X ct A W O hx se)
theorem Both.plain {e : Expr} {se : SE} (p : PE X e (tE X ct A W O hx se)) (he : ∀ whole, isTrue e X.env whole = (do let v ← whole; standAt e.pos; holding [v] (truthy v))) : Both X ct A W O hx e se := ⟨p, pt_plain p he⟩
theorem snd_varS (S : Sit X ct c A L W ev0 hx) {x : Str} {pos : Pos} {i : Nat} (hp : plainName x = true) (hv : visB X.env.scope x = true) (hs : slotOf c.N x = some i) : PE X (.Name x pos) (tS X ct A W O hx (.var i)) := by
  obtain ⟨p1, p2, _⟩ := plain_debug hp
  refine (pe_var (i := i) (by rw [S.N]; exact slotOf_get hs) (visB_vis hv) p1 p2).imp fun σ H Q ⟨hh, Z, ρ, rel, fin⟩ => ?_
  have fin : FinG X.K ct W σ Z H (match ρ[i]? with | some (some d) => .ok d | _ => .bad) _ := fin
  split at fin
  · rename_i d hd
    obtain ⟨v, h1, h2⟩ := rel.at hd
    exact ⟨v, h1, fin.here rel.sub v h2⟩
  · exact (show False from fin).elim
theorem snd_var (S : Sit X ct c A L W ev0 hx) {x : Str} {pos : Pos} {i : Nat} (hp : plainName x = true) (hv : visB X.env.scope x = true) (hs : slotOf c.N x = some i) (hO : i ∉ O) : Both X ct A W O hx (.Name x pos) (.var i) := by
  obtain ⟨p1, p2, _⟩ := plain_debug hp
  refine .plain ((pe_var (i := i) (by rw [S.N]; exact slotOf_get hs) (visB_vis hv) p1 p2).imp fun σ H Q ⟨hh, Z, ρ, rel, fin⟩ => ?_) fun _ => rfl
  have fin : FinG X.K ct W σ Z H (match ρ[i]? with | some (some d) => .ok d | _ => .bad) _ := fin
  split at fin
  · rename_i d hd
    obtain ⟨v, h1, h2⟩ := rel.fr i d hO hd
    exact ⟨v, h1, fin.here rel.sub v h2⟩
  · exact (show False from fin).elim
theorem snd_glob (S : Sit X ct c A L W ev0 hx) {x : Str} {pos : Pos} {d : D} (hp : plainName x = true) (hg : gloB X.env.scope x = true) (hs : c.gc.lookup x = some d) : Both X ct A W O hx (.Name x pos) (.con d) := by
  obtain ⟨p1, p2, _⟩ := plain_debug hp
  obtain ⟨u, v, h1, h2, h3⟩ := S.gc x d hs
  refine .plain ((pe_glob (gloB_gl hg) h1 h2 p1).imp fun σ H Q ⟨hh, Z, ρ, rel, fin⟩ => ?_) fun _ => rfl
  exact fin.here rel.sub v (h3 _)
theorem snd_con {k : Const} {j : Nat} {pos : Pos} {d : D} (h : constD k = some d) : Both X ct A W O hx (.Constant k j pos) (.con d) := by
  refine .plain ?_ fun _ => rfl
  cases k <;> first | (cases h; done) | (cases h)
  · exact pe_non.imp fun σ H Q ⟨hh, Z, ρ, rel, fin⟩ => fin.here rel.sub _ .non
  · exact pe_bl.imp fun σ H Q ⟨hh, Z, ρ, rel, fin⟩ => fin.here rel.sub _ (.bl _)
  · exact pe_int.imp fun σ H Q ⟨hh, Z, ρ, rel, fin⟩ => fin.here rel.sub _ (.int _)
  · exact pe_str.imp fun σ H Q ⟨hh, Z, ρ, rel, fin⟩ => fin.here rel.sub _ (.str _)
theorem snd_tup {es : List Expr} {k : Nat} {pos : Pos} {ses : List SE} (ha : PA X es (tAs X ct A W O hx ses)) (hl : ses.length ≤ 1000) : Both X ct A W O hx (.Tuple es k pos) (.tup ses) := by
  refine .plain ((pe_tup ha).imp fun σ H Q ⟨hh, Z, ρ, rel, fin⟩ => ?_) fun _ => rfl
  have fin : FinG X.K ct W σ Z H ((evs A ses ρ).bind fun ds => Res.ok (D.tup ds)) _ := fin
  refine ⟨hh, Z, ρ, rel, fin.bind.mono fun ds Z1 H1 he e1 f1 vs hv => ⟨?_, fun p hp => ?_⟩⟩
  · rw [hv.length, evs_len he, sizeLine_eq]; omega
  · have sz := (rel.ext e1).sub
    exact f1 _ _ (.mk1 sz hp) _ (den_tupNew (sz.free hp) hv)
theorem snd_lst {es : List Expr} {pos : Pos} {ses : List SE} (ha : PA X es (tAs X ct A W O hx ses)) (hl : ses.length ≤ 1000) : Both X ct A W O hx (.List es pos) (.lst ses) := by
  refine .plain ((pe_lst ha).imp fun σ H Q ⟨hh, Z, ρ, rel, fin⟩ => ?_) fun _ => rfl
  have fin : FinG X.K ct W σ Z H ((evs A ses ρ).bind fun ds => Res.ok (D.lst ds)) _ := fin
  refine ⟨hh, Z, ρ, rel, fin.bind.mono fun ds Z1 H1 he e1 f1 vs hv => ⟨?_, fun p hp => ?_⟩⟩
  · rw [hv.length, evs_len he, sizeLine_eq]; omega
  · have sz := (rel.ext e1).sub
    exact f1 _ _ (.mk1 sz hp) _ (den_lstNew (sz.free hp) hv)
theorem snd_bin {a b : Expr} {op : Operator} {pos : Pos} {o : Bo} {x y : SE} (ho : boOf op = some o) (ha : PE X a (tS X ct A W O hx x)) (hb : PE X b (tS X ct A W O hx y)) : Both X ct A W O hx (.BinOp a op b pos) (.bin o x y) :=
  .plain ((pe_op (opr_bin ho) ha hb).imp fun σ H Q h => tOp_of (fun _ _ _ => binD_noexc) h) fun _ => rfl
theorem snd_neg {a : Expr} {pos : Pos} {x : SE} (ha : PE X a (tE X ct A W O hx x)) : Both X ct A W O hx (.UnaryOp .USub a pos) (.neg x) := by
  refine .plain ((pe_un un_neg ha).imp fun σ H Q ⟨hh, Z, ρ, rel, fin⟩ => ?_) fun _ => rfl
  have fin : FinG X.K ct W σ Z H ((ev A x ρ).bind fun x => (asInt x).bind fun i => Res.ok (D.int (-i))) _ := fin
  refine ⟨hh, Z, ρ, rel, fin.bind.mono fun d Z1 H1 he e1 f1 v hv => ?_⟩
  cases d with
  | int i => cases hv; exact ⟨i, rfl, f1.here (rel.ext e1).sub _ (.int _)⟩
  | _ => exact (show False from f1).elim
theorem snd_not {a : Expr} {pos : Pos} {x : SE} (ha : Both X ct A W O hx a x) : Both X ct A W O hx (.UnaryOp .Not a pos) (.nt x) := by
  refine ⟨(pe_not ha.1).imp fun σ H Q ⟨hh, Z, ρ, rel, fin⟩ => ?_, (pt_not ha.2).imp fun σ H Q ⟨hh, Z, ρ, rel, fin⟩ => ?_⟩
  · have fin : FinG X.K ct W σ Z H ((ev A x ρ).bind fun x => (asBl x).bind fun i => Res.ok (D.bl (!i))) _ := fin
    refine ⟨hh, Z, ρ, rel, fin.bind.mono fun d Z1 H1 he e1 f1 v hv => ?_⟩
    cases d with
    | bl i => cases hv; exact ⟨i, rfl, f1.here (rel.ext e1).sub _ (.bl _)⟩
    | _ => exact (show False from f1).elim
  · have fin : FinG X.K ct W σ Z H (((ev A x ρ).bind fun x => (asBl x).bind fun i => Res.ok (D.bl (!i))).bind asBl) _ := fin
    have e : (((ev A x ρ).bind fun x => (asBl x).bind fun i => Res.ok (D.bl (!i))).bind asBl) = ((ev A x ρ).bind asBl).bind fun b => Res.ok (!b) := by
      cases ev A x ρ with
      | ok d => cases d <;> rfl
      | _ => rfl
    rw [e] at fin
    exact ⟨hh, Z, ρ, rel, fin.bind.mono fun b Z1 H1 _ e1 f1 => f1.here (rel.ext e1).sub⟩
/-- a test's reading by the value's -/
theorem tT_an {x y : SE} {ρ : En} : ((ev A (.an x y) ρ).bind asBl) = ((ev A x ρ).bind asBl).bind fun k => if k then (ev A y ρ).bind asBl else .ok false := by
  show ((ev A x ρ).bind fun x => (asBl x).bind fun k => if k then (ev A y ρ).bind fun y => (asBl y).bind fun q => Res.ok (D.bl q) else Res.ok (D.bl false)).bind asBl = _
  cases ev A x ρ with
  | ok d => cases d with
    | bl b => cases b with
      | true => cases ev A y ρ with
        | ok d => cases d <;> rfl
        | _ => rfl
      | false => rfl
    | _ => rfl
  | _ => rfl
theorem tT_orr {x y : SE} {ρ : En} : ((ev A (.orr x y) ρ).bind asBl) = ((ev A x ρ).bind asBl).bind fun k => if k then .ok true else (ev A y ρ).bind asBl := by
  show ((ev A x ρ).bind fun x => (asBl x).bind fun k => if k then Res.ok (D.bl true) else (ev A y ρ).bind fun y => (asBl y).bind fun q => Res.ok (D.bl q)).bind asBl = _
  cases ev A x ρ with
  | ok d => cases d with
    | bl b => cases b with
      | false => cases ev A y ρ with
        | ok d => cases d <;> rfl
        | _ => rfl
      | true => rfl
    | _ => rfl
  | _ => rfl
theorem snd_one {a : Expr} {op : BoolOp} {pos : Pos} {x : SE} (ha : Both X ct A W O hx a x) : Both X ct A W O hx (.BoolOp op [a] pos) x := by
  refine ⟨pe_one ha.1, ?_⟩
  cases op
  · exact (pw_and1 ha.2).pt
  · exact (pw_or1 ha.2).pt
/-- and, or: as a value, as a test whatever the whole is -/
def Trio (X : Cx) (ct : CT) (A : Ar) (W : WX) (O : List Nat) (hx : Option (Nat × Addr)) (e : Expr) (se : SE) : Prop := PE X e (tE X ct A W O hx se) ∧ PW X e (tT X ct A W O hx se)
theorem bl_of {x : SE} {ρ : En} {σ : L2.St} {Z H : Hp} {Q : VK} {f : D → Res D} (hf : ∀ d, (∀ b, d ≠ .bl b) → f d = .bad) : True := trivial
theorem _root_.L2.PW.imp {X : Cx} {e : Expr} {t t' : TT} (h : PW X e t) (f : ∀ σ H Q, t' σ H Q → t σ H Q) : PW X e t' := ⟨fun wh pins s σ H Q I q => h.run wh pins s σ H Q I (f σ H Q q)⟩
theorem snd_and {a b : Expr} {r : List Expr} {pos : Pos} {x y : SE} (ha : Both X ct A W O hx a x) (hb : Trio X ct A W O hx (.BoolOp .And (b :: r) pos) y) : Trio X ct A W O hx (.BoolOp .And (a :: b :: r) pos) (.an x y) := by
  refine ⟨(pe_and ha.1 hb.1).imp fun σ H Q ⟨hh, Z, ρ, rel, fin⟩ => ?_, (pw_and ha.2 hb.2).imp fun σ H Q ⟨hh, Z, ρ, rel, fin⟩ => ?_⟩
  · have fin : FinG X.K ct W σ Z H ((ev A x ρ).bind fun x => (asBl x).bind fun k => if k then (ev A y ρ).bind fun y => (asBl y).bind fun q => Res.ok (D.bl q) else Res.ok (D.bl false)) _ := fin
    refine ⟨hh, Z, ρ, rel, fin.bind.mono fun d Z1 H1 he e1 f1 v hv => ?_⟩
    cases d with
    | bl i =>
      cases hv
      refine ⟨i, rfl, ?_⟩
      cases i with
      | true =>
        rw [if_pos rfl]
        refine ⟨hh, Z1, ρ, rel.ext e1, ?_⟩
        have f1 : FinG X.K ct W σ Z1 H1 ((ev A y ρ).bind fun y => (asBl y).bind fun q => Res.ok (D.bl q)) _ := f1
        refine f1.bind.mono fun d2 Z2 H2 _ e2 f2 v2 hv2 => ?_
        cases d2 with
        | bl j => cases hv2; exact f2.here ((rel.ext e1).ext e2).sub _ (.bl _)
        | _ => exact (show False from f2).elim
      | false =>
        rw [if_neg Bool.false_ne_true]
        exact FinG.here (a := D.bl false) f1 (rel.ext e1).sub _ (.bl _)
    | _ => exact (show False from f1).elim
  · have fin : FinG X.K ct W σ Z H ((ev A (.an x y) ρ).bind asBl) _ := fin
    rw [tT_an] at fin
    refine ⟨hh, Z, ρ, rel, fin.bind.mono fun i Z1 H1 he e1 f1 => ?_⟩
    cases i with
    | true => rw [if_pos rfl]; exact ⟨hh, Z1, ρ, rel.ext e1, f1⟩
    | false => rw [if_neg Bool.false_ne_true]; exact FinG.here (a := false) f1 (rel.ext e1).sub
theorem snd_or {a b : Expr} {r : List Expr} {pos : Pos} {x y : SE} (ha : Both X ct A W O hx a x) (hb : Trio X ct A W O hx (.BoolOp .Or (b :: r) pos) y) : Trio X ct A W O hx (.BoolOp .Or (a :: b :: r) pos) (.orr x y) := by
  refine ⟨(pe_or ha.1 hb.1).imp fun σ H Q ⟨hh, Z, ρ, rel, fin⟩ => ?_, (pw_or ha.2 hb.2).imp fun σ H Q ⟨hh, Z, ρ, rel, fin⟩ => ?_⟩
  · have fin : FinG X.K ct W σ Z H ((ev A x ρ).bind fun x => (asBl x).bind fun k => if k then Res.ok (D.bl true) else (ev A y ρ).bind fun y => (asBl y).bind fun q => Res.ok (D.bl q)) _ := fin
    refine ⟨hh, Z, ρ, rel, fin.bind.mono fun d Z1 H1 he e1 f1 v hv => ?_⟩
    cases d with
    | bl i =>
      cases hv
      refine ⟨i, rfl, ?_⟩
      cases i with
      | false =>
        rw [if_neg Bool.false_ne_true]
        refine ⟨hh, Z1, ρ, rel.ext e1, ?_⟩
        have f1 : FinG X.K ct W σ Z1 H1 ((ev A y ρ).bind fun y => (asBl y).bind fun q => Res.ok (D.bl q)) _ := f1
        refine f1.bind.mono fun d2 Z2 H2 _ e2 f2 v2 hv2 => ?_
        cases d2 with
        | bl j => cases hv2; exact f2.here ((rel.ext e1).ext e2).sub _ (.bl _)
        | _ => exact (show False from f2).elim
      | true =>
        rw [if_pos rfl]
        exact FinG.here (a := D.bl true) f1 (rel.ext e1).sub _ (.bl _)
    | _ => exact (show False from f1).elim
  · have fin : FinG X.K ct W σ Z H ((ev A (.orr x y) ρ).bind asBl) _ := fin
    rw [tT_orr] at fin
    refine ⟨hh, Z, ρ, rel, fin.bind.mono fun i Z1 H1 he e1 f1 => ?_⟩
    cases i with
    | false => rw [if_neg Bool.false_ne_true]; exact ⟨hh, Z1, ρ, rel.ext e1, f1⟩
    | true => rw [if_pos rfl]; exact FinG.here (a := true) f1 (rel.ext e1).sub
theorem Trio.one {a : Expr} {op : BoolOp} {pos : Pos} {x : SE} (ha : Both X ct A W O hx a x) : Trio X ct A W O hx (.BoolOp op [a] pos) x := by
  refine ⟨pe_one ha.1, ?_⟩
  cases op
  · exact pw_and1 ha.2
  · exact pw_or1 ha.2
theorem tTest_of {e : Expr} {se : SE} {t : TE} (f : ∀ σ H Q, tE X ct A W O hx se σ H Q → t σ H Q) (p : PT X e (tTest t)) : PT X e (tT X ct A W O hx se) := p.imp fun σ H Q ⟨hh, Z, ρ, rel, fin⟩ => f σ H _ ⟨hh, Z, ρ, rel, fin.bind.mono fun d Z' H' _ e1 q v hv => by
    cases d with
    | bl b => cases hv; exact ⟨b, rfl, q.here (rel.ext e1).sub⟩
    | _ => exact (show False from q).elim⟩
theorem snd_cmp (S : Sit X ct c A L W ev0 hx) {a b : Expr} {op : CmpOp} {pos : Pos} {o : Co} {x y : SE} (ho : coOf op = some o) (ha : PE X a (tS X ct A W O hx x)) (hb : PE X b (tS X ct A W O hx y)) (hm : noSet b = true) : Both X ct A W O hx (.Compare a [op] [b] pos) (.cmp o x y) :=
  ⟨(pe_cmpR (opr_cmp ho S.un S.kd) ha hb (noSet_mark hm)).imp fun σ H Q h => tOp_of (fun _ _ _ => cmpD_noexc) h, tTest_of (fun σ H Q h => tOp_of (fun _ _ _ => cmpD_noexc) h) (pt_cmpR (opr_cmp ho S.un S.kd) ha hb (noSet_mark hm))⟩
theorem tChain_of {o o' : Co} {x y z : SE} {σ : L2.St} {H : Hp} {Q : VK} (h : tE X ct A W O hx (.cmp2 o o' x y z) σ H Q) :
    tChain (R2D X.K ct (cmpD o)) (R2D X.K ct (cmpD o')) (tS X ct A W O hx x) (tS X ct A W O hx y) (tS X ct A W O hx z) σ H Q := by
  obtain ⟨hh, Z, ρ, rel, fin⟩ := h
  have fin : FinG X.K ct W σ Z H ((ev A x ρ).bind fun x => (ev A y ρ).bind fun y => (cmpD o x y).bind fun r => (asBl r).bind fun k => if k then (ev A z ρ).bind fun z => cmpD o' y z else Res.ok (D.bl false)) _ := fin
  refine ⟨hh, Z, ρ, rel, fin.bind.mono fun dx Z1 H1 _ e1 f1 v hv => ?_⟩
  refine ⟨hh, Z1, ρ, rel.ext e1, f1.bind.mono fun dy Z2 H2 _ e2 f2 u hu => ?_⟩
  have rel2 := (rel.ext e1).ext e2
  refine ⟨Z2, dx, dy, rel2.sub, hv.ext e2, hu, ?_⟩
  cases q : cmpD o dx dy with
  | ok r =>
    intro w H3 Z3 e3 hw
    rw [q] at f2
    have f2 : FinG X.K ct W σ Z2 H2 ((asBl r).bind fun k => if k then (ev A z ρ).bind fun z => cmpD o' dy z else Res.ok (D.bl false)) _ := f2
    cases r with
    | bl k =>
      cases hw
      refine ⟨k, rfl, ?_⟩
      have rel3 := rel2.ext e3
      have f3 := f2.ext e3
      cases k with
      | true =>
        rw [if_pos rfl]
        have f3 : FinG X.K ct W σ Z3 H3 ((ev A z ρ).bind fun z => cmpD o' dy z) _ := f3
        refine ⟨hh, Z3, ρ, rel3, f3.bind.mono fun dz Z4 H4 _ e4 f4 t ht => ?_⟩
        exact ⟨Z4, dy, dz, (rel3.ext e4).sub, (hu.ext e3).ext e4, ht, f4.fin fun _ => cmpD_noexc⟩
      | false =>
        rw [if_neg Bool.false_ne_true]
        exact FinG.here (a := D.bl false) f3 rel3.sub _ (.bl _)
    | _ => exact (show False from f2).elim
  | exc c => exact (cmpD_noexc q).elim
  | bad => rw [q] at f2; exact (show False from f2).elim
theorem snd_cmp2 (S : Sit X ct c A L W ev0 hx) {a b d : Expr} {op op' : CmpOp} {pos : Pos} {o o' : Co} {x y z : SE} (ho : coOf op = some o) (ho' : coOf op' = some o') (ha : PE X a (tS X ct A W O hx x)) (hb : PE X b (tS X ct A W O hx y)) (hd : PE X d (tS X ct A W O hx z)) (hm : noSet d = true) : Both X ct A W O hx (.Compare a [op, op'] [b, d] pos) (.cmp2 o o' x y z) := by
  have hl : lastMarks [op, op'] [b, d] = false := noSet_mark hm
  exact ⟨(pe_chain (opr_cmp ho S.un S.kd) (opr_cmp ho' S.un S.kd) ha hb hd hl).imp fun σ H Q h => tChain_of h, tTest_of (fun σ H Q h => tChain_of h) (pt_chain (opr_cmp ho S.un S.kd) (opr_cmp ho' S.un S.kd) ha hb hd hl)⟩
end
end Tk
/-! Expressions, construct by construct: ifs, subscripts, slices, calls. -/
namespace Tk
open PySem PySem.Spec PyProof.Rows L2
open D
section
variable {ct : CT} {c : CE} {A : Ar} {L : Nat} {ev0 : Option Str} {hx : Option (Nat × Addr)} {n : Nat} {X : Cx} {W : WX} {O : List Nat}
theorem tT_ite {x y z : SE} {ρ : En} : ((ev A (.ite x y z) ρ).bind asBl) = ((ev A x ρ).bind asBl).bind fun k => if k then (ev A y ρ).bind asBl else (ev A z ρ).bind asBl := by
  show ((ev A x ρ).bind fun x => (asBl x).bind fun k => if k then ev A y ρ else ev A z ρ).bind asBl = _
  cases ev A x ρ with
  | ok d => cases d with
    | bl b => cases b <;> rfl
    | _ => rfl
  | _ => rfl
theorem ite_bind {x y z : SE} {ρ : En} : ev A (.ite x y z) ρ = ((ev A x ρ).bind asBl).bind fun k => if k then ev A y ρ else ev A z ρ := by
  show ((ev A x ρ).bind fun x => (asBl x).bind fun k => if k then ev A y ρ else ev A z ρ) = _
  cases ev A x ρ with
  | ok d => cases d <;> rfl
  | _ => rfl
theorem isTrue_ifExp {M : Model} {A : Around} {E : Value → Shared → Prop} {s : Shared} {t a b : Expr} {pos : Pos} {env : Env} {wh : Sem Value} {Q : Bool → Shared → Prop}
    (h : wpAny M A (isTrue t env (eval t env)) (fun d s1 => wpAny M A (if d = true then isTrue a env (eval a env) else isTrue b env (eval b env)) Q E s1) E s) : wpAny M A (isTrue (.IfExp t a b pos) env wh) Q E s := by
  show wpAny M A (do if ← isTrue t env (eval t env) then isTrue a env (eval a env) else isTrue b env (eval b env)) Q E s
  exact wpAny_bind h
theorem pt_ifExp {t a b : Expr} {pos : Pos} {tt ta tb : TT} (ht : PT X t tt) (ha : PT X a ta) (hb : PT X b tb) : PT X (.IfExp t a b pos) (fun σ H Q => tt σ H fun d H1 => if d = true then ta σ H1 Q else tb σ H1 Q) := by
  refine ⟨fun pins s σ H Q I h => ?_⟩
  refine isTrue_ifExp (thn (ht.run pins s σ H _ I h) fun d s1 ⟨H1, I1, q1⟩ => ?_)
  cases d with
  | true => exact ha.run pins s1 σ H1 Q I1 q1
  | false => exact hb.run pins s1 σ H1 Q I1 q1
theorem snd_ite {t a b : Expr} {pos : Pos} {x y z : SE} (ht : Both X ct A W O hx t x) (ha : Both X ct A W O hx a y) (hb : Both X ct A W O hx b z) : Both X ct A W O hx (.IfExp t a b pos) (.ite x y z) := by
  refine ⟨(pe_ifExp ht.2 ha.1 hb.1).imp fun σ H Q ⟨hh, Z, ρ, rel, fin⟩ => ?_, (pt_ifExp ht.2 ha.2 hb.2).imp fun σ H Q ⟨hh, Z, ρ, rel, fin⟩ => ?_⟩
  · rw [ite_bind] at fin
    refine ⟨hh, Z, ρ, rel, fin.bind.mono fun d Z1 H1 he e1 f1 => ?_⟩
    cases d with
    | true => rw [if_pos rfl]; exact ⟨hh, Z1, ρ, rel.ext e1, f1⟩
    | false => rw [if_neg Bool.false_ne_true]; exact ⟨hh, Z1, ρ, rel.ext e1, f1⟩
  · have fin : FinG X.K ct W σ Z H ((ev A (.ite x y z) ρ).bind asBl) _ := fin
    rw [tT_ite] at fin
    refine ⟨hh, Z, ρ, rel, fin.bind.mono fun d Z1 H1 he e1 f1 => ?_⟩
    cases d with
    | true => rw [if_pos rfl]; exact ⟨hh, Z1, ρ, rel.ext e1, f1⟩
    | false => rw [if_neg Bool.false_ne_true]; exact ⟨hh, Z1, ρ, rel.ext e1, f1⟩
theorem snd_ix (S : Sit X ct c A L W ev0 hx) {a i : Expr} {pos : Pos} {x y : SE} (ha : PE X a (tS X ct A W O hx x)) (hi : PE X i (tS X ct A W O hx y)) (hs : noSl i = true) : Both X ct A W O hx (.Subscript a i pos) (.ix x y) :=
  .plain ((pe_ix (ixr (by have := S.un; omega) S.kd) ha hi (noSl_plain hs)).imp fun σ H Q h => tOp_of (fun _ _ _ => ixD_noexc) h) fun _ => rfl
theorem snd_po {e : Option Expr} {o : Option SE} (h : match e, o with | none, none => True | some e, some x => PE X e (tE X ct A W O hx x) | _, _ => False) : PO X e (tOp' X ct A W O hx o) := by
  cases e with
  | none => cases o with
    | none => exact po_none.imp fun σ H Q ⟨hh, Z, ρ, rel, fin⟩ => FinG.here (a := (none : Option Int)) fin rel.sub
    | some _ => exact h.elim
  | some e => cases o with
    | none => exact h.elim
    | some x =>
      refine (po_some (show PE X e (tE X ct A W O hx x) from h)).imp fun σ H Q ⟨hh, Z, ρ, rel, fin⟩ => ?_
      have fin : FinG X.K ct W σ Z H ((ev A x ρ).bind fun x => (asInt x).bind fun i => Res.ok (some i)) _ := fin
      refine ⟨hh, Z, ρ, rel, fin.bind.mono fun d Z1 H1 he e1 f1 v hv => ?_⟩
      cases d with
      | int i => cases hv; exact ⟨i, rfl, FinG.here (a := some i) f1 (rel.ext e1).sub⟩
      | _ => exact (show False from f1).elim
theorem snd_sl {a : Expr} {lo hi : Option Expr} {p pos : Pos} {x : SE} {l h : Option SE} (ha : PE X a (tS X ct A W O hx x)) (hl : PO X lo (tOp' X ct A W O hx l)) (hh : PO X hi (tOp' X ct A W O hx h)) : Both X ct A W O hx (.Subscript a (.Slice lo hi none p) pos) (.sl x l h) := by
  refine .plain ((pe_slice (slr (ct := ct)) ha hl hh).imp fun σ H Q ⟨hh, Z, ρ, rel, fin⟩ => ?_) fun _ => rfl
  have fin : FinG X.K ct W σ Z H ((ev A x ρ).bind fun x => (evo A l ρ).bind fun l => (evo A h ρ).bind fun h => slD x l h) _ := fin
  refine ⟨hh, Z, ρ, rel, fin.bind.mono fun d Z1 H1 he e1 f1 v hv => ?_⟩
  refine ⟨hh, Z1, ρ, rel.ext e1, f1.bind.mono fun l Z2 H2 he e2 f2 => ?_⟩
  refine ⟨hh, Z2, ρ, (rel.ext e1).ext e2, f2.bind.mono fun h Z3 H3 he e3 f3 => ?_⟩
  exact ⟨Z3, d, (((rel.ext e1).ext e2).ext e3).sub, (hv.ext e2).ext e3, f3.fin fun _ => slD_noexc⟩
/-! ### [::-1] -/
theorem rev_pickS (z : List Nat) : ((Builtin.Str.strSliceIndices none none (-1) z.length).filterMap (z.toArray[·]?)) = z.reverse := by
  rw [picked_rev, filterMap_get]
  · rw [List.map_map]
    apply List.ext_getElem
    · simp
    · intro i h1 h2
      simp at h1
      have e : z.toArray.getD (z.length - 1 - i) 0 = z[z.length - 1 - i]'(by omega) := by
        simp [Array.getD, show z.length - 1 - i < z.length by omega]
      simp only [List.getElem_map, Function.comp, List.getElem_range, List.getElem_reverse]
      exact e
  · intro i hi
    obtain ⟨k, hk, rfl⟩ := List.mem_map.mp hi
    have := List.mem_range.mp hk
    rw [List.size_toArray]
    omega
theorem getItem_str_rev {prog : Program} {w : World} {A : Around} {E : Value → Shared → Prop} {s : Shared} {z : List Nat} {t : Tok} {sl : Addr} {vl vu vs : Value} {Q : Value → Shared → Prop} (hs : s.heap.IsSliceOf sl vl vu vs) (pl : IsPart vl none) (pu : IsPart vu none) (ps : IsPart vs (some (-1))) (hl : z.length ≤ sizeLine)
    (h : Q (.str ⟨z.reverse.toArray⟩ s.toks) { s with toks := s.toks + 1 }) : wpAny (model prog w) A (getItem (.str ⟨z.toArray⟩ t) (.ref sl)) Q E s := by
  cases pl
  cases pu
  obtain ⟨k, e1, e2⟩ := IsPart.raw ps
  subst e1
  cases k with
  | none => cases e2
  | some k =>
    obtain ⟨k1, k2⟩ := k
    have e2 : some k1 = some (-1) := e2
    cases e2
    obtain ⟨os, hos, hcs, hds⟩ := hs
    refine wpAny_getItem_str_slice (l := none) (u := none) (st := some (-1, k2)) ⟨os, hos, hcs, hds⟩ rfl ?_
    have e : sliceMade ⟨z.toArray⟩ t none none (some (-1, k2)) = Made.str ⟨z.reverse.toArray⟩ := by
      show (if ((-1 : Int) == 1 && _) = true then _ else Made.str ⟨((Builtin.Str.strSliceIndices none none (-1) (⟨z.toArray⟩ : Str).length).filterMap (z.toArray[·]?)).toArray⟩) = _
      rw [if_neg (by rw [show ((-1 : Int) == 1) = false from rfl]; simp), strlen, rev_pickS]
    rw [e]
    exact ⟨by rw [strlen, List.length_reverse]; exact hl, h⟩
def RRev (K : PySem.W.Frag) (ct : CT) : V → Hp → VK → Prop := fun x H Q => ∃ Z dx, Same Z H ∧ ShDen K ct Z H x dx ∧ Fin K ct Z H (revD dx) Q
theorem pe_rev {e : Expr} {te : TE} {k : Nat} {p1 p2 p3 pos : Pos} (he : PE X e te) : PE X (.Subscript e (.Slice none none (some (.UnaryOp .USub (.Constant (.int 1) k p1) p2)) p3) pos) (fun σ H Q => te σ H fun x H1 => RRev X.K ct x H1 Q) := by
  refine ⟨fun pins s σ H Q I h => ?_⟩
  refine Subscript_ (thn (he.run pins s σ H _ I h) fun v s1 ⟨x, H1, I1, r1, q1⟩ => ?_)
  have hst : PO X (some (.UnaryOp .USub (.Constant (.int 1) k p1) p2)) (tPart (tUn (rU fun i => .int (-i)) (tC (.int 1)))) := po_some (pe_un un_neg pe_int)
  refine wpAny_Slice (thn (po_none.run pins s1 σ H1 (fun o H2 => o = none ∧ H2 = H1) I1 ⟨rfl, rfl⟩) fun vl s2 ⟨l, H2, I2, pl, el, e2⟩ => ?_)
  subst el e2
  refine thn (po_none.run pins s2 σ H2 (fun o H3 => o = none ∧ H3 = H2) I2 ⟨rfl, rfl⟩) fun vu s3 ⟨u, H3, I3, pu, eu, e3⟩ => ?_
  subst eu e3
  refine thn (hst.run pins s3 σ H3 (fun o H4 => o = some (-1) ∧ H4 = H3) I3 ⟨1, rfl, -1, rfl, rfl, rfl⟩) fun vs s4 ⟨o, H4, I4, ps, eo, e4⟩ => ?_
  subst eo e4
  have I5 : Inv X pins σ H4 { s4 with heap := s4.heap.push { cls := .type "slice", data := .fields #[vl, vu, vs] } } := I4.kept (t' := s4.toks) fun b ob q => Heap.get?_push_of_some _ q
  obtain ⟨Z, d, sz, hx, f⟩ := q1
  cases d with
  | lst ds =>
    obtain ⟨a, xs, ex, h1, h2⟩ := hx.lst sz
    subst ex
    cases r1
    obtain ⟨its, r, ht, hz⟩ := I5.list (.inl h1)
    have hlen := r.length
    show wpAny (model X.prog X.w) X.A (subscriptTail e (.Slice none none (some (.UnaryOp .USub (.Constant (.int 1) k p1) p2)) p3) (.ref a) (.ref s4.heap.objs.size)) (EP X pins σ Q) X.xe { s4 with heap := s4.heap.push { cls := .type "slice", data := .fields #[vl, vu, vs] } }
    refine tail_any (ops := [.ref a, .ref s4.heap.objs.size]) ht.isList.typeIs (PySem.slot_list_getitem.lookup) ?_ (by with_unfolding_all rfl)
    refine wpAny_getItem_list_slice ht.isList (Heap.IsSliceOf.new _ vl vu vs) pl pu ps (by decide) ?_ (by rw [List.size_toArray]; omega)
    rw [PySem.W.krv_pick]
    refine ⟨.ref _, _, I5.laid (t' := s4.toks) (o := .lst xs.reverse) (fun b ob q => Heap.get?_push_of_some _ q) (Nat.le_refl _) ?_, rfl, f.newL sz rfl h2.reverse _ (I5.hok.fresh (Nat.le_refl _))⟩
    exact ⟨by rw [List.length_reverse]; exact hz, _, 0, r.reverse, Heap.get?_push_size _ rfl⟩
  | tup ds =>
    obtain ⟨a, xs, ex, h1, h2⟩ := hx.tup sz
    subst ex
    cases r1
    obtain ⟨its, r, ht, hz⟩ := I5.tuple h1
    have hlen := r.length
    show wpAny (model X.prog X.w) X.A (subscriptTail e (.Slice none none (some (.UnaryOp .USub (.Constant (.int 1) k p1) p2)) p3) (.ref a) (.ref s4.heap.objs.size)) (EP X pins σ Q) X.xe { s4 with heap := s4.heap.push { cls := .type "slice", data := .fields #[vl, vu, vs] } }
    refine tail_any (ops := [.ref a, .ref s4.heap.objs.size]) ht.typeIs PyProof.Rows.slot_tuple_getitem.lookup ?_ (by with_unfolding_all rfl)
    refine getItem_tuple_rev ht (Heap.IsSliceOf.new _ vl vu vs) pl pu ps ?_ (by omega)
    refine ⟨.ref _, _, I5.laid (t' := s4.toks) (o := .tup xs.reverse) (fun b ob q => Heap.get?_push_of_some _ q) (Nat.le_refl _) ?_, rfl, f.newT sz rfl h2.reverse _ (I5.hok.fresh (Nat.le_refl _))⟩
    exact ⟨by rw [List.length_reverse]; exact hz, _, r.reverse, ⟨_, Heap.get?_push_size _ rfl, rfl, _, rfl⟩⟩
  | str z =>
    have ex := hx.str
    subst ex
    obtain ⟨t, rfl⟩ := r1
    by_cases cz : okN z.length = true
    · show wpAny (model X.prog X.w) X.A (subscriptTail e (.Slice none none (some (.UnaryOp .USub (.Constant (.int 1) k p1) p2)) p3) (.str ⟨z.toArray⟩ t) (.ref s4.heap.objs.size)) (EP X pins σ Q) X.xe { s4 with heap := s4.heap.push { cls := .type "slice", data := .fields #[vl, vu, vs] } }
      refine tail_any (ops := [.str ⟨z.toArray⟩ t, .ref s4.heap.objs.size]) (typeIs_str _ _ _) F.slot_str_getitem.lookup ?_ (by with_unfolding_all rfl)
      refine getItem_str_rev (Heap.IsSliceOf.new _ vl vu vs) pl pu ps (okN_le cz) ?_
      exact ⟨.str _, H4, I5.tok _, ⟨_, rfl⟩, f.ret sz (show revD (.str z) = _ from if_pos cz) (den_str _ _ _ _)⟩
    · exact (f.no (show revD (.str z) = _ from if_neg cz)).elim
  | _ => exact (f.no rfl).elim
theorem revD_noexc {x : D} {c : Nat} : revD x ≠ .exc c := by
  intro h
  unfold revD at h
  split at h <;> first | (cases h; done) | (split at h <;> cases h)
theorem snd_rev {a : Expr} {k : Nat} {p1 p2 p3 pos : Pos} {x : SE} (ha : PE X a (tS X ct A W O hx x)) : Both X ct A W O hx (.Subscript a (.Slice none none (some (.UnaryOp .USub (.Constant (.int 1) k p1) p2)) p3) pos) (.rev x) := by
  refine .plain ((pe_rev (ct := ct) ha).imp fun σ H Q ⟨hh, Z, ρ, rel, fin⟩ => ?_) fun _ => rfl
  have fin : FinG X.K ct W σ Z H ((ev A x ρ).bind revD) _ := fin
  exact ⟨hh, Z, ρ, rel, fin.bind.mono fun d Z1 H1 he e1 f1 v hv => ⟨Z1, d, (rel.ext e1).sub, hv, f1.fin fun _ => revD_noexc⟩⟩
/-! ### calls of defs -/
theorem den_of_all {K : PySem.W.Frag} {Z H : Hp} {vs : List V} {ds : List D} (h : DenAll K ct Z vs ds) : ShAll K ct Z H vs ds := by
  induction ds generalizing vs with
  | nil => cases h; exact .nil
  | cons d ds ih => cases h with | cons h1 h2 => exact .cons (.inl h1) (ih h2)
theorem spF_of {K : PySem.W.Frag} {σ : L2.St} {Z H : Hp} {g : List D → Res D} {m : Nat} {vs : List V} {ds : List D} {Q : VK} (hm : vs.length = m) (s : Same Z H) (df : Dif Z H) (hv : DenAll K ct Z vs ds) (f : FinG K ct W σ Z H (g ds) fun d Z' H' => ∀ v, Den K ct Z' v d → Q v H') :
    spF (spD K ct g m) vs H Q (WE W σ) := by
  refine ⟨Z, s, df, hm, ds, hv, ?_⟩
  cases q : g ds with
  | ok d => rw [q] at f; exact fun v H1 _ hd H' e => f H1 H' e v hd
  | exc k => rw [q] at f; exact fun C H1 hc _ H' e => f C H1 H' hc e
  | bad => rw [q] at f; exact f
theorem pe_callS0 {CX : CXT} {k : Nat} {f : Addr} {fd : FuncData} {ps : List Str} {sp : Sp} {E : L2.St → XK} {x : Str} {p pos : Pos} (F : FnOk X.prog X.w X.K X.mg X.base CX k f fd ps sp) (hr : Room k X.A) (hg : Gl X x) (hm : X.mg x = some (.ref f)) (hk : PySem.W.keepIn X.K (.ref f) = true) (hb : Binds X.K fd ps []) (hx : ∀ σ, PassesAt CX X σ (E σ))
    (hdb : (x == ("__debug__" : Str)) = false) : PE X (.Call (.Name x p) [] [] pos) (tCallS sp E tNil) := by
  refine ⟨fun pins s σ H Q I h => ?_⟩
  refine wpAny_Call_Name_kw (ld_glob I hg hm ?_ hdb)
  exact PySem.W.callWith_K0 I.kIn hk (run_fnS (us := []) F hr hb (hx σ) I .nil h)
theorem snd_call (S : Sit X ct c A L W ev0 hx) (h0 : ev0 = none) {f : Str} {p pos : Pos} {args : List Expr} {ses : List SE} {k m : Nat} (hp : plainName f = true) (hg : gloB X.env.scope f = true) (hf : c.fn.lookup f = some (k, m)) (hl : ses.length = m) (ha : PA X args (tAs X ct A W O hx ses)) (hst : ∀ e ∈ args, noStar e = true) (hnil : args = [] → ses = []) : Both X ct A W O hx (.Call (.Name f p) args [] pos) (.call k ses) := by
  obtain ⟨p1, p2, _⟩ := plain_debug hp
  obtain ⟨fa, fd, ps, h1, h2, h3, h4⟩ := S.fns f k m hf
  refine .plain ?_ fun _ => rfl
  have key : ∀ σ H Q, tE X ct A W O hx (.call k ses) σ H Q → tCallS (spF (spD X.K ct (A.Φ k) m)) (WE W) (tAs X ct A W O hx ses) σ H Q := fun σ H Q ⟨hh, Z, ρ, rel, fin⟩ => by
    have fin : FinG X.K ct W σ Z H ((evs A ses ρ).bind fun ds => A.Φ k ds) _ := fin
    refine ⟨hh, Z, ρ, rel, fin.bind.mono fun ds Z1 H1 he e1 f1 vs hv => ?_⟩
    have r1 := rel.ext e1
    exact spF_of (by rw [hv.length, evs_len he, hl]) r1.sub r1.dif hv f1
  cases args with
  | nil =>
    refine (pe_callS0 h4 (S.room h0) (gloB_gl hg) h1 h2 h3 (fun σ => passAt S.tk σ) p1).imp fun σ H Q ⟨hh, Z, ρ, rel, fin⟩ => ?_
    have e := hnil rfl
    subst e
    exact spF_of (vs := []) (ds := []) (by rw [← hl]; rfl) rel.sub rel.dif .nil fin
  | cons e es => exact (pe_callS h4 (S.room h0) (gloB_gl hg) h1 h2 h3 (fun σ => passAt S.tk σ) ha p1 (noStar_each (hst e List.mem_cons_self)) (backTo_any fun e' he => hst e' (List.mem_cons_of_mem _ he))).imp key
end
end Tk
/-! Expressions, construct by construct: built-in calls, methods, what is walked, comprehensions. -/
namespace Tk
open PySem PySem.Spec PyProof.Rows L2
open D
theorem sOf_eq {x : Str} {y : String} (h : (x == sOf y) = true) : x = (y : Str) := beq_iff_eq.mp h
section
variable {ct : CT} {c : CE} {A : Ar} {L : Nat} {ev0 : Option Str} {hx : Option (Nat × Addr)} {n : Nat} {X : Cx} {W : WX} {O : List Nat}
theorem ShAll.ext {K : PySem.W.Frag} {Z H Z' H' : Hp} (e : Ext Z H Z' H') : ∀ {vs : List V} {ds : List D}, ShAll K ct Z H vs ds → ShAll K ct Z' H' vs ds
  | _, _, .nil => .nil
  | _, _, .cons h1 h2 => .cons (h1.ext e) (ShAll.ext e h2)
/-! ### one argument, only looked at -/
theorem tOne_of {x : SE} {f : D → Res D} {σ : L2.St} {H : Hp} {Q : VK} {b : Bi} (h : tG X ct W O hx (fun ρ => (ev A x ρ).bind fun d => biD b [d]) (fun d Z' H' => ∀ v, Den X.K ct Z' v d → Q v H') σ H) :
    tCB (RBi X.K ct b) (tCons (tS X ct A W O hx x) tNil) σ H Q := by
  obtain ⟨hh, Z, ρ, rel, fin⟩ := h
  refine ⟨hh, Z, ρ, rel, fin.bind.mono fun d Z1 H1 _ e1 f1 v hv => ?_⟩
  exact ⟨Z1, [d], (rel.ext e1).sub, .cons hv .nil, f1.fin fun _ => biD_noexc⟩
theorem bi1_eq {b : Bi} {x : SE} {ρ : En} : ev A (.bi b [x]) ρ = (ev A x ρ).bind fun d => biD b [d] := by
  show ((ev A x ρ).bind fun x => (Res.ok []).bind fun r => Res.ok (x :: r)).bind (fun ds => biD b ds) = _
  cases ev A x ρ <;> rfl
theorem snd_bi1 (S : Sit X ct c A L W ev0 hx) (h0 : ev0 = none) {f : Str} {p pos : Pos} {a : Expr} {x : SE} {b : Bi} (hp : plainName f = true) (hg : gloB X.env.scope f = true) (hfr : c.free.contains f = true) (hb : biOf f = some b) (hs : noStar a = true) (ha : PE X a (tS X ct A W O hx x)) : Both X ct A W O hx (.Call (.Name f p) [a] [] pos) (.bi b [x]) := by
  obtain ⟨p1, p2, p3⟩ := plain_debug hp
  have hm := S.free f hfr
  have hA : PA X [a] (tCons (tS X ct A W O hx x) tNil) := pa_cons ha pa_nil (noStar_each hs)
  have hst := noStar_each (es := []) (env := X.env) hs
  refine .plain ?_ fun _ => rfl
  have key : ∀ σ H Q, tE X ct A W O hx (.bi b [x]) σ H Q → tCB (RBi X.K ct b) (tCons (tS X ct A W O hx x) tNil) σ H Q := fun σ H Q h => tOne_of (f := fun d => biD b [d]) (by
    obtain ⟨hh, Z, ρ, rel, fin⟩ := h
    rw [bi1_eq] at fin
    exact ⟨hh, Z, ρ, rel, fin⟩)
  unfold biOf at hb
  have hc := S.calm h0
  split at hb
  · rename_i q; cases hb; have e := sOf_eq q; subst e
    exact (pe_callB bi_len (gloB_gl hg) hm (by decide +kernel) hA p3 p1 hst rfl).imp key
  split at hb
  · rename_i q; cases hb; have e := sOf_eq q; subst e
    exact (pe_callTy bi_int (gloB_gl hg) hm (by decide +kernel) hA p3 p1 hst rfl).imp key
  split at hb
  · rename_i q; cases hb; have e := sOf_eq q; subst e
    exact (pe_callTy bi_tuple (gloB_gl hg) hm (by decide +kernel) hA p3 p1 hst rfl).imp key
  split at hb
  · rename_i q; cases hb; have e := sOf_eq q; subst e
    exact (pe_callTy bi_list (gloB_gl hg) hm (by decide +kernel) hA p3 p1 hst rfl).imp key
  split at hb
  · rename_i q; cases hb; have e := sOf_eq q; subst e
    exact (pe_callB (bi_sum hc) (gloB_gl hg) hm (by decide +kernel) hA p3 p1 hst rfl).imp key
  split at hb
  · rename_i q; cases hb; have e := sOf_eq q; subst e
    exact (pe_callB (bi_any hc) (gloB_gl hg) hm (by decide +kernel) hA p3 p1 hst rfl).imp key
  split at hb
  · rename_i q; cases hb; have e := sOf_eq q; subst e
    exact (pe_callB (bi_all hc) (gloB_gl hg) hm (by decide +kernel) hA p3 p1 hst rfl).imp key
  split at hb
  · rename_i q; cases hb; have e := sOf_eq q; subst e
    exact (pe_callTy bi_str1 (gloB_gl hg) hm (by decide +kernel) hA p3 p1 hst rfl).imp key
  split at hb
  · rename_i q; cases hb; have e := sOf_eq q; subst e
    exact (pe_callB (bi_max hc) (gloB_gl hg) hm (by decide +kernel) hA p3 p1 hst rfl).imp key
  · cases hb
theorem snd_isi (S : Sit X ct c A L W ev0 hx) {p q pos : Pos} {a : Expr} {x : SE} {t : Str} {k : Nat} (hg : gloB X.env.scope (sOf "isinstance") = true) (hfr : c.free.contains (sOf "isinstance") = true) (hg2 : gloB X.env.scope t = true) (hp2 : plainName t = true) (hfr2 : c.free.contains t = true) (hk : isiOf t = some k) (hs : noStar a = true) (ha : PE X a (tS X ct A W O hx x)) : Both X ct A W O hx (.Call (.Name (sOf "isinstance") p) [a, .Name t q] [] pos) (.bi (.isi k) [x]) := by
  obtain ⟨p1, p2, p3⟩ := plain_debug hp2
  have hm := S.free _ hfr
  have hm2 := S.free _ hfr2
  have hty : bootBuiltins t = some (.type (isiN k)) := by
    unfold isiOf at hk
    split at hk
    · rename_i q; cases hk; rw [sOf_eq q]; decide +kernel
    split at hk
    · rename_i q; cases hk; rw [sOf_eq q]; decide +kernel
    split at hk
    · rename_i q; cases hk; rw [sOf_eq q]; decide +kernel
    split at hk
    · rename_i q; cases hk; rw [sOf_eq q]; decide +kernel
    split at hk
    · rename_i q; cases hk; rw [sOf_eq q]; decide +kernel
    · cases hk
  have hT : PE X (.Name t q) (tC (.ty (isiN k))) := pe_bltn (gloB_gl hg2) hm2 hty rfl p3 p1
  have hA : PA X [a, .Name t q] (tCons (tS X ct A W O hx x) (tCons (tC (.ty (isiN k))) tNil)) := pa_cons ha (pa_cons hT pa_nil) (noStar_each hs)
  refine .plain ((pe_callB (bi_isi (ct := ct) (t := k)) (gloB_gl hg) hm (by decide +kernel) hA (by decide) (by decide) (noStar_each hs) rfl).imp fun σ H Q ⟨hh, Z, ρ, rel, fin⟩ => ?_) fun _ => rfl
  rw [bi1_eq] at fin
  refine ⟨hh, Z, ρ, rel, fin.bind.mono fun d Z1 H1 _ e1 f1 v hv => ?_⟩
  exact ⟨v, rfl, Z1, [d], (rel.ext e1).sub, .cons hv .nil, f1.fin fun _ => biD_noexc⟩
/-! ### len(set(xs)), ints -/
def tLenSetG (K : PySem.W.Frag) (ta : TE) : TE := fun σ H Q => ta σ H fun x H1 => ∃ (l : Addr) (ns : List Int), x = V.ref l ∧ SqL K H1 l (ns.map V.int) ∧ ns.length < 1000 ∧ Q (.int (firstMet (fun i => ns.getD i 0) ns.length).length) H1
theorem firstMet_le (g : Nat → Int) : ∀ n, (firstMet g n).length ≤ n
  | 0 => by simp [firstMet]
  | n + 1 => by
    have ih := firstMet_le g n
    rw [firstMet_succ]
    unfold step_dedup
    split
    · omega
    · simp; omega
theorem pe_lenSetG {a : Expr} {ta : TE} {p p2 q pos : Pos} (hc : X.calm = true) (hg : Gl X "len") (hm : X.mg "len" = none) (hg2 : Gl X "set") (hm2 : X.mg "set" = none) (ha : PE X a ta)
    (na : starEach [a] X.env = (false, eval a X.env) :: starEach [] X.env) : PE X (.Call (.Name "len" p) [.Call (.Name "set" p2) [a] [] q] [] pos) (tLenSetG X.K ta) := by
  refine ⟨fun pins s σ H Q I h => ?_⟩
  refine Call_ (ld_blt I hg hm PySem.boot_len ?_)
  refine PyProof.Rows.callWith_builtin1 (PyProof.Rows.args_cons ?_ rfl) rfl rfl
  refine Call_ (ld_blt I hg2 hm2 PyProof.Rows.boot_set ?_)
  refine PyProof.Rows.callWith_type1 (PyProof.Rows.args_cons (thn (ha.run pins s σ H _ I h) fun v s1 ⟨x, H1, I1, r1, q1⟩ => PyProof.Rows.args_nil ?_) na) na rfl
  obtain ⟨l, ns, rfl, hq, h1, q1⟩ := q1
  cases r1
  obtain ⟨its, r, pl, hz⟩ := I1.list hq
  have hl : its.toArray.size = ns.length := by rw [List.size_toArray, ← r.length, List.length_map]
  refine call_set_list (I1.ok.hd hc) pl.isList (ns := ns) (by simpa using r.ints) (by unfold scanBound; omega) fun h' tk hS hk => ?_
  rw [hl] at hS
  refine PyProof.Rows.args_nil ?_
  obtain ⟨o, es, ep, t, ho, hex, hd, _, _, _, hf, hn⟩ := hS
  have I2 : Inv X pins σ H1 { s1 with heap := h', toks := tk } := I1.kept fun b o e => hk b o (Heap.lt_size e) e
  have := firstMet_le (fun i => ns.getD i 0) ns.length
  refine call_len_set ho hex hd hf (by rw [hn] <;> omega) ⟨.int _, H1, I2.tok _, ⟨_, by rw [hn]⟩, q1⟩
theorem snd_lenSet (S : Sit X ct c A L W ev0 hx) (h0 : ev0 = none) {p p2 q pos : Pos} {a : Expr} {x : SE} (hg : gloB X.env.scope (sOf "len") = true) (hfr : c.free.contains (sOf "len") = true) (hg2 : gloB X.env.scope (sOf "set") = true) (hfr2 : c.free.contains (sOf "set") = true) (hs : noStar a = true) (ha : PE X a (tS X ct A W O hx x)) : Both X ct A W O hx (.Call (.Name (sOf "len") p) [.Call (.Name (sOf "set") p2) [a] [] q] [] pos) (.bi .lenSet [x]) := by
  refine .plain ((pe_lenSetG (S.calm h0) (gloB_gl hg) (S.free _ hfr) (gloB_gl hg2) (S.free _ hfr2) ha (noStar_each hs)).imp fun σ H Q ⟨hh, Z, ρ, rel, fin⟩ => ?_) fun _ => rfl
  rw [bi1_eq] at fin
  refine ⟨hh, Z, ρ, rel, fin.bind.mono fun d Z1 H1 _ e1 f1 v hv => ?_⟩
  have sz := (rel.ext e1).sub
  cases d with
  | lst ds =>
    obtain ⟨l, vs, rfl, h1, h2⟩ := hv.lst sz
    have f1 : FinG X.K ct W σ Z1 H1 (match intsO ds with | some ns => if decide (ns.length < 1000) then Res.ok (D.int (firstMet (fun i => ns.getD i 0) ns.length).length) else Res.bad | none => Res.bad) _ := f1
    cases e : intsO ds with
    | none => rw [e] at f1; exact (show False from f1).elim
    | some ns =>
      rw [e] at f1
      by_cases hn : ns.length < 1000
      · simp only [hn, decide_true, if_true] at f1
        exact ⟨l, ns, rfl, by rw [← den_intsO h2 e]; exact .inl h1, hn, FinG.here f1 sz _ (.int _)⟩
      · simp only [hn, decide_false] at f1
        exact (show False from f1).elim
  | _ => exact (show False from f1).elim
/-! ### methods of built-in types -/
theorem base_eq {o : Expr} {m : Str} {env : Env} {wh : Sem Value} (h : baseOk o = true) : attributeBase o m env wh = wh := by
  cases o <;> first | rfl | cases h
theorem few1 {a : Expr} {cp : Pos} {env : Env} (h : noStar a = true) : ((backTo cp (starEach [a] env)).all (fun x => !x.1) && (backToKw cp (keywordEach [] env)).all (fun x => x.1.isSome) && decide (([a] : List Expr).length + ([] : List Keyword).length + (if ([] : List Keyword).isEmpty then 0 else 1) < 30)) = true := by
  rw [noStar_each h]
  rfl
theorem bi_sindex : MtR X "str.index" (fun x xs H Q => RBi X.K ct .sindex (x :: xs) H Q) := by
  intro pins s σ H x xs v us Q I rx rs h
  obtain ⟨Z, ds, sz, hs, f⟩ := h
  cases hs with
  | cons h1 h2 =>
    rename_i d ds
    cases d with
    | str z =>
      cases h2 with
      | nil => exact (f.no rfl).elim
      | cons h3 h4 =>
        rename_i y ys e es
        cases h4 with
        | cons _ _ => exact (f.no (by cases e <;> rfl)).elim
        | nil =>
          cases e with
          | str w =>
            have e1 := h1.str
            have e2 := h3.str
            subst e1 e2
            obtain ⟨t, rfl⟩ := rx
            cases rs with
            | cons r1 rs =>
              cases rs
              obtain ⟨u, rfl⟩ := r1
              cases q : Builtin.Str.occurrences ⟨z.toArray⟩ ⟨w.toArray⟩ 0 z.length 1 with
              | nil => exact (f.no (show (match Builtin.Str.occurrences ⟨z.toArray⟩ ⟨w.toArray⟩ 0 z.length 1 with | i :: _ => Res.ok (D.int i) | [] => .bad) = _ by rw [q])).elim
              | cons k rest =>
                refine PySem.SC.index (by rw [strlen]; exact q) ⟨.int (k : Nat), H, I.tok _, ⟨_, rfl⟩, ?_⟩
                exact f.ret sz (show (match Builtin.Str.occurrences ⟨z.toArray⟩ ⟨w.toArray⟩ 0 z.length 1 with | i :: _ => Res.ok (D.int i) | [] => .bad) = _ by rw [q]) (.int _)
          | _ => exact (f.no rfl).elim
    | _ => exact (f.no (by cases ds <;> rfl)).elim
theorem tMe_of {b : Bi} {T : String} {x y : SE} {σ : L2.St} {H : Hp} {Q : VK} (hT : ∀ d Z H v, recv b d = true → ShDen X.K ct Z H v d → Same Z H → tyV X.K T v H) (h : tE X ct A W O hx (.me b x [y]) σ H Q) :
    tBM X.K T (fun v vs H Q => RBi X.K ct b (v :: vs) H Q) (tS X ct A W O hx x) (tCons (tS X ct A W O hx y) tNil) σ H Q := by
  obtain ⟨hh, Z, ρ, rel, fin⟩ := h
  have fin : FinG X.K ct W σ Z H ((ev A x ρ).bind fun x => if recv b x then (((ev A y ρ).bind fun y => (Res.ok []).bind fun r => Res.ok (y :: r)).bind fun ds => biD b (x :: ds)) else .bad) _ := fin
  refine ⟨hh, Z, ρ, rel, fin.bind.mono fun d Z1 H1 _ e1 f1 v hv => ?_⟩
  by_cases q : recv b d = true
  · rw [if_pos q] at f1
    refine ⟨hT d Z1 H1 v q hv (rel.ext e1).sub, hh, Z1, ρ, rel.ext e1, f1.bind.bind.mono fun d2 Z2 H2 _ e2 f2 u hu => ?_⟩
    have f3 : FinG X.K ct W σ Z2 H2 (biD b [d, d2]) _ := FinG.here (a := [d2]) f2 ((rel.ext e1).ext e2).sub
    exact ⟨Z2, [d, d2], ((rel.ext e1).ext e2).sub, .cons (hv.ext e2) (.cons hu .nil), f3.fin fun _ => biD_noexc⟩
  · rw [if_neg q] at f1; exact (show False from f1).elim
theorem snd_join {o a : Expr} {ap cp : Pos} {x y : SE} (hb : baseOk o = true) (hl : (ap.endLine == cp.line) = true) (hs : noStar a = true) (ho : PE X o (tS X ct A W O hx x)) (ha : PE X a (tS X ct A W O hx y)) : Both X ct A W O hx (.Call (.Attribute o (sOf "join") ap) [a] [] cp) (.me .join x [y]) :=
  .plain ((pe_bm PySem.F.plainAttrs_str PySem.F.slot_str_join PySem.F.type_str_join bi_join ho (pa_cons ha pa_nil (noStar_each hs)) (base_eq hb) (few1 hs) hl (noStar_each hs) rfl).imp fun σ H Q h => tMe_of (fun d Z H v hr hv _ => by
    cases d with
    | str z => rw [hv.str]; rfl
    | _ => cases hr) h) fun _ => rfl
theorem snd_sindex {o a : Expr} {ap cp : Pos} {x y : SE} (hb : baseOk o = true) (hl : (ap.endLine == cp.line) = true) (hs : noStar a = true) (ho : PE X o (tS X ct A W O hx x)) (ha : PE X a (tS X ct A W O hx y)) : Both X ct A W O hx (.Call (.Attribute o (sOf "index") ap) [a] [] cp) (.me .sindex x [y]) :=
  .plain ((pe_bm PySem.F.plainAttrs_str PySem.F.slot_str_index PySem.F.type_str_index bi_sindex ho (pa_cons ha pa_nil (noStar_each hs)) (base_eq hb) (few1 hs) hl (noStar_each hs) rfl).imp fun σ H Q h => tMe_of (fun d Z H v hr hv _ => by
    cases d with
    | str z => rw [hv.str]; rfl
    | _ => cases hr) h) fun _ => rfl
/-! ### lists of expressions -/
theorem snd_asNil : PA X [] (tAs X ct A W O hx []) := pa_nil.imp fun σ H Q ⟨hh, Z, ρ, rel, fin⟩ => FinG.here (a := ([] : List D)) fin rel.sub [] .nil
theorem snd_asCons {e : Expr} {es : List Expr} {x : SE} {xs : List SE} (he : PE X e (tE X ct A W O hx x)) (hr : PA X es (tAs X ct A W O hx xs)) (hs : noStar e = true) : PA X (e :: es) (tAs X ct A W O hx (x :: xs)) := by
  refine (pa_cons he hr (noStar_each hs)).imp fun σ H Q ⟨hh, Z, ρ, rel, fin⟩ => ?_
  have fin : FinG X.K ct W σ Z H ((ev A x ρ).bind fun x => (evs A xs ρ).bind fun r => Res.ok (x :: r)) _ := fin
  refine ⟨hh, Z, ρ, rel, fin.bind.mono fun d Z1 H1 _ e1 f1 v hv => ⟨hh, Z1, ρ, rel.ext e1, f1.bind.mono fun ds Z2 H2 _ e2 f2 vs hvs => ?_⟩⟩
  exact FinG.here (a := d :: ds) f2 ((rel.ext e1).ext e2).sub (v :: vs) (.cons (Den.mono e2.zz _ _ hv) hvs)
theorem snd_tsNil : PTs X [] (tTs X ct A W O hx []) := pts_nil.imp fun σ H Q ⟨hh, Z, ρ, rel, fin⟩ => FinG.here (a := true) fin rel.sub
end
end Tk
/-! {..}.get(k, d) of a display of constants. -/
namespace Tk
open PySem PySem.Spec PyProof.Rows L2
open D
section
variable {ct : CT} {c : CE} {A : Ar} {L : Nat} {ev0 : Option Str} {hx : Option (Nat × Addr)} {n : Nat} {X : Cx} {W : WX} {O : List Nat}
def kvL (l : List (Str × V)) : List (Key × V) := l.map fun p => (.inr p.1, p.2)
theorem mergeK_all : ∀ (l acc : List (Key × V)), (∀ p ∈ l, ∀ q ∈ acc, q.1 ≠ p.1) → (l.map (·.1)).Nodup → mergeK acc l = acc ++ l
  | [], acc, _, _ => by simp [mergeK]
  | p :: l, acc, h, nd => by
    have e : putK acc p.1 p.2 = acc ++ [p] := by
      unfold putK
      rw [if_neg]
      intro q
      obtain ⟨x, hx, hq⟩ := List.any_eq_true.mp q
      exact h p (by simp) x hx (of_decide_eq_true hq)
    show mergeK (putK acc p.1 p.2) l = _
    rw [e, mergeK_all l (acc ++ [p])]
    · simp
    · intro a ha b hb
      rcases List.mem_append.mp hb with hb | hb
      · exact h a (by simp [ha]) b hb
      · have : b = p := by simpa using hb
        subst this
        rw [List.map_cons, List.nodup_cons] at nd
        intro z
        exact nd.1 (z ▸ List.mem_map_of_mem ha)
    · rw [List.map_cons, List.nodup_cons] at nd
      exact nd.2
theorem dis_nodup : ∀ {l : List (Str × V)}, disK l = true → ((kvL l).map (·.1)).Nodup
  | [], _ => by simp [kvL]
  | p :: l, h => by
    unfold disK at h
    obtain ⟨h1, h2⟩ := Bool.and_eq_true_iff.mp h
    have ih := dis_nodup h2
    show (Sum.inr p.1 :: (kvL l).map (·.1)).Nodup
    rw [List.nodup_cons]
    refine ⟨fun q => ?_, ih⟩
    obtain ⟨x, hx, e⟩ := List.mem_map.mp q
    obtain ⟨y, hy, rfl⟩ := List.mem_map.mp hx
    have e : y.1 = p.1 := by simpa using e
    rw [Bool.not_eq_true', List.any_eq_false] at h1
    exact h1 y hy (by rw [e]; simp)
theorem lit_den {K : PySem.W.Frag} {Z : Hp} : ∀ {ks : List (Option Expr)} {vs : List Expr} {l : List (Str × V)}, litP ks vs = some l → DenK K ct Z (kvL l) (l.map fun p => (D.str p.1.cps.toList, vD p.2)) := by
  intro ks vs l h
  induction l generalizing ks vs with
  | nil => exact .nil
  | cons p l ih =>
    unfold litP at h
    split at h
    · cases h
    · rename_i s _ _ ks v vs
      split at h
      · rename_i b r e1 e2
        cases h
        refine .cons ?_ (ih e2)
        unfold litV at e1
        split at e1
        · cases e1; exact .int _
        · cases e1; exact .str _
        · cases e1
      · cases h
    · cases h
def trsOf (l : List (Str × V)) : List (TE × TE) := l.map fun p => (tC (.str p.1), tC p.2)
theorem lit_pps {pos : Pos} : ∀ {ks : List (Option Expr)} {vs : List Expr} {l : List (Str × V)}, litP ks vs = some l → PPs X pos ks vs (trsOf l) ∧ ks.all (·.isSome) = true ∧ ks.length = l.length ∧ vs.length = l.length := by
  intro ks vs l h
  induction l generalizing ks vs with
  | nil =>
    unfold litP at h
    split at h
    · exact ⟨pps_nil, rfl, rfl, rfl⟩
    · split at h <;> cases h
    · cases h
  | cons p l ih =>
    unfold litP at h
    split at h
    · cases h
    · rename_i s _ _ ks v vs
      split at h
      · rename_i b r e1 e2
        cases h
        obtain ⟨i1, i2, i3, i4⟩ := ih e2
        refine ⟨pps_cons pe_str ?_ i1, by simpa using i2, by simp [i3], by simp [i4]⟩
        unfold litV at e1
        split at e1
        · cases e1; exact pe_int
        · cases e1; exact pe_str
        · cases e1
      · cases h
    · cases h
theorem tPairs_lit {σ : L2.St} {H : Hp} : ∀ {l : List (Str × V)} {Q : List (V × V) → Hp → Prop}, Q (l.map fun p => (.str p.1, p.2)) H → tPairs (trsOf l) σ H Q
  | [], Q, h => h
  | p :: l, Q, h => tPairs_lit (l := l) h
theorem upd_upd {H : Hp} {p : Addr} {o o2 : HO} : upd (upd H p o) p o2 = upd H p o2 := by
  funext b
  by_cases e : b = p
  · subst e; rw [upd_same, upd_same]
  · rw [upd_ne e, upd_ne e, upd_ne e]
theorem snd_dlit {ks : List (Option Expr)} {vs : List Expr} {dp : Pos} {d : D} (hd : litD ks vs = some d) : Both X ct A W O hx (.Dict ks vs dp) (.con d) := by
  unfold litD at hd
  split at hd
  case h_2 => cases hd
  case h_1 l el =>
  split at hd
  case isFalse => cases hd
  case isTrue q =>
  cases hd
  simp only [Bool.and_eq_true, decide_eq_true_eq] at q
  obtain ⟨⟨q1, q2⟩, q3⟩ := q
  obtain ⟨p1, p2, p3, p4⟩ := lit_pps (X := X) (pos := dp) el
  have hne : ks ≠ [] := by
    intro z
    subst z
    have : l = [] := List.length_eq_zero_iff.mp p3.symm
    subst this
    simp at q3
  refine .plain ((pe_disp p1 p2 (p3.trans p4.symm) hne (by omega)).imp fun σ H Q ⟨hh, Z, ρ, rel, fin⟩ => ?_) fun _ => rfl
  intro p hp
  refine tPairs_lit ⟨upd_same, kvL l, by simp [kvL, kV], by simpa [kvL] using q2, ?_⟩
  rw [mergeK_all _ _ (by simp) (dis_nodup q1), List.nil_append, upd_upd]
  have sz := rel.sub
  have e0 : Ext Z H (upd Z p (.dK (kvL l))) (upd H p (.dK (kvL l))) := .mk1 sz hp
  have fin : FinG X.K ct W σ Z H (Res.ok (D.dic (l.map fun p => (D.str p.1.cps.toList, vD p.2)))) _ := fin
  exact fin _ _ e0 _ (.dK upd_same (lit_den el))
theorem snd_dget2 (S : Sit X ct c A L W ev0 hx) {ks : List (Option Expr)} {vs : List Expr} {dp ap cp : Pos} {a b : Expr} {d d0 : D} {x : SE} (hl : (ap.endLine == cp.line) = true) (hs : noStar a = true) (hs2 : noStar b = true) (hd : litD ks vs = some d) (ha : PE X a (tS X ct A W O hx x)) (hb : PE X b (tE X ct A W O hx (.con d0))) : Both X ct A W O hx (.Call (.Attribute (.Dict ks vs dp) (sOf "get") ap) [a, b] [] cp) (.me .get2 (.con d) [x, .con d0]) := by
  unfold litD at hd
  split at hd
  case h_2 => cases hd
  case h_1 l el =>
  split at hd
  case isFalse => cases hd
  case isTrue q =>
  cases hd
  simp only [Bool.and_eq_true, decide_eq_true_eq] at q
  obtain ⟨⟨q1, q2⟩, q3⟩ := q
  obtain ⟨p1, p2, p3, p4⟩ := lit_pps (X := X) (pos := dp) el
  have hne : ks ≠ [] := by
    intro z
    subst z
    have : l = [] := List.length_eq_zero_iff.mp p3.symm
    subst this
    simp at q3
  have hm : M2 X (.Dict ks vs dp) (sOf "get") ap a b cp := ⟨rfl, by rw [noStar_each hs, noStar_each hs2]; rfl, hl, by rw [noStar_each hs, noStar_each hs2]; rfl⟩
  refine .plain ((pe_dget2 (by have := S.un; omega) (pe_disp p1 p2 (p3.trans p4.symm) hne (by omega)) ha hb hm).imp fun σ H Q ⟨hh, Z, ρ, rel, fin⟩ => ?_) fun _ => rfl
  intro p hp
  refine tPairs_lit ⟨upd_same, kvL l, by simp [kvL, kV], by simpa [kvL] using q2, p, rfl, .inl ⟨_, .inl upd_same⟩, ?_⟩
  rw [mergeK_all _ _ (by simp) (dis_nodup q1), List.nil_append, upd_upd]
  have sz := rel.sub
  have e0 : Ext Z H (upd Z p (.dK (kvL l))) (upd H p (.dK (kvL l))) := .mk1 sz hp
  have fin : FinG X.K ct W σ Z H (((ev A x ρ).bind fun y => (Res.ok [d0]).bind fun r => Res.ok (y :: r)).bind fun ds => biD .get2 (D.dic (l.map fun p => (D.str p.1.cps.toList, vD p.2)) :: ds)) _ := fin
  refine ⟨hh, _, ρ, rel.ext e0, (fin.ext e0).bind.bind.mono fun k Z2 H2 _ e2 f2 u hu => ?_⟩
  have rel2 := (rel.ext e0).ext e2
  refine ⟨hh, Z2, ρ, rel2, fun Z3 H3 e3 w hw => ?_⟩
  have f3 : FinG X.K ct W σ Z2 H2 (biD .get2 [D.dic (l.map fun p => (D.str p.1.cps.toList, vD p.2)), k, d0]) _ := FinG.here (a := [k, d0]) f2 rel2.sub
  have f4 := f3.ext e3
  by_cases c : keyOk k (l.map fun p => (D.str p.1.cps.toList, vD p.2)) = true
  · have eb : biD .get2 [D.dic (l.map fun p => (D.str p.1.cps.toList, vD p.2)), k, d0] = .ok ((lookD k (l.map fun p => (D.str p.1.cps.toList, vD p.2))).getD d0) := if_pos c
    rw [eb] at f4
    obtain ⟨k, rfl, rfl⟩ := key_den hu (keyOk_is c)
    have hz : H3 p = some (.dK (kvL l)) := e3.hh _ _ (e2.hh _ _ upd_same)
    have z := (DenK.val (k := k) (lit_den (K := X.K) (ct := ct) (Z := Z3) el)).1
    refine ⟨valV (kvL l) k, DGet.k hz, ?_⟩
    have rel3 := rel2.ext e3
    cases e : valV (kvL l) k with
    | none =>
      rw [e] at z
      have z : lookD (kD k) _ = none := z
      rw [z] at f4
      exact FinG.here f4 rel3.sub _ hw
    | some v =>
      rw [e] at z
      obtain ⟨d, z1, z2⟩ := z
      rw [z1] at f4
      exact FinG.here f4 rel3.sub _ z2
  · have eb : biD .get2 [D.dic (l.map fun p => (D.str p.1.cps.toList, vD p.2)), k, d0] = .bad := if_neg c
    rw [eb] at f4
    exact (show False from f4).elim
theorem snd_dget1 (S : Sit X ct c A L W ev0 hx) {ks : List (Option Expr)} {vs : List Expr} {dp ap cp : Pos} {a : Expr} {d : D} {x : SE} (hl : (ap.endLine == cp.line) = true) (hs : noStar a = true) (hd : litD ks vs = some d) (ha : PE X a (tS X ct A W O hx x)) : Both X ct A W O hx (.Call (.Attribute (.Dict ks vs dp) (sOf "get") ap) [a] [] cp) (.me .get1 (.con d) [x]) := by
  unfold litD at hd
  split at hd
  case h_2 => cases hd
  case h_1 l el =>
  split at hd
  case isFalse => cases hd
  case isTrue q =>
  cases hd
  simp only [Bool.and_eq_true, decide_eq_true_eq] at q
  obtain ⟨⟨q1, q2⟩, q3⟩ := q
  obtain ⟨p1, p2, p3, p4⟩ := lit_pps (X := X) (pos := dp) el
  have hne : ks ≠ [] := by
    intro z
    subst z
    have : l = [] := List.length_eq_zero_iff.mp p3.symm
    subst this
    simp at q3
  have hm : M1 X (.Dict ks vs dp) (sOf "get") ap a cp := ⟨rfl, by rw [noStar_each hs]; rfl, hl, by rw [noStar_each hs]; rfl⟩
  refine .plain ((pe_dget1 (by have := S.un; omega) (pe_disp p1 p2 (p3.trans p4.symm) hne (by omega)) ha hm).imp fun σ H Q ⟨hh, Z, ρ, rel, fin⟩ => ?_) fun _ => rfl
  intro p hp
  refine tPairs_lit ⟨upd_same, kvL l, by simp [kvL, kV], by simpa [kvL] using q2, p, rfl, .inl ⟨_, .inl upd_same⟩, ?_⟩
  rw [mergeK_all _ _ (by simp) (dis_nodup q1), List.nil_append, upd_upd]
  have sz := rel.sub
  have e0 : Ext Z H (upd Z p (.dK (kvL l))) (upd H p (.dK (kvL l))) := .mk1 sz hp
  have fin : FinG X.K ct W σ Z H (((ev A x ρ).bind fun y => (Res.ok []).bind fun r => Res.ok (y :: r)).bind fun ds => biD .get1 (D.dic (l.map fun p => (D.str p.1.cps.toList, vD p.2)) :: ds)) _ := fin
  refine ⟨hh, _, ρ, rel.ext e0, (fin.ext e0).bind.bind.mono fun k Z2 H2 _ e2 f2 u hu => ?_⟩
  have rel2 := (rel.ext e0).ext e2
  have f4 : FinG X.K ct W σ Z2 H2 (biD .get1 [D.dic (l.map fun p => (D.str p.1.cps.toList, vD p.2)), k]) _ := FinG.here (a := [k]) f2 rel2.sub
  by_cases c : keyOk k (l.map fun p => (D.str p.1.cps.toList, vD p.2)) = true
  · have eb : biD .get1 [D.dic (l.map fun p => (D.str p.1.cps.toList, vD p.2)), k] = .ok ((lookD k (l.map fun p => (D.str p.1.cps.toList, vD p.2))).getD .non) := if_pos c
    rw [eb] at f4
    obtain ⟨k, rfl, rfl⟩ := key_den hu (keyOk_is c)
    have hz : H2 p = some (.dK (kvL l)) := e2.hh _ _ upd_same
    have z := (DenK.val (k := k) (lit_den (K := X.K) (ct := ct) (Z := Z2) el)).1
    refine ⟨valV (kvL l) k, DGet.k hz, ?_⟩
    cases e : valV (kvL l) k with
    | none =>
      rw [e] at z
      have z : lookD (kD k) _ = none := z
      rw [z] at f4
      exact FinG.here f4 rel2.sub _ .non
    | some v =>
      rw [e] at z
      obtain ⟨d, z1, z2⟩ := z
      rw [z1] at f4
      exact FinG.here f4 rel2.sub _ z2
  · have eb : biD .get1 [D.dic (l.map fun p => (D.str p.1.cps.toList, vD p.2)), k] = .bad := if_neg c
    rw [eb] at f4
    exact (show False from f4).elim
end
end Tk
/-! What is walked; targets; comprehensions. -/
namespace Tk
open PySem PySem.Spec PyProof.Rows L2
open D
section
variable {ct : CT} {c : CE} {A : Ar} {L : Nat} {ev0 : Option Str} {hx : Option (Nat × Addr)} {n : Nat} {X : Cx} {W : WX} {O : List Nat}
theorem snd_tsOne {e : Expr} {x : SE} (h : PT X e (tT X ct A W O hx x)) : PTs X [e] (tTs X ct A W O hx [x]) := by
  refine (pts_one h).imp fun σ H Q ⟨hh, Z, ρ, rel, fin⟩ => ⟨hh, Z, ρ, rel, ?_⟩
  have e : evc A [x] ρ = (ev A x ρ).bind asBl := by
    show ((ev A x ρ).bind fun x => (asBl x).bind fun k => if k then Res.ok true else .ok false) = _
    cases ev A x ρ with
    | ok d => cases d with
      | bl b => cases b <;> rfl
      | _ => rfl
    | _ => rfl
  rw [e] at fin
  exact fin
/-! ### what is walked -/
theorem YAt_get {K : PySem.W.Frag} {Z : Hp} {vs : List V} {ds : List D} (hd : DenAll K ct Z vs ds) : ∀ i H x H2 Z2 d, Same Z Z2 → Same Z2 H → YAt vs i H x H2 → ds[i]? = some d → ∃ Z3, Ext Z2 H Z3 H2 ∧ Den K ct Z3 x d := by
  intro i H x H2 Z2 d z1 z2 y hi
  obtain ⟨rfl, y⟩ := y
  obtain ⟨v, h1, h2⟩ := hd.get hi
  rw [y] at h1
  cases h1
  exact ⟨Z2, .refl z2, Den.mono z1 _ _ h2⟩
theorem walk_of_lst {K : PySem.W.Frag} {Z : Hp} {a : Addr} {vs : List V} {ds : List D} (h : Rd Z a (.lst vs)) (hd : DenAll K ct Z vs ds) : WalkD K ct (Itl K a) ds Z :=
  ⟨_, _, hd.length ▸ walk_list (xs := vs), fun H s => .inl (same_rd s h), YAt_get hd⟩
theorem walk_of_tup {K : PySem.W.Frag} {Z : Hp} {a : Addr} {vs : List V} {ds : List D} (h : SqT K Z a vs) (hd : DenAll K ct Z vs ds) : WalkD K ct (Itt K a) ds Z :=
  ⟨_, _, hd.length ▸ walk_tup (xs := vs), fun H s => same_seqT s h, YAt_get hd⟩
theorem walk_of_str {K : PySem.W.Frag} {Z : Hp} {z : List Nat} : WalkD K ct (Its ⟨z.toArray⟩) (z.map fun c => D.str [c]) Z := by
  have w := walk_str (z := ⟨z.toArray⟩)
  have e : (⟨z.toArray⟩ : Str).cps.size = (z.map fun c => D.str [c]).length := by simp
  rw [e] at w
  refine ⟨_, _, w, fun H s => trivial, ?_⟩
  intro i H x H2 Z2 d z1 z2 y hi
  obtain ⟨rfl, k, y1, rfl⟩ := y
  refine ⟨Z2, .refl z2, ?_⟩
  have y1 : z[i]? = some k := by simpa using y1
  rw [List.getElem?_map, y1] at hi
  cases hi
  exact den_str _ _ _ [k]
theorem walk_of_range {K : PySem.W.Frag} {Z : Hp} {lo hi : Int} : WalkD K ct (Itr lo (hi - lo).toNat) (rangeL lo hi) Z := by
  have w := walk_range (lo := lo) (n := (hi - lo).toNat)
  have e : (hi - lo).toNat = (rangeL lo hi).length := by simp [rangeL]
  have w2 : Walk (Itr lo (hi - lo).toNat) (rangeL lo hi).length (fun _ => True) (YFn fun i => V.int (lo + (i : Nat))) := by rw [← e]; exact w
  refine ⟨_, _, w2, fun H s => trivial, ?_⟩
  intro i H x H2 Z2 d z1 z2 y hi2
  obtain ⟨rfl, rfl⟩ := y
  refine ⟨Z2, .refl z2, ?_⟩
  unfold rangeL at hi2
  rw [List.getElem?_map] at hi2
  cases q : (List.range (hi - lo).toNat)[i]? with
  | none => rw [q] at hi2; cases hi2
  | some k =>
    rw [q] at hi2
    have : k = i := by
      have := List.getElem?_eq_some_iff.mp q
      obtain ⟨h1, h2⟩ := this
      simpa using h2.symm
    subst this
    cases hi2
    exact .int _
theorem snd_of {tg e : Expr} {x : SE} (he : PE X e (tE X ct A W O hx x)) : PI X tg e (tI X ct A W O hx (.of x)) := by
  refine ⟨fun pins s σ H R I ⟨hh, Z, ρ, rel, fin⟩ => ?_⟩
  have fin : FinG X.K ct W σ Z H ((ev A x ρ).bind itemsD) _ := fin
  have go : ∀ (wi : TI), PI X tg e wi → wi σ H R → wpAny (model X.prog X.w) X.A (eval e X.env) (fun v s1 => wpAny (model X.prog X.w) X.A (pyIter v) (PIE X pins σ tg R) X.xe s1) X.xe s := fun wi p q => p.run pins s σ H R I q
  cases q : ev A x ρ with
  | ok d =>
    rw [q] at fin
    cases d with
    | lst ds =>
      refine go _ (pi_list he) ⟨hh, Z, ρ, rel, ?_⟩
      rw [q]
      intro Z1 H1 e1 v hv
      cases hv with
      | lst h1 h2 =>
        have sz := (rel.ext e1).sub
        exact ⟨_, rfl, ⟨_, .inl (same_rd sz h1)⟩, (FinG.here (a := ds) (fin.ext e1) sz) _ (walk_of_lst h1 h2)⟩
    | tup ds =>
      refine go _ (pi_tup he) ⟨hh, Z, ρ, rel, ?_⟩
      rw [q]
      intro Z1 H1 e1 v hv
      cases hv with
      | tup h1 h2 =>
        have sz := (rel.ext e1).sub
        exact ⟨_, rfl, ⟨_, same_seqT sz h1⟩, (FinG.here (a := ds) (fin.ext e1) sz) _ (walk_of_tup h1 h2)⟩
    | str z =>
      refine go _ (pi_str he) ⟨hh, Z, ρ, rel, ?_⟩
      rw [q]
      intro Z1 H1 e1 v hv
      have e2 := ShDen.str (H := H1) (.inl hv)
      subst e2
      have sz := (rel.ext e1).sub
      exact ⟨_, rfl, (FinG.here (a := z.map fun c => D.str [c]) (fin.ext e1) sz) _ walk_of_str⟩
    | _ => exact (show False from fin).elim
  | exc k =>
    rw [q] at fin
    exact go _ (pi_list he) ⟨hh, Z, ρ, rel, by rw [q]; exact fin⟩
  | bad => rw [q] at fin; exact (show False from fin).elim
theorem snd_rng1 (S : Sit X ct c A L W ev0 hx) {tg a : Expr} {p pos : Pos} {x : SE} (hg : gloB X.env.scope (sOf "range") = true) (hfr : c.free.contains (sOf "range") = true) (hs : noStar a = true) (ha : PE X a (tE X ct A W O hx x)) : PI X tg (.Call (.Name (sOf "range") p) [a] [] pos) (tI X ct A W O hx (.rng (.con (.int 0)) x)) := by
  refine (pi_range1 (gloB_gl hg) (S.free _ hfr) (pa_cons ha pa_nil (noStar_each hs)) (noStar_each hs)).imp fun σ H R ⟨hh, Z, ρ, rel, fin⟩ => ?_
  have fin : FinG X.K ct W σ Z H ((ev A x ρ).bind fun y => (asInt y).bind fun j => if small62 0 && small62 j then Res.ok (rangeL 0 j) else .bad) _ := fin
  refine ⟨hh, Z, ρ, rel, fin.bind.mono fun d Z1 H1 _ e1 f1 v hv => ?_⟩
  cases d with
  | int j =>
    cases hv
    have f1 : FinG X.K ct W σ Z1 H1 (if small62 0 && small62 j then Res.ok (rangeL 0 j) else .bad) _ := f1
    by_cases q : (small62 0 && small62 j) = true
    · rw [if_pos q] at f1
      have q2 := (Bool.and_eq_true_iff.mp q).2
      unfold small62 at q2
      simp only [Bool.and_eq_true, decide_eq_true_eq] at q2
      refine ⟨j, rfl, q2.1, q2.2, ?_⟩
      have := (FinG.here f1 (rel.ext e1).sub) _ walk_of_range
      rw [Int.sub_zero] at this
      exact this
    · rw [if_neg q] at f1; exact (show False from f1).elim
  | _ => exact (show False from f1).elim
theorem snd_rng2 (S : Sit X ct c A L W ev0 hx) {tg a b : Expr} {p pos : Pos} {x y : SE} (hg : gloB X.env.scope (sOf "range") = true) (hfr : c.free.contains (sOf "range") = true) (hs : noStar a = true) (hs2 : noStar b = true) (ha : PE X a (tE X ct A W O hx x)) (hb : PE X b (tE X ct A W O hx y)) : PI X tg (.Call (.Name (sOf "range") p) [a, b] [] pos) (tI X ct A W O hx (.rng x y)) := by
  refine (pi_range2 (gloB_gl hg) (S.free _ hfr) (pa_cons ha (pa_cons hb pa_nil (noStar_each hs2)) (noStar_each hs)) (by rw [noStar_each hs, noStar_each hs2]; rfl) (noStar_each hs2)).imp fun σ H R ⟨hh, Z, ρ, rel, fin⟩ => ?_
  have fin : FinG X.K ct W σ Z H ((ev A x ρ).bind fun x => (ev A y ρ).bind fun y => (asInt x).bind fun i => (asInt y).bind fun j => if small62 i && small62 j then Res.ok (rangeL i j) else .bad) _ := fin
  refine ⟨hh, Z, ρ, rel, fin.bind.mono fun d Z1 H1 _ e1 f1 v hv => ?_⟩
  refine ⟨hh, Z1, ρ, rel.ext e1, f1.bind.mono fun d2 Z2 H2 _ e2 f2 u hu => ?_⟩
  cases d with
  | int i =>
    cases hv
    cases d2 with
    | int j =>
      cases hu
      have f2 : FinG X.K ct W σ Z2 H2 (if small62 i && small62 j then Res.ok (rangeL i j) else .bad) _ := f2
      by_cases q : (small62 i && small62 j) = true
      · rw [if_pos q] at f2
        obtain ⟨q1, q2⟩ := Bool.and_eq_true_iff.mp q
        unfold small62 at q1 q2
        simp only [Bool.and_eq_true, decide_eq_true_eq] at q1 q2
        exact ⟨i, j, rfl, ⟨q1.1, q1.2, q2.1, q2.2⟩, (FinG.here f2 ((rel.ext e1).ext e2).sub) _ walk_of_range⟩
      · rw [if_neg q] at f2; exact (show False from f2).elim
    | _ => exact (show False from f2).elim
  | _ => exact (show False from f2).elim
/-! ### targets -/
def gT (K : PySem.W.Frag) (t : List Nat) (one : Bool) : TG := match one, t with
  | true, [i] => gName i
  | false, [i, j] => gTup K 2 (gCons (gName i) (gCons (gName j) gNil))
  | _, _ => fun _ _ _ _ => False
theorem RelE.bind {K : PySem.W.Frag} {Z H : Hp} {σ σ2 : L2.St} {ρ ρ2 : En} {t : List Nat} (rel : RelE K ct Z H O σ ρ) (hl : σ2.length = σ.length) (hl2 : ρ2.length = ρ.length) (hO : ∀ i ∈ t, i ∉ O) (h1 : ∀ k, k ∉ t → σ2[k]? = σ[k]? ∧ ρ2[k]? = ρ[k]?) (h2 : ∀ k ∈ t, ∀ d, ρ2[k]? = some (some d) → ∃ v, σ2[k]? = some (some v) ∧ Den K ct Z v d) : RelE K ct Z H O σ2 ρ2 := by
  have hO' : ∀ i ∈ O, i ∉ t := fun i hi ht => hO i ht hi
  refine ⟨rel.sub, rel.dif, by rw [hl, hl2, rel.len], fun i d hi e => ?_, fun i d hi e => ?_, fun i j d e a hi hj ne q1 q2 q3 => ?_⟩
  · by_cases ht : i ∈ t
    · exact h2 i ht d e
    · rw [(h1 i ht).2] at e
      rw [(h1 i ht).1]
      exact rel.fr i d hi e
  · rw [(h1 i (hO' i hi)).2] at e
    rw [(h1 i (hO' i hi)).1]
    exact rel.ow i d hi e
  · rw [(h1 i (hO' i hi)).2] at q1
    rw [(h1 j (hO' j hj)).2] at q2
    rw [(h1 i (hO' i hi)).1] at q3
    rw [(h1 j (hO' j hj)).1]
    exact rel.inj i j d e a hi hj ne q1 q2 q3
/-- what a target leaves -/
structure Bound (K : PySem.W.Frag) (ct : CT) (Z : Hp) (t : List Nat) (σ σ2 : L2.St) (ρ ρ2 : En) : Prop where
  len : σ2.length = σ.length
  len2 : ρ2.length = ρ.length
  out : ∀ k, k ∉ t → σ2[k]? = σ[k]? ∧ ρ2[k]? = ρ[k]?
  ins : ∀ k ∈ t, ∀ d, ρ2[k]? = some (some d) → ∃ v, σ2[k]? = some (some v) ∧ Den K ct Z v d
theorem bind_ok {K : PySem.W.Frag} {Z H : Hp} {t : List Nat} {one : Bool} {d : D} {v : V} {σ : L2.St} {ρ ρ2 : En} {Q : L2.St → Hp → Prop} (hl : σ.length = ρ.length) (s : Same Z H) (hv : Den K ct Z v d) (hb : bindT t one d ρ = some ρ2) (h : ∀ σ2, Bound K ct Z t σ σ2 ρ ρ2 → Q σ2 H) : gT K t one v σ H Q := by
  unfold bindT at hb
  split at hb
  · rename_i i
    cases hb
    refine h _ ⟨by simp, by simp, fun k hk => ?_, fun k hk e he => ?_⟩
    · have : i ≠ k := fun e => hk (by simp [e])
      rw [List.getElem?_set_ne this, List.getElem?_set_ne this]
      exact ⟨rfl, rfl⟩
    · have : k = i := by simpa using hk
      subst this
      by_cases hi : k < ρ.length
      · rw [List.getElem?_set_self hi] at he
        cases he
        exact ⟨v, List.getElem?_set_self (by omega), hv⟩
      · rw [List.getElem?_eq_none (by simpa using hi)] at he
        cases he
  · rename_i i j
    split at hb
    · rename_i x y
      cases hb
      cases hv with
      | tup h1 h2 =>
        cases h2 with
        | cons g1 g2 => cases g2 with
          | cons g3 g4 =>
            cases g4
            rename_i u w
            refine ⟨_, _, rfl, same_seqT s h1, rfl, u, [w], rfl, w, [], rfl, rfl, ?_⟩
            refine h _ ⟨by simp, by simp, fun k hk => ?_, fun k hk e he => ?_⟩
            · have n1 : i ≠ k := fun e => hk (by simp [e])
              have n2 : j ≠ k := fun e => hk (by simp [e])
              rw [List.getElem?_set_ne n2, List.getElem?_set_ne n1, List.getElem?_set_ne n2, List.getElem?_set_ne n1]
              exact ⟨rfl, rfl⟩
            · by_cases hj : k = j
              · subst hj
                by_cases hi : k < ρ.length
                · rw [List.getElem?_set_self (by simpa using hi)] at he
                  cases he
                  exact ⟨w, List.getElem?_set_self (by simp; omega), g3⟩
                · rw [List.getElem?_eq_none (by simpa using hi)] at he
                  cases he
              · have : k = i := by
                  rcases List.mem_cons.mp hk with e | e
                  · exact e
                  · exact absurd (by simpa using e) hj
                subst this
                have n2 : j ≠ k := fun e => hj e.symm
                rw [List.getElem?_set_ne n2] at he
                by_cases hi : k < ρ.length
                · rw [List.getElem?_set_self (by simpa using hi)] at he
                  cases he
                  exact ⟨u, by rw [List.getElem?_set_ne n2]; exact List.getElem?_set_self (by omega), g1⟩
                · rw [List.getElem?_eq_none (by simpa using hi)] at he
                  cases he
    · cases hb
  · cases hb
theorem Bound.rel {K : PySem.W.Frag} {Z H : Hp} {t : List Nat} {σ σ0 σ2 : L2.St} {ρ ρ2 : En} (b : Bound K ct Z t σ0 σ2 ρ ρ2) (rel : RelE K ct Z H O σ ρ) (h0 : σ0.length = σ.length) (h1 : ∀ k, k ∉ t → σ0[k]? = σ[k]?) (hO : ∀ i ∈ t, i ∉ O) : RelE K ct Z H O σ2 ρ2 :=
  rel.bind (by rw [b.len, h0]) b.len2 hO (fun k hk => ⟨(b.out k hk).1.trans (h1 k hk), (b.out k hk).2⟩) b.ins
theorem wipe_get {σ : L2.St} : ∀ {vs : List Nat} {k : Nat}, (wipe σ vs)[k]? = if k ∈ vs ∧ k < σ.length then some none else σ[k]?
  | [], k => by simp [wipe]
  | v :: vs, k => by
    show ((wipe σ vs).set v none)[k]? = _
    by_cases h : v = k
    · subst h
      by_cases hk : v < σ.length
      · rw [List.getElem?_set_self (by rw [wipe_length]; exact hk), if_pos ⟨by simp, hk⟩]
      · rw [List.getElem?_eq_none (by simp [wipe_length]; omega), if_neg (fun z => hk z.2), List.getElem?_eq_none (by omega)]
    · rw [List.getElem?_set_ne h, wipe_get]
      have : k ∈ v :: vs ↔ k ∈ vs := by simp [Ne.symm h]
      simp only [this]
theorem wipe_same {σ σ2 : L2.St} {vs : List Nat} (hl : σ2.length = σ.length) (h : ∀ k, k ∉ vs → σ2[k]? = σ[k]?) : wipe σ2 vs = wipe σ vs := by
  apply List.ext_getElem?
  intro k
  rw [wipe_get, wipe_get, hl]
  by_cases hk : k ∈ vs
  · by_cases h2 : k < σ.length
    · rw [if_pos ⟨hk, h2⟩, if_pos ⟨hk, h2⟩]
    · rw [if_neg (fun z => h2 z.2), if_neg (fun z => h2 z.2), List.getElem?_eq_none (by omega), List.getElem?_eq_none (by omega)]
  · rw [if_neg (fun z => hk z.1), if_neg (fun z => hk z.1), h k hk]
theorem pg_of {X' : Cx} {N : List Str} {sc : Scope} {tg : Expr} {t : List Nat} {one : Bool} (hN : X'.N = N) (nd : N.Nodup) (hc : X'.calm = true) (hl : ∀ x, locB sc x = true → L2.Loc X'.env.scope x ∧ (X'.fn x = true ∨ X'.env.scope.names.lookup x = some .local)) (h : tgtOf N sc tg = some (t, one)) : PG X' tg (gT X'.K t one) := by
  unfold tgtOf at h
  split at h
  · rename_i x p
    split at h
    · rename_i q
      have q := Bool.and_eq_true_iff.mp q
      cases e : slotOf N x with
      | none => rw [e] at h; cases h
      | some i =>
        rw [e] at h
        cases h
        exact pg_name (by rw [hN]; exact nd) (by rw [hN]; exact slotOf_get e) (hl x q.1).1 (hl x q.1).2
    · cases h
  · rename_i x p y p2 k pos
    split at h
    · rename_i q
      simp only [Bool.and_eq_true] at q
      obtain ⟨⟨⟨q1, q2⟩, q3⟩, q4⟩ := q
      split at h
      · rename_i i j e1 e2
        split at h
        · cases h
        · cases h
          exact pg_tup hc (pgs_cons (pg_name (by rw [hN]; exact nd) (by rw [hN]; exact slotOf_get e1) (hl x q1).1 (hl x q1).2) (pgs_cons (pg_name (by rw [hN]; exact nd) (by rw [hN]; exact slotOf_get e2) (hl y q3).1 (hl y q3).2) pgs_nil))
      · cases h
    · cases h
  · cases h
end
end Tk
/-! enumerate and zip are sound. -/
namespace Tk
open PySem PySem.Spec PyProof.Rows L2
open D
section
variable {ct : CT} {c : CE} {A : Ar} {L : Nat} {ev0 : Option Str} {hx : Option (Nat × Addr)} {n : Nat} {X : Cx} {W : WX} {O : List Nat}
theorem denAll_chars {K : PySem.W.Frag} {Z : Hp} : ∀ z : List Nat, DenAll K ct Z (z.map fun c => V.str ⟨#[c]⟩) (z.map fun c => D.str [c])
  | [] => .nil
  | c :: z => .cons (den_str _ _ _ [c]) (denAll_chars z)
theorem src_of {K : PySem.W.Frag} {Z : Hp} {v : V} {d : D} {ds : List D} (h : Den K ct Z v d) (hi : itemsD d = .ok ds) : ∃ S vs, v = Src.val S ∧ (∀ H, Same Z H → S.has K H vs) ∧ DenAll K ct Z vs ds := by
  cases d with
  | lst xs =>
    cases hi
    cases h with
    | lst h1 h2 => exact ⟨.lst _, _, rfl, fun H s => .inl (same_rd s h1), h2⟩
  | tup xs =>
    cases hi
    cases h with
    | tup h1 h2 => exact ⟨.tup _, _, rfl, fun H s => same_seqT s h1, h2⟩
  | str z =>
    cases hi
    have e2 := ShDen.str (H := Z) (.inl h)
    subst e2
    exact ⟨.str ⟨z.toArray⟩, _, rfl, fun H s => rfl, denAll_chars z⟩
  | _ => cases hi
theorem enumL_get : ∀ {ds : List D} {k i : Nat} {d : D}, (enumL k ds)[i]? = some d → ∃ x, ds[i]? = some x ∧ d = .tup [.int ((k + i : Nat) : Int), x]
  | [], k, i, d, h => by simp [enumL] at h
  | x :: xs, k, 0, d, h => by simp [enumL] at h; exact ⟨x, rfl, by rw [← h]; simp⟩
  | x :: xs, k, i + 1, d, h => by
    obtain ⟨y, h1, h2⟩ := enumL_get (ds := xs) (k := k + 1) (i := i) (by simpa [enumL] using h)
    exact ⟨y, by simpa using h1, by rw [h2]; congr 4; omega⟩
theorem enumL_len : ∀ (ds : List D) (k : Nat), (enumL k ds).length = ds.length
  | [], _ => rfl
  | x :: xs, k => by simp [enumL, enumL_len xs]
theorem zipL_get : ∀ {ds es : List D} {i : Nat} {d : D}, (zipL ds es)[i]? = some d → ∃ x y, ds[i]? = some x ∧ es[i]? = some y ∧ d = .tup [x, y]
  | [], es, i, d, h => by simp [zipL] at h
  | x :: xs, [], i, d, h => by simp [zipL] at h
  | x :: xs, y :: ys, 0, d, h => by simp [zipL] at h; exact ⟨x, y, rfl, rfl, h.symm⟩
  | x :: xs, y :: ys, i + 1, d, h => by
    obtain ⟨a, b, h1, h2, h3⟩ := zipL_get (ds := xs) (es := ys) (i := i) (by simpa [zipL] using h)
    exact ⟨a, b, by simpa using h1, by simpa using h2, h3⟩
theorem zipL_len : ∀ (ds es : List D), (zipL ds es).length = min ds.length es.length
  | [], es => by simp [zipL]
  | x :: xs, [] => by simp [zipL]
  | x :: xs, y :: ys => by simp [zipL, zipL_len xs ys]
theorem walk_of_enm {K : PySem.W.Frag} {Z : Hp} {S : Src} {vs : List V} {ds : List D} (h : ∀ H, Same Z H → S.has K H vs) (hd : DenAll K ct Z vs ds) : WalkD K ct (ItE K S) (enumL 0 ds) Z := by
  refine ⟨fun H => S.has K H vs, YPair (fun i => some (.int (i : Nat))) (fun i => vs[i]?), ⟨fun i H hi q => ?_, fun H q => ⟨vs, q, ?_⟩, fun i H v H' _ q y => ?_⟩, h, ?_⟩
  · rw [enumL_len, ← hd.length] at hi
    exact ⟨vs, vs[i], q, by simp [hi]⟩
  · rw [enumL_len, hd.length]
  · obtain ⟨T, x, h1, h2, h3, h4⟩ := y
    exact ⟨T, .int (i : Nat), x, h1, h2, h3, rfl, h4 vs q⟩
  · rintro i H v H2 Z2 d z1 z2 ⟨T, x, y, rfl, hT, rfl, hx, hy⟩ hi
    cases hx
    obtain ⟨e, he, rfl⟩ := enumL_get hi
    obtain ⟨w, hw, hden⟩ := hd.get he
    rw [show vs[i]? = some y from hy] at hw
    cases hw
    refine ⟨_, .mk1 z2 hT, ?_⟩
    rw [Nat.zero_add]
    exact den_tupNew (z2.free hT) (.cons (.int _) (.cons (Den.mono z1 _ _ hden) .nil))
theorem walk_of_zip {K : PySem.W.Frag} {Z : Hp} {S S2 : Src} {vs ws : List V} {ds es : List D} (h : ∀ H, Same Z H → S.has K H vs) (hd : DenAll K ct Z vs ds) (h2 : ∀ H, Same Z H → S2.has K H ws) (hd2 : DenAll K ct Z ws es) : WalkD K ct (ItZ K S S2) (zipL ds es) Z := by
  refine ⟨fun H => S.has K H vs ∧ S2.has K H ws, YPair (fun i => vs[i]?) (fun i => ws[i]?), ⟨fun i H hi q => ?_, fun H q => ⟨vs, ws, q.1, q.2, ?_⟩, fun i H v H' _ q y => ?_⟩, fun H s => ⟨h H s, h2 H s⟩, ?_⟩
  · rw [zipL_len, ← hd.length, ← hd2.length] at hi
    have h1 : i < vs.length := by omega
    have h2 : i < ws.length := by omega
    exact ⟨vs, ws, vs[i], ws[i], q.1, q.2, by simp [h1], by simp [h2]⟩
  · rw [zipL_len, hd.length, hd2.length]
  · obtain ⟨T, x, z, h1, h2, h3, h4, h5⟩ := y
    exact ⟨T, x, z, h1, h2, h3, h4 vs q.1, h5 ws q.2⟩
  · rintro i H v H2 Z2 d z1 z2 ⟨T, x, y, rfl, hT, rfl, hx, hy⟩ hi
    obtain ⟨e, f, he, hf, rfl⟩ := zipL_get hi
    obtain ⟨w, hw, hden⟩ := hd.get he
    rw [show vs[i]? = some x from hx] at hw
    cases hw
    obtain ⟨w, hw, hden2⟩ := hd2.get hf
    rw [show ws[i]? = some y from hy] at hw
    cases hw
    exact ⟨_, .mk1 z2 hT, den_tupNew (z2.free hT) (.cons (Den.mono z1 _ _ hden) (.cons (Den.mono z1 _ _ hden2) .nil))⟩
theorem snd_enm (S : Sit X ct c A L W ev0 hx) {a : Expr} {p pos tpos : Pos} {elts : List Expr} {kk : Nat} {x : SE} (hg : gloB X.env.scope (sOf "enumerate") = true) (hfr : c.free.contains (sOf "enumerate") = true) (hs : noStar a = true) (ha : PE X a (tE X ct A W O hx x)) : PI X (.Tuple elts kk tpos) (.Call (.Name (sOf "enumerate") p) [a] [] pos) (tI X ct A W O hx (.enm x)) := by
  refine (pi_enumS (gloB_gl hg) (S.free _ hfr) (pa_cons ha pa_nil (noStar_each hs)) (noStar_each hs)).imp fun σ H R ⟨hh, Z, ρ, rel, fin⟩ => ?_
  have fin : FinG X.K ct W σ Z H ((ev A x ρ).bind fun d => (itemsD d).bind fun ds => Res.ok (enumL 0 ds)) _ := fin
  refine ⟨hh, Z, ρ, rel, fin.bind.mono fun d Z1 H1 _ e1 f1 v hv => ?_⟩
  cases q : itemsD d with
  | ok ds =>
    rw [q] at f1
    obtain ⟨Sr, vs, rfl, h1, h2⟩ := src_of hv q
    exact ⟨Sr, vs, rfl, h1 _ (rel.ext e1).sub, (FinG.here (a := enumL 0 ds) f1 (rel.ext e1).sub) _ (walk_of_enm h1 h2)⟩
  | bad => rw [q] at f1; exact (show False from f1).elim
  | exc k => exfalso; unfold itemsD at q; split at q <;> cases q
theorem snd_zip (S : Sit X ct c A L W ev0 hx) {a b : Expr} {p pos tpos : Pos} {elts : List Expr} {kk : Nat} {x y : SE} (hg : gloB X.env.scope (sOf "zip") = true) (hfr : c.free.contains (sOf "zip") = true) (hs : noStar a = true) (hs2 : noStar b = true) (ha : PE X a (tE X ct A W O hx x)) (hb : PE X b (tE X ct A W O hx y)) : PI X (.Tuple elts kk tpos) (.Call (.Name (sOf "zip") p) [a, b] [] pos) (tI X ct A W O hx (.zip x y)) := by
  refine (pi_zipS (gloB_gl hg) (S.free _ hfr) (pa_cons ha (pa_cons hb pa_nil (noStar_each hs2)) (noStar_each hs)) (noStar_each hs) (by rw [noStar_each hs2]; rfl)).imp fun σ H R ⟨hh, Z, ρ, rel, fin⟩ => ?_
  have fin : FinG X.K ct W σ Z H ((ev A x ρ).bind fun d => (ev A y ρ).bind fun e => (itemsD d).bind fun ds => (itemsD e).bind fun es => Res.ok (zipL ds es)) _ := fin
  refine ⟨hh, Z, ρ, rel, fin.bind.mono fun d Z1 H1 _ e1 f1 v hv => ?_⟩
  refine ⟨hh, Z1, ρ, rel.ext e1, f1.bind.mono fun d2 Z2 H2 _ e2 f2 u hu => ?_⟩
  cases q : itemsD d with
  | ok ds =>
    cases q2 : itemsD d2 with
    | ok es =>
      rw [q, Res.bind_ok, q2] at f2
      obtain ⟨Sr, vs, rfl, h1, h2⟩ := src_of (Den.mono e2.zz _ _ hv) q
      obtain ⟨Sr2, vs2, rfl, h3, h4⟩ := src_of hu q2
      have sz := ((rel.ext e1).ext e2).sub
      exact ⟨Sr, Sr2, vs, vs2, rfl, h1 _ sz, h3 _ sz, (FinG.here (a := zipL ds es) f2 sz) _ (walk_of_zip h1 h2 h3 h4)⟩
    | bad => rw [q, Res.bind_ok, q2] at f2; exact (show False from f2).elim
    | exc k => exfalso; unfold itemsD at q2; split at q2 <;> cases q2
  | bad => rw [q] at f2; exact (show False from f2).elim
  | exc k => exfalso; unfold itemsD at q; split at q <;> cases q
end
end Tk
/-! Comprehensions; all expressions. -/
namespace Tk
open PySem PySem.Spec PyProof.Rows L2
open D
/-- as Ext, the list at Dd (new) aside -/
structure ExtD (Dd : Addr) (Z1 H1 Z H : Hp) : Prop where
  hh : Same H1 H
  zz : Same Z1 Z
  zh : Same Z H
  keep : ∀ b o, H1 b = some o → Z b = Z1 b
  new : ∀ b, b ≠ Dd → H1 b = none → Z b = none → H b = none
  zd : Z Dd = none
section
variable {ct : CT} {c : CE} {A : Ar} {L : Nat} {ev0 : Option Str} {hx : Option (Nat × Addr)} {n : Nat} {X : Cx} {W : WX} {O : List Nat}
theorem ExtD.start {Dd : Addr} {Z1 H1 : Hp} {o : HO} (s : Same Z1 H1) (h : H1 Dd = none) : ExtD Dd Z1 H1 Z1 (upd H1 Dd o) :=
  ⟨same_upd h, .refl _, s.trans (same_upd h), fun _ _ _ => rfl, fun b nb e _ => by rw [upd_ne nb]; exact e, s.free h⟩
theorem ExtD.step {Dd : Addr} {Z1 H1 Z H Z2 H2 : Hp} (x : ExtD Dd Z1 H1 Z H) {o : HO} (hd : H Dd = some o) (e : Ext Z H Z2 H2) : ExtD Dd Z1 H1 Z2 H2 := by
  refine ⟨x.hh.trans e.hh, x.zz.trans e.zz, e.zh, fun b o q => (e.keep b o (x.hh b o q)).trans (x.keep b o q), fun b nb h1 z2 => ?_, (e.keep Dd o hd).trans x.zd⟩
  exact e.new b (x.new b nb h1 (e.zz.free z2)) z2
theorem ExtD.put {Dd : Addr} {Z1 H1 Z H : Hp} (x : ExtD Dd Z1 H1 Z H) (h1 : H1 Dd = none) (o : HO) : ExtD Dd Z1 H1 Z (upd H Dd o) := by
  refine ⟨fun b u q => ?_, x.zz, fun b u q => ?_, x.keep, fun b nb q z => ?_, x.zd⟩
  · rw [upd_ne (ne_of_none q h1)]; exact x.hh b u q
  · rw [upd_ne (ne_of_none q x.zd)]; exact x.zh b u q
  · rw [upd_ne nb]; exact x.new b nb q z
theorem ExtD.done {Dd : Addr} {Z1 H1 Z H : Hp} (x : ExtD Dd Z1 H1 Z H) (h1 : H1 Dd = none) {o : HO} (hd : H Dd = some o) : Ext Z1 H1 (upd Z Dd o) H := by
  refine ⟨x.hh, x.zz.trans (same_upd x.zd), fun b u q => ?_, fun b u q => ?_, fun b q z => ?_⟩
  · by_cases hb : b = Dd
    · subst hb; rw [upd_same] at q; cases q; exact hd
    · rw [upd_ne hb] at q; exact x.zh b u q
  · rw [upd_ne (ne_of_none q h1)]; exact x.keep b u q
  · by_cases hb : b = Dd
    · subst hb; rw [upd_same] at z; cases z
    · rw [upd_ne hb] at z; exact x.new b hb q z
theorem ExtD.rel {K : PySem.W.Frag} {Dd : Addr} {Z1 H1 Z H : Hp} {σ : L2.St} {ρ : En} (x : ExtD Dd Z1 H1 Z H) {acc : List V} (hd : H Dd = some (.lst acc)) (rel : RelE K ct Z1 H1 O σ ρ) : RelE K ct Z H O σ ρ := by
  refine ⟨x.zh, fun b o h z => ?_, rel.len, fun i d h q => ?_, fun i d h q => ?_, rel.inj⟩
  · by_cases hb : b = Dd
    · subst hb; rw [hd] at h; cases h; exact .inl ⟨_, rfl⟩
    · cases q : H1 b with
      | none => rw [x.new b hb q z] at h; cases h
      | some u =>
        have h2 := x.hh b u q
        rw [h] at h2
        cases h2
        rw [x.keep b o q] at z
        exact rel.dif b o q z
  · obtain ⟨v, a, b⟩ := rel.fr i d h q
    exact ⟨v, a, Den.mono x.zz _ _ b⟩
  · obtain ⟨a, h1, h2, h3⟩ := rel.ow i d h q
    obtain ⟨o, ho⟩ := h3.at
    refine ⟨a, h1, (x.keep a o ho).trans h2, ?_⟩
    rcases h3 with ⟨vs, ds, r, g1, g2⟩ | ⟨kvs, ps, r, g1, g2⟩
    · exact .inl ⟨vs, ds, r, x.hh _ _ g1, DenAll.mono x.zz _ _ g2⟩
    · exact .inr ⟨kvs, ps, r, x.hh _ _ g1, DenK.mono x.zz _ _ g2⟩
/-- one turn's part of a comprehension -/
def turnF (A : Ar) (t : List Nat) (one : Bool) (ifs : List SE) (elt : SE) (ρ : En) : D → Res (Option D) := fun d => match bindT t one d ρ with
  | some ρ' => (evc A ifs ρ').bind fun k => if k then (ev A elt ρ').bind fun x => .ok (some x) else .ok none
  | none => .bad
theorem compL_cons {f : D → Res (Option D)} {d : D} {ds r : List D} (h : compL f (d :: ds) = .ok r) : ∃ o r2, f d = .ok o ∧ compL f ds = .ok r2 ∧ r = (match o with | some x => x :: r2 | none => r2) := by
  unfold compL at h
  cases q : f d with
  | ok o =>
    rw [q] at h
    cases q2 : compL f ds with
    | ok r2 =>
      rw [q2] at h
      cases h
      exact ⟨o, r2, rfl, rfl, rfl⟩
    | _ => rw [q2] at h; cases h
  | _ => rw [q] at h; cases h
theorem snd_lcG {t : List Nat} {one : Bool} {it : SI} {ts : List SE} {el : SE} (hO : ∀ i ∈ t, i ∉ O) (σ : L2.St) (H : Hp) (Q : VK) {kk : D → Hp → Hp → Prop} (last : ∀ (r : List D) (Z1 H1 : Hp) (Dd : Addr) (Z2 H2 : Hp) (acc : List V), (∀ Z' H', Ext Z1 H1 Z' H' → kk (.lst r) Z' H') → ExtD Dd Z1 H1 Z2 H2 → H1 Dd = none → H2 Dd = some (.lst acc) → DenAll X.K ct Z2 acc r → Q (.ref Dd) H2)
    (h : tG X ct W O hx (ev A (.lc t one it ts el)) kk σ H) : tLc (tI X ct A W O hx it) (gT X.K t one) (tTs X ct A (fun _ _ _ _ => False) O none ts) (tE X ct A (fun _ _ _ _ => False) O none el) t σ H Q := by
  obtain ⟨hh, Z, ρ, rel, fin⟩ := h
  have fin : FinG X.K ct W σ Z H ((evi A it ρ).bind fun ds => (compL (turnF A t one ts el ρ) ds).bind fun r => if okN r.length then Res.ok (D.lst r) else .bad) _ := fin
  refine ⟨hh, Z, ρ, rel, fin.bind.mono fun ds Z1 H1 _ e1 f1 J hJ => ?_⟩
  have rel1 := rel.ext e1
  intro Dd hD
  obtain ⟨G, Y, wk, hG, hY⟩ := hJ
  cases q : compL (turnF A t one ts el ρ) ds with
  | ok r =>
    rw [q] at f1
    have f1 : FinG X.K ct W σ Z1 H1 (if okN r.length then Res.ok (D.lst r) else .bad) _ := f1
    by_cases hr : okN r.length = true
    · rw [if_pos hr] at f1
      refine lc_it wk (fun i H => ∃ Z2 acc pre rest, ExtD Dd Z1 H1 Z2 H ∧ H Dd = some (.lst acc) ∧ DenAll X.K ct Z2 acc pre ∧ compL (turnF A t one ts el ρ) (ds.drop i) = .ok rest ∧ r = pre ++ rest) ?_ ?_ ?_ ?_
      · exact ⟨Z1, [], [], r, .start rel1.sub hD, upd_same, .nil, by simpa using q, rfl⟩
      · rintro i H2 _ ⟨Z2, acc, pre, rest, x, _, _, _, _⟩
        exact hG H2 (x.zz.trans x.zh)
      · rintro i x H2 H3 hi ⟨Z2, acc, pre, rest, xd, hd, hden, hc, hr2⟩ y
        have hi' : ds[i]? = some ds[i] := List.getElem?_eq_getElem hi
        obtain ⟨Z3, e3, hx3⟩ := hY i H2 x H3 Z2 ds[i] xd.zz xd.zh y hi'
        rw [List.drop_eq_getElem_cons hi] at hc
        obtain ⟨o, r2, ho, hc2, hre⟩ := compL_cons hc
        have xd3 := xd.step hd e3
        have hd3 := e3.hh _ _ hd
        have rel3 := xd3.rel hd3 rel1
        unfold turnF at ho
        cases hb : bindT t one ds[i] ρ with
        | none => rw [hb] at ho; cases ho
        | some ρ2 =>
          rw [hb] at ho
          have ho : (evc A ts ρ2).bind (fun k => if k then (ev A el ρ2).bind fun x => Res.ok (some x) else .ok none) = .ok o := ho
          refine bind_ok (by rw [wipe_length]; exact rel.len) xd3.zh hx3 hb fun σ2 bd => ?_
          have rel4 := bd.rel rel3 (wipe_length _ _) (fun k hk => wipe_out hk) hO
          refine ⟨?_, ?_⟩
          · have : ∀ k, k ∉ t → σ2[k]? = σ[k]? := fun k hk => (bd.out k hk).1.trans (wipe_out hk)
            rw [wipe_same (by rw [bd.len, wipe_length]) this]
          cases hk : evc A ts ρ2 with
          | ok k =>
            rw [hk] at ho
            refine ⟨trivial, Z3, ρ2, rel4, ?_⟩
            rw [hk]
            intro Z4 H4 e4
            have xd4 := xd3.step hd3 e4
            have hd4 := e4.hh _ _ hd3
            have den4 := DenAll.mono (e3.zz.trans e4.zz) _ _ hden
            cases k with
            | true =>
              simp only [↓reduceIte]
              refine ⟨trivial, Z4, ρ2, rel4.ext e4, ?_⟩
              have ho : (ev A el ρ2).bind (fun x => Res.ok (some x)) = .ok o := ho
              cases hv : ev A el ρ2 with
              | ok d =>
                rw [hv] at ho
                cases ho
                intro Z5 H5 e5 u hu
                have xd5 := xd4.step hd4 e5
                have hd5 := e5.hh _ _ hd4
                have hlen : acc.length < r.length := by
                  rw [hr2, hre, hden.length]
                  simp
                have hb := of_decide_eq_true hr
                refine ⟨acc, hd5, by rw [sizeLine_eq]; unfold big at hb; omega, Z5, acc ++ [u], pre ++ [d], r2, xd5.put hD _, upd_same, (DenAll.mono e5.zz _ _ den4).append (.cons hu .nil), hc2, ?_⟩
                rw [hr2, hre]
                simp
              | _ => rw [hv] at ho; cases ho
            | false =>
              simp only [Bool.false_eq_true, ↓reduceIte]
              have ho : Res.ok none = Res.ok o := ho
              cases ho
              exact ⟨Z4, acc, pre, r2, xd4, hd4, den4, hc2, by rw [hr2, hre]⟩
          | _ => rw [hk] at ho; cases ho
      · rintro H2 ⟨Z2, acc, pre, rest, xd, hd, hden, hc, hr2⟩
        rw [List.drop_length] at hc
        cases hc
        rw [List.append_nil] at hr2
        subst hr2
        exact last _ _ _ _ _ _ _ f1 xd hD hd hden
    · rw [if_neg hr] at f1; exact (show False from f1).elim
  | exc k =>
    exfalso
    have : ∀ ds, compL (turnF A t one ts el ρ) ds ≠ .exc k := by
      intro ds
      cases ds with
      | nil => intro z; cases z
      | cons d ds =>
        intro z
        unfold compL at z
        split at z
        · split at z <;> cases z
        · cases z
    exact this ds q
  | bad => rw [q] at f1; exact (show False from f1).elim
theorem snd_lc {t : List Nat} {one : Bool} {it : SI} {ts : List SE} {el : SE} (hO : ∀ i ∈ t, i ∉ O) (σ : L2.St) (H : Hp) (Q : VK)
    (h : tE X ct A W O hx (.lc t one it ts el) σ H Q) : tLc (tI X ct A W O hx it) (gT X.K t one) (tTs X ct A (fun _ _ _ _ => False) O none ts) (tE X ct A (fun _ _ _ _ => False) O none el) t σ H Q :=
  snd_lcG (kk := fun d Z' H' => ∀ v, Den X.K ct Z' v d → Q v H') hO σ H Q (fun r Z1 H1 Dd Z2 H2 acc f1 xd hD hd hden => f1 _ _ (xd.done hD hd) _ (den_lstNew xd.zd hden)) h
theorem tgt_len {N : List Str} {sc : Scope} {tg : Expr} {t : List Nat} {one : Bool} (h : tgtOf N sc tg = some (t, one)) : ((tgtNames tg).zip t).map (·.2) = t := by
  unfold tgtOf at h
  split at h
  · split at h
    · rename_i x p q
      cases e : slotOf N x with
      | none => rw [e] at h; cases h
      | some i => rw [e] at h; cases h; rfl
    · cases h
  · split at h
    · split at h
      · split at h
        · cases h
        · cases h; rfl
      · cases h
    · cases h
  · cases h
theorem noSet_fold {e : Expr} {env : Env} (h : noSet e = true) : ∀ x, foldedSetIterable e env x = pure x := by
  intro x
  cases e <;> first | rfl | cases h
theorem Sit.blk (S : Sit X ct c A L W none hx) (s : Shared) (H : Hp) (scope : Scope) (cl : List (Str × Addr)) (C : Addr) (fp : List Addr) : Sit (X.blk s H scope (compEnvC scope cl C X.env) fp) ct c A L (fun _ _ _ _ => False) none none :=
  ⟨S.N, S.nd, S.calm, fun u s' ⟨a, B, sI, pins, σ, H, cls, d, e, I, nb, up, sky, na, os, ag, w⟩ => w, S.un, S.room, S.fns, S.kd, S.gc, S.free, (fun i a h => nomatch h), S.exc⟩
theorem loc_blk {s : Shared} {H : Hp} {scope : Scope} {cl : List (Str × Addr)} {C : Addr} {fp : List Addr} {x : Str} (h : locB scope x = true) : L2.Loc (X.blk s H scope (compEnvC scope cl C X.env) fp).env.scope x ∧ ((X.blk s H scope (compEnvC scope cl C X.env) fp).fn x = true ∨ (X.blk s H scope (compEnvC scope cl C X.env) fp).env.scope.names.lookup x = some .local) := by
  have key : ∀ k, k ≠ NameKind.free → scope.names.lookup x = some k → (relS scope X.env.scope).names.lookup x = some k := fun k hk e => lookup_relS_keep hk e
  rcases locB_loc h with e | e
  · exact ⟨.inl (key _ (by decide) e), .inr (key _ (by decide) e)⟩
  · refine ⟨.inr (key _ (by decide) e), .inl ?_⟩
    show (scope.names.lookup x == some .cell) = true
    rw [e]
    rfl
theorem lc_rules {elt tg iter : Expr} {ifs : List Expr} {scope : Scope} {pos : Pos} {t : List Nat} {one : Bool} {it : SI} {ts : List SE} {el : SE} (S : Sit X ct c A L W none hx) (hO : ∀ i ∈ t, i ∉ O) (hs : noSet iter = true) (hb : blkC c.N X.env.scope scope ((tgtNames tg).zip t) = true)
    (ht : tgtOf c.N scope tg = some (t, one)) (hi : PI X tg iter (tI X ct A W O hx it))
    (hts : ∀ X', Sit X' ct c A L (fun _ _ _ _ => False) none none → X'.K = X.K → X'.env.scope = relS scope X.env.scope → PTs X' ifs (tTs X' ct A (fun _ _ _ _ => False) O none ts))
    (hel : ∀ X', Sit X' ct c A L (fun _ _ _ _ => False) none none → X'.K = X.K → X'.env.scope = relS scope X.env.scope → PE X' elt (tE X' ct A (fun _ _ _ _ => False) O none el)) :
    ∀ {t' : TE}, (∀ σ H Q, t' σ H Q → tLc (tI X ct A W O hx it) (gT X.K t one) (tTs X ct A (fun _ _ _ _ => False) O none ts) (tE X ct A (fun _ _ _ _ => False) O none el) t σ H Q) → PE X (.ListComp elt [⟨tg, iter, ifs, 0⟩] scope pos) t' ∧ ∀ {i : Nat} {y : Str} {py spos : Pos}, X.N[i]? = some y → X.env.scope.names.lookup y = some .local → swapsWith (.ListComp elt [⟨tg, iter, ifs, 0⟩] scope pos) (some (.Name y py)) spos.line X.env = pure true → PS X (.Assign [.Name y py] (.ListComp elt [⟨tg, iter, ifs, 0⟩] scope pos) spos) (tAsg t' (gName i)) := by
  intro t' imp
  have nd : X.N.Nodup := by rw [S.N]; exact S.nd
  have ok : BlkOk X.N X.env.scope scope ((tgtNames tg).zip t) := blkOk_by (by rw [S.N]; exact hb)
  have hg : ∀ (s : Shared) (H : Hp) (C : Addr) (cl : List (Str × Addr)) (fp : List Addr), PG (X.blk s H scope (compEnvC scope cl C X.env) fp) tg (gT X.K t one) := fun s H C cl fp => pg_of (X' := X.blk s H scope (compEnvC scope cl C X.env) fp) S.N S.nd (S.calm rfl) (fun x hx => loc_blk hx) ht
  have hT : ∀ (s : Shared) (H : Hp) (C : Addr) (cl : List (Str × Addr)) (fp : List Addr), PTs (X.blk s H scope (compEnvC scope cl C X.env) fp) ifs (tTs X ct A (fun _ _ _ _ => False) O none ts) := fun s H C cl fp => hts (X.blk s H scope (compEnvC scope cl C X.env) fp) (S.blk s H scope cl C fp) rfl rfl
  have hE : ∀ (s : Shared) (H : Hp) (C : Addr) (cl : List (Str × Addr)) (fp : List Addr), PE (X.blk s H scope (compEnvC scope cl C X.env) fp) elt (tE X ct A (fun _ _ _ _ => False) O none el) := fun s H C cl fp => hel (X.blk s H scope (compEnvC scope cl C X.env) fp) (S.blk s H scope cl C fp) rfl rfl
  refine ⟨?_, fun {i y py spos} hy hyl hsw => ?_⟩
  · refine (pe_lc (own := (tgtNames tg).zip t) (S.calm rfl) nd hi ok hg hT hE (noSet_fold hs)).imp fun σ H Q h => ?_
    rw [tgt_len ht]
    exact imp σ H Q h
  · refine (ps_setLc (own := (tgtNames tg).zip t) (S.calm rfl) nd hy hyl hsw hi ok hg hT hE (noSet_fold hs)).imp fun D σ H h => ?_
    rw [tgt_len ht]
    exact imp σ H _ h
end
end Tk
/-! All expressions. -/
namespace Tk
open PySem PySem.Spec PyProof.Rows L2
open D
/-- isinstance of the error that is handled -/
def IsxOk (ct : CT) (c : CE) (A : Ar) (ev : Option Str) (hx : Option (Nat × Addr)) : Prop := ∀ (X : Cx) (W : WX) (L : Nat) (O : List Nat) (v t : Str) (p q q2 pos : Pos) (cs : List Nat), Sit X ct c A L W ev hx → ev = some v → visB X.env.scope v = true → plainName v = true → gloB X.env.scope (sOf "isinstance") = true → c.free.contains (sOf "isinstance") = true → gloB X.env.scope t = true → plainName t = true → exsOf c t = some cs →
  PE X (.Call (.Name (sOf "isinstance") p) [.Name v q, .Name t q2] [] pos) (tE X ct A W O hx (.isx cs))
section
variable {ct : CT} {c : CE} {A : Ar} {L : Nat} {ev0 : Option Str} {hx : Option (Nat × Addr)} {n : Nat} {X : Cx} {W : WX} {O : List Nat}
theorem ShS {e : Expr} {se : SE} (h : Both X ct A W O hx e se) : PE X e (tS X ct A W O hx se) := tS.toE h.1
theorem cEs_len {sc : Scope} : ∀ {n : Nat} {es : List Expr} {ses : List SE}, cEs c ev0 n sc es = some ses → ses.length = es.length
  | 0, _, _, h => by cases h
  | n + 1, [], _, h => by cases h; rfl
  | n + 1, e :: es, ses, h => by
    have h : (match cE c ev0 n sc e, cEs c ev0 n sc es with | some x, some y => if noStar e then some (x :: y) else none | _, _ => none) = some ses := h
    split at h
    · rename_i x y e1 e2
      split at h
      · cases h
        simp [cEs_len e2]
      · cases h
    · cases h
theorem sndE_step (hi : IsxOk ct c A ev0 hx) (ih : Snd ct c A L ev0 hx n) (S : Sit X ct c A L W ev0 hx) {e : Expr} {se : SE} (h : cE c ev0 (n + 1) X.env.scope e = some se) (hO : ∀ i ∈ esc se, i ∉ O) : Both X ct A W O hx e se := by
  unfold cE at h
  split at h
  · -- Name
    rename_i x p
    split at h
    · cases h
    rename_i hp
    have hp : plainName x = true := by simpa using hp
    split at h
    · rename_i hv
      split at h
      · cases h
      · cases e1 : slotOf c.N x with
        | none => rw [e1] at h; cases h
        | some i =>
          rw [e1] at h
          cases h
          exact snd_var S hp hv e1 (hO i (by simp [esc]))
    · split at h
      · rename_i hg
        cases e1 : c.gc.lookup x with
        | none => rw [e1] at h; cases h
        | some d =>
          rw [e1] at h
          cases h
          exact snd_glob S hp hg e1
      · cases h
  · -- Constant
    rename_i k j p
    cases e1 : constD k with
    | none => rw [e1] at h; cases h
    | some d => rw [e1] at h; cases h; exact snd_con e1
  · -- Tuple
    rename_i es k p
    split at h
    · rename_i xs e1
      split at h
      · rename_i hl
        cases h
        exact snd_tup (ih.As X W es xs O S e1 hO).1 hl
      · cases h
    · cases h
  · -- List
    rename_i es p
    split at h
    · rename_i xs e1
      split at h
      · rename_i hl
        cases h
        exact snd_lst (ih.As X W es xs O S e1 hO).1 hl
      · cases h
    · cases h
  · -- BinOp
    rename_i a op b p
    split at h
    · rename_i o x y e0 e1 e2
      cases h
      obtain ⟨o1, o2⟩ := mem_l hO
      exact snd_bin e0 (ih.S X W a x O S e1 o1) (ih.S X W b y O S e2 o2)
    · cases h
  · -- USub
    rename_i a p
    cases e1 : cE c ev0 n X.env.scope a with
    | none => rw [e1] at h; cases h
    | some x => rw [e1] at h; cases h; exact snd_neg (ih.E X W a x O S e1 hO).1
  · -- Not
    rename_i a p
    cases e1 : cE c ev0 n X.env.scope a with
    | none => rw [e1] at h; cases h
    | some x => rw [e1] at h; cases h; exact snd_not (ih.E X W a x O S e1 hO)
  · exact snd_one (ih.E X W _ se O S h hO)
  · exact snd_one (ih.E X W _ se O S h hO)
  · -- And
    rename_i a b r p
    split at h
    · rename_i x y e1 e2
      cases h
      obtain ⟨o1, o2⟩ := mem_l hO
      have hb := ih.E X W _ y O S e2 o2
      have hp : ∀ whole, isTrue (.BoolOp .And (b :: r) p) X.env whole = isTrue (.BoolOp .And (b :: r) p) X.env (eval (.BoolOp .And (b :: r) p) X.env) := fun _ => rfl
      have := snd_and (pos := p) (ih.E X W a x O S e1 o1) ⟨hb.1, ⟨fun wh pins s σ H Q I q => by rw [hp wh]; exact hb.2.run pins s σ H Q I q⟩⟩
      exact ⟨this.1, this.2.pt⟩
    · cases h
  · -- Or
    rename_i a b r p
    split at h
    · rename_i x y e1 e2
      cases h
      obtain ⟨o1, o2⟩ := mem_l hO
      have hb := ih.E X W _ y O S e2 o2
      have hp : ∀ whole, isTrue (.BoolOp .Or (b :: r) p) X.env whole = isTrue (.BoolOp .Or (b :: r) p) X.env (eval (.BoolOp .Or (b :: r) p) X.env) := fun _ => rfl
      have := snd_or (pos := p) (ih.E X W a x O S e1 o1) ⟨hb.1, ⟨fun wh pins s σ H Q I q => by rw [hp wh]; exact hb.2.run pins s σ H Q I q⟩⟩
      exact ⟨this.1, this.2.pt⟩
    · cases h
  · -- Compare
    rename_i a op b p
    split at h
    · rename_i o x y e0 e1 e2
      split at h
      · rename_i hm
        cases h
        obtain ⟨o1, o2⟩ := mem_l hO
        exact snd_cmp S e0 (ih.S X W a x O S e1 o1) (ih.S X W b y O S e2 o2) hm
      · cases h
    · cases h
  · -- Compare2
    rename_i a op op' b d p
    split at h
    · rename_i o o' x y z e0 e0' e1 e2 e3
      split at h
      · rename_i hm
        cases h
        obtain ⟨o1, o2⟩ := mem_l hO
        obtain ⟨o3, o4⟩ := mem_l o2
        exact snd_cmp2 S e0 e0' (ih.S X W a x O S e1 o1) (ih.S X W b y O S e2 o3) (ih.S X W d z O S e3 o4) (Bool.and_eq_true_iff.mp hm).2
      · cases h
    · cases h
  · -- IfExp
    rename_i t a b p
    split at h
    · rename_i x y z e1 e2 e3
      cases h
      obtain ⟨o1, o2⟩ := mem_l hO
      obtain ⟨o3, o4⟩ := mem_l o2
      exact snd_ite (ih.E X W t x O S e1 o1) (ih.E X W a y O S e2 o3) (ih.E X W b z O S e3 o4)
    · cases h
  · -- [::-1]
    rename_i a j p1 p2 p3 p
    cases e1 : cE c ev0 n X.env.scope a with
    | none => rw [e1] at h; cases h
    | some x => rw [e1] at h; cases h; exact snd_rev (ih.S X W a x O S e1 hO)
  · -- slices
    rename_i a lo hi q p
    split at h
    · rename_i x l r e1 e2 e3
      cases h
      obtain ⟨o1, o2⟩ := mem_l hO
      obtain ⟨o3, o4⟩ := mem_l o2
      exact snd_sl (ih.S X W a x O S e1 o1) (ih.Op X W lo l O S e2 o3) (ih.Op X W hi r O S e3 o4)
    · cases h
  · -- a[i]
    rename_i a i p _ _
    split at h
    · rename_i hs
      split at h
      · rename_i x y e1 e2
        cases h
        obtain ⟨o1, o2⟩ := mem_l hO
        exact snd_ix S (ih.S X W a x O S e1 o1) (ih.S X W i y O S e2 o2) hs
      · cases h
    · cases h
  · -- f(..)
    rename_i f p args q
    split at h
    · cases h
    rename_i hc
    have hc : plainName f = true ∧ gloB X.env.scope f = true := by simpa using hc
    split at h
    · rename_i k m e0
      split at h
      · rename_i hl
        have hl := Bool.and_eq_true_iff.mp hl
        have h0 : ev0 = none := beq_iff_eq.mp hl.2
        cases e1 : cEs c ev0 n X.env.scope args with
        | none => rw [e1] at h; cases h
        | some ses =>
          rw [e1] at h
          cases h
          obtain ⟨g1, g2⟩ := ih.As X W args ses O S e1 hO
          exact snd_call S h0 hc.1 hc.2 e0 ((cEs_len e1).trans (beq_iff_eq.mp hl.1)) g1 g2 fun z => by
            have := cEs_len e1
            rw [z] at this
            exact List.length_eq_zero_iff.mp this
      · cases h
    · split at h
      · cases h
      rename_i hfr
      have hfr : c.free.contains f = true := by simpa using hfr
      split at h
      · rename_i hf
        have hf := sOf_eq hf
        subst hf
        split at h
        · rename_i a t q2
          split at h
          · cases h
          rename_i hg
          have hg : gloB X.env.scope t = true ∧ plainName t = true ∧ noStar a = true := by
            simp at hg
            exact ⟨hg.1.1, hg.1.2, hg.2⟩
          split at h
          · rename_i v
            split at h
            · rename_i x q3 z3
              split at h
              · rename_i hv
                simp only [Bool.and_eq_true, beq_iff_eq] at hv
                cases e1 : exsOf c t with
                | none => rw [e1] at h; cases h
                | some cs =>
                  rw [e1] at h
                  cases h
                  obtain ⟨⟨v1, v2⟩, v3⟩ := hv
                  subst v1
                  exact .plain (hi X W L O x t p q3 q2 q cs S rfl v2 v3 hc.2 hfr hg.1 hg.2.1 e1) fun _ => rfl
              · cases h
            · cases h
          · split at h
            · rename_i hft
              split at h
              · rename_i k x e1 e2
                cases h
                have : escSs [x] = escS x := by simp [escSs, escS]
                exact snd_isi S hc.2 hfr hg.1 hg.2.1 hft e1 hg.2.2 (ih.S X W a x O S e2 (by rw [← this]; exact hO))
              · cases h
            · cases h
        · cases h
      split at h
      · rename_i hls
        obtain ⟨hl1, hl2⟩ := Bool.and_eq_true_iff.mp hls
        have hf := sOf_eq hl1
        clear hls hl2 hl1
        subst hf
        split at h
        · rename_i g p2 a q2
          split at h
          · rename_i hs
            have hs : (((gloB X.env.scope g = true ∧ c.free.contains g = true) ∧ noStar a = true) ∧ ev0 = none) ∧ (g == sOf "set") = true := by simpa using hs
            obtain ⟨⟨⟨⟨s1, s2⟩, s3⟩, s4⟩, s5⟩ := hs
            have s5 := sOf_eq s5
            subst s5
            cases e1 : cE c ev0 n X.env.scope a with
            | none => rw [e1] at h; cases h
            | some x =>
              rw [e1] at h
              cases h
              have : esc (.bi .lenSet [x]) = escS x := by simp [esc, escSs, escS]
              exact snd_lenSet S s4 hc.2 hfr s1 s2 s3 (ih.S X W a x O S e1 (by rw [← this]; exact hO))
          · cases h
        · cases h
      · rename_i hnls
        clear hnls
        split at h
        · rename_i b a e0
          split at h
          · rename_i hs
            have hs := Bool.and_eq_true_iff.mp hs
            cases e1 : cE c ev0 n X.env.scope a with
            | none => rw [e1] at h; cases h
            | some x =>
              rw [e1] at h
              cases h
              have : esc (.bi b [x]) = escS x := by simp [esc, escSs, escS]
              exact snd_bi1 S (beq_iff_eq.mp hs.2) hc.1 hc.2 hfr e0 hs.1 (ih.S X W a x O S e1 (by rw [← this]; exact hO))
          · cases h
        · cases h
  · -- {..}.get(a)
    rename_i ks vs dp m ap a cp
    split at h
    · cases h
    rename_i hb
    have hb : (((ap.endLine == cp.line) = true ∧ noStar a = true) ∧ ev0 = none) ∧ (m == sOf "get") = true := by simpa using hb
    obtain ⟨⟨⟨hb1, hb2⟩, hb4⟩, hb5⟩ := hb
    split at h
    · rename_i d x e1 e2
      have hm := sOf_eq hb5
      subst hm
      cases h
      obtain ⟨o1, o2⟩ := mem_l hO
      exact snd_dget1 S hb1 hb2 e1 (ih.S X W a x O S e2 (by
        have : escSs [x] = escS x := by simp [escSs, escS]
        rw [← this]; exact o2))
    · cases h
  · -- o.m(a)
    rename_i o m ap a cp _
    split at h
    · cases h
    rename_i hb
    have hb : ((baseOk o = true ∧ (ap.endLine == cp.line) = true) ∧ noStar a = true) ∧ ev0 = none := by simpa using hb
    split at h
    · rename_i x y e1 e2
      split at h
      · rename_i hm
        have hm := sOf_eq hm
        subst hm
        cases h
        obtain ⟨o1, o2⟩ := mem_l hO
        exact snd_join hb.1.1.1 hb.1.1.2 hb.1.2 (ih.S X W o x O S e1 o1) (ih.S X W a y O S e2 (by
          have : escSs [y] = escS y := by simp [escSs, escS]
          rw [← this]; exact o2))
      · split at h
        · rename_i hm
          have hm := sOf_eq hm
          subst hm
          cases h
          obtain ⟨o1, o2⟩ := mem_l hO
          exact snd_sindex hb.1.1.1 hb.1.1.2 hb.1.2 (ih.S X W o x O S e1 o1) (ih.S X W a y O S e2 (by
            have : escSs [y] = escS y := by simp [escSs, escS]
            rw [← this]; exact o2))
        · cases h
    · cases h
  · -- {..}.get(a, b)
    rename_i ks vs dp m ap a b cp
    split at h
    · cases h
    rename_i hb
    have hb : ((((ap.endLine == cp.line) = true ∧ noStar a = true) ∧ noStar b = true) ∧ ev0 = none) ∧ (m == sOf "get") = true := by simpa using hb
    obtain ⟨⟨⟨⟨hb1, hb2⟩, hb3⟩, hb4⟩, hb5⟩ := hb
    split at h
    · rename_i d x y e1 e2 e3
      have hm := sOf_eq hb5
      subst hm
      cases h
      obtain ⟨o1, o2⟩ := mem_l hO
      exact snd_dget2 S hb1 hb2 hb3 e1 (ih.S X W a x O S e2 (by
        have : escSs [x, .con y] = escS x := by simp [escSs, escS, esc, isVar]
        rw [← this]; exact o2)) (ih.E X W b (.con y) O S e3 (by simp [esc])).1
    · cases h
  · -- {..}
    rename_i ks vs p
    split at h
    · cases e1 : litD ks vs with
      | none => rw [e1] at h; cases h
      | some d => rw [e1] at h; cases h; exact snd_dlit e1
    · cases h
  · -- comprehension
    rename_i elt tg iter ifs scope p
    split at h
    · rename_i t one it ts el e1 e2 e3 e4
      split at h
      · rename_i hc
        simp only [Bool.and_eq_true, beq_iff_eq] at hc
        obtain ⟨⟨c1, c2⟩, c3⟩ := hc
        subst c3
        cases h
        have hn : hx = none := by
          cases q : hx with
          | none => rfl
          | some z =>
            obtain ⟨y, _, _, h1, _⟩ := S.hot z.1 z.2 q
            cases h1
        subst hn
        obtain ⟨o1, o2⟩ := mem_l hO
        obtain ⟨o3, o4⟩ := mem_l o2
        obtain ⟨o5, o6⟩ := mem_l o4
        exact .plain (lc_rules S o1 c1 c2 e1 (ih.I X W tg iter it O S e2 o3) (fun X' S' _ es => ih.Ts X' _ ifs ts O S' (by rw [es]; exact e3) o5) (fun X' S' _ es => (ih.E X' _ elt el O S' (by rw [es]; exact e4) o6).1) (fun σ H Q h => snd_lc o1 σ H Q h)).1 fun _ => rfl
      · cases h
    · cases h
  · cases h
end
end Tk
/-! All expressions: the induction. -/
namespace Tk
open PySem PySem.Spec PyProof.Rows L2
open D
section
variable {ct : CT} {c : CE} {A : Ar} {L : Nat} {ev0 : Option Str} {hx : Option (Nat × Addr)} {n : Nat} {X : Cx} {W : WX} {O : List Nat}
theorem escS_of {se : SE} (h : isVar se = false) : escS se = esc se := by
  unfold escS
  rw [h]
  rfl
theorem sndS_step (hi : IsxOk ct c A ev0 hx) (ih : Snd ct c A L ev0 hx n) (S : Sit X ct c A L W ev0 hx) {e : Expr} {se : SE} (h : cE c ev0 (n + 1) X.env.scope e = some se) (hO : ∀ i ∈ escS se, i ∉ O) : PE X e (tS X ct A W O hx se) := by
  cases hv : isVar se with
  | false => exact ShS (sndE_step hi ih S h (by rw [← escS_of hv]; exact hO))
  | true =>
    cases se with
    | var i =>
      unfold cE at h
      split at h
      · rename_i x p
        split at h
        · cases h
        rename_i hp
        have hp : plainName x = true := by simpa using hp
        split at h
        · rename_i hv
          split at h
          · cases h
          · cases e1 : slotOf c.N x with
            | none => rw [e1] at h; cases h
            | some j =>
              rw [e1] at h
              cases h
              exact snd_varS S hp hv e1
        · split at h
          · cases e1 : c.gc.lookup x with
            | none => rw [e1] at h; cases h
            | some d => rw [e1] at h; cases h
          · cases h
      · rename_i k j p
        cases e1 : constD k with
        | none => rw [e1] at h; cases h
        | some d => rw [e1] at h; cases h
      · split at h
        · split at h <;> cases h
        · cases h
      · split at h
        · split at h <;> cases h
        · cases h
      · split at h <;> cases h
      · rename_i a p
        cases e1 : cE c ev0 n X.env.scope a with
        | none => rw [e1] at h; cases h
        | some x => rw [e1] at h; cases h
      · rename_i a p
        cases e1 : cE c ev0 n X.env.scope a with
        | none => rw [e1] at h; cases h
        | some x => rw [e1] at h; cases h
      · exact pe_one (ih.S X W _ (.var i) O S h hO)
      · exact pe_one (ih.S X W _ (.var i) O S h hO)
      · split at h <;> cases h
      · split at h <;> cases h
      · split at h
        · split at h <;> cases h
        · cases h
      · split at h
        · split at h <;> cases h
        · cases h
      · split at h <;> cases h
      · rename_i a j p1 p2 p3 p
        cases e1 : cE c ev0 n X.env.scope a with
        | none => rw [e1] at h; cases h
        | some x => rw [e1] at h; cases h
      · split at h <;> cases h
      · split at h
        · split at h <;> cases h
        · cases h
      · rename_i f p args q
        split at h
        · cases h
        split at h
        · split at h
          · cases e1 : cEs c ev0 n X.env.scope args with
            | none => rw [e1] at h; cases h
            | some x => rw [e1] at h; cases h
          · cases h
        · split at h
          · cases h
          split at h
          · split at h
            · split at h
              · cases h
              split at h
              · split at h
                · rename_i t _ _ _ _ _ _ _
                  split at h
                  · rename_i t q2 _ _ _ _ _ _
                    first
                    | (cases e1 : exsOf c t with
                      | none => rw [e1] at h; cases h
                      | some x => rw [e1] at h; cases h)
                    | (exfalso; revert h; generalize exsOf c _ = z; intro h; cases z <;> cases h)
                  · cases h
                · cases h
              · split at h
                · split at h <;> cases h
                · cases h
            · cases h
          split at h
          · rename_i hls
            clear hls
            split at h
            · rename_i g p2 a q2
              split at h
              · cases e1 : cE c ev0 n X.env.scope a with
                | none => rw [e1] at h; cases h
                | some x => rw [e1] at h; cases h
              · cases h
            · cases h
          · rename_i hls
            clear hls
            split at h
            · rename_i b a e0
              split at h
              · cases e1 : cE c ev0 n X.env.scope a with
                | none => rw [e1] at h; cases h
                | some x => rw [e1] at h; cases h
              · cases h
            · cases h
      · split at h
        · cases h
        split at h <;> cases h
      · split at h
        · cases h
        split at h
        · split at h
          · cases h
          · split at h <;> cases h
        · cases h
      · split at h
        · cases h
        split at h <;> cases h
      · rename_i ks vs p
        split at h
        · cases e1 : litD ks vs with
          | none => rw [e1] at h; cases h
          | some d => rw [e1] at h; cases h
        · cases h
      · split at h
        · split at h <;> cases h
        · cases h
      · cases h
    | _ => cases hv
theorem snd (hi : IsxOk ct c A ev0 hx) : ∀ n, Snd ct c A L ev0 hx n
  | 0 => by
    refine ⟨?_, ?_, ?_, ?_, ?_, ?_⟩
    all_goals (intros; rename_i h _; cases h)
  | n + 1 => by
    have ih := snd hi n
    refine ⟨fun X W e se O S h hO => sndE_step hi ih S h hO, fun X W e se O S h hO => sndS_step hi ih S h hO, fun X W es ses O S h hO => ?_, fun X W es ses O S h hO => ?_, fun X W e se O S h hO => ?_, fun X W tg e si O S h hO => ?_⟩
    · unfold cEs at h
      split at h
      · cases h; exact ⟨snd_asNil, fun e he => by cases he⟩
      · rename_i e r
        split at h
        · rename_i x y e1 e2
          split at h
          · rename_i hs
            cases h
            obtain ⟨o1, o2⟩ := mem_l hO
            obtain ⟨g1, g2⟩ := ih.As X W r y O S e2 o2
            refine ⟨snd_asCons (ih.E X W e x O S e1 o1).1 g1 hs, fun e' he => ?_⟩
            rcases List.mem_cons.mp he with z | z
            · rw [z]; exact hs
            · exact g2 e' z
          · cases h
        · cases h
    · unfold cTs at h
      split at h
      · cases h; exact snd_tsNil
      · rename_i e
        cases e1 : cE c ev0 n X.env.scope e with
        | none => rw [e1] at h; cases h
        | some x =>
          rw [e1] at h
          cases h
          exact snd_tsOne (ih.E X W e x O S e1 (by
            have : escs [x] = esc x := by simp [escs]
            rw [← this]; exact hO)).2
      · cases h
    · unfold cO at h
      split at h
      · cases h; exact snd_po (e := none) (o := none) trivial
      · rename_i e
        cases e1 : cE c ev0 n X.env.scope e with
        | none => rw [e1] at h; cases h
        | some x =>
          rw [e1] at h
          cases h
          exact snd_po (e := some e) (o := some x) (ih.E X W e x O S e1 hO).1
    · unfold cI at h
      split at h
      · rename_i f p args q
        split at h
        · rename_i hg
          simp only [Bool.and_eq_true] at hg
          obtain ⟨⟨g1, g2⟩, g3⟩ := hg
          split at h
          · rename_i hf
            have hf := sOf_eq hf
            subst hf
            split at h
            · rename_i a
              split at h
              · rename_i hs
                cases e1 : cE c ev0 n X.env.scope a with
                | none => rw [e1] at h; cases h
                | some x =>
                  rw [e1] at h
                  cases h
                  exact snd_rng1 S g1 g3 hs (ih.E X W a x O S e1 (mem_l hO).2).1
              · cases h
            · rename_i a b
              split at h
              · rename_i hs
                have hs := Bool.and_eq_true_iff.mp hs
                split at h
                · rename_i x y e1 e2
                  cases h
                  obtain ⟨o1, o2⟩ := mem_l hO
                  exact snd_rng2 S g1 g3 hs.1 hs.2 (ih.E X W a x O S e1 o1).1 (ih.E X W b y O S e2 o2).1
                · cases h
              · cases h
            · cases h
          · split at h
            · rename_i hf
              have hf := sOf_eq hf
              subst hf
              split at h
              · rename_i a
                split at h
                · rename_i hs
                  cases e1 : cE c ev0 n X.env.scope a with
                  | none => rw [e1] at h; cases h
                  | some x =>
                    rw [e1] at h
                    cases h
                    exact snd_enm S g1 g3 hs (ih.E X W a x O S e1 hO).1
                · cases h
              · cases h
            split at h
            · rename_i hf
              have hf := sOf_eq hf
              subst hf
              split at h
              · rename_i a b
                split at h
                · rename_i hs
                  have hs := Bool.and_eq_true_iff.mp hs
                  split at h
                  · rename_i x y e1 e2
                    cases h
                    obtain ⟨o1, o2⟩ := mem_l hO
                    exact snd_zip S g1 g3 hs.1 hs.2 (ih.E X W a x O S e1 o1).1 (ih.E X W b y O S e2 o2).1
                  · cases h
                · cases h
              · cases h
            cases e1 : cE c ev0 n X.env.scope (.Call (.Name f p) args [] q) with
            | none => rw [e1] at h; cases h
            | some x => rw [e1] at h; cases h; exact snd_of (ih.E X W _ x O S e1 hO).1
        · cases e1 : cE c ev0 n X.env.scope (.Call (.Name f p) args [] q) with
          | none => rw [e1] at h; cases h
          | some x => rw [e1] at h; cases h; exact snd_of (ih.E X W _ x O S e1 hO).1
      · cases e1 : cE c ev0 n X.env.scope e with
        | none => rw [e1] at h; cases h
        | some x => rw [e1] at h; cases h; exact snd_of (ih.E X W _ x O S e1 hO).1
end
end Tk
/-! Statements: readings; what is owned; new objects that a name owns. -/
namespace Tk
open PySem PySem.Spec PyProof.Rows L2
open D
theorem mem_rem {O E : List Nat} {i : Nat} : i ∈ rem O E ↔ i ∈ O ∧ i ∉ E := by
  unfold rem
  simp [List.mem_filter, List.contains_iff_mem]
theorem mem_joinO {a b : List Nat} {i : Nat} : i ∈ joinO a b ↔ i ∈ a ∧ i ∈ b := by
  unfold joinO
  simp [List.mem_filter, List.contains_iff_mem]
theorem subO_iff {a b : List Nat} : subO a b = true ↔ ∀ i ∈ a, i ∈ b := by
  unfold subO
  simp [List.all_eq_true, List.contains_iff_mem]
section
variable {ct : CT} {c : CE} {A : Ar} {L : Nat} {ev0 : Option Str} {hx : Option (Nat × Addr)} {n : Nat} {X : Cx} {W : WX} {O : List Nat}
open Classical in
/-- fewer slots are owned: the objects of the others are frozen -/
theorem RelE.freeze {K : PySem.W.Frag} {Z H : Hp} {σ : L2.St} {ρ : En} {O2 : List Nat} (rel : RelE K ct Z H O σ ρ) (h : ∀ i ∈ O2, i ∈ O) : ∃ Z2, Same Z Z2 ∧ RelE K ct Z2 H O2 σ ρ := by
  let P : Addr → Prop := fun b => ∃ i d, i ∈ O ∧ i ∉ O2 ∧ ρ[i]? = some (some d) ∧ σ[i]? = some (some (.ref b))
  let Z2 : Hp := fun b => if P b then H b else Z b
  have zz : Same Z Z2 := fun b o e => by
    show (if P b then H b else Z b) = some o
    split
    · exact rel.sub b o e
    · exact e
  refine ⟨Z2, zz, ⟨fun b o e => ?_, fun b o e z => ?_, rel.len, fun i d hi e => ?_, fun i d hi e => ?_, fun i j d e a hi hj => rel.inj i j d e a (h i hi) (h j hj)⟩⟩
  · have e : (if P b then H b else Z b) = some o := e
    split at e
    · exact e
    · exact rel.sub b o e
  · have z : (if P b then H b else Z b) = none := z
    split at z
    · rw [e] at z; cases z
    · exact rel.dif b o e z
  · by_cases hO : i ∈ O
    · obtain ⟨a, h1, h2, h3⟩ := rel.ow i d hO e
      refine ⟨_, h1, ?_⟩
      have za : Z2 a = H a := if_pos (show P a from ⟨i, d, hO, hi, e, h1⟩)
      rcases h3 with ⟨vs, ds, rfl, g1, g2⟩ | ⟨kvs, ps, rfl, g1, g2⟩
      · exact .lst (.inl (za.trans g1)) (DenAll.mono zz _ _ g2)
      · exact .dK (za.trans g1) (DenK.mono zz _ _ g2)
    · obtain ⟨v, h1, h2⟩ := rel.fr i d hO e
      exact ⟨v, h1, Den.mono zz _ _ h2⟩
  · obtain ⟨a, h1, h2, h3⟩ := rel.ow i d (h i hi) e
    refine ⟨a, h1, ?_, ?_⟩
    · show (if P a then H a else Z a) = none
      rw [if_neg, h2]
      rintro ⟨j, e2, hj, nj, q1, q2⟩
      have ne : i ≠ j := fun z => nj (z ▸ hi)
      exact rel.inj i j d e2 a (h i hi) hj ne e q1 h1 q2
    · rcases h3 with ⟨vs, ds, r, g1, g2⟩ | ⟨kvs, ps, r, g1, g2⟩
      · exact .inl ⟨vs, ds, r, g1, DenAll.mono zz _ _ g2⟩
      · exact .inr ⟨kvs, ps, r, g1, DenK.mono zz _ _ g2⟩
/-- what is wanted behind a statement that runs so -/
def Out (K : PySem.W.Frag) (ct : CT) (W : WX) (hx : Option (Nat × Addr)) (B : Option (List Nat)) (O' : List Nat) (Z : Hp) (D : Ends) : Fl → Prop
  | .nx ρ' => ∀ σ' H' Z', Same Z Z' → HotOk hx σ' → RelE K ct Z' H' O' σ' ρ' → D.nx σ' H'
  | .rt d => ∀ v H' Z', Same Z Z' → Same Z' H' → Den K ct Z' v d → D.rt v H'
  | .bk ρ' => match B with
    | some b => ∀ σ' H' Z', Same Z Z' → HotOk hx σ' → RelE K ct Z' H' b σ' ρ' → D.bk σ' H'
    | none => False
  | .exc k ρ' => ∀ C σ' H' Z', ct.ex k = some C → Same Z Z' → HotOk hx σ' → RelE K ct Z' H' [] σ' ρ' → W (.ref C) none σ' H'
  | .bad => False
theorem Out.grow {K : PySem.W.Frag} {B : Option (List Nat)} {Z Z2 : Hp} {D : Ends} {f : Fl} (h : Out K ct W hx B O Z D f) (s : Same Z Z2) : Out K ct W hx B O Z2 D f := by
  cases f with
  | nx ρ => exact fun σ' H' Z' z => h σ' H' Z' (s.trans z)
  | rt d => exact fun v H' Z' z => h v H' Z' (s.trans z)
  | bk ρ =>
    cases B with
    | none => exact h
    | some b => exact fun σ' H' Z' z => h σ' H' Z' (s.trans z)
  | exc k ρ => exact fun C σ' H' Z' e z => h C σ' H' Z' e (s.trans z)
  | bad => exact h
theorem Out.sub {K : PySem.W.Frag} {B : Option (List Nat)} {O2 : List Nat} {Z : Hp} {D : Ends} {f : Fl} (h : Out K ct W hx B O Z D f) (s : ∀ i ∈ O, i ∈ O2) : Out K ct W hx B O2 Z D f := by
  cases f with
  | nx ρ =>
    intro σ' H' Z' z hh r
    obtain ⟨Z2, z2, r2⟩ := r.freeze s
    exact h σ' H' Z2 (z.trans z2) hh r2
  | _ => exact h
def tSS (X : Cx) (ct : CT) (W : WX) (hx : Option (Nat × Addr)) (B : Option (List Nat)) (O O' : List Nat) (r : En → Fl) : TS := fun D σ H => HotOk hx σ ∧ ∃ Z ρ, RelE X.K ct Z H O σ ρ ∧ Out X.K ct W hx B O' Z D (r ρ)
/-- an expression ahead of a statement's rest -/
theorem fin_withR {α : Type} {B : Option (List Nat)} {O' : List Nat} {Z H : Hp} {D : Ends} {σ : L2.St} {ρ : En} {r : Res α} {f : α → Fl} (rel : RelE X.K ct Z H O σ ρ) (hh : HotOk hx σ) (h : Out X.K ct W hx B O' Z D (withR ρ r f)) :
    FinG X.K ct W σ Z H r fun a Z' H' => RelE X.K ct Z' H' O σ ρ ∧ Out X.K ct W hx B O' Z' D (f a) := by
  cases r with
  | ok a => exact fun Z' H' e => ⟨rel.ext e, Out.grow h e.zz⟩
  | exc k =>
    intro C Z' H' e x
    obtain ⟨Z2, z2, r2⟩ := (rel.ext x).freeze (O2 := []) (fun i hi => by cases hi)
    exact h C σ H' Z2 e (x.zz.trans z2) hh r2
  | bad => exact h
/-! ### a new object that a name gets -/
def OwnO (K : PySem.W.Frag) (ct : CT) (Z : Hp) (o : HO) (d : D) : Prop := (∃ vs ds, o = .lst vs ∧ d = .lst ds ∧ DenAll K ct Z vs ds) ∨ (∃ kvs ps, o = .dK kvs ∧ d = .dic ps ∧ DenK K ct Z kvs ps)
def tF (X : Cx) (ct : CT) (A : Ar) (W : WX) (O : List Nat) (hx : Option (Nat × Addr)) (se : SE) : TE := fun σ H Q => tG X ct W O hx (ev A se) (fun d Z' H' => ∀ a o, H' a = none → OwnO X.K ct Z' o d → Q (.ref a) (upd H' a o)) σ H
theorem fr_lst {es : List Expr} {pos : Pos} {ses : List SE} (ha : PA X es (tAs X ct A W O hx ses)) (hl : ses.length ≤ 1000) : PE X (.List es pos) (tF X ct A W O hx (.lst ses)) := by
  refine (pe_lst ha).imp fun σ H Q ⟨hh, Z, ρ, rel, fin⟩ => ?_
  have fin : FinG X.K ct W σ Z H ((evs A ses ρ).bind fun ds => Res.ok (D.lst ds)) _ := fin
  refine ⟨hh, Z, ρ, rel, fin.bind.mono fun ds Z1 H1 he e1 f1 vs hv => ⟨?_, fun p hp => ?_⟩⟩
  · rw [hv.length, evs_len he, sizeLine_eq]; omega
  · exact f1.here (rel.ext e1).sub p _ hp (.inl ⟨vs, ds, rfl, rfl, hv⟩)
theorem fr_list (S : Sit X ct c A L W ev0 hx) {p pos : Pos} {a : Expr} {x : SE} (hg : gloB X.env.scope (sOf "list") = true) (hfr : c.free.contains (sOf "list") = true) (hs : noStar a = true) (ha : PE X a (tS X ct A W O hx x)) : PE X (.Call (.Name (sOf "list") p) [a] [] pos) (tF X ct A W O hx (.bi .list [x])) := by
  have hm := S.free _ hfr
  have hA : PA X [a] (tCons (tS X ct A W O hx x) tNil) := pa_cons ha pa_nil (noStar_each hs)
  refine (pe_callTy call_list_of (gloB_gl hg) hm (by decide +kernel) hA (by decide) (by decide) (noStar_each hs) rfl).imp fun σ H Q ⟨hh, Z, ρ, rel, fin⟩ => ?_
  rw [bi1_eq] at fin
  refine ⟨hh, Z, ρ, rel, fin.bind.mono fun d Z1 H1 _ e1 f1 v hv => ?_⟩
  have sz := (rel.ext e1).sub
  cases d with
  | lst ds =>
    obtain ⟨a, vs, rfl, h1, h2⟩ := hv.lst sz
    exact ⟨a, vs, rfl, .inl (.inl h1), fun p hp => FinG.here (a := D.lst ds) f1 sz p _ hp (.inl ⟨vs, ds, rfl, rfl, h2⟩)⟩
  | tup ds =>
    obtain ⟨a, vs, rfl, h1, h2⟩ := hv.tup sz
    exact ⟨a, vs, rfl, .inr h1, fun p hp => FinG.here (a := D.lst ds) f1 sz p _ hp (.inl ⟨vs, ds, rfl, rfl, h2⟩)⟩
  | _ => exact (show False from f1).elim
/-- the heap without one object -/
def cut (H : Hp) (a : Addr) : Hp := fun b => if b = a then none else H b
theorem cut_upd {H : Hp} {a : Addr} {o : HO} (h : H a = some o) : upd (cut H a) a o = H := by
  funext b
  unfold upd cut
  by_cases hb : b = a
  · subst hb; rw [if_pos rfl]; exact h.symm
  · rw [if_neg hb, if_neg hb]
theorem ExtD.bare {Dd : Addr} {Z1 H1 Z H : Hp} (x : ExtD Dd Z1 H1 Z H) (h1 : H1 Dd = none) : Ext Z1 H1 Z (cut H Dd) := by
  refine ⟨fun b o q => ?_, x.zz, fun b o q => ?_, x.keep, fun b q z => ?_⟩
  · show (if b = Dd then none else H b) = _
    rw [if_neg (ne_of_none q h1)]; exact x.hh b o q
  · show (if b = Dd then none else H b) = _
    rw [if_neg (ne_of_none q x.zd)]; exact x.zh b o q
  · show (if b = Dd then none else H b) = _
    split
    · rfl
    · rename_i hb; exact x.new b hb q z
/-- a slot gets a new object and owns it -/
theorem RelE.setOwn {K : PySem.W.Frag} {Z H : Hp} {σ : L2.St} {ρ : En} {a : Addr} {o : HO} {d : D} {i : Nat} (rel : RelE K ct Z H O σ ρ) (hi : i ∉ O) (ha : H a = none) (ho : OwnO K ct Z o d) : RelE K ct Z (upd H a o) (i :: O) (σ.set i (some (.ref a))) (ρ.set i (some d)) := by
  have za : Z a = none := rel.sub.free ha
  have hso : ∀ b u, H b = some u → (upd H a o) b = some u := fun b u e => by rw [upd_ne (ne_of_none e ha)]; exact e
  have hown : Own K ct Z (upd H a o) a d := by
    rcases ho with ⟨vs, ds, rfl, rfl, g⟩ | ⟨kvs, ps, rfl, rfl, g⟩
    · exact .inl ⟨vs, ds, rfl, upd_same, g⟩
    · exact .inr ⟨kvs, ps, rfl, upd_same, g⟩
  have slot : ∀ k, k ≠ i → (σ.set i (some (.ref a)))[k]? = σ[k]? ∧ (ρ.set i (some d))[k]? = ρ[k]? := fun k hk => ⟨List.getElem?_set_ne (Ne.symm hk), List.getElem?_set_ne (Ne.symm hk)⟩
  refine ⟨rel.sub.trans hso, fun b u e z => ?_, by simpa using rel.len, fun k e hk q => ?_, fun k e hk q => ?_, fun j k e1 e2 b hj hk ne q1 q2 q3 => ?_⟩
  · by_cases hb : b = a
    · subst hb
      rw [upd_same] at e
      cases e
      rcases ho with ⟨vs, ds, rfl, _⟩ | ⟨kvs, ps, rfl, _⟩
      · exact .inl ⟨_, rfl⟩
      · exact .inr ⟨_, rfl⟩
    · rw [upd_ne hb] at e
      exact rel.dif b u e z
  · have hk' : k ≠ i ∧ k ∉ O := by simpa using hk
    rw [(slot k hk'.1).2] at q
    rw [(slot k hk'.1).1]
    exact rel.fr k e hk'.2 q
  · by_cases hk' : k = i
    · subst hk'
      by_cases hl : k < ρ.length
      · rw [List.getElem?_set_self hl] at q
        cases q
        exact ⟨a, List.getElem?_set_self (by rw [rel.len]; exact hl), za, hown⟩
      · rw [List.getElem?_eq_none (by simpa using hl)] at q; cases q
    · have hO : k ∈ O := by
        rcases List.mem_cons.mp hk with z | z
        · exact absurd z hk'
        · exact z
      rw [(slot k hk').2] at q
      rw [(slot k hk').1]
      obtain ⟨b, h1, h2, h3⟩ := rel.ow k e hO q
      obtain ⟨u, hu⟩ := h3.at
      refine ⟨b, h1, h2, ?_⟩
      rcases h3 with ⟨vs, ds, r, g1, g2⟩ | ⟨kvs, ps, r, g1, g2⟩
      · exact .inl ⟨vs, ds, r, hso _ _ g1, g2⟩
      · exact .inr ⟨kvs, ps, r, hso _ _ g1, g2⟩
  · by_cases hj' : j = i
    · subst hj'
      have hk' : k ≠ j := Ne.symm ne
      have hO : k ∈ O := by
        rcases List.mem_cons.mp hk with z | z
        · exact absurd z hk'
        · exact z
      rw [(slot k hk').2] at q2
      rw [(slot k hk').1]
      obtain ⟨b2, h1, h2, h3⟩ := rel.ow k e2 hO q2
      obtain ⟨u, hu⟩ := h3.at
      intro z
      rw [h1] at z
      cases z
      by_cases hl : j < σ.length
      · rw [List.getElem?_set_self hl] at q3
        cases q3
        rw [ha] at hu; cases hu
      · rw [List.getElem?_eq_none (by simpa using hl)] at q3; cases q3
    · have hO : j ∈ O := by
        rcases List.mem_cons.mp hj with z | z
        · exact absurd z hj'
        · exact z
      rw [(slot j hj').2] at q1
      rw [(slot j hj').1] at q3
      by_cases hk' : k = i
      · subst hk'
        intro z
        by_cases hl : k < σ.length
        · rw [List.getElem?_set_self hl] at z
          cases z
          obtain ⟨b2, h1, h2, h3⟩ := rel.ow j e1 hO q1
          obtain ⟨u, hu⟩ := h3.at
          rw [q3] at h1
          cases h1
          rw [ha] at hu; cases hu
        · rw [List.getElem?_eq_none (by simpa using hl)] at z; cases z
      · have hO2 : k ∈ O := by
          rcases List.mem_cons.mp hk with z | z
          · exact absurd z hk'
          · exact z
        rw [(slot k hk').2] at q2
        rw [(slot k hk').1]
        exact rel.inj j k e1 e2 b hO hO2 ne q1 q2 q3
/-- an owned slot's object is written -/
theorem RelE.write {K : PySem.W.Frag} {Z H : Hp} {σ : L2.St} {ρ : En} {a : Addr} {o : HO} {d d0 : D} {i : Nat} (rel : RelE K ct Z H O σ ρ) (hi : i ∈ O) (hd0 : ρ[i]? = some (some d0)) (hs : σ[i]? = some (some (.ref a))) (ho : OwnO K ct Z o d) : RelE K ct Z (upd H a o) O σ (ρ.set i (some d)) := by
  obtain ⟨a', h1, za, own0⟩ := rel.ow i d0 hi hd0
  rw [hs] at h1
  cases h1
  have hl : i < ρ.length := by
    obtain ⟨h, _⟩ := List.getElem?_eq_some_iff.mp hd0
    exact h
  have hown : Own K ct Z (upd H a o) a d := by
    rcases ho with ⟨vs, ds, rfl, rfl, g⟩ | ⟨kvs, ps, rfl, rfl, g⟩
    · exact .inl ⟨vs, ds, rfl, upd_same, g⟩
    · exact .inr ⟨kvs, ps, rfl, upd_same, g⟩
  refine ⟨fun b u e => ?_, fun b u e z => ?_, by simpa using rel.len, fun k e hk q => ?_, fun k e hk q => ?_, fun j k e1 e2 b hj hk ne q1 q2 q3 => ?_⟩
  · rw [upd_ne (ne_of_none e za)]; exact rel.sub b u e
  · by_cases hb : b = a
    · subst hb
      rw [upd_same] at e
      cases e
      rcases ho with ⟨vs, ds, rfl, _⟩ | ⟨kvs, ps, rfl, _⟩
      · exact .inl ⟨_, rfl⟩
      · exact .inr ⟨_, rfl⟩
    · rw [upd_ne hb] at e
      exact rel.dif b u e z
  · have hk' : k ≠ i := fun z => hk (z ▸ hi)
    rw [List.getElem?_set_ne (Ne.symm hk')] at q
    exact rel.fr k e hk q
  · by_cases hk' : k = i
    · subst hk'
      rw [List.getElem?_set_self hl] at q
      cases q
      exact ⟨a, hs, za, hown⟩
    · rw [List.getElem?_set_ne (Ne.symm hk')] at q
      obtain ⟨b, h1, h2, h3⟩ := rel.ow k e hk q
      have hb : b ≠ a := fun z => by
        subst z
        exact rel.inj i k d0 e b hi hk (Ne.symm hk') hd0 q hs h1
      refine ⟨b, h1, h2, ?_⟩
      rcases h3 with ⟨vs, ds, r, g1, g2⟩ | ⟨kvs, ps, r, g1, g2⟩
      · exact .inl ⟨vs, ds, r, by rw [upd_ne hb]; exact g1, g2⟩
      · exact .inr ⟨kvs, ps, r, by rw [upd_ne hb]; exact g1, g2⟩
  · have old : ∀ k e, k ∈ O → (ρ.set i (some d))[k]? = some (some e) → ∃ e', ρ[k]? = some (some e') := fun k e hk q => by
      by_cases hk' : k = i
      · subst hk'; exact ⟨d0, hd0⟩
      · rw [List.getElem?_set_ne (Ne.symm hk')] at q; exact ⟨e, q⟩
    obtain ⟨f1, g1⟩ := old j e1 hj q1
    obtain ⟨f2, g2⟩ := old k e2 hk q2
    exact rel.inj j k f1 f2 b hj hk ne g1 g2 q3
/-- a slot gets a frozen value -/
theorem RelE.set1 {K : PySem.W.Frag} {Z H : Hp} {σ : L2.St} {ρ : En} {v : V} {d : D} {i : Nat} (rel : RelE K ct Z H O σ ρ) (hi : i ∉ O) (hv : Den K ct Z v d) : RelE K ct Z H O (σ.set i (some v)) (ρ.set i (some d)) := by
  refine rel.bind (t := [i]) (by simp) (by simp) (fun k hk => by simp at hk; rw [hk]; exact hi) (fun k hk => ?_) (fun k hk e he => ?_)
  · have : i ≠ k := fun z => hk (by simp [z])
    exact ⟨List.getElem?_set_ne this, List.getElem?_set_ne this⟩
  · have : k = i := by simpa using hk
    subst this
    by_cases hl : k < ρ.length
    · rw [List.getElem?_set_self hl] at he
      cases he
      exact ⟨v, List.getElem?_set_self (by rw [rel.len]; exact hl), hv⟩
    · rw [List.getElem?_eq_none (by simpa using hl)] at he; cases he
/-- a slot's value is gone -/
theorem RelE.unset {K : PySem.W.Frag} {Z H : Hp} {σ σ2 : L2.St} {ρ : En} {i : Nat} (rel : RelE K ct Z H O σ ρ) (hi : i ∉ O) (hl : σ2.length = σ.length) (hs : ∀ k, k ≠ i → σ2[k]? = σ[k]?) : RelE K ct Z H O σ2 (ρ.set i none) := by
  refine rel.bind (t := [i]) hl (by simp) (fun k hk => by simp at hk; rw [hk]; exact hi) (fun k hk => ?_) (fun k hk e he => ?_)
  · have : k ≠ i := fun z => hk (by simp [z])
    exact ⟨hs k this, List.getElem?_set_ne (Ne.symm this)⟩
  · have : k = i := by simpa using hk
    subst this
    by_cases hl : k < ρ.length
    · rw [List.getElem?_set_self hl] at he; cases he
    · rw [List.getElem?_eq_none (by simpa using hl)] at he; cases he
end
end Tk
/-! Statements, construct by construct. -/
namespace Tk
open PySem PySem.Spec PyProof.Rows L2
open D
/-- a statement's surroundings -/
structure SitS (X : Cx) (ct : CT) (c : CE) (A : Ar) (L : Nat) (W : WX) (ev : Option Str) (hx : Option (Nat × Addr)) : Prop extends Sit X ct c A L W ev hx where
  fnT : ∀ x, X.fn x = true
  po : PassesOwn (model X.prog X.w) X.A X.env X.xe
  stk : X.stack = X.env :: X.outer
  frm : X.env.frame = some X.env.locals
/-- an assignment of e to a name -/
def AsgR (X : Cx) (e : Expr) (t' : TE) : Prop := ∀ (i : Nat) (y : Str) (py spos : Pos), X.N[i]? = some y → L2.Loc X.env.scope y → PS X (.Assign [.Name y py] e spos) (tAsg t' (gName i))
section
variable {ct : CT} {c : CE} {A : Ar} {L : Nat} {ev0 : Option Str} {hx : Option (Nat × Addr)} {n : Nat} {X : Cx} {W : WX} {O : List Nat}
theorem swaps_no {e : Expr} {t : Option Expr} {l : Nat} {env : Env} (h : noLc e = true) : swapsWith e t l env = pure false := by
  cases e <;> first | rfl | cases h
theorem asg_plain (S : SitS X ct c A L W ev0 hx) {e : Expr} {t' : TE} (h : noLc e = true) (he : PE X e t') : AsgR X e t' := fun i y py spos hi hl =>
  ps_set (by rw [S.N]; exact S.nd) hi hl he (swaps_no h) (.inl (S.fnT y))
theorem swaps_lc {elt : Expr} {gs : List Comprehension} {scope : Scope} {pos py : Pos} {y : Str} {l : Nat} {env : Env} : swapsWith (.ListComp elt gs scope pos) (some (.Name y py)) l env = pure (env.blockKind == .function && env.kindOf y == some .local && py.line == (Expr.ListComp elt gs scope pos).pos.line && !(scope.names.any fun (n, k) => n == y && (k == .local || k == .cell))) := rfl
theorem asg_lc (S : SitS X ct c A L W ev0 hx) {elt : Expr} {gs : List Comprehension} {scope : Scope} {pos : Pos} {t' : TE} (he : PE X (.ListComp elt gs scope pos) t')
    (hs : ∀ {i : Nat} {y : Str} {py spos : Pos}, X.N[i]? = some y → X.env.scope.names.lookup y = some .local → swapsWith (.ListComp elt gs scope pos) (some (.Name y py)) spos.line X.env = pure true → PS X (.Assign [.Name y py] (.ListComp elt gs scope pos) spos) (tAsg t' (gName i))) : AsgR X (.ListComp elt gs scope pos) t' := fun i y py spos hi hl => by
  cases q : (X.env.blockKind == .function && X.env.kindOf y == some .local && py.line == (Expr.ListComp elt gs scope pos).pos.line && !(scope.names.any fun (n, k) => n == y && (k == .local || k == .cell))) with
  | true =>
    refine hs hi ?_ (by rw [swaps_lc, q])
    simp only [Bool.and_eq_true] at q
    exact beq_iff_eq.mp q.1.1.2
  | false => exact ps_set (by rw [S.N]; exact S.nd) hi hl he (by rw [swaps_lc, q]) (.inl (S.fnT y))
/-- all that may be assigned -/
theorem asg_rule (hi : IsxOk ct c A ev0 hx) {n : Nat} {e : Expr} {se : SE} (S : SitS X ct c A L W ev0 hx) (h : cE c ev0 n X.env.scope e = some se) (hO : ∀ i ∈ esc se, i ∉ O) : AsgR X e (tE X ct A W O hx se) ∧ (frE e = true → c.fn.lookup (sOf "list") = none → AsgR X e (tF X ct A W O hx se)) := by
  cases n with
  | zero => cases h
  | succ n =>
    have ih := snd hi n (L := L)
    have hE := sndE_step hi ih S.toSit h hO
    by_cases hlc : ∃ elt gs scope pos, e = .ListComp elt gs scope pos
    · obtain ⟨elt, gs, scope, pos, rfl⟩ := hlc
      unfold cE at h
      split at h <;> rename_i heq <;> first | (cases heq; done) | skip
      · rename_i elt2 tg iter ifs scope2 p2
        injection heq with q1 q2 q3 q4
        subst q1 q2 q3 q4
        split at h
        · rename_i t one it ts el e1 e2 e3 e4
          split at h
          · rename_i hc
            simp only [Bool.and_eq_true, beq_iff_eq] at hc
            obtain ⟨⟨c1, c2⟩, c3⟩ := hc
            subst c3
            cases h
            have hn : hx = none := by
              cases q : hx with
              | none => rfl
              | some z =>
                obtain ⟨y, _, _, h1, _⟩ := S.hot z.1 z.2 q
                cases h1
            subst hn
            obtain ⟨o1, o2⟩ := mem_l hO
            obtain ⟨o3, o4⟩ := mem_l o2
            obtain ⟨o5, o6⟩ := mem_l o4
            have R := fun {t' : TE} => lc_rules (pos := pos) S.toSit o1 c1 c2 e1 (ih.I X W tg iter it O S.toSit e2 o3) (fun X' S' _ es => ih.Ts X' _ ifs ts O S' (by rw [es]; exact e3) o5) (fun X' S' _ es => (ih.E X' _ elt el O S' (by rw [es]; exact e4) o6).1) (t' := t')
            refine ⟨?_, fun _ _ => ?_⟩
            · have := R (fun σ H Q h => snd_lc o1 σ H Q h)
              exact asg_lc S this.1 this.2
            · have := R (t' := tF X ct A W O none (.lc t one it ts el)) (fun σ H Q h => snd_lcG (kk := fun d Z' H' => ∀ a o, H' a = none → OwnO X.K ct Z' o d → Q (.ref a) (upd H' a o)) o1 σ H Q (fun r Z1 H1 Dd Z2 H2 acc f1 xd hD hd hden => by
                have z := f1 Z2 (cut H2 Dd) (xd.bare hD) Dd (.lst acc) (by unfold cut; rw [if_pos rfl]) (.inl ⟨acc, r, rfl, rfl, hden⟩)
                rw [cut_upd hd] at z
                exact z) h)
              exact asg_lc S this.1 this.2
          · cases h
        · cases h
      · cases h
    · have hl : noLc e = true := by
        cases e with
        | ListComp a b c d => exact absurd ⟨a, b, c, d, rfl⟩ hlc
        | SetComp a b c d => cases h
        | DictComp a b c d e => cases h
        | _ => rfl
      refine ⟨asg_plain S hl hE.1, fun hf hfn => asg_plain S hl ?_⟩
      cases e with
      | List es p =>
        have h : (match cEs c ev0 n X.env.scope es with | some xs => if xs.length ≤ 1000 then some (SE.lst xs) else none | none => none) = some se := h
        split at h
        · rename_i xs e1
          split at h
          · rename_i hl
            cases h
            exact fr_lst (ih.As X W es xs O S.toSit e1 hO).1 hl
          · cases h
        · cases h
      | ListComp a b c d => exact absurd ⟨a, b, c, d, rfl⟩ hlc
      | Call f args kw pos =>
        unfold frE at hf
        split at hf <;> first | (cases hf; done) | skip
        · rename_i heq; cases heq
        · rename_i heq; cases heq
        · rename_i g p a q heq
          injection heq with q1 q2 q3 q4
          subst q1 q2 q3 q4
          have hf := sOf_eq hf
          subst hf
          unfold cE at h
          dsimp only at h
          split at h
          · cases h
          rename_i hc
          have hc : plainName (Str.ofString "list") = true ∧ gloB X.env.scope (Str.ofString "list") = true := by simpa using hc
          rw [show c.fn.lookup (Str.ofString "list") = none from hfn] at h
          dsimp only at h
          split at h
          · cases h
          rename_i hfr
          have hfr : c.free.contains (Str.ofString "list") = true := by simpa using hfr
          rw [if_neg (by decide +kernel), if_neg (by rw [show (Str.ofString "list" == sOf "len") = false by decide +kernel]; simp), show biOf (Str.ofString "list") = some .list by decide +kernel] at h
          dsimp only at h
          split at h
          · rename_i hs
            have hs := Bool.and_eq_true_iff.mp hs
            cases e1 : cE c ev0 n X.env.scope a with
            | none => rw [e1] at h; cases h
            | some x =>
              rw [e1] at h
              cases h
              have : esc (.bi .list [x]) = escS x := by simp [esc, escSs, escS]
              exact fr_list S.toSit hc.2 hfr hs.1 (ih.S X W a x O S.toSit e1 (by rw [← this]; exact hO))
          · cases h
      | _ => cases hf
end
end Tk
/-! All statements. -/
namespace Tk
open PySem PySem.Spec PyProof.Rows L2
open D
section
variable {ct : CT} {c : CE} {A : Ar} {L : Nat} {ev0 : Option Str} {hx : Option (Nat × Addr)} {n : Nat} {X : Cx} {W : WX} {O O' : List Nat} {B : Option (List Nat)}
theorem rem_sub {O E : List Nat} : ∀ i ∈ rem O E, i ∈ O := fun i h => (mem_rem.mp h).1
theorem rem_out {O E : List Nat} : ∀ i ∈ E, i ∉ rem O E := fun i h q => (mem_rem.mp q).2 h
theorem st_ret {e : Expr} {y : SE} {pos : Pos} (he : PE X e (tE X ct A W (rem O (esc y)) hx y)) : PS X (.Return (some e) pos) (tSS X ct W hx B O O' (run1 A (.ret y))) := by
  refine (ps_ret he).imp fun D σ H ⟨hh, Z, ρ, rel, out⟩ => ?_
  obtain ⟨Z1, z1, rel1⟩ := rel.freeze (O2 := rem O (esc y)) rem_sub
  have fin := fin_withR rel1 hh (Out.grow (show Out X.K ct W hx B O' Z D (withR ρ (ev A y ρ) fun d => .rt d) from out) z1)
  exact ⟨hh, Z1, ρ, rel1, fin.mono fun d Z' H' _ e ⟨r, o⟩ v hv => o v H' Z' (.refl _) r.sub hv⟩
theorem st_retN {pos : Pos} : PS X (.Return none pos) (tSS X ct W hx B O O' (run1 A .retN)) :=
  ps_retN.imp fun D σ H ⟨hh, Z, ρ, rel, out⟩ => (show Out X.K ct W hx B O' Z D (.rt .non) from out) .non H Z (.refl _) rel.sub .non
theorem st_pass {pos : Pos} : PS X (.Pass pos) (tSS X ct W hx B O O (run1 A .pass)) :=
  ps_pass.imp fun D σ H ⟨hh, Z, ρ, rel, out⟩ => (show Out X.K ct W hx B O Z D (.nx ρ) from out) σ H Z (.refl _) hh rel
theorem st_brk {pos : Pos} {b : List Nat} (hb : subO b O = true) : PS X (.Break pos) (tSS X ct W hx (some b) O O' (run1 A .brk)) := by
  refine ps_break.imp fun D σ H ⟨hh, Z, ρ, rel, out⟩ => ?_
  obtain ⟨Z1, z1, rel1⟩ := rel.freeze (O2 := b) (subO_iff.mp hb)
  exact (show Out X.K ct W hx (some b) O' Z D (.bk ρ) from out) σ H Z1 z1 hh rel1
theorem st_ex {e : Expr} {y : SE} {pos : Pos} (hn : noLc e = true) (he : PE X e (tE X ct A W (rem O (esc y)) hx y)) : PS X (.Expr e pos) (tSS X ct W hx B O (rem O (esc y)) (run1 A (.ex y))) := by
  refine (ps_expr he (swaps_no hn)).imp fun D σ H ⟨hh, Z, ρ, rel, out⟩ => ?_
  obtain ⟨Z1, z1, rel1⟩ := rel.freeze (O2 := rem O (esc y)) rem_sub
  have fin := fin_withR rel1 hh (Out.grow (show Out X.K ct W hx B (rem O (esc y)) Z D (withR ρ (ev A y ρ) fun _ => .nx ρ) from out) z1)
  exact ⟨hh, Z1, ρ, rel1, fin.mono fun d Z' H' _ e ⟨r, o⟩ v hv => o σ H' Z' (.refl _) hh r⟩
theorem HotOk.set {σ : L2.St} {i : Nat} {v : Option V} (h : HotOk hx σ) (hi : ∀ j a, hx = some (j, a) → j ≠ i) : HotOk hx (σ.set i v) := by
  cases q : hx with
  | none => trivial
  | some z =>
    obtain ⟨j, a⟩ := z
    rw [q] at h
    show (σ.set i v)[j]? = _
    rw [List.getElem?_set_ne (Ne.symm (hi j a q))]
    exact h
theorem st_asg {e : Expr} {x : Str} {i : Nat} {y : SE} {px pos : Pos} (hi : X.N[i]? = some x) (hl : L2.Loc X.env.scope x) (hh0 : ∀ j a, hx = some (j, a) → j ≠ i) (he : AsgR X e (tE X ct A W (rem O (esc y)) hx y)) : PS X (.Assign [.Name x px] e pos) (tSS X ct W hx B O (rem (rem O (esc y)) [i]) (run1 A (.asg i y))) := by
  refine (he i x px pos hi hl).imp fun D σ H ⟨hh, Z, ρ, rel, out⟩ => ?_
  obtain ⟨Z1, z1, rel1⟩ := rel.freeze (O2 := rem O (esc y)) rem_sub
  have fin := fin_withR rel1 hh (Out.grow (show Out X.K ct W hx B (rem (rem O (esc y)) [i]) Z D (withR ρ (ev A y ρ) fun d => .nx (ρ.set i (some d))) from out) z1)
  refine ⟨hh, Z1, ρ, rel1, fin.mono fun d Z' H' _ e ⟨r, o⟩ v hv => ?_⟩
  obtain ⟨Z2, z2, r2⟩ := r.freeze (O2 := rem (rem O (esc y)) [i]) rem_sub
  exact o _ H' Z2 z2 (hh.set hh0) (r2.set1 (rem_out i (by simp)) (Den.mono z2 _ _ hv))
theorem st_asgF {e : Expr} {x : Str} {i : Nat} {y : SE} {px pos : Pos} (hi : X.N[i]? = some x) (hl : L2.Loc X.env.scope x) (hh0 : ∀ j a, hx = some (j, a) → j ≠ i) (he : AsgR X e (tF X ct A W (rem O (esc y)) hx y)) : PS X (.Assign [.Name x px] e pos) (tSS X ct W hx B O (i :: rem (rem O (esc y)) [i]) (run1 A (.asgF i y))) := by
  refine (he i x px pos hi hl).imp fun D σ H ⟨hh, Z, ρ, rel, out⟩ => ?_
  obtain ⟨Z1, z1, rel1⟩ := rel.freeze (O2 := rem O (esc y)) rem_sub
  have fin := fin_withR rel1 hh (Out.grow (show Out X.K ct W hx B (i :: rem (rem O (esc y)) [i]) Z D (withR ρ (ev A y ρ) fun d => .nx (ρ.set i (some d))) from out) z1)
  refine ⟨hh, Z1, ρ, rel1, fin.mono fun d Z' H' _ e ⟨r, o⟩ a ob ha ho => ?_⟩
  obtain ⟨Z2, z2, r2⟩ := r.freeze (O2 := rem (rem O (esc y)) [i]) rem_sub
  refine o _ _ Z2 z2 (hh.set hh0) (r2.setOwn (rem_out i (by simp)) ha ?_)
  rcases ho with ⟨vs, ds, h1, h2, g⟩ | ⟨kvs, ps, h1, h2, g⟩
  · exact .inl ⟨vs, ds, h1, h2, DenAll.mono z2 _ _ g⟩
  · exact .inr ⟨kvs, ps, h1, h2, DenK.mono z2 _ _ g⟩
theorem st_asgT {e tg : Expr} {t : List Nat} {y : SE} {pos : Pos} (hN : hx = none) (hg : PG X tg (gT X.K t false)) (he : PE X e (tE X ct A W (rem O (esc y)) hx y)) (hs : swapsWithSole [tg] e pos.line X.env = pure false) (hw : swappedStores [tg] e X.env = pure none) (h1 : (assignEach [tg] X.env).map (·.2) = [assign tg X.env]) : PS X (.Assign [tg] e pos) (tSS X ct W hx B O (rem (rem O (esc y)) t) (run1 A (.asgT t y))) := by
  refine (ps_asg he hg hs hw h1).imp fun D σ H ⟨hh, Z, ρ, rel, out⟩ => ?_
  subst hN
  obtain ⟨Z1, z1, rel1⟩ := rel.freeze (O2 := rem O (esc y)) rem_sub
  have fin := fin_withR rel1 hh (Out.grow (show Out X.K ct W none B (rem (rem O (esc y)) t) Z D (withR ρ (ev A y ρ) fun d => match bindT t false d ρ with | some ρ' => .nx ρ' | none => .bad) from out) z1)
  refine ⟨hh, Z1, ρ, rel1, fin.mono fun d Z' H' _ e ⟨r, o⟩ v hv => ?_⟩
  cases hb : bindT t false d ρ with
  | none => rw [hb] at o; exact (show False from o).elim
  | some ρ2 =>
    rw [hb] at o
    obtain ⟨Z2, z2, r2⟩ := r.freeze (O2 := rem (rem O (esc y)) t) rem_sub
    refine bind_ok r2.len r2.sub (Den.mono z2 _ _ hv) hb fun σ2 bd => ?_
    exact o σ2 H' Z2 z2 trivial (bd.rel r2 rfl (fun _ _ => rfl) rem_out)
theorem st_if {t : Expr} {a b : List Stmt} {x : SE} {ya yb : List SS} {pos : Pos} {Oa Ob : List Nat} (ht : PT X t (tT X ct A W (rem O (esc x)) hx x)) (ha : PSs X a (tSS X ct W hx B (rem O (esc x)) Oa (run A ya))) (hb : PSs X b (tSS X ct W hx B (rem O (esc x)) Ob (run A yb))) : PS X (.If t a b pos) (tSS X ct W hx B O (joinO Oa Ob) (run1 A (.ifs x ya yb))) := by
  refine (ps_if ht ha hb).imp fun D σ H ⟨hh, Z, ρ, rel, out⟩ => ?_
  obtain ⟨Z1, z1, rel1⟩ := rel.freeze (O2 := rem O (esc x)) rem_sub
  have e : run1 A (.ifs x ya yb) ρ = withR ρ ((ev A x ρ).bind asBl) fun k => if k then run A ya ρ else run A yb ρ := by
    show withR ρ (ev A x ρ) (fun x => withR ρ (asBl x) fun k => if k then run A ya ρ else run A yb ρ) = _
    cases ev A x ρ with
    | ok d => cases d <;> rfl
    | _ => rfl
  rw [e] at out
  have fin := fin_withR rel1 hh (Out.grow out z1)
  refine ⟨hh, Z1, ρ, rel1, fin.mono fun k Z' H' _ e ⟨r, o⟩ => ?_⟩
  cases k with
  | true =>
    simp only [↓reduceIte] at o ⊢
    exact ⟨hh, Z', ρ, r, Out.sub o fun i hi => (mem_joinO.mp hi).1⟩
  | false =>
    simp only [Bool.false_eq_true, ↓reduceIte] at o ⊢
    exact ⟨hh, Z', ρ, r, Out.sub o fun i hi => (mem_joinO.mp hi).2⟩
theorem st_for {tg iter : Expr} {body : List Stmt} {t : List Nat} {one : Bool} {it : SI} {ys : List SS} {pos : Pos} {O2 : List Nat} (S : SitS X ct c A L W ev0 hx) (hc : X.calm = true) (hN : hx = none) (hs : noSet iter = true) (hsub : ∀ i ∈ O', i ∈ O) (hO : ∀ i ∈ t, i ∉ O') (h2 : ∀ i ∈ O', i ∈ O2) (hg : PG X tg (gT X.K t one)) (hi : PI X tg iter (tI X ct A W O' hx it)) (hb : PSs X body (tSS X ct W hx (some O') O' O2 (run A ys))) : PS X (.For tg iter body [] pos) (tSS X ct W hx B O O' (run1 A (.forr t one it ys))) := by
  refine (ps_for S.po hc hi hg hb (noSet_fold hs)).imp fun D σ H ⟨hh, Z, ρ, rel, out⟩ => ?_
  subst hN
  obtain ⟨Z1, z1, rel1⟩ := rel.freeze (O2 := O') hsub
  have fin := fin_withR rel1 hh (Out.grow (show Out X.K ct W none B O' Z D (withR ρ (evi A it ρ) fun ds => forL (fun d ρ => match bindT t one d ρ with | some ρ' => run A ys ρ' | none => .bad) ds ρ) from out) z1)
  refine ⟨hh, Z1, ρ, rel1, fin.mono fun ds Z2 H2 _ e2 ⟨r2, o2⟩ J hJ => ?_⟩
  obtain ⟨G, Y, wk, hG, hY⟩ := hJ
  refine for_it wk (fun i σ H => ∃ Z3 ρ, Same Z2 Z3 ∧ RelE X.K ct Z3 H O' σ ρ ∧ Out X.K ct W none B O' Z3 D (forL (fun d ρ => match bindT t one d ρ with | some ρ' => run A ys ρ' | none => .bad) (ds.drop i) ρ)) ⟨Z2, ρ, .refl _, r2, by simpa using o2⟩ ?_ ?_ ?_
  · rintro i σ3 H3 _ ⟨Z3, ρ3, z3, r3, _⟩
    exact hG H3 (z3.trans r3.sub)
  · rintro i x σ3 H3 H4 hi ⟨Z3, ρ3, z3, r3, o3⟩ y
    have hi' : ds[i]? = some ds[i] := List.getElem?_eq_getElem hi
    obtain ⟨Z4, e4, hx4⟩ := hY i H3 x H4 Z3 ds[i] z3 r3.sub y hi'
    rw [List.drop_eq_getElem_cons hi] at o3
    have r4 := r3.ext e4
    cases hb : bindT t one ds[i] ρ3 with
    | none =>
      have o3 : Out X.K ct W none B O' Z3 D (match (match bindT t one ds[i] ρ3 with | some ρ' => run A ys ρ' | none => Fl.bad) with
        | .nx ρ' => forL (fun d ρ => match bindT t one d ρ with | some ρ' => run A ys ρ' | none => .bad) (ds.drop (i + 1)) ρ'
        | .bk ρ' => .nx ρ' | .rt d => .rt d | .exc c ρ' => .exc c ρ' | .bad => .bad) := o3
      rw [hb] at o3; exact (show False from o3).elim
    | some ρ5 =>
      have o3 : Out X.K ct W none B O' Z3 D (match (match bindT t one ds[i] ρ3 with | some ρ' => run A ys ρ' | none => Fl.bad) with
        | .nx ρ' => forL (fun d ρ => match bindT t one d ρ with | some ρ' => run A ys ρ' | none => .bad) (ds.drop (i + 1)) ρ'
        | .bk ρ' => .nx ρ' | .rt d => .rt d | .exc c ρ' => .exc c ρ' | .bad => .bad) := o3
      rw [hb] at o3
      have o3 := Out.grow o3 e4.zz
      refine bind_ok r4.len r4.sub hx4 hb fun σ5 bd => ?_
      have r5 := bd.rel r4 rfl (fun _ _ => rfl) hO
      refine ⟨trivial, Z4, ρ5, r5, ?_⟩
      cases q : run A ys ρ5 with
      | nx ρ6 =>
        simp only [q] at o3
        intro σ6 H6 Z6 z6 _ r6
        obtain ⟨Z7, z7, r7⟩ := r6.freeze (O2 := O') h2
        exact ⟨Z7, ρ6, ((z3.trans e4.zz).trans z6).trans z7, r7, Out.grow o3 (z6.trans z7)⟩
      | bk ρ6 => simp only [q] at o3; exact o3
      | rt d => simp only [q] at o3; exact o3
      | exc k ρ6 => simp only [q] at o3; exact o3
      | bad => simp only [q] at o3; exact o3
  · rintro σ3 H3 ⟨Z3, ρ3, z3, r3, o3⟩
    rw [List.drop_length] at o3
    exact o3 σ3 H3 Z3 (.refl _) trivial r3
theorem whl_eq {cnd : En → Res Bool} {f : En → Fl} {m : Nat} {ρ : En} : whlL cnd f (m + 1) ρ = withR ρ (cnd ρ) fun k => if k then (match f ρ with | .nx ρ' => whlL cnd f m ρ' | .bk ρ' => .nx ρ' | .rt d => .rt d | .exc c ρ' => .exc c ρ' | .bad => .bad) else .nx ρ := by
  show (match cnd ρ with | .ok true => _ | .ok false => _ | .exc e => _ | .bad => _) = _
  cases cnd ρ with
  | ok k => cases k <;> rfl
  | _ => rfl
theorem st_whl {t : Expr} {body : List Stmt} {x : SE} {ys : List SS} {pos : Pos} {O2 : List Nat} (S : SitS X ct c A L W ev0 hx) (hN : hx = none) (hsub : ∀ i ∈ O', i ∈ O) (h2 : ∀ i ∈ O', i ∈ O2) (ht : PT X t (tT X ct A W O' hx x)) (hb : PSs X body (tSS X ct W hx (some O') O' O2 (run A ys))) : PS X (.While t body [] pos) (tSS X ct W hx B O O' (run1 A (.whl x ys))) := by
  refine (ps_while S.po ht hb).imp fun D σ H ⟨hh, Z, ρ, rel, out⟩ => ?_
  subst hN
  obtain ⟨Z1, z1, rel1⟩ := rel.freeze (O2 := O') hsub
  have out : Out X.K ct W none B O' Z D (whlL (fun ρ => (ev A x ρ).bind asBl) (fun ρ => run A ys ρ) A.F ρ) := out
  refine ⟨fun m σ H => ∃ Z3 ρ, RelE X.K ct Z3 H O' σ ρ ∧ Out X.K ct W none B O' Z3 D (whlL (fun ρ => (ev A x ρ).bind asBl) (fun ρ => run A ys ρ) m ρ), ⟨A.F, Z1, ρ, rel1, Out.grow out z1⟩, ?_⟩
  rintro m σ3 H3 ⟨Z3, ρ3, r3, o3⟩
  cases m with
  | zero => exact (show False from o3).elim
  | succ m =>
    rw [whl_eq] at o3
    have fin := fin_withR r3 (show HotOk none σ3 from trivial) o3
    refine ⟨trivial, Z3, ρ3, r3, fin.mono fun k Z4 H4 _ e4 ⟨r4, o4⟩ => ?_⟩
    cases k with
    | false =>
      simp only [Bool.false_eq_true, ↓reduceIte] at o4 ⊢
      exact o4 σ3 H4 Z4 (.refl _) trivial r4
    | true =>
      simp only [↓reduceIte] at o4 ⊢
      refine ⟨fun σ H => ∃ Z3 ρ, RelE X.K ct Z3 H O' σ ρ ∧ Out X.K ct W none B O' Z3 D (whlL (fun ρ => (ev A x ρ).bind asBl) (fun ρ => run A ys ρ) m ρ), fun σ' H' h => ⟨m, Nat.lt_succ_self _, h⟩, trivial, Z4, ρ3, r4, ?_⟩
      cases q : run A ys ρ3 with
      | nx ρ6 =>
        simp only [q] at o4
        intro σ6 H6 Z6 z6 _ r6
        obtain ⟨Z7, z7, r7⟩ := r6.freeze (O2 := O') h2
        exact ⟨Z7, ρ6, r7, Out.grow o4 (z6.trans z7)⟩
      | bk ρ6 => simp only [q] at o4; exact o4
      | rt d => simp only [q] at o4; exact o4
      | exc k ρ6 => simp only [q] at o4; exact o4
      | bad => simp only [q] at o4; exact o4
theorem st_app {a : Expr} {x : Str} {i : Nat} {y : SE} {px ap cp pos : Pos} (S : SitS X ct c A L W ev0 hx) (hp : plainName x = true) (hl : locB X.env.scope x = true) (hsl : slotOf c.N x = some i) (hline : (ap.endLine == cp.line) = true) (hs : noStar a = true) (hi : i ∈ rem O (esc y)) (ha : PE X a (tE X ct A W (rem O (esc y)) hx y)) : PS X (.Expr (.Call (.Attribute (.Name x px) (sOf "append") ap) [a] [] cp) pos) (tSS X ct W hx B O (rem O (esc y)) (run1 A (.app i y))) := by
  obtain ⟨p1, p2, _⟩ := plain_debug hp
  have hN : X.N[i]? = some x := by rw [S.N]; exact slotOf_get hsl
  have hv : Vis X.env.scope x := by
    rcases locB_loc hl with e | e
    · exact .inl e
    · exact .inr (.inl e)
  refine (ps_expr (pe_bm PySem.F.plainAttrs_list PySem.F.slot_list_append PySem.F.type_list_append mt_append (pe_var (i := i) hN hv p1 p2) (pa_cons ha pa_nil (noStar_each hs)) rfl (few1 hs) hline (noStar_each hs) rfl) rfl).imp fun D σ H ⟨hh, Z, ρ, rel, out⟩ => ?_
  obtain ⟨Z1, z1, rel1⟩ := rel.freeze (O2 := rem O (esc y)) rem_sub
  have out : Out X.K ct W hx B (rem O (esc y)) Z D (match ρ[i]? with
    | some (some (.lst xs)) => withR ρ (ev A y ρ) fun d => if decide (xs.length < big) then .nx (ρ.set i (some (.lst (xs ++ [d])))) else .bad
    | _ => .bad) := out
  split at out
  · rename_i xs hd
    obtain ⟨ad, h1, h2, h3⟩ := rel1.ow i _ hi hd
    refine ⟨.ref ad, h1, ?_, ?_⟩
    · rcases h3 with ⟨vs, ds, _, g1, _⟩ | ⟨kvs, ps, e, _⟩
      · exact .inl ⟨rfl, vs, .inl (.inl g1)⟩
      · cases e
    · have fin := fin_withR rel1 hh (Out.grow out z1)
      refine ⟨hh, Z1, ρ, rel1, fin.mono fun d Z' H' _ e ⟨r, o⟩ v hv => ?_⟩
      obtain ⟨ad2, g1, g2, g3⟩ := r.ow i _ hi hd
      rw [h1] at g1
      cases g1
      by_cases hb : decide (xs.length < big) = true
      · rw [if_pos hb] at o
        rcases g3 with ⟨vs, ds, e2, q1, q2⟩ | ⟨kvs, ps, e2, _⟩
        · cases e2
          have hb' := of_decide_eq_true hb
          refine ⟨ad, vs, v, rfl, rfl, q1, by rw [sizeLine_eq, q2.length]; unfold big at hb'; omega, ?_⟩
          exact o σ _ Z' (.refl _) hh (r.write hi hd h1 (.inl ⟨vs ++ [v], xs ++ [d], rfl, rfl, q2.append (.cons hv .nil)⟩))
        · cases e2
      · rw [if_neg hb] at o; exact (show False from o).elim
  · exact (show False from out).elim
end
end Tk
/-! raise, try .. except. -/
namespace Tk
open PySem PySem.Spec PyProof.Rows L2
open D
section
variable {ct : CT} {c : CE} {A : Ar} {L : Nat} {ev0 : Option Str} {hx : Option (Nat × Addr)} {n : Nat} {X : Cx} {W : WX} {O O' O1 O2 : List Nat} {B : Option (List Nat)}
/-- raise C('..') -/
theorem st_raise (S : SitS X ct c A L W ev0 hx) (h0 : ev0 = none) {x m : Str} {k j : Nat} {cs : List Nat} {p p2 pos pos' : Pos} (hp : plainName x = true) (hg : gloB X.env.scope x = true) (he : c.ecl.lookup x = some (k, cs)) :
    PS X (.Raise (some (.Call (.Name x p) [.Constant (.str m) j p2] [] pos)) none pos') (tSS X ct W hx B O O (run1 A (.rse k))) := by
  obtain ⟨C, h1, h2, h3, h4, h5, h6, _⟩ := S.exc.nm x k cs he
  obtain ⟨p1, _, _⟩ := plain_debug hp
  refine (ps_raise (S.calm h0) S.tk (pmk_own PySem.F.excBase_ValueError h3 h1 h4 (raises_own h5 h6) (gloB_gl hg) p1)).imp fun D σ H ⟨hh, Z, ρ, rel, out⟩ => ?_
  have out : Out X.K ct W hx B O Z D (.exc k ρ) := out
  obtain ⟨Z2, z2, r2⟩ := rel.freeze (O2 := []) (fun i hi => by cases hi)
  exact out C σ H Z2 h2 z2 hh r2
theorem RelE.drop {K : PySem.W.Frag} {Z H : Hp} {σ : L2.St} {ρ : En} (r : RelE K ct Z H O σ ρ) (i : Nat) (x : Option V) : RelE K ct Z H O (σ.set i x) (ρ.set i none) := by
  have key : ∀ j d, (ρ.set i none)[j]? = some (some d) → j ≠ i ∧ ρ[j]? = some (some d) := by
    intro j d h
    by_cases e : j = i
    · subst e
      exfalso
      by_cases hl : j < ρ.length
      · rw [List.getElem?_set_self hl] at h; cases h
      · rw [List.getElem?_eq_none (by rw [List.length_set]; omega)] at h; cases h
    · rw [List.getElem?_set_ne (fun z => e z.symm)] at h
      exact ⟨e, h⟩
  refine ⟨r.sub, r.dif, by rw [List.length_set, List.length_set]; exact r.len, fun j d hj h => ?_, fun j d hj h => ?_, fun j k d e a hj hk ne h1 h2 h3 => ?_⟩
  · obtain ⟨e, h⟩ := key j d h
    obtain ⟨v, g1, g2⟩ := r.fr j d hj h
    exact ⟨v, by rw [List.getElem?_set_ne (fun z => e z.symm)]; exact g1, g2⟩
  · obtain ⟨e, h⟩ := key j d h
    obtain ⟨a, g1, g2⟩ := r.ow j d hj h
    exact ⟨a, by rw [List.getElem?_set_ne (fun z => e z.symm)]; exact g1, g2⟩
  · obtain ⟨e1, h1⟩ := key j d h1
    obtain ⟨e2, h2⟩ := key k e h2
    rw [List.getElem?_set_ne (fun z => e1 z.symm)] at h3
    rw [List.getElem?_set_ne (fun z => e2 z.symm)]
    exact r.inj j k d e a hj hk ne h1 h2 h3
theorem names_of (S : SitS X ct c A L W ev0 hx) {x : Str} {C : Addr} (hp : plainName x = true) (hg : gloB X.env.scope x = true) (hm : X.mg x = some (.ref C)) : Names X x (.ref C) := by
  obtain ⟨p1, _, _⟩ := plain_debug hp
  exact ⟨gloB_gl hg, p1, .inl hm⟩
theorem SitS.tr (S : SitS X ct c A L W none none) {W' : WX} {pn : List (Addr × Obj)} {xe : Value → Shared → Prop} (t : Takes (X.tr pn xe) W') (p : PassesOwn (model X.prog X.w) X.A X.env xe) : SitS (X.tr pn xe) ct c A L W' none none :=
  { N := S.N, nd := S.nd, calm := S.calm, tk := t, un := S.un, room := S.room, fns := S.fns, kd := S.kd, gc := S.gc, free := S.free, hot := (fun i a h => nomatch h), exc := S.exc, fnT := S.fnT, po := p, stk := S.stk, frm := S.frm }
theorem SitS.suite (S : SitS X ct c A L W none none) {k : Nat} {y : Str} {hx : Option (Nat × Addr)} {a : Addr} {pn : List (Addr × Obj)} (hot : ∀ i b, hx = some (i, b) → ∃ z oe C, some y = some z ∧ c.N[i]? = some z ∧ (b, oe) ∈ pn ∧ Zc (.ref C) none oe ∧ (∃ vs, oe.data = .fields vs) ∧ ∃ k', some k = some k' ∧ ct.ex k' = some C) :
    SitS (X.suite a pn) ct c { A with hot := some k } L (fun _ _ _ _ => False) (some y) hx :=
  { N := S.N, nd := S.nd, calm := (fun h => nomatch h), tk := (fun u s' ⟨_, _, _, _, _, _, _, _, _, _, _, _, _, _, _, _, w⟩ => w), un := S.un, room := (fun h => nomatch h), fns := S.fns, kd := S.kd, gc := S.gc, free := S.free, hot := hot, exc := S.exc, fnT := S.fnT, po := PassesOwn.never, stk := S.stk, frm := S.frm }
/-- try .. except C as y -/
theorem st_try_as (S : SitS X ct c A L W none none) {x y : Str} {i k0 : Nat} {cs : List Nat} {body suite : List Stmt} {b0 : Stmt} {b s : List SS} {np pos pos' : Pos} (hp : plainName x = true) (hg : gloB X.env.scope x = true) (he : c.ecl.lookup x = some (k0, cs)) (hy : loc1B X.env.scope y = true) (hs : slotOf c.N y = some i)
    (hb : ∀ X' W', SitS X' ct c A L W' none none → X'.env.scope = X.env.scope → X'.K = X.K → PSs X' body (tSS X ct W' none none O O1 (run A b)))
    (hsu : ∀ X' a k, SitS X' ct c { A with hot := some k } L (fun _ _ _ _ => False) (some y) (some (i, a)) → X'.env.scope = X.env.scope → X'.K = X.K → PSs X' (b0 :: suite) (tSS X ct (fun _ _ _ _ => False) (some (i, a)) none [] O2 (run { A with hot := some k } s))) :
    PS X (.Try body [.ExceptHandler (some (.Name x np)) (some y) (b0 :: suite) pos'] [] [] pos) (tSS X ct W none B O (joinO O1 O2) (run1 A (.tryS b cs (some i) s))) := by
  obtain ⟨C0, h1, h2, h3, h4, h5, h6, h7⟩ := S.exc.nm x k0 cs he
  have hN : X.N[i]? = some y := by rw [S.N]; exact slotOf_get hs
  have hln : X.env.kindOf y = some .local := by
    unfold loc1B at hy
    split at hy
    · rename_i e; exact e
    · cases hy
  refine (ps_try_as (c := .ref C0) (tb := fun W' => tSS X ct W' none none O O1 (run A b)) (ts := fun a cls d D σ H => ∃ k C, cls = .ref C ∧ d = none ∧ ct.ex k = some C ∧ tSS X ct (fun _ _ _ _ => False) (some (i, a)) none [] O2 (run { A with hot := some k } s) D σ H) S.stk S.frm (by rw [S.N]; exact S.nd) hN hln (names_of S hp hg h1) S.tk (fun W' pn xe t p => hb (X.tr pn xe) W' (S.tr t p) rfl rfl) (fun a oe cls d pn hz hf => ?_)).imp fun D σ H ⟨hh, Z, ρ, rel, out⟩ => ?_
  · refine ⟨fun pins s σ H D I ⟨k, C, e1, e2, e3, t⟩ => ?_⟩
    subst e1 e2
    refine (hsu (X.suite a ((a, oe) :: pn)) a k (S.suite fun i' b' e => ?_) rfl rfl).run pins s σ H D I t
    cases e
    exact ⟨y, oe, C, rfl, slotOf_get hs, List.mem_cons_self, hz, hf, k, rfl, e3⟩
  · refine ⟨trivial, Z, ρ, rel, ?_⟩
    have out : Out X.K ct W none B (joinO O1 O2) Z D (match run A b ρ with
      | .nx ρ' => .nx ρ'
      | .rt d => .rt d
      | .exc c ρ' => if cs.contains c && decide (i < ρ'.length) then endS (some i) (run { A with hot := some c } s (ρ'.set i none)) else .bad
      | _ => .bad) := out
    cases q : run A b ρ with
    | nx ρ1 => rw [q] at out; exact Out.sub (f := .nx ρ1) out fun i hi => (mem_joinO.mp hi).1
    | rt d => rw [q] at out; exact out
    | bk ρ1 => rw [q] at out; exact (show False from out).elim
    | bad => rw [q] at out; exact out
    | exc k ρ1 =>
      rw [q] at out
      intro C σ1 H1 Z1 hC z1 _ r1
      have out : Out X.K ct W none B (joinO O1 O2) Z D (if cs.contains k && decide (i < ρ1.length) then endS (some i) (run { A with hot := some k } s (ρ1.set i none)) else .bad) := out
      by_cases hc : (cs.contains k && decide (i < ρ1.length)) = true
      · rw [if_pos hc] at out
        obtain ⟨c1, c2⟩ := Bool.and_eq_true_iff.mp hc
        have c2 := of_decide_eq_true c2
        have hm := (h7 k C hC).1
        rw [c1] at hm
        refine ⟨true, hm, fun _ a ha => ⟨k, C, rfl, rfl, hC, ?_, Z1, ρ1.set i none, r1.drop i _, ?_⟩, fun z => nomatch z⟩
        · show (σ1.set i (some (.ref a)))[i]? = some (some (.ref a))
          rw [List.getElem?_set_self (by rw [r1.len]; exact c2)]
        · cases q2 : run { A with hot := some k } s (ρ1.set i none) with
          | nx ρ2 =>
            rw [q2] at out
            intro σ2 H2 Z2 z2 _ r2
            obtain ⟨Z3, z3, r3⟩ := r2.freeze (O2 := joinO O1 O2) fun i hi => (mem_joinO.mp hi).2
            exact (show Out X.K ct W none B (joinO O1 O2) Z D (.nx (ρ2.set i none)) from out) _ _ Z3 ((z1.trans z2).trans z3) trivial (r3.drop i none)
          | rt d =>
            rw [q2] at out
            exact fun v H2 Z2 z2 => (show Out X.K ct W none B (joinO O1 O2) Z D (.rt d) from out) v H2 Z2 (z1.trans z2)
          | bk ρ2 => rw [q2] at out; exact (show False from out).elim
          | exc k2 ρ2 => rw [q2] at out; exact (show False from out).elim
          | bad => rw [q2] at out; exact (show False from out).elim
      · rw [if_neg hc] at out
        exact (show False from out).elim
/-- try .. except C -/
theorem st_try (S : SitS X ct c A L W none none) {x y : Str} {k0 : Nat} {cs : List Nat} {body suite : List Stmt} {b0 : Stmt} {b s : List SS} {np pos pos' : Pos} (hp : plainName x = true) (hg : gloB X.env.scope x = true) (he : c.ecl.lookup x = some (k0, cs))
    (hb : ∀ X' W', SitS X' ct c A L W' none none → X'.env.scope = X.env.scope → X'.K = X.K → PSs X' body (tSS X ct W' none none O O1 (run A b)))
    (hsu : ∀ X' k, SitS X' ct c { A with hot := some k } L (fun _ _ _ _ => False) (some y) none → X'.env.scope = X.env.scope → X'.K = X.K → PSs X' (b0 :: suite) (tSS X ct (fun _ _ _ _ => False) none none [] O2 (run { A with hot := some k } s))) :
    PS X (.Try body [.ExceptHandler (some (.Name x np)) none (b0 :: suite) pos'] [] [] pos) (tSS X ct W none B O (joinO O1 O2) (run1 A (.tryS b cs none s))) := by
  obtain ⟨C0, h1, h2, h3, h4, h5, h6, h7⟩ := S.exc.nm x k0 cs he
  refine (ps_try_only (c := .ref C0) (tb := fun W' => tSS X ct W' none none O O1 (run A b)) (ts := fun a cls d D σ H => ∃ k C, cls = .ref C ∧ d = none ∧ ct.ex k = some C ∧ tSS X ct (fun _ _ _ _ => False) none none [] O2 (run { A with hot := some k } s) D σ H) S.stk S.frm (names_of S hp hg h1) S.tk (fun W' pn xe t p => hb (X.tr pn xe) W' (S.tr t p) rfl rfl) (fun a oe cls d pn hz hf => ?_)).imp fun D σ H ⟨hh, Z, ρ, rel, out⟩ => ?_
  · refine ⟨fun pins s σ H D I ⟨k, C, e1, e2, e3, t⟩ => ?_⟩
    subst e1 e2
    exact (hsu (X.suite a ((a, oe) :: pn)) k (S.suite fun i' b' e => nomatch e) rfl rfl).run pins s σ H D I t
  · refine ⟨trivial, Z, ρ, rel, ?_⟩
    have out : Out X.K ct W none B (joinO O1 O2) Z D (match run A b ρ with
      | .nx ρ' => .nx ρ'
      | .rt d => .rt d
      | .exc c ρ' => if cs.contains c && decide (0 < ρ'.length) then endS none (run { A with hot := some c } s ρ') else .bad
      | _ => .bad) := out
    cases q : run A b ρ with
    | nx ρ1 => rw [q] at out; exact Out.sub (f := .nx ρ1) out fun i hi => (mem_joinO.mp hi).1
    | rt d => rw [q] at out; exact out
    | bk ρ1 => rw [q] at out; exact (show False from out).elim
    | bad => rw [q] at out; exact out
    | exc k ρ1 =>
      rw [q] at out
      intro C σ1 H1 Z1 hC z1 _ r1
      have out : Out X.K ct W none B (joinO O1 O2) Z D (if cs.contains k && decide (0 < ρ1.length) then endS none (run { A with hot := some k } s ρ1) else .bad) := out
      by_cases hc : (cs.contains k && decide (0 < ρ1.length)) = true
      · rw [if_pos hc] at out
        obtain ⟨c1, c2⟩ := Bool.and_eq_true_iff.mp hc
        have hm := (h7 k C hC).1
        rw [c1] at hm
        refine ⟨true, hm, fun _ a ha => ⟨k, C, rfl, rfl, hC, trivial, Z1, ρ1, r1, ?_⟩, fun z => nomatch z⟩
        cases q2 : run { A with hot := some k } s ρ1 with
        | nx ρ2 =>
          rw [q2] at out
          intro σ2 H2 Z2 z2 _ r2
          obtain ⟨Z3, z3, r3⟩ := r2.freeze (O2 := joinO O1 O2) fun i hi => (mem_joinO.mp hi).2
          exact (show Out X.K ct W none B (joinO O1 O2) Z D (.nx ρ2) from out) _ _ Z3 ((z1.trans z2).trans z3) trivial r3
        | rt d =>
          rw [q2] at out
          exact fun v H2 Z2 z2 => (show Out X.K ct W none B (joinO O1 O2) Z D (.rt d) from out) v H2 Z2 (z1.trans z2)
        | bk ρ2 => rw [q2] at out; exact (show False from out).elim
        | exc k2 ρ2 => rw [q2] at out; exact (show False from out).elim
        | bad => rw [q2] at out; exact (show False from out).elim
      · rw [if_neg hc] at out
        exact (show False from out).elim
/-! ### isinstance(e, C) -/
theorem call_isE2 {a D : Addr} {oe : Obj} (hp : (a, oe) ∈ X.pn) (C : ExcC X.K D) (hz : Zc (.ref D) none oe) (hf : ∃ vs, oe.data = .fields vs) : CallR X (.builtin "isinstance") (rIsE X.K D a) := by
  intro pins s σ H xs us Q I r h
  obtain ⟨c, cv, b, rfl, hcv, e, q⟩ := h
  cases r with
  | cons rx rr =>
    cases rr with
    | cons rt rr =>
      cases rr
      cases rx
      have ec := hcv _ rt
      subst ec
      obtain ⟨hget, _⟩ := I.pin (a, oe) (List.mem_append.mpr (.inl hp))
      obtain ⟨vs, hv⟩ := hf
      have J : PySem.W.InstAt s.heap a oe D none := by
        obtain ⟨oc, od, oda, osl⟩ := oe
        obtain ⟨h1, h2⟩ := hz
        dsimp only at h1 h2 hv
        subst h1 h2 hv
        exact ⟨hget, rfl, rfl, trivial⟩
      exact PySem.W.kia_one (PySem.W.handS_kitx_exc C.hg C.hk C.hs C.hd C.ha C.hn C.ht C.hm) I.kIn J e (fun z => nomatch z) fun tk => ⟨.bl b, H, I.kept (t' := tk) fun _ _ z => z, rfl, q⟩
theorem isx_hot {i : Nat} {a : Addr} : IsxOk ct c A ev0 (some (i, a)) := by
  intro X W L O v t p q q2 pos cs S hv hvis hp hgi hfi hgt hpt hex
  obtain ⟨y, oe, C, e1, e2, hm, hz, hf, k, hk, hC⟩ := S.hot i a rfl
  rw [hv] at e1
  cases e1
  obtain ⟨x1, x2, x3⟩ := S.exc.all k C hC
  obtain ⟨p1, p2, p3⟩ := plain_debug hp
  obtain ⟨t1, t2, t3⟩ := plain_debug hpt
  have hV : PE X (.Name v q) (tVar i) := pe_var (by rw [S.N]; exact e2) (visB_vis hvis) p1 p2
  have key : ∃ (tv : V) (cv : Value), PE X (.Name t q2) (tC tv) ∧ (∀ u, RelV tv u → u = cv) ∧ PySem.W.kitOne X.K (.ref C) cv = some (cs.contains k) := by
    unfold exsOf at hex
    split at hex
    · rename_i he
      have he := sOf_eq he
      split at hex
      · rename_i hfr
        cases hex
        subst he
        refine ⟨.ty "ValueError", .type "ValueError", pe_bltn (gloB_gl hgt) (S.free _ hfr) (by decide +kernel) rfl t3 t1, fun u r => ?_, by rw [x3]; exact x2⟩
        cases r; rfl
      · cases hex
    · obtain ⟨⟨k0, cs'⟩, hl, e⟩ := Option.map_eq_some_iff.mp hex
      have e : cs' = cs := e
      subst e
      obtain ⟨C0, h1, h2, h3, h4, h5, h6, h7⟩ := S.exc.nm t k0 cs' hl
      refine ⟨.ref C0, .ref C0, pe_glob (gloB_gl hgt) h1 rfl t1, fun u r => ?_, (h7 k C hC).2⟩
      cases r; rfl
  obtain ⟨tv, cv, hT, hcv, hkit⟩ := key
  have hA : PA X [.Name v q, .Name t q2] (tCons (tVar i) (tCons (tC tv) tNil)) := pa_cons hV (pa_cons hT pa_nil)
  refine (pe_callB (call_isE2 hm x1 hz hf) (gloB_gl hgi) (S.free _ hfi) (by decide +kernel) hA (by decide) (by decide) rfl rfl).imp fun σ H Q ⟨hh, Z, ρ, rel, fin⟩ => ?_
  have fin : FinG X.K ct W σ Z H (match A.hot with | some c => Res.ok (D.bl (cs.contains c)) | none => .bad) _ := fin
  rw [hk] at fin
  exact ⟨.ref a, hh, tv, cv, cs.contains k, rfl, hcv, hkit, FinG.here fin rel.sub _ (.bl _)⟩
theorem isx_nameless : IsxOk ct c A (some (sOf "")) none := by
  intro X W L O v t p q q2 pos cs S hv hvis hp
  cases hv
  exact absurd hp (by decide +kernel)
end
end Tk
/-! All statements: the induction. -/
namespace Tk
open PySem PySem.Spec PyProof.Rows L2
open D
section
variable {ct : CT} {c : CE} {A : Ar} {L : Nat} {ev0 : Option Str} {hx : Option (Nat × Addr)} {n : Nat} {X : Cx} {W : WX} {O O' : List Nat} {B : Option (List Nat)}
def rExtendS : V → List V → Hp → VK → Prop := fun x vs H Q => ∃ l b xs zs, x = .ref l ∧ vs = [.ref b] ∧ H l = some (.lst xs) ∧ Rd H b (.lst zs) ∧ xs.length + zs.length ≤ sizeLine ∧ Q .non (upd H l (.lst (xs ++ zs)))
theorem mt_extendS : MtM X "list.extend" rExtendS := by
  intro pins s σ H x vs v us Q I rx rv h
  obtain ⟨l, b, xs, zs, rfl, rfl, hH, hB, hz, q⟩ := h
  cases rx
  obtain ⟨u, rfl, ru⟩ := rv.one
  cases ru
  obtain ⟨z, its, n, r, hl, e⟩ := Inv.rdL I (.inl hH)
  obtain ⟨z2, its2, n2, r2, hl2, e2⟩ := Inv.rdL I hB
  have hsz : its.toArray.size + its2.toArray.size ≤ sizeLine := by rw [List.size_toArray, List.size_toArray]; omega
  have hlong : ¬ (!its.toArray.isEmpty && Builtin.List.listTooLong (its.toArray.size + its2.toArray.size)) = true := by
    rw [notLongL hsz, Bool.and_false]
    exact Bool.false_ne_true
  refine call_meets F.slot_list_extend ⟨_, e, rfl⟩ F.entry_list_extend (F.args_list_extend_2 _ _)
    (AutoSeq1.list_extend_list_list_0 l its.toArray n b its2.toArray n2 hlong (by rw [List.size_toArray]; omega) (by omega)) ⟨e, e2, ?_⟩
  refine ⟨.non, _, I.lset (its' := its ++ its2) hH e (by simp) (r.append r2) ?_, rfl, q⟩
  rw [List.length_append]
  omega
theorem st_ext {a : Expr} {x : Str} {i : Nat} {y : SE} {px ap cp pos : Pos} (S : SitS X ct c A L W ev0 hx) (hp : plainName x = true) (hl : locB X.env.scope x = true) (hsl : slotOf c.N x = some i) (hline : (ap.endLine == cp.line) = true) (hs : noStar a = true) (hi : i ∈ rem O (esc y)) (ha : PE X a (tE X ct A W (rem O (esc y)) hx y)) : PS X (.Expr (.Call (.Attribute (.Name x px) (sOf "extend") ap) [a] [] cp) pos) (tSS X ct W hx B O (rem O (esc y)) (run1 A (.ext i y))) := by
  obtain ⟨p1, p2, _⟩ := plain_debug hp
  have hN : X.N[i]? = some x := by rw [S.N]; exact slotOf_get hsl
  have hv : Vis X.env.scope x := by
    rcases locB_loc hl with e | e
    · exact .inl e
    · exact .inr (.inl e)
  refine (ps_expr (pe_bm PySem.F.plainAttrs_list PySem.F.slot_list_extend PySem.F.type_list_extend mt_extendS (pe_var (i := i) hN hv p1 p2) (pa_cons ha pa_nil (noStar_each hs)) rfl (few1 hs) hline (noStar_each hs) rfl) rfl).imp fun D σ H ⟨hh, Z, ρ, rel, out⟩ => ?_
  obtain ⟨Z1, z1, rel1⟩ := rel.freeze (O2 := rem O (esc y)) rem_sub
  have out : Out X.K ct W hx B (rem O (esc y)) Z D (match ρ[i]? with
    | some (some (.lst xs)) => withR ρ (ev A y ρ) fun d => (match d with
      | .lst ys => if okN (xs.length + ys.length) then .nx (ρ.set i (some (.lst (xs ++ ys)))) else .bad
      | _ => .bad)
    | _ => .bad) := out
  split at out
  · rename_i xs hd
    obtain ⟨ad, h1, h2, h3⟩ := rel1.ow i _ hi hd
    refine ⟨.ref ad, h1, ?_, ?_⟩
    · rcases h3 with ⟨vs, ds, _, g1, _⟩ | ⟨kvs, ps, e, _⟩
      · exact .inl ⟨rfl, vs, .inl (.inl g1)⟩
      · cases e
    · have fin := fin_withR rel1 hh (Out.grow out z1)
      refine ⟨hh, Z1, ρ, rel1, fin.mono fun d Z' H' _ e ⟨r, o⟩ v hv => ?_⟩
      obtain ⟨ad2, g1, g2, g3⟩ := r.ow i _ hi hd
      rw [h1] at g1
      cases g1
      cases d with
      | lst ys =>
        have o : Out X.K ct W hx B (rem O (esc y)) Z' D (if okN (xs.length + ys.length) then .nx (ρ.set i (some (.lst (xs ++ ys)))) else .bad) := o
        by_cases hb : okN (xs.length + ys.length) = true
        · rw [if_pos hb] at o
          cases hv with
          | lst w1 w2 =>
            rcases g3 with ⟨vs, ds, e2, q1, q2⟩ | ⟨kvs, ps, e2, _⟩
            · cases e2
              refine ⟨ad, _, vs, _, rfl, rfl, q1, same_rd r.sub w1, by rw [q2.length, w2.length]; exact okN_le hb, ?_⟩
              exact o σ _ Z' (.refl _) hh (r.write hi hd h1 (.inl ⟨_, xs ++ ys, rfl, rfl, q2.append w2⟩))
            · cases e2
        · rw [if_neg hb] at o; exact (show False from o).elim
      | _ => exact (show False from o).elim
  · exact (show False from out).elim
theorem flL_spec {f : List Nat → Option (List Nat)} (h : flL f O = some O') : (∀ i ∈ O', i ∈ O) ∧ ∃ O2, f O' = some O2 ∧ ∀ i ∈ O', i ∈ O2 := by
  unfold flL at h
  split at h
  · rename_i O1 e1
    split at h
    · rename_i hs
      cases h
      exact ⟨fun i h => h, O1, e1, subO_iff.mp hs⟩
    · split at h
      · rename_i O2 e2
        split at h
        · rename_i hs
          cases h
          exact ⟨fun i h => (mem_joinO.mp h).1, O2, e2, subO_iff.mp hs⟩
        · cases h
      · cases h
  · cases h
/-- the soundness of all statements that are turned with n -/
structure SndS (ct : CT) (c : CE) (A : Ar) (L : Nat) (ev : Option Str) (hx : Option (Nat × Addr)) (M : List Nat) (n : Nat) : Prop where
  St : ∀ X W st ss B O O', SitS X ct c A L W ev hx → cSt c X.env.scope ev n st = some ss → fl1 M ss B O = some O' → PS X st (tSS X ct W hx B O O' (run1 A ss))
  Bl : ∀ X W st ss B O O', SitS X ct c A L W ev hx → cB c X.env.scope ev n st = some ss → flB M ss B O = some O' → PSs X st (tSS X ct W hx B O O' (run A ss))
theorem hot_none (S : SitS X ct c A L W ev0 hx) (h : ev0 = none) : hx = none := by
  subst h
  cases q : hx with
  | none => rfl
  | some z =>
    obtain ⟨y, _, _, h1, _⟩ := S.hot z.1 z.2 q
    cases h1
theorem hot_ne (S : SitS X ct c A L W ev0 hx) {x : Str} {i : Nat} (h : ¬ ev0 = some x) (hs : slotOf c.N x = some i) : ∀ j a, hx = some (j, a) → j ≠ i := by
  intro j a e z
  subst z
  obtain ⟨y, _, _, h1, h2, _⟩ := S.hot j a e
  rw [slotOf_get hs] at h2
  cases h2
  exact h h1
theorem pss_seq {st : Stmt} {rest : List Stmt} {s : SS} {r : List SS} {O1 : List Nat} (h1 : PS X st (tSS X ct W hx B O O1 (run1 A s))) (h2 : PSs X rest (tSS X ct W hx B O1 O' (run A r))) : PSs X (st :: rest) (tSS X ct W hx B O O' (run A (s :: r))) := by
  refine (pss_cons h1 h2).imp fun D σ H ⟨hh, Z, ρ, rel, out⟩ => ⟨hh, Z, ρ, rel, ?_⟩
  have out : Out X.K ct W hx B O' Z D ((run1 A s ρ).then fun ρ' => run A r ρ') := out
  cases q : run1 A s ρ with
  | nx ρ1 =>
    rw [q] at out
    exact fun σ' H' Z' z hh' r' => ⟨hh', Z', ρ1, r', Out.grow out z⟩
  | rt d => rw [q] at out; exact out
  | bk ρ1 => rw [q] at out; exact out
  | exc k ρ1 => rw [q] at out; exact out
  | bad => rw [q] at out; exact out
theorem sndS {M : List Nat} : ∀ (n : Nat) {A : Ar} {ev0 : Option Str} {hx : Option (Nat × Addr)} (hi : IsxOk ct c A ev0 hx), SndS ct c A L ev0 hx M n
  | 0, A, ev0, hx, hi => by
    refine ⟨?_, ?_⟩
    · intro X W st ss B O O' S h; cases h
    · intro X W st ss B O O' S h; cases h
  | n + 1, A, ev0, hx, hi => by
    have ih := sndS n hi (M := M)
    have ex := snd hi n (L := L)
    refine ⟨fun X W st ss B O O' S h fl => ?_, fun X W st ss B O O' S h fl => ?_⟩
    · unfold cSt at h
      split at h
      · rename_i e p
        cases e1 : cE c ev0 n X.env.scope e with
        | none => rw [e1] at h; cases h
        | some y => rw [e1] at h; cases h; exact st_ret (ex.E X W e y _ S.toSit e1 rem_out).1
      · cases h; exact st_retN
      · cases h; cases fl; exact st_pass
      · split at h
        · cases h
          unfold fl1 at fl
          split at fl
          · split at fl
            · rename_i hb; cases fl; exact st_brk hb
            · cases fl
          · cases fl
        · cases h
      · -- If
        rename_i t a b p
        split at h
        · rename_i x y z e1 e2 e3
          cases h
          unfold fl1 at fl
          split at fl
          · rename_i Oa Ob f1 f2
            cases fl
            exact st_if (ex.E X W t x _ S.toSit e1 rem_out).2 (ih.Bl X W a y B _ Oa S e2 f1) (ih.Bl X W b z B _ Ob S e3 f2)
          · cases fl
        · cases h
      · -- x = e
        rename_i x px e p
        split at h
        · cases h
        rename_i hp
        have hp : (plainName x = true ∧ locB X.env.scope x = true) ∧ ¬ ev0 = some x := by simpa using hp
        split at h
        · rename_i i y e1 e2
          have hN : X.N[i]? = some x := by rw [S.N]; exact slotOf_get e1
          have hl := locB_loc hp.1.2
          have hne := hot_ne S hp.2 e1
          split at h
          · rename_i hfr
            cases h
            have hfr := Bool.and_eq_true_iff.mp hfr
            have hfn : c.fn.lookup (sOf "list") = none := Option.isNone_iff_eq_none.mp hfr.2
            unfold fl1 at fl
            split at fl
            · cases fl
              exact st_asgF hN hl hne ((asg_rule hi S e2 rem_out).2 hfr.1 hfn)
            · cases fl
              exact st_asg hN hl hne (asg_rule hi S e2 rem_out).1
          · cases h
            cases fl
            exact st_asg hN hl hne (asg_rule hi S e2 rem_out).1
        · cases h
      · -- a, b = e
        rename_i es k p e q
        split at h
        · rename_i t y z1 z2 e1 e2
          split at h
          · rename_i h0
            have h0 : ev0 = none := beq_iff_eq.mp h0
            cases h
            cases fl
            have hg : PG X (.Tuple es k p) (gT X.K t false) := pg_of S.N S.nd (S.calm h0) (fun x hx => ⟨locB_loc hx, .inl (S.fnT x)⟩) e1
            exact st_asgT (hot_none S h0) hg (ex.E X W _ y _ S.toSit e2 rem_out).1 rfl rfl rfl
          · cases h
        · cases h
      · -- for
        rename_i tg iter body p
        split at h
        · rename_i t one it e1 e2
          split at h
          · cases h
          rename_i hs
          have hs : noSet iter = true ∧ ev0 = none := by simpa using hs
          cases e3 : cB c X.env.scope ev0 n body with
          | none => rw [e3] at h; cases h
          | some ys =>
            rw [e3] at h
            cases h
            have fl : flL (fun O => flB M ys (some O) O) (rem (rem O (esci it)) t) = some O' := fl
            obtain ⟨g1, O2, g2, g3⟩ := flL_spec fl
            have hg : PG X tg (gT X.K t one) := pg_of S.N S.nd (S.calm hs.2) (fun x hx => ⟨locB_loc hx, .inl (S.fnT x)⟩) e1
            exact st_for S (S.calm hs.2) (hot_none S hs.2) hs.1 (fun i hi => rem_sub _ (rem_sub _ (g1 i hi))) (fun i ht hi => rem_out i ht (g1 i hi)) g3 hg (ex.I X W tg iter it O' S.toSit e2 (fun i hi hO => rem_out i hi (rem_sub _ (g1 i hO)))) (ih.Bl X W body ys (some O') O' O2 S e3 g2)
        · cases h
      · -- while
        rename_i t body p
        split at h
        · rename_i x ys e1 e3
          split at h
          · rename_i h0
            have h0 : ev0 = none := beq_iff_eq.mp h0
            cases h
            have fl : flL (fun O => flB M ys (some O) O) (rem O (esc x)) = some O' := fl
            obtain ⟨g1, O2, g2, g3⟩ := flL_spec fl
            exact st_whl S (hot_none S h0) (fun i hi => rem_sub _ (g1 i hi)) g3 (ex.E X W t x O' S.toSit e1 (fun i hi hO => rem_out i hi (g1 i hO))).2 (ih.Bl X W body ys (some O') O' O2 S e3 g2)
          · cases h
        · cases h
      · -- raise
        rename_i x px m j p2 q p
        split at h
        · rename_i hg
          have hg : (gloB X.env.scope x = true ∧ plainName x = true) ∧ ev0 = none := by simpa using hg
          cases e1 : c.ecl.lookup x with
          | none => rw [e1] at h; cases h
          | some z =>
            rw [e1] at h
            cases h
            cases fl
            exact st_raise (cs := z.2) S hg.2 hg.1.2 hg.1.1 e1
        · cases h
      · -- try
        rename_i body x px nm b0 suite p2 p
        split at h
        · rename_i b k0 cs y e1 e2
          split at h
          · rename_i hg
            have hg : (((gloB X.env.scope x = true ∧ plainName x = true) ∧ loc1B X.env.scope y = true) ∧ plainName y = true) ∧ ev0 = none := by simpa using hg
            obtain ⟨⟨⟨⟨g1, g2⟩, g3⟩, g4⟩, g5⟩ := hg
            subst g5
            have hn := hot_none S rfl
            subst hn
            split at h
            · rename_i i s e3 e4
              cases h
              unfold fl1 at fl
              split at fl
              · rename_i Oa Ob f1 f2
                cases fl
                exact st_try_as S g2 g1 e2 g3 e3 (fun X' W' S' es ek => by
                  have := ih.Bl X' W' body b none O Oa S' (by rw [es]; exact e1) f1
                  unfold tSS at this ⊢
                  rw [ek] at this
                  exact this) (fun X' a k S' es ek => by
                  have := (sndS n isx_hot (M := M) (A := { A with hot := some k })).Bl X' _ (b0 :: suite) s none [] Ob S' (by rw [es]; exact e4) f2
                  unfold tSS at this ⊢
                  rw [ek] at this
                  exact this)
              · cases fl
            · cases h
          · cases h
        · rename_i b k0 cs e1 e2
          split at h
          · rename_i hg
            have hg : (gloB X.env.scope x = true ∧ plainName x = true) ∧ ev0 = none := by simpa using hg
            obtain ⟨⟨g1, g2⟩, g5⟩ := hg
            subst g5
            have hn := hot_none S rfl
            subst hn
            cases e4 : cB c X.env.scope (some (sOf "")) n (b0 :: suite) with
            | none => rw [e4] at h; cases h
            | some s =>
              rw [e4] at h
              cases h
              unfold fl1 at fl
              split at fl
              · rename_i Oa Ob f1 f2
                cases fl
                exact st_try S g2 g1 e2 (fun X' W' S' es ek => by
                  have := ih.Bl X' W' body b none O Oa S' (by rw [es]; exact e1) f1
                  unfold tSS at this ⊢
                  rw [ek] at this
                  exact this) (fun X' k S' es ek => by
                  have := (sndS n isx_nameless (M := M) (A := { A with hot := some k })).Bl X' _ (b0 :: suite) s none [] Ob S' (by rw [es]; exact e4) f2
                  unfold tSS at this ⊢
                  rw [ek] at this
                  exact this)
              · cases fl
          · cases h
        · cases h
      · -- x.m(a)
        rename_i x px m ap a cp pos
        split at h
        · cases h
        rename_i hp
        have hp : (((plainName x = true ∧ locB X.env.scope x = true) ∧ (ap.endLine == cp.line) = true) ∧ noStar a = true) ∧ ev0 = none := by simpa using hp
        split at h
        · rename_i i e1
          split at h
          · rename_i hm
            have hm := sOf_eq hm
            subst hm
            cases e2 : cE c ev0 n X.env.scope a with
            | none => rw [e2] at h; cases h
            | some y =>
              rw [e2] at h
              cases h
              unfold fl1 at fl
              split at fl
              · rename_i hc
                cases fl
                exact st_app S hp.1.1.1.1 hp.1.1.1.2 e1 hp.1.1.2 hp.1.2 (List.contains_iff_mem.mp hc) (ex.E X W a y _ S.toSit e2 rem_out).1
              · cases fl
          · split at h
            · rename_i hm
              have hm := sOf_eq hm
              subst hm
              cases e2 : cE c ev0 n X.env.scope a with
              | none => rw [e2] at h; cases h
              | some y =>
                rw [e2] at h
                cases h
                unfold fl1 at fl
                split at fl
                · rename_i hc
                  cases fl
                  exact st_ext S hp.1.1.1.1 hp.1.1.1.2 e1 hp.1.1.2 hp.1.2 (List.contains_iff_mem.mp hc) (ex.E X W a y _ S.toSit e2 rem_out).1
                · cases fl
            · cases h
        · cases h
      · -- e
        rename_i e p _
        split at h
        · rename_i hn
          have hn := Bool.and_eq_true_iff.mp hn
          cases e2 : cE c ev0 n X.env.scope e with
          | none => rw [e2] at h; cases h
          | some y =>
            rw [e2] at h
            cases h
            cases fl
            exact st_ex hn.1 (ex.E X W e y _ S.toSit e2 rem_out).1
        · cases h
      · cases h
    · unfold cB at h
      split at h
      · cases h
        cases fl
        exact pss_nil.imp fun D σ H ⟨hh, Z, ρ, rel, out⟩ => (show Out X.K ct W hx B O Z D (.nx ρ) from out) σ H Z (.refl _) hh rel
      · rename_i s r
        split at h
        · rename_i x y e1 e2
          cases h
          have fl : (match fl1 M x B O with | some O1 => flB M y B O1 | none => none) = some O' := fl
          split at fl
          · rename_i O1 f1
            exact pss_seq (ih.St X W s x B O O1 S e1 f1) (ih.Bl X W r y B O1 O' S e2 fl)
          · cases fl
        · cases h
end
end Tk
/-! Defs, level by level. -/
namespace Tk
open PySem PySem.Spec PyProof.Rows L2
open D
/-- a def: how many parameters, how many slots, its body -/
structure Fn where
  np : Nat
  ns : Nat
  body : List SS
  ext : Option (Nat → (Nat → List D → Res D) → List D → Res D)
def callFn (A : Ar) (f : Fn) (ds : List D) : Res D := if ds.length = f.np then (match run A f.body (ds.map some ++ List.replicate (f.ns - f.np) none) with
  | .rt d => .ok d
  | .nx _ => .ok .non
  | .exc c _ => .exc c
  | _ => .bad) else .bad
/-- all defs, by level -/
def Phi (tab : Nat → Option Fn) (F : Nat) : Nat → Nat → List D → Res D
  | 0, _, _ => .bad
  | L + 1, k, ds => match tab k with
    | some f => (match f.ext with
      | some g => g L (Phi tab F L) ds
      | none => callFn ⟨Phi tab F L, fun _ _ _ => .bad, fun _ => [], none, F⟩ f ds)
    | none => .bad
def ArOf (tab : Nat → Option Fn) (F L : Nat) : Ar := ⟨Phi tab F L, fun _ _ _ => .bad, fun _ => [], none, F⟩
theorem Phi_succ {tab : Nat → Option Fn} {F L k : Nat} {f : Fn} (h : tab k = some f) (ds : List D) (he : f.ext = none := by rfl) : Phi tab F (L + 1) k ds = callFn (ArOf tab F L) f ds := by
  show (match tab k with | some f => (match f.ext with | some g => g L (Phi tab F L) ds | none => callFn ⟨Phi tab F L, fun _ _ _ => .bad, fun _ => [], none, F⟩ f ds) | none => .bad) = _
  rw [h]
  dsimp only
  rw [he]
  rfl
theorem Phi_ext {tab : Nat → Option Fn} {F L k : Nat} {f : Fn} {g : Nat → (Nat → List D → Res D) → List D → Res D} (h : tab k = some f) (he : f.ext = some g) (ds : List D) : Phi tab F (L + 1) k ds = g L (Phi tab F L) ds := by
  show (match tab k with | some f => (match f.ext with | some g => g L (Phi tab F L) ds | none => callFn ⟨Phi tab F L, fun _ _ _ => .bad, fun _ => [], none, F⟩ f ds) | none => .bad) = _
  rw [h]
  dsimp only
  rw [he]
/-- a def of the row: its name, number, names by slot, parameters -/
structure DefR where
  name : Str
  id : Nat
  N : List Str
  ps : List Str
  st : Stmt
  body : List SS
/-- what is checked of a def's text -/
def DefR.okB (c : CE) (r : DefR) (beq : List SS → List SS → Bool) : Bool := match cB { c with N := r.N } (defScope r.st) none 200 (defBody r.st) with
  | some b => beq b r.body && (flB (mutB b) b none []).isSome
  | none => false
section
variable {P : Program} {w : World} {K : PySem.W.Frag} {mg : Str → Option Value} {base : Heap} {ct : CT} {c : CE} {tab : Nat → Option Fn} {F L : Nat}
/-- what a module's facts are -/
structure ModOk (w : World) (K : PySem.W.Frag) (mg : Str → Option Value) (ct : CT) (c : CE) : Prop where
  kd : KdOk K w ct
  gc : ∀ x d, c.gc.lookup x = some d → ∃ u v, mg x = some u ∧ RelV v u ∧ ∀ H, Den K ct H v d
  free : ∀ x, c.free.contains x = true → mg x = none
  exc : ExcsOk K mg ct c
/-- what a def is, and where -/
structure DefOk (K : PySem.W.Frag) (mg : Str → Option Value) (c : CE) (tab : Nat → Option Fn) (x : Str) (k m : Nat) : Prop where
  ex : ∃ (f : Addr) (fd : FuncData) (N ps : List Str) (qual : Str) (params : Arguments) (body : List Stmt) (scope : Scope) (ss : List SS) (O' : List Nat), mg x = some (.ref f) ∧ FunD K x qual params body scope [] [] f fd ∧ FnScope N ps scope ∧ Binds K fd ps [] ∧ ps.length = m ∧ tab k = some ⟨m, N.length, ss, none⟩ ∧
    cB { c with N := N } scope none 200 body = some ss ∧ flB (mutB ss) ss none [] = some O'
def FnsAt (P : Program) (w : World) (K : PySem.W.Frag) (mg : Str → Option Value) (base : Heap) (ct : CT) (c : CE) (tab : Nat → Option Fn) (F L : Nat) : Prop := ∀ x k m, c.fn.lookup x = some (k, m) → ∃ f fd ps, mg x = some (.ref f) ∧ PySem.W.keepIn K (.ref f) = true ∧ Binds K fd ps [] ∧ FnOk P w K mg base (L2.CX P w) L f fd ps (spF (spD K ct (Phi tab F L k) m))
theorem isx_none : IsxOk ct c (ArOf tab F L) none none := fun X W L O v t p q q2 pos cs S h => nomatch h
theorem fn_core (M : ModOk w K mg ct c) (hL : FnsAt P w K mg base ct c tab F L) {x : Str} {k m : Nat} {f : Addr} {fd : FuncData} {N ps : List Str} {qual : Str} {params : Arguments} {body : List Stmt} {scope : Scope} {ss : List SS} {O' : List Nat} (h2 : FunD K x qual params body scope [] [] f fd) (h3 : FnScope N ps scope) (h5 : ps.length = m) (h6 : tab k = some ⟨m, N.length, ss, none⟩)
    (h7 : cB { c with N := N } scope none 200 body = some ss) (h8 : flB (mutB ss) ss none [] = some O') : FnOk P w K mg base (L2.CX P w) (L + 1) f fd ps (spF (spD K ct (Phi tab F (L + 1) k) m)) := by
  refine FnOk.frame ?_ spD_keeps
  refine h2.ok h3 (fun vs H Q E h => h.1.trans h5.symm) fun cdv A outer s H vs Q E hr h => ?_
  obtain ⟨hm, ds, hd, hq⟩ := h
  rw [Phi_succ h6] at hq
  have hlen : ds.length = m := by rw [← hd.length]; exact hm
  have hpl : m ≤ N.length := by
    have := congrArg List.length h3.pre
    rw [List.length_take] at this
    omega
  have S : SitS (cxOf (L2.CX P w) P w K mg base N qual scope f cdv A outer s H E) ct { c with N := N } (ArOf tab F L) L (fun cls d _ H => E cls d H) none none :=
    { N := rfl
      nd := h3.nd
      calm := fun _ => rfl
      tk := takes_of rfl rfl rfl rfl
      un := by have := hr.un; show (A.deeper _).units + 65 < cLine; omega
      room := fun _ => hr
      fns := hL
      kd := M.kd
      gc := M.gc
      free := M.free
      hot := fun i a h => nomatch h
      exc := ⟨M.exc.nm, M.exc.all⟩
      fnT := fun _ => rfl
      po := passes_of rfl
      stk := rfl
      frm := rfl }
  have T := (sndS (L := L) (M := mutB ss) 200 isx_none).Bl (cxOf (L2.CX P w) P w K mg base N qual scope f cdv A outer s H E) (fun cls d _ H => E cls d H) body ss none [] O' S h7 h8
  refine ⟨_, T, trivial, H, ds.map some ++ List.replicate (N.length - m) none, ?_, ?_⟩
  · refine ⟨.refl _, fun b o e z => (by rw [e] at z; cases z), ?_, fun i d _ e => ?_, fun i d hi => (by cases hi), fun i j d e a hi => (by cases hi)⟩
    · unfold L2.start
      rw [List.length_append, List.length_append, List.length_map, List.length_map, List.length_replicate, List.length_replicate, hm, hlen]
    · by_cases hi : i < ds.length
      · rw [List.getElem?_append_left (by simpa using hi), List.getElem?_map] at e
        cases q : ds[i]? with
        | none => rw [q] at e; cases e
        | some d' =>
          rw [q] at e
          cases e
          obtain ⟨v, g1, g2⟩ := hd.get q
          refine ⟨v, ?_, g2⟩
          unfold L2.start
          rw [List.getElem?_append_left (by rw [List.length_map, hm, ← hlen]; exact hi), List.getElem?_map, g1]
          rfl
      · rw [List.getElem?_append_right (by simpa using hi), List.getElem?_replicate] at e
        split at e <;> cases e
  · unfold callFn at hq
    rw [if_pos hlen] at hq
    have hq : (match (match run (ArOf tab F L) ss (ds.map some ++ List.replicate (N.length - m) none) with
      | .rt d => Res.ok d
      | .nx _ => Res.ok D.non
      | .exc c _ => Res.exc c
      | _ => (.bad : Res D)) with
      | .ok d => ∀ v H', Same H H' → Den K ct H' v d → Q v H'
      | .exc c => ∀ C H', ct.ex c = some C → Same H H' → E (.ref C) none H'
      | .bad => False) := hq
    cases q : run (ArOf tab F L) ss (ds.map some ++ List.replicate (N.length - m) none) with
    | nx ρ' => rw [q] at hq; exact fun σ' H' Z' z _ r => hq .non H' (z.trans r.sub) .non
    | rt d => rw [q] at hq; exact fun v H' Z' z s hv => hq v H' (z.trans s) (Den.mono s _ _ hv)
    | bk ρ' => rw [q] at hq; exact hq
    | exc e ρ' => rw [q] at hq; exact fun C σ' H' Z' hc z _ r => hq C H' hc (z.trans r.sub)
    | bad => rw [q] at hq; exact hq
theorem fn_step (M : ModOk w K mg ct c) (hL : FnsAt P w K mg base ct c tab F L) {x : Str} {k m : Nat} (d : DefOk K mg c tab x k m) : ∃ f fd ps, mg x = some (.ref f) ∧ PySem.W.keepIn K (.ref f) = true ∧ Binds K fd ps [] ∧ FnOk P w K mg base (L2.CX P w) (L + 1) f fd ps (spF (spD K ct (Phi tab F (L + 1) k) m)) := by
  obtain ⟨f, fd, N, ps, qual, params, body, scope, ss, O', h1, h2, h3, h4, h5, h6, h7, h8⟩ := d.ex
  exact ⟨f, fd, ps, h1, h2.kp, h4, fn_core M hL h2 h3 h5 h6 h7 h8⟩
/-- a def that is walked by hand -/
structure ExtOk (P : Program) (w : World) (K : PySem.W.Frag) (mg : Str → Option Value) (base : Heap) (ct : CT) (c : CE) (tab : Nat → Option Fn) (F : Nat) (x : Str) (k m : Nat) : Prop where
  ex : ∃ (f : Addr) (fd : FuncData) (ps : List Str), mg x = some (.ref f) ∧ PySem.W.keepIn K (.ref f) = true ∧ Binds K fd ps [] ∧ ps.length = m ∧ ∀ L, FnsAt P w K mg base ct c tab F L → FnOk P w K mg base (L2.CX P w) (L + 1) f fd ps (spF (spD K ct (Phi tab F (L + 1) k) m))
theorem fns_all (M : ModOk w K mg ct c) (D : ∀ x k m, c.fn.lookup x = some (k, m) → DefOk K mg c tab x k m ∨ ExtOk P w K mg base ct c tab F x k m) : ∀ L, FnsAt P w K mg base ct c tab F L
  | 0 => fun x k m h => by
    rcases D x k m h with d | d
    · obtain ⟨f, fd, N, ps, qual, params, body, scope, ss, O', g1, g2, g3, g4, g5, g6, g7, g8⟩ := d.ex
      exact ⟨f, fd, ps, g1, g2.kp, g4, ⟨fun vs H Q E ⟨Z, _, _, hl, _⟩ => hl.trans g5.symm, fun A outer s H args us vs Q E _ _ _ _ ⟨Z, _, _, _, ds, _, hb⟩ => (show False from hb).elim⟩⟩
    · obtain ⟨f, fd, ps, g1, g2, g4, g5, _⟩ := d.ex
      exact ⟨f, fd, ps, g1, g2, g4, ⟨fun vs H Q E ⟨Z, _, _, hl, _⟩ => hl.trans g5.symm, fun A outer s H args us vs Q E _ _ _ _ ⟨Z, _, _, _, ds, _, hb⟩ => (show False from hb).elim⟩⟩
  | L + 1 => fun x k m h => by
    rcases D x k m h with d | d
    · exact fn_step M (fns_all M D L) d
    · obtain ⟨f, fd, ps, g1, g2, g4, g5, g6⟩ := d.ex
      exact ⟨f, fd, ps, g1, g2, g4, g6 L (fns_all M D L)⟩
end
end Tk
/-! The end of a law. -/
namespace Tk
open PySem PySem.Spec PyProof.Rows L2
open D
def AllP {α : Type} (p : α → Prop) : List α → Prop
  | [] => True
  | a :: r => p a ∧ AllP p r
theorem AllP.mem {α : Type} {p : α → Prop} : ∀ {l : List α}, AllP p l → ∀ {a : α}, a ∈ l → p a
  | [], _, _, h => by cases h
  | b :: r, h, a, m => by
    rcases List.mem_cons.mp m with e | m
    · subst e; exact h.1
    · exact AllP.mem h.2 m
theorem lookup_mem {α β : Type} [BEq α] [LawfulBEq α] {x : α} {y : β} : ∀ {l : List (α × β)}, l.lookup x = some y → (x, y) ∈ l
  | [], h => by cases h
  | (a, b) :: r, h => by
    simp only [List.lookup] at h
    split at h
    · rename_i e
      cases h
      rw [beq_iff_eq.mp e]
      exact List.mem_cons_self
    · exact List.mem_cons_of_mem _ (lookup_mem h)
/-- one def by the head's facts -/
theorem def_ok {K : PySem.W.Frag} {mg : Str → Option Value} {h : Heap} {c : CE} {tab : Nat → Option Fn} {x : Str} {k m : Nat} {N ps : List Str} {params : Arguments} {body : List Stmt} {scope : Scope} {ss : List SS} (X : K.In h) (G : h.Ns mainGlobals mg) (hg : (He.Fa.glo x).ok K = true)
    (F : ∃ fd, FunD K x x params body scope [] [] (He.fAd K (x, none)) fd) (S : FnScope N ps scope)
    (hb : ∀ (kV doc pm : Value) (an : Option Addr) (cdv ct : Value) (us : List Value), us.length = ps.length → bindArgs (PySem.W.fnOf x x params body scope .none kV doc pm an cdv ct) ⟨us, []⟩ = pure (ps.zip us))
    (hm : ps.length = m) (ht : tab k = some ⟨m, N.length, ss, none⟩) (hc : cB { c with N := N } scope none 200 body = some ss) (hf : (flB (mutB ss) ss none []).isSome = true) : DefOk K mg c tab x k m := by
  obtain ⟨fd, F⟩ := F
  obtain ⟨O', hO⟩ := Option.isSome_iff_exists.mp hf
  exact ⟨He.ga K x, fd, N, ps, x, params, body, scope, ss, O', He.glo_ok X G hg, F, S, F.bindsN hb, hm, ht, hc, hO⟩
theorem walkW {l : PySem.W.OpenLaw} {n k : Nat} {q : Program} {loose : List Str} {XP : (Str → Option Value) → Heap → Prop} {YP : World → Heap → Prop} {d : DefRec} {CX : World → CXT} {x : Str}
    (hn : l.most = some n) (hn2 : n ≤ sizeLine) (hdf : d.params.defaults = []) (hr : Room k callerA)
    (F : ∀ (w : World) (mg : Str → Option Value) (fa : Addr) (h : Heap), YP w h → h.Ns mainGlobals mg → mg d.name = some (.ref fa) →
      ∃ (K : PySem.W.Frag) (fd : FuncData) (sp : Sp), K.In h ∧ (∀ (s : Shared) (u : Value), BindsTo s fd ⟨[u], []⟩ [(x, u)]) ∧
        (∀ (H : Hp) (a : Addr) (ns : List Int), ns.length ≤ n → Only H → SqL K H a (ns.map V.int) → sp [.ref a] H (fun v _ => v = .bl true) fun _ _ _ => False) ∧
        ∀ base : Heap, K.In base → base.Ns mainGlobals mg → FnOk l.prog w K mg base (CX w) k fa fd [x] sp)
    (hCX : ∀ (w : World) (H : Hp) (s : Shared) (e : Value) (s' : Shared), CX w [] H s (fun _ _ _ => False) e s' → False) :
    PySem.W.WalkO q loose XP YP l.row.toRowW d [] (fun f vs => PySem.call f vs) := by
  refine Att.attach_call hn hdf fun w s₀ s₁ mg mb fa o pm cd doc a vs ns G Y ho hd hcd hmg hobj hints hlen hg => ?_
  obtain ⟨K, fd, sp, KX, hb, hsp, hF⟩ := F w mg fa _ Y G.T.g hmg
  exact law_call KX G.T.g G.T.b G.T.builtins G.T.nolimit hg hobj hints (Nat.le_trans hlen hn2) hr hF hb (fun H hO hS => hsp H a ns hlen hO hS) fun H e s' => hCX w H s₁ e s'
/-- what the head tells, put together: the law's def keeps its promise -/
theorem law_F {P : Program} {w : World} {K : PySem.W.Frag} {mg : Str → Option Value} {h : Heap} {ct : CT} {c : CE} {tab : Nat → Option Fn} {F L k : Nat} {N : List Str} {x : Str} {params : Arguments} {body : List Stmt} {scope : Scope} {ss : List SS} (KX : K.In h) (G : h.Ns mainGlobals mg)
    (M : ModOk w K mg ct c) (D : ∀ x k m, c.fn.lookup x = some (k, m) → DefOk K mg c tab x k m ∨ ∀ base : Heap, K.In base → base.Ns mainGlobals mg → ExtOk P w K mg base ct c tab F x k m)
    (Fd : ∃ fd, FunD K ("law" : Str) ("law" : Str) params body scope [] [] (He.fAd K (("law" : Str), none)) fd) (S : FnScope N [x] scope)
    (hb : ∀ (kV doc pm : Value) (an : Option Addr) (cdv ct : Value) (us : List Value), us.length = 1 → bindArgs (PySem.W.fnOf ("law" : Str) ("law" : Str) params body scope .none kV doc pm an cdv ct) ⟨us, []⟩ = pure ([x].zip us))
    (ht : tab k = some ⟨1, N.length, ss, none⟩) (hc : cB { c with N := N } scope none 200 body = some ss) (hf : (flB (mutB ss) ss none []).isSome = true)
    (hlaw : ∀ ns : List Int, ns.length ≤ 63 → Phi tab F (L + 1) k [.scr ns] = .ok (.bl true)) :
    ∃ (fd : FuncData) (sp : Sp), (∀ (s : Shared) (u : Value), BindsTo s fd ⟨[u], []⟩ [(x, u)]) ∧
        (∀ (H : Hp) (a : Addr) (ns : List Int), ns.length ≤ 63 → Only H → SqL K H a (ns.map V.int) → sp [.ref a] H (fun v _ => v = .bl true) fun _ _ _ => False) ∧
        ∀ base : Heap, K.In base → base.Ns mainGlobals mg → FnOk P w K mg base (L2.CX P w) (L + 1) (He.ga K ("law" : Str)) fd [x] sp := by
  obtain ⟨fd, Fd⟩ := Fd
  obtain ⟨O', hO⟩ := Option.isSome_iff_exists.mp hf
  refine ⟨fd, spF (spD K ct (Phi tab F (L + 1) k) 1), fun s u => FunD.bindsA (ps := [x]) Fd hb s [u] rfl, fun H a ns hl hO hS => ?_, fun base hk1 hk2 => ?_⟩
  · refine ⟨H, .refl _, fun b o e z => (by rw [e] at z; cases z), rfl, [.scr ns], .cons (.scr hS) .nil, ?_⟩
    rw [hlaw ns hl]
    intro v H1 s1 hv H' _
    cases hv
    rfl
  · exact fn_core M (fns_all (P := P) (base := base) (F := F) M (fun x k m h => (D x k m h).imp id fun z => z base hk1 hk2) L) Fd S rfl ht hc hO
theorem cx_false {P : Program} : ∀ (w : World) (H : Hp) (s : Shared) (e : Value) (s' : Shared), L2.CX P w [] H s (fun _ _ _ => False) e s' → False := fun _ _ _ _ _ ⟨_, _, _, _, _, _, _, _, _, _, _, _, z⟩ => z
/-- constants of the module: whole numbers and texts -/
theorem gc_int {K : PySem.W.Frag} {ct : CT} {h : Heap} {mg : Str → Option Value} {x : Str} {i : Int} (X : K.In h) (G : h.Ns mainGlobals mg) (f : (He.Fa.int x i).ok K = true) : ∃ u v, mg x = some u ∧ RelV v u ∧ ∀ H, Den K ct H v (.int i) := by
  obtain ⟨t, e⟩ := He.int_ok X G f
  exact ⟨_, .int i, e, ⟨t, rfl⟩, fun H => .int i⟩
theorem gc_str {K : PySem.W.Frag} {ct : CT} {h : Heap} {mg : Str → Option Value} {x : Str} {z : List Nat} (X : K.In h) (G : h.Ns mainGlobals mg) (f : (He.Fa.str x ⟨z.toArray⟩).ok K = true) : ∃ u v, mg x = some u ∧ RelV v u ∧ ∀ H, Den K ct H v (.str z) := by
  obtain ⟨t, e⟩ := He.str_ok X G f
  exact ⟨_, .str ⟨z.toArray⟩, e, ⟨t, rfl⟩, fun H => den_str _ _ _ _⟩
/-- no dicts, no classes, no errors -/
def ct0 : CT := ⟨fun _ => none, fun _ => none, fun _ => none⟩
theorem kd0 {K : PySem.W.Frag} {w : World} : KdOk K w ct0 := fun a ps h => nomatch h
end Tk
/-! Constants of a module: tuples, and dicts with text keys. -/
namespace Tk
open PySem PySem.Spec PyProof.Rows L2
open D
mutual
def gvB (K : PySem.W.Frag) : D → Value → Bool
  | .int i, u => (match u with | .int j _ => decide (j = i) | _ => false)
  | .str z, u => (match u with | .str y _ => y.cps.toList == z | _ => false)
  | .tup ds, u => (match u with
    | .ref a => (match K.lookup a with
      | some ⟨.type c, _, .seq its _, _⟩ => decide (c = "tuple") && (decide (its.size ≤ 1000) && gvAll K ds its.toList)
      | _ => false)
    | _ => false)
  | _, _ => false
def gvAll (K : PySem.W.Frag) : List D → List Value → Bool
  | [], us => us.isEmpty
  | d :: ds, us => (match us with | u :: r => gvB K d u && gvAll K ds r | [] => false)
end
mutual
theorem gvB_ok {K : PySem.W.Frag} {ct : CT} : ∀ {d : D} {u : Value}, gvB K d u = true → ∃ v, RelV v u ∧ ∀ H, Den K ct H v d
  | .int i, u, h => by
    unfold gvB at h
    split at h
    · rename_i j t
      have := of_decide_eq_true h
      subst this
      exact ⟨.int j, ⟨t, rfl⟩, fun H => .int _⟩
    · cases h
  | .str z, u, h => by
    unfold gvB at h
    split at h
    · rename_i y t
      have := beq_iff_eq.mp h
      subst this
      exact ⟨.str y, ⟨t, rfl⟩, fun H => .str _⟩
    · cases h
  | .tup ds, u, h => by
    unfold gvB at h
    split at h
    · rename_i a
      split at h
      · rename_i c od its n sl e
        obtain ⟨h1, h2⟩ := Bool.and_eq_true_iff.mp h
        obtain ⟨h3, h4⟩ := Bool.and_eq_true_iff.mp h2
        obtain ⟨vs, r, hv⟩ := gvAll_ok (ct := ct) h4
        refine ⟨.ref a, rfl, fun H => .tup (.inr ⟨_, its, n, e, congrArg Value.type (of_decide_eq_true h1), rfl, ?_, r⟩) (hv H)⟩
        have := of_decide_eq_true h3
        rw [sizeLine_eq]; omega
      · cases h
    · cases h
  | .non, _, h | .bl _, _, h | .lst _, _, h | .dic _, _, h | .obj _ _, _, h | .scr _, _, h => by simp [gvB] at h
theorem gvAll_ok {K : PySem.W.Frag} {ct : CT} : ∀ {ds : List D} {us : List Value}, gvAll K ds us = true → ∃ vs, Vals vs us ∧ ∀ H, DenAll K ct H vs ds
  | [], us, h => by
    have : us = [] := by simpa [gvAll] using h
    subst this
    exact ⟨[], .nil, fun H => .nil⟩
  | d :: ds, [], h => by simp [gvAll] at h
  | d :: ds, u :: us, h => by
    unfold gvAll at h
    obtain ⟨h1, h2⟩ := Bool.and_eq_true_iff.mp h
    obtain ⟨v, r, hv⟩ := gvB_ok (ct := ct) h1
    obtain ⟨vs, rs, hvs⟩ := gvAll_ok (ct := ct) h2
    exact ⟨v :: vs, .cons r rs, fun H => .cons (hv H) (hvs H)⟩
end
abbrev Kds := List (Str × List (List Nat × D))
/-- classes of errors: name, number, those below -/
abbrev Ecl := List (Str × (Nat × List Nat))
def ctS (K : PySem.W.Frag) (kds : Kds) (ecl : Ecl) : CT := ⟨fun _ => none, fun a => (kds.find? fun p => He.ga K p.1 == a).map (·.2), fun k => (ecl.find? fun p => p.2.1 == k).map fun p => He.ga K p.1⟩
def excCB (K : PySem.W.Frag) (D : Addr) : Bool :=
  He.eqO (PySem.W.findIn K (.ref D) "__getattribute__") (some (some (.builtin "BaseException.__getattribute__"))) && He.eqO (PySem.W.findIn K (.ref D) "__getattr__") (some none) && decide (PySem.W.subIn K (.ref D) (.type "BaseException") = some true) && PySem.W.hasDictIn K D &&
  He.eqO (PySem.W.findIn K (.ref D) "__class__") (some (some (.builtin "object.__class__"))) && He.eqO (PySem.W.specialIn K (.builtin "object.__class__") "__get__") (some (some (.builtin "getset_descriptor.__get__"))) && decide (PySem.W.takesIn K (.builtin "object.__class__") = some true) && decide (PySem.W.mroIn K D (.type "object") = some true)
theorem excCB_ok {K : PySem.W.Frag} {D : Addr} (h : excCB K D = true) : ExcC K D := by
  unfold excCB at h
  simp only [Bool.and_eq_true, decide_eq_true_eq] at h
  obtain ⟨⟨⟨⟨⟨⟨⟨h1, h2⟩, h3⟩, h4⟩, h5⟩, h6⟩, h7⟩, h8⟩ := h
  exact ⟨He.eqO_ok h1, He.eqO_ok h2, h3, h4, He.eqO_ok h5, He.eqO_ok h6, h7, h8⟩
def eclB (K : PySem.W.Frag) (ecl : Ecl) : Bool := ecl.all fun p =>
  (((He.Fa.glo p.1).ok K && (He.Fa.exc p.1).ok K) && (excCB K (He.ga K p.1) && decide (PySem.W.kitOne K (.ref (He.ga K p.1)) (.type "ValueError") = some true))) &&
  ecl.all fun q => decide (PySem.W.exmOne K (.ref (He.ga K q.1)) (.ref (He.ga K p.1)) = some (p.2.2.contains q.2.1)) && decide (PySem.W.kitOne K (.ref (He.ga K q.1)) (.ref (He.ga K p.1)) = some (p.2.2.contains q.2.1))
/-- no number twice, no name twice -/
def eclD : Ecl → Bool
  | [] => true
  | p :: r => !(r.any fun q => q.2.1 == p.2.1) && eclD r
theorem eclD_find : ∀ {ecl : Ecl}, eclD ecl = true → ∀ {p}, p ∈ ecl → ecl.find? (fun q => q.2.1 == p.2.1) = some p
  | [], _, p, h => by cases h
  | a :: r, h, p, hp => by
    unfold eclD at h
    obtain ⟨h1, h2⟩ := Bool.and_eq_true_iff.mp h
    by_cases e : a.2.1 = p.2.1
    · rcases List.mem_cons.mp hp with rfl | hp
      · rw [List.find?_cons_of_pos (by simp)]
      · exfalso
        rw [Bool.not_eq_true', List.any_eq_false] at h1
        exact h1 p hp (by simp [e])
    · rcases List.mem_cons.mp hp with rfl | hp
      · exact absurd rfl e
      · rw [List.find?_cons_of_neg (by simpa using e)]
        exact eclD_find h2 hp
theorem eclB_ok {K : PySem.W.Frag} {kds : Kds} {ecl : Ecl} {h : Heap} {mg : Str → Option Value} {c : CE} (X : K.In h) (G : h.Ns mainGlobals mg) (hb : eclB K ecl = true) (hd : eclD ecl = true) (hc : c.ecl = ecl) : ExcsOk K mg (ctS K kds ecl) c where
  nm := by
    intro x k cs hl
    rw [hc] at hl
    have hm := lookup_mem hl
    obtain ⟨b1, b2⟩ := Bool.and_eq_true_iff.mp (List.all_eq_true.mp hb _ hm)
    obtain ⟨b3, b4⟩ := Bool.and_eq_true_iff.mp b1
    obtain ⟨b5, b6⟩ := Bool.and_eq_true_iff.mp b3
    obtain ⟨x1, x2, x3, x4⟩ := He.exc_ok b6
    refine ⟨He.ga K x, He.glo_ok X G b5, ?_, x1, x2, x3, x4, fun k' C' e => ?_⟩
    · show (ecl.find? fun p => p.2.1 == k).map (fun p => He.ga K p.1) = _
      rw [eclD_find hd hm]
      rfl
    · obtain ⟨q, hq, rfl⟩ := Option.map_eq_some_iff.mp (show (ecl.find? fun p => p.2.1 == k').map (fun p => He.ga K p.1) = some C' from e)
      have ek : q.2.1 = k' := beq_iff_eq.mp (List.find?_some (p := fun p : Str × (Nat × List Nat) => p.2.1 == k') hq)
      have := Bool.and_eq_true_iff.mp (List.all_eq_true.mp b2 _ (List.mem_of_find?_eq_some hq))
      rw [ek] at this
      exact ⟨of_decide_eq_true this.1, of_decide_eq_true this.2⟩
  all := by
    intro k C e
    obtain ⟨q, hq, rfl⟩ := Option.map_eq_some_iff.mp (show (ecl.find? fun p => p.2.1 == k).map (fun p => He.ga K p.1) = some C from e)
    have ek : q.2.1 = k := beq_iff_eq.mp (List.find?_some (p := fun p : Str × (Nat × List Nat) => p.2.1 == k) hq)
    have hm := List.mem_of_find?_eq_some hq
    obtain ⟨b1, b2⟩ := Bool.and_eq_true_iff.mp (List.all_eq_true.mp hb _ hm)
    obtain ⟨b3, b4⟩ := Bool.and_eq_true_iff.mp b1
    obtain ⟨b5, b6⟩ := Bool.and_eq_true_iff.mp b4
    refine ⟨excCB_ok b5, of_decide_eq_true b6, ?_⟩
    rw [hc, List.contains_iff_mem]
    exact List.mem_map.mpr ⟨q, hm, ek⟩
def keyS (z : List Nat) : Str := ⟨z.toArray⟩
def tabS (kds : Kds) : List He.Tab := kds.map fun p => (fun K => He.ga K p.1, p.2.map fun q => keyS q.1)
def atB (K : PySem.W.Frag) (a : Addr) (x : Str) (d : D) : Bool := match PySem.W.nsIn K a x with
  | some (some u) => gvB K d u
  | _ => false
def moreB (kds : Kds) (gcs : List (Str × D)) (ecl : Ecl) (K : PySem.W.Frag) : Bool :=
  (eclB K ecl && decide ((kds.map fun p => He.ga K p.1).Nodup)) && gcs.all (fun g => atB K mainGlobals g.1 g.2) && kds.all (fun p => (!p.2.isEmpty && He.eqO (PySem.W.nsIn K mainGlobals p.1) (some (some (.ref (He.ga K p.1))))) && p.2.all fun q => atB K (He.ga K p.1) (keyS q.1) q.2)
def obsS (fa : List He.Fa) (fn : List He.DefD) (kds : Kds) (gcs : List (Str × D)) (ecl : Ecl) (K : PySem.W.Frag) : He.AlT × Bool := (He.obsT fa fn (tabS kds) K, moreB kds gcs ecl K)
def valS (fn : List He.DefD) (kds : Kds) (w : World) : He.AlT × Bool := (He.valT fn (tabS kds) w, true)
def obsSG (n : Nat) (fa : List He.Fa) (fn : List He.DefD) (kds : Kds) (gcs : List (Str × D)) (ecl : Ecl) (g : Addr → Option Obj) : He.AlT × Bool := obsS fa fn kds gcs ecl (He.frG g (He.asD g n))
def SaysS (fa : List He.Fa) (fn : List He.DefD) (kds : Kds) (gcs : List (Str × D)) (ecl : Ecl) (w : World) (K : PySem.W.Frag) : Prop := obsS fa fn kds gcs ecl K = valS fn kds w
def hookS (n : Nat) (fa : List He.Fa) (fn : List He.DefD) (kds : Kds) (gcs : List (Str × D)) (ecl : Ecl) : PySem.W.Hook where
  α := He.AlT × Bool
  obs := fun s => obsSG n fa fn kds gcs ecl s.heap.get?
  val := fun w => valS fn kds w
  says := fun w h => ∃ K : PySem.W.Frag, K.In h ∧ SaysS fa fn kds gcs ecl w K
  of := fun _ _ e => ⟨_, He.frG_in, e⟩
  keeps := fun _ _ _ ⟨K, hK, c⟩ k => ⟨K, PySem.W.Frag.In.keeps hK k, c⟩
theorem obsSG_eq {n : Nat} {fa : List He.Fa} {fn : List He.DefD} {kds : Kds} {gcs : List (Str × D)} {ecl : Ecl} {g : Addr → Option Obj} {s : Shared} (h : ∀ a, g a = s.heap.get? a) : obsSG n fa fn kds gcs ecl g = (hookS n fa fn kds gcs ecl).obs s := by
  have e : g = s.heap.get? := funext h
  rw [e] <;> rfl
section
variable {fa : List He.Fa} {fn : List He.DefD} {kds : Kds} {gcs : List (Str × D)} {ecl : Ecl} {w : World} {K : PySem.W.Frag}
theorem SaysS.t (c : SaysS fa fn kds gcs ecl w K) : He.SaysT fa fn (tabS kds) w K := congrArg (fun z : He.AlT × Bool => z.1) c
theorem SaysS.d (c : SaysS fa fn kds gcs ecl w K) : He.SaysD fa fn K := c.t.d
theorem SaysS.m (c : SaysS fa fn kds gcs ecl w K) : moreB kds gcs ecl K = true := congrArg (fun z : He.AlT × Bool => z.2) c
theorem SaysS.e (c : SaysS fa fn kds gcs ecl w K) : eclB K ecl = true := (Bool.and_eq_true_iff.mp (Bool.and_eq_true_iff.mp (Bool.and_eq_true_iff.mp c.m).1).1).1
theorem SaysS.nd (c : SaysS fa fn kds gcs ecl w K) : (kds.map fun p => He.ga K p.1).Nodup := of_decide_eq_true (Bool.and_eq_true_iff.mp (Bool.and_eq_true_iff.mp (Bool.and_eq_true_iff.mp c.m).1).1).2
theorem find_nd {kds : Kds} (h : (kds.map fun p => He.ga K p.1).Nodup) : ∀ {x : Str} {ps : List (List Nat × D)}, (x, ps) ∈ kds → kds.find? (fun p => He.ga K p.1 == He.ga K x) = some (x, ps) := by
  induction kds with
  | nil => intro x ps hx; cases hx
  | cons a r ih =>
    intro x ps hx
    rw [List.map_cons, List.nodup_cons] at h
    rcases List.mem_cons.mp hx with rfl | hx
    · rw [List.find?_cons_of_pos (by simp)]
    · rw [List.find?_cons_of_neg, ih h.2 hx]
      simp only [beq_iff_eq]
      intro e
      exact h.1 (List.mem_map.mpr ⟨(x, ps), hx, e.symm⟩)
theorem SaysS.fact (c : SaysS fa fn kds gcs ecl w K) (i : Nat) {f : He.Fa} (h : fa[i]? = some f := by rfl) : f.ok K = true := c.d.fact i h
theorem SaysS.def_ (c : SaysS fa fn kds gcs ecl w K) (i : Nat) {d : He.DefD} (h : fn[i]? = some d := by rfl) : ∃ fd, FunD K d.name d.qual d.params d.body d.scope (d.dvs K) (d.kws K) (He.fAd K d.at_) fd := c.d.def_ i h
theorem atB_ok {ct : CT} {a : Addr} {x : Str} {d : D} (h : atB K a x d = true) : ∃ u v, PySem.W.nsIn K a x = some (some u) ∧ RelV v u ∧ ∀ H, Den K ct H v d := by
  unfold atB at h
  split at h
  · rename_i u e
    obtain ⟨v, r, hv⟩ := gvB_ok (ct := ct) h
    exact ⟨u, v, e, r, hv⟩
  · cases h
theorem SaysS.gc {ct : CT} {h : Heap} {mg : Str → Option Value} (c : SaysS fa fn kds gcs ecl w K) (X : K.In h) (G : h.Ns mainGlobals mg) {x : Str} {d : D} (hx : (x, d) ∈ gcs) : ∃ u v, mg x = some u ∧ RelV v u ∧ ∀ H, Den K ct H v d := by
  have := List.all_eq_true.mp (Bool.and_eq_true_iff.mp (Bool.and_eq_true_iff.mp c.m).1).2 _ hx
  obtain ⟨u, v, e, r, hv⟩ := atB_ok (ct := ct) this
  exact ⟨u, v, PySem.W.mg_of X G e, r, hv⟩
theorem SaysS.gd {h : Heap} {mg : Str → Option Value} (c : SaysS fa fn kds gcs ecl w K) (X : K.In h) (G : h.Ns mainGlobals mg) {x : Str} {ps : List (List Nat × D)} (hm : (x, ps) ∈ kds) : ∃ u v, mg x = some u ∧ RelV v u ∧ ∀ H, Den K (ctS K kds ecl) H v (.dic (kdD ps)) := by
  have hx := find_nd c.nd hm
  have := List.all_eq_true.mp (Bool.and_eq_true_iff.mp c.m).2 _ hm
  have e := He.eqO_ok (Bool.and_eq_true_iff.mp (Bool.and_eq_true_iff.mp this).1).2
  refine ⟨_, .ref (He.ga K x), PySem.W.mg_of X G e, rfl, fun H => .dW ?_⟩
  show (kds.find? fun p => He.ga K p.1 == He.ga K x).map (·.2) = some ps
  rw [hx]; rfl
theorem lookD_some {z : List Nat} {d : D} : ∀ {ps : List (List Nat × D)}, lookD (.str z) (kdD ps) = some d → (z, d) ∈ ps
  | [], h => by cases h
  | p :: ps, h => by
    have h : (if eqD (.str p.1) (.str z) then some p.2 else lookD (.str z) (kdD ps)) = some d := h
    split at h
    · rename_i e
      have e : p.1 = z := by simpa [eqD] using e
      cases h
      rw [← e]
      simp
    · exact List.mem_cons_of_mem _ (lookD_some h)
theorem lookD_none {z : List Nat} : ∀ {ps : List (List Nat × D)}, lookD (.str z) (kdD ps) = none → ∀ q ∈ ps, q.1 ≠ z
  | [], h, q, hq => by cases hq
  | p :: ps, h, q, hq => by
    have h : (if eqD (.str p.1) (.str z) then some p.2 else lookD (.str z) (kdD ps)) = none := h
    split at h
    · cases h
    · rename_i e
      rcases List.mem_cons.mp hq with rfl | hq
      · intro z
        exact e (by simp [eqD, z])
      · exact lookD_none h q hq
theorem ns_none {a : Addr} {es : Array DictEntry} {n : Nat} (D : KDict K w a es n) {ks : List Str} (h : He.dicW K a = some (He.keysIn w.params ks)) {x : Str} (hx : x ∉ ks) : PySem.W.nsIn K a x = some none := by
  have h2 : es.toList.map He.keyOf = He.keysIn w.params ks := by
    unfold He.dicW at h
    rw [D.at_] at h
    simp only at h
    split at h
    · exact Option.some.inj h
    · cases h
  unfold PySem.W.nsIn
  rw [D.at_]
  simp only
  have hall := D.lit.all
  have e1 : es.toList.find? (·.key.isStr x) = none := by
    rw [List.find?_eq_none]
    intro e he q
    obtain ⟨y, t, hk, hh⟩ := hall e he
    rw [hk] at q
    have q : y = x := by simpa [Value.isStr] using q
    subst q
    have : He.keyOf e ∈ es.toList.map He.keyOf := List.mem_map_of_mem he
    rw [h2] at this
    obtain ⟨k, hk1, hk2⟩ := List.mem_map.mp this
    unfold He.keyOf at hk2
    rw [hk] at hk2
    have hk3 := (Prod.mk.inj (Option.some.inj hk2)).1
    exact hx (hk3 ▸ hk1)
  rw [e1]
  simp only
  rw [if_neg]
  intro q
  obtain ⟨e, he, hq⟩ := List.any_eq_true.mp q
  obtain ⟨y, t, hk, hh⟩ := hall e he
  simp [DictEntry.refKey, hk] at hq
theorem kdS (c : SaysS fa fn kds gcs ecl w K) : KdOk K w (ctS K kds ecl) := by
  intro a ps h
  obtain ⟨⟨x, ps2⟩, hf, e⟩ := Option.map_eq_some_iff.mp (show (kds.find? fun p => He.ga K p.1 == a).map (·.2) = some ps from h)
  have e : ps2 = ps := e
  rw [e] at hf
  have hm : (x, ps) ∈ kds := List.mem_of_find?_eq_some hf
  have ha : He.ga K x = a := by
    have := List.find?_some hf
    exact beq_iff_eq.mp this
  subst ha
  have hb := List.all_eq_true.mp (Bool.and_eq_true_iff.mp c.m).2 _ hm
  obtain ⟨hb1, hb2⟩ := Bool.and_eq_true_iff.mp hb
  have hne : ps ≠ [] := by
    have := (Bool.and_eq_true_iff.mp hb1).1
    intro z
    subst z
    simp at this
  obtain ⟨i, hi, hg⟩ := List.getElem_of_mem hm
  have ht : (tabS kds)[i]? = some (fun K => He.ga K x, ps.map fun q => keyS q.1) := by
    unfold tabS
    rw [List.getElem?_map, List.getElem?_eq_getElem hi, hg]
    rfl
  obtain ⟨es, n, kd⟩ := c.t.tab i ht
  have hd : He.dicW K (He.ga K x) = some (He.keysIn w.params (ps.map fun q => keyS q.1)) := by
    have e : (tabS kds).map (fun t => He.dicW K (t.1 K)) = (tabS kds).map fun t => some (He.keysIn w.params t.2) := congrArg (fun z : He.AlT => z.2) c.t
    have e2 : ((tabS kds).map fun t => He.dicW K (t.1 K))[i]? = ((tabS kds).map fun t => some (He.keysIn w.params t.2))[i]? := by rw [e]
    rw [List.getElem?_map, List.getElem?_map, ht] at e2
    exact Option.some.inj e2
  refine ⟨hne, ⟨es, n, kd⟩, fun z => ?_⟩
  cases q : lookD (.str z) (kdD ps) with
  | some d =>
    obtain ⟨u, v, e, r, hv⟩ := atB_ok (ct := ctS K kds ecl) (List.all_eq_true.mp hb2 _ (lookD_some q))
    exact ⟨some u, e, u, v, rfl, r, hv⟩
  | none =>
    refine ⟨none, ns_none kd hd fun hk => ?_, rfl⟩
    obtain ⟨p, hp, e⟩ := List.mem_map.mp hk
    have : p.1 = z := by
      have := congrArg (fun s : Str => s.cps.toList) e
      simpa [keyS] using this
    exact lookD_none q p hp this
end
end Tk
/-! What the reader of shapes reads; D.get(k, x) of a module's own dict. -/
namespace Tk
open PySem PySem.Spec PyProof.Rows L2
open D
/-- the sign at a place, nothing behind the end -/
def sgAt (t : List Nat) (n : Nat) : List Nat := (t.drop n).take 1
def isSg (c : Nat) : Bool := c == 48 || c == 49 || c == 97 || c == 98
def wordOf (c : List Nat) : List Nat := if c == [32] then [116, 104, 101, 110] else if c == [124] then [111, 114] else if c == [38] then [97, 110, 100] else []
/-- the shape that is read from a place on, no deeper than told, and the place behind it -/
def rdS (t : List Nat) : Nat → Nat → Option (D × Nat)
  | 0, _ => none
  | l + 1, n => match sgAt t n with
    | [] => none
    | c :: _ =>
      if isSg c then some (.tup [.str [115, 105, 103, 110, 115], .str [c]], n + 1)
      else if c = 33 then (rdS t l (n + 1)).map fun p => (.tup [.str [110, 111, 116], p.1], p.2)
      else if c = 42 then (rdS t l (n + 1)).map fun p => (.tup [.str [109, 97, 110, 121], p.1], p.2)
      else if c = 123 then (if sgAt t (n + 1) = [125] then some (.tup [.str [110, 111, 110, 101]], n + 2) else none)
      else if c = 91 then
        (let w := (t.drop (n + 1)).takeWhile isSg
         if sgAt t (n + 1 + w.length) = [93] then some (.tup [.str [115, 105, 103, 110, 115], .str w], n + 1 + w.length + 1) else none)
      else if c ≠ 40 then none
      else if sgAt t (n + 1) = [41] then some (.tup [.str [101, 109, 112, 116, 121]], n + 2)
      else match rdS t l (n + 1) with
        | none => none
        | some (d1, m) => match rdS t l (m + 1) with
          | none => none
          | some (d2, m2) => if sgAt t m2 = [41] then some (.tup [.str (wordOf (sgAt t m)), d1, d2], m2 + 1) else none
/-- read(text): kI, kW the numbers of is_shape and written, kE that of the error -/
def readX (kI kW kE : Nat) (L : Nat) (Φ : Nat → List D → Res D) (ds : List D) : Res D := match ds with
  | [.str t] => if L < 20 ∨ ¬ t.length ≤ 100000 then .bad else
    (match rdS t 15 0 with
      | none => .exc kE
      | some (d, m) => if m ≠ t.length then .exc kE else
        (Φ kI [d]).bind fun b => (asBl b).bind fun k => if k then
          (Φ kW [d]).bind fun u => (cmpD .ne u (.str t)).bind fun r => (asBl r).bind fun q => if q then .exc kE else .ok d
        else .exc kE)
  | _ => .bad
section
variable {X : Cx} {d : Addr} {es : Array DictEntry} {n : Nat} {o e f : Expr} {ty : TE} {z0 : V} {apos cpos : Pos}
theorem pe_kget2 (D : KDict X.K X.w d es n) (ho : PE X o (tC (.ref d))) (he : PE X e ty) (hf : PE X f (tC z0)) (m : M2 X o "get" apos e f cpos) :
    PE X (.Call (.Attribute o "get" apos) [e, f] [] cpos) (fun σ H Q => ty σ H fun y H2 => ∃ z r, y = .str z ∧ PySem.W.nsIn X.K d z = some r ∧ (match r with | some u => ∃ v, RelV v u ∧ Q v H2 | none => Q z0 H2)) := by
  refine ⟨fun pins s σ H Q I h => ?_⟩
  have g0 := ho.run pins s σ H (fun x H1 => x = .ref d ∧ H1 = H) I ⟨rfl, rfl⟩
  refine wpAny_Call_method m.base m.few m.line PySem.F.plainAttrs_dict PySem.F.slot_dict_get PySem.F.type_dict_get (thn g0 fun u s1 ⟨x, H1, I1, rx, ex, eH⟩ => ?_)
  subst ex
  subst eH
  cases rx
  have hty := kd_type D I1
  refine ⟨hty, fun a ea => ?_, ?_⟩
  · cases ea
    obtain ⟨ob, h1, h2⟩ := hty
    have := I1.kIn _ _ D.at_
    exact ⟨_, this, rfl⟩
  rw [m.trees]
  refine wpAny_dict_get2 (knd := strKind X.prog X.w) D.low (thn (he.run pins s1 σ H1 _ I1 h) fun iv s2 ⟨y, H2, I2, ry, z, r, ey, en, q⟩ => thn (hf.run pins s2 σ H2 (fun x H3 => x = z0 ∧ H3 = H2) I2 ⟨rfl, rfl⟩) fun fv s3 ⟨x3, H3, I3, r3, e3, e4⟩ => ?_)
  subst ey e3 e4
  obtain ⟨t, rfl⟩ := ry
  refine ⟨z, _, PySem.strKind_is X.prog X.w z t, PySem.W.mapOf_K (prog := X.prog) I3.kIn D.at_ D.lit, ?_⟩
  rw [PySem.W.find_K D.at_ en]
  cases r with
  | some u =>
    obtain ⟨v, rv, qv⟩ := q
    exact ⟨v, H3, I3.tok _, rv, qv⟩
  | none => exact ⟨x3, H3, I3.tok _, r3, q⟩
end
/-! ### a sign among the signs -/
theorem found_sg (c : Nat) : (!(Builtin.Str.occurrences ⟨#[48, 49, 97, 98]⟩ ⟨#[c]⟩ 0 4 1).isEmpty) = isSg c := by
  have h := PySem.StrLaws.found_one ⟨#[48, 49, 97, 98]⟩ c
  have e : (⟨#[48, 49, 97, 98]⟩ : Str).length = 4 := rfl
  rw [e] at h
  rw [h]
  unfold isSg
  by_cases h1 : c = 48 <;> by_cases h2 : c = 49 <;> by_cases h3 : c = 97 <;> by_cases h4 : c = 98 <;> simp [h1, h2, h3, h4]
theorem found_nil : (!(Builtin.Str.occurrences ⟨#[48, 49, 97, 98]⟩ ⟨#[]⟩ 0 4 1).isEmpty) = true := by decide +kernel
/-! ### the reader's fields -/
theorem tp_ : ¬ (("text" : Str) = "place") := by decide +kernel
theorem pt_ : ¬ (("place" : Str) = "text") := by decide +kernel
def rf (t : Str) (n : Int) : List (Str × V) := putF "place" (.int n) (putF "text" (.str t) [])
theorem rf_text (t : Str) (n : Int) : (rf t n).lookup ("text" : Str) = some (.str t) := by
  unfold rf
  rw [lookup_putF, if_neg tp_, lookup_putF, if_pos rfl]
theorem rf_place (t : Str) (n : Int) : (rf t n).lookup ("place" : Str) = some (.int n) := by
  unfold rf
  rw [lookup_putF, if_pos rfl]
theorem rf_no (t : Str) (n : Int) {m : Str} (h1 : ¬ m = "place") (h2 : ¬ m = "text") : (rf t n).lookup m = none := by
  unfold rf
  rw [lookup_putF, if_neg h1, lookup_putF, if_neg h2]
  rfl
theorem rf_eq (t : Str) (n : Int) : rf t n = ([("text", V.str t), ("place", V.int n)] : List (Str × V)) := by
  show (if ("text" : Str) = "place" then [(("text" : Str), V.int n)] else (("text" : Str), V.str t) :: putF "place" (V.int n) []) = _
  rw [if_neg tp_]
  rfl
theorem rf_put (t : Str) (n m : Int) : putF "place" (.int m) (rf t n) = rf t m := by
  rw [rf_eq, rf_eq]
  show (if ("text" : Str) = "place" then _ else (("text" : Str), V.str t) :: (if ("place" : Str) = "place" then [(("place" : Str), V.int m)] else _)) = _
  rw [if_neg tp_, if_pos rfl]
theorem rf_len (t : Str) (n : Int) : (rf t n).length < 1000 := by rw [rf_eq]; show 2 < 1000; decide
end Tk
namespace Tk
open PySem PySem.Spec PyProof.Rows L2
open D
def f_is_text_c1 : SE := .lc [1] true (.of (.var 0)) [] (.cmp .isin (.var 1) (.con (.str [48, 49, 97, 98])))
def f_is_text : Fn := ⟨1, 2, [
    .ret (.an (.bi (.isi 0) [.var 0]) (.bi .all [f_is_text_c1]))], none⟩
def f_are_signs_c1 : SE := .lc [1, 2] false (.zip (.var 0) (.sl (.var 0) (some (.con (.int 1))) none)) [] (.cmp .lt (.var 1) (.var 2))
def f_are_signs : Fn := ⟨1, 3, [
    .ifs (.orr (.nt (.call 0 [.var 0])) (.cmp .eq (.var 0) (.con (.str [])))) [.ret (.con (.bl false))] [],
    .ret (.bi .all [f_are_signs_c1])], none⟩
def f_left_of_b1 : List SS := [.asg 1 (.call 2 [.var 2, .var 1])]
def f_left_of : Fn := ⟨2, 3, [
    .ifs (.orr (.cmp .le (.var 1) (.con (.int 0))) (.orr (.nt (.bi (.isi 3) [.var 0])) (.orr (.cmp .eq (.bi .len [.var 0]) (.con (.int 0))) (.nt (.bi (.isi 0) [.ix (.var 0) (.con (.int 0))]))))) [.ret (.neg (.con (.int 1)))] [],
    .ifs (.cmp .isin (.ix (.var 0) (.con (.int 0))) (.tup [.con (.str [110, 111, 110, 101]), .con (.str [101, 109, 112, 116, 121])])) [.ret (.ite (.cmp .eq (.bi .len [.var 0]) (.con (.int 1))) (.bin .sub (.var 1) (.con (.int 1))) (.neg (.con (.int 1))))] [],
    .ifs (.cmp .eq (.ix (.var 0) (.con (.int 0))) (.con (.str [115, 105, 103, 110, 115]))) [.ret (.ite (.an (.cmp .eq (.bi .len [.var 0]) (.con (.int 2))) (.call 1 [.ix (.var 0) (.con (.int 1))])) (.bin .sub (.var 1) (.con (.int 1))) (.neg (.con (.int 1))))] [],
    .ifs (.orr (.cmp .notin (.ix (.var 0) (.con (.int 0))) (.con (.dic (kdD [([110, 111, 116], .int 1), ([109, 97, 110, 121], .int 1), ([116, 104, 101, 110], .int 2), ([111, 114], .int 2), ([97, 110, 100], .int 2)])))) (.cmp .ne (.bi .len [.var 0]) (.bin .add (.con (.int 1)) (.ix (.con (.dic (kdD [([110, 111, 116], .int 1), ([109, 97, 110, 121], .int 1), ([116, 104, 101, 110], .int 2), ([111, 114], .int 2), ([97, 110, 100], .int 2)]))) (.ix (.var 0) (.con (.int 0))))))) [.ret (.neg (.con (.int 1)))] [],
    .asg 1 (.bin .sub (.var 1) (.con (.int 1))),
    .forr [2] true (.of (.sl (.var 0) (some (.con (.int 1))) none)) f_left_of_b1,
    .ret (.var 1)], none⟩
def f_is_shape : Fn := ⟨1, 1, [
    .ret (.cmp .ge (.call 2 [.var 0, .con (.int 15)]) (.con (.int 0)))], none⟩
def f__law_cell : Fn := ⟨2, 2, [
    .ifs (.cmp .eq (.var 0) (.lst [])) [.ret (.bin .mul (.con (.int 7)) (.var 1))] [],
    .ret (.bin .add (.ix (.var 0) (.bin .mod (.var 1) (.bi .len [.var 0]))) (.bin .mul (.con (.int 6553)) (.bin .fdiv (.var 1) (.bi .len [.var 0]))))], none⟩
def f__law_drawn : Fn := ⟨3, 4, [
    .asg 3 (.bin .mod (.bin .add (.bin .mul (.bin .mod (.call 4 [.var 0, .var 1]) (.con (.int 2147483563))) (.con (.int 69069))) (.bin .mul (.con (.int 104723)) (.bin .add (.var 1) (.con (.int 1))))) (.con (.int 2147483563))),
    .asg 3 (.bin .mod (.bin .add (.bin .mul (.var 3) (.var 3)) (.bin .fdiv (.var 3) (.con (.int 3)))) (.con (.int 2147483399))),
    .ret (.bin .mod (.bin .fdiv (.bin .mod (.bin .add (.bin .mul (.var 3) (.var 3)) (.bin .fdiv (.var 3) (.con (.int 7)))) (.con (.int 2147483647))) (.con (.int 11))) (.var 2))], none⟩
def f_written : Fn := ⟨1, 2, [
    .asg 1 (.ix (.var 0) (.con (.int 0))),
    .ifs (.cmp .eq (.var 1) (.con (.str [110, 111, 110, 101]))) [.ret (.con (.str [123, 125]))] [],
    .ifs (.cmp .eq (.var 1) (.con (.str [101, 109, 112, 116, 121]))) [.ret (.con (.str [40, 41]))] [],
    .ifs (.cmp .eq (.var 1) (.con (.str [115, 105, 103, 110, 115]))) [.ret (.ite (.cmp .eq (.bi .len [.ix (.var 0) (.con (.int 1))]) (.con (.int 1))) (.ix (.var 0) (.con (.int 1))) (.bin .add (.bin .add (.con (.str [91])) (.ix (.var 0) (.con (.int 1)))) (.con (.str [93]))))] [],
    .ifs (.cmp .eq (.var 1) (.con (.str [110, 111, 116]))) [.ret (.bin .add (.con (.str [33])) (.call 190 [.ix (.var 0) (.con (.int 1))]))] [],
    .ifs (.cmp .eq (.var 1) (.con (.str [109, 97, 110, 121]))) [.ret (.bin .add (.con (.str [42])) (.call 190 [.ix (.var 0) (.con (.int 1))]))] [],
    .ret (.bin .add (.bin .add (.bin .add (.bin .add (.con (.str [40])) (.call 190 [.ix (.var 0) (.con (.int 1))])) (.ix (.con (.dic (kdD [([116, 104, 101, 110], .str [32]), ([111, 114], .str [124]), ([97, 110, 100], .str [38])]))) (.var 1))) (.call 190 [.ix (.var 0) (.con (.int 2))])) (.con (.str [41])))], none⟩
def f_read : Fn := ⟨1, 1, [], some (readX 3 190 7)⟩
def f__law_shape_2_c1 : SE := .lc [5, 6] false (.enm (.con (.str [48, 49, 97, 98]))) [.cmp .eq (.call 5 [.var 0, .bin .add (.bin .add (.var 1) (.con (.int 1))) (.var 5), .con (.int 2)]) (.con (.int 0))] (.var 6)
def f__law_shape_2 : Fn := ⟨3, 9, [
    .asg 3 (.call 5 [.var 0, .var 1, .con (.int 9)]),
    .ifs (.orr (.cmp .eq (.var 2) (.con (.int 0))) (.cmp .lt (.var 3) (.con (.int 2)))) [.asg 4 (.me .join (.con (.str [])) [f__law_shape_2_c1]), .asg 7 (.tup [.con (.str [115, 105, 103, 110, 115]), .var 4]), .ifs (.cmp .eq (.var 4) (.con (.str []))) [.asg 7 (.ix (.lst [.tup [.con (.str [110, 111, 110, 101])], .tup [.con (.str [101, 109, 112, 116, 121])], .tup [.con (.str [115, 105, 103, 110, 115]), .con (.str [97])], .tup [.con (.str [101, 109, 112, 116, 121])]]) (.call 5 [.var 0, .bin .add (.var 1) (.con (.int 5)), .con (.int 4)]))] [], .ret (.var 7)] [],
    .asg 8 (.call 195 [.var 0, .bin .add (.bin .mul (.var 1) (.con (.int 2))) (.con (.int 11)), .bin .sub (.var 2) (.con (.int 1))]),
    .ifs (.cmp .lt (.var 3) (.con (.int 4))) [.ret (.tup [.ix (.lst [.con (.str [110, 111, 116]), .con (.str [109, 97, 110, 121])]) (.bin .sub (.var 3) (.con (.int 2))), .var 8])] [],
    .ret (.tup [.ix (.lst [.con (.str [116, 104, 101, 110]), .con (.str [111, 114]), .con (.str [97, 110, 100]), .con (.str [116, 104, 101, 110]), .con (.str [111, 114])]) (.bin .sub (.var 3) (.con (.int 4))), .var 8, .call 195 [.var 0, .bin .add (.bin .mul (.var 1) (.con (.int 2))) (.con (.int 31)), .bin .sub (.var 2) (.con (.int 1))]])], none⟩
def f__law_at_b1 : List SS := [.ifs (.cmp .eq (.sl (.var 0) (some (.var 1)) (some (.bin .add (.bin .add (.var 1) (.bi .len [.var 3])) (.con (.int 2))))) (.bin .add (.bin .add (.con (.str [91])) (.var 3)) (.con (.str [93])))) [.ret (.tup [.tup [.con (.str [115, 105, 103, 110, 115]), .var 3], .con (.int 1), .bin .add (.bin .add (.var 1) (.bi .len [.var 3])) (.con (.int 2))])] []]
def f__law_at : Fn := ⟨2, 7, [
    .asg 2 (.sl (.var 0) (some (.var 1)) (some (.bin .add (.var 1) (.con (.int 1))))),
    .ifs (.an (.cmp .ne (.var 2) (.con (.str []))) (.cmp .isin (.var 2) (.con (.str [48, 49, 97, 98])))) [.ret (.tup [.tup [.con (.str [115, 105, 103, 110, 115]), .var 2], .con (.int 1), .bin .add (.var 1) (.con (.int 1))])] [],
    .ifs (.cmp .eq (.sl (.var 0) (some (.var 1)) (some (.bin .add (.var 1) (.con (.int 2))))) (.bin .add (.con (.str [123])) (.con (.str [125])))) [.ret (.tup [.tup [.con (.str [110, 111, 110, 101])], .con (.int 1), .bin .add (.var 1) (.con (.int 2))])] [],
    .ifs (.cmp .eq (.sl (.var 0) (some (.var 1)) (some (.bin .add (.var 1) (.con (.int 2))))) (.con (.str [40, 41]))) [.ret (.tup [.tup [.con (.str [101, 109, 112, 116, 121])], .con (.int 1), .bin .add (.var 1) (.con (.int 2))])] [],
    .ifs (.cmp .eq (.var 2) (.con (.str [91]))) [.forr [3] true (.of (.tup [.con (.str [48, 49]), .con (.str [48, 97]), .con (.str [48, 98]), .con (.str [49, 97]), .con (.str [49, 98]), .con (.str [97, 98]), .con (.str [48, 49, 97]), .con (.str [48, 49, 98]), .con (.str [48, 97, 98]), .con (.str [49, 97, 98]), .con (.str [48, 49, 97, 98])])) f__law_at_b1, .ret (.con (.non))] [],
    .ifs (.cmp .isin (.var 2) (.tup [.con (.str [33]), .con (.str [42]), .con (.str [40])])) [.asg 4 (.call 196 [.var 0, .bin .add (.var 1) (.con (.int 1))]), .ifs (.cmp .isN (.var 4) (.con (.non))) [.ret (.con (.non))] [], .ifs (.cmp .ne (.var 2) (.con (.str [40]))) [.ret (.tup [.tup [.ix (.con (.dic [(.str [33], .str [110, 111, 116]), (.str [42], .str [109, 97, 110, 121])])) (.var 2), .ix (.var 4) (.con (.int 0))], .bin .add (.ix (.var 4) (.con (.int 1))) (.con (.int 1)), .ix (.var 4) (.con (.int 2))])] [], .asg 5 (.me .get1 (.con (.dic [(.str [32], .str [116, 104, 101, 110]), (.str [124], .str [111, 114]), (.str [38], .str [97, 110, 100])])) [.sl (.var 0) (some (.ix (.var 4) (.con (.int 2)))) (some (.bin .add (.ix (.var 4) (.con (.int 2))) (.con (.int 1))))]), .asg 6 (.ite (.cmp .isN (.var 5) (.con (.non))) (.con (.non)) (.call 196 [.var 0, .bin .add (.ix (.var 4) (.con (.int 2))) (.con (.int 1))])), .ifs (.orr (.cmp .isN (.var 6) (.con (.non))) (.cmp .ne (.sl (.var 0) (some (.ix (.var 6) (.con (.int 2)))) (some (.bin .add (.ix (.var 6) (.con (.int 2))) (.con (.int 1))))) (.con (.str [41])))) [.ret (.con (.non))] [], .ret (.tup [.tup [.var 5, .ix (.var 4) (.con (.int 0)), .ix (.var 6) (.con (.int 0))], .bin .add (.bin .add (.ix (.var 4) (.con (.int 1))) (.ix (.var 6) (.con (.int 1)))) (.con (.int 1)), .bin .add (.ix (.var 6) (.con (.int 2))) (.con (.int 1))])] [],
    .ret (.con (.non))], none⟩
def f__law_told_8 : Fn := ⟨1, 3, [
    .tryS [.ret (.call 191 [.var 0])] [0, 1, 3, 7] (some 1) [.asgF 2 (.lst [.isx [7], .isx [1], .isx [3]]), .ifs (.an (.isx [0, 1, 3, 7]) (.cmp .eq (.var 2) (.lst [.con (.bl true), .con (.bl false), .con (.bl false)]))) [.ret (.con (.non))] []],
    .ret (.con (.bl false))], none⟩
def f_law_40_b1 : List SS := [.asg 6 (.call 196 [.var 5, .con (.int 0)]), .ifs (.an (.cmp .notN (.var 6) (.con (.non))) (.orr (.cmp .gt (.ix (.var 6) (.con (.int 1))) (.con (.int 15))) (.cmp .ne (.ix (.var 6) (.con (.int 2))) (.bi .len [.var 5])))) [.asg 6 (.con (.non))] [], .asg 7 (.call 197 [.var 5]), .ifs (.orr (.cmp .ne (.var 7) (.ite (.cmp .isN (.var 6) (.con (.non))) (.con (.non)) (.ix (.var 6) (.con (.int 0))))) (.an (.cmp .notN (.var 7) (.con (.non))) (.cmp .ne (.call 190 [.var 7]) (.var 5)))) [.ret (.con (.bl false))] []]
def f_law_40 : Fn := ⟨1, 8, [
    .asg 1 (.call 190 [.call 195 [.var 0, .con (.int 1), .con (.int 2)]]),
    .asg 2 (.call 5 [.var 0, .con (.int 200), .bin .add (.bi .len [.var 1]) (.con (.int 1))]),
    .asg 3 (.ix (.con (.str [48, 49, 97, 98, 40, 41, 91, 93, 33, 42, 124, 38, 32, 123, 125, 120])) (.call 5 [.var 0, .con (.int 201), .con (.int 16)])),
    .asgF 4 (.lst [.bin .add (.bin .add (.sl (.var 1) none (some (.var 2))) (.var 3)) (.sl (.var 1) (some (.var 2)) none), .bin .add (.sl (.var 1) none (some (.var 2))) (.sl (.var 1) (some (.bin .add (.var 2) (.con (.int 1)))) none), .bin .add (.bin .add (.sl (.var 1) none (some (.var 2))) (.var 3)) (.sl (.var 1) (some (.bin .add (.var 2) (.con (.int 1)))) none)]),
    .app 4 (.bin .add (.bin .add (.bin .add (.bin .add (.con (.str [40])) (.var 1)) (.con (.str [124]))) (.var 1)) (.con (.str [41]))),
    .app 4 (.ix (.lst [.con (.str []), .bin .add (.bin .mul (.con (.str [33])) (.con (.int 16))) (.con (.str [97])), .bin .add (.bin .mul (.con (.str [33])) (.con (.int 14))) (.con (.str [97])), .bin .add (.bin .mul (.con (.str [33])) (.con (.int 15))) (.con (.str [97])), .con (.str [91, 93]), .con (.str [40, 97, 32, 98])]) (.bin .mod (.var 2) (.con (.int 6)))),
    .forr [5] true (.of (.bin .add (.var 4) (.lst [.var 1]))) f_law_40_b1,
    .ret (.con (.bl true))], none⟩
def tabL : List (Nat × Fn) := [(0, f_is_text), (1, f_are_signs), (2, f_left_of), (3, f_is_shape), (4, f__law_cell), (5, f__law_drawn), (190, f_written), (191, f_read), (195, f__law_shape_2), (196, f__law_at), (197, f__law_told_8), (198, f_law_40)]
def tab (k : Nat) : Option Fn := tabL.lookup k
end Tk
namespace Tk
open PySem PySem.Spec PyProof.Rows L2
open D
/-! ### the row -/
def topS (i : Nat) : Stmt := PySem.Challenge.pw_textkinds_k81_whole_read.main.body.getD i (.Pass ⟨0, 0, 0, 0⟩)
def ce : CE where
  N := []
  gc := [("MOST_PARTS", .int 15), ("SIGNS", .str [48, 49, 97, 98]), ("MIDDLES", .dic (kdD [([116, 104, 101, 110], .str [32]), ([111, 114], .str [124]), ([97, 110, 100], .str [38])])), ("SINGLES", .dic (kdD [([110, 111, 116], .int 1), ([109, 97, 110, 121], .int 1), ([116, 104, 101, 110], .int 2), ([111, 114], .int 2), ([97, 110, 100], .int 2)])), ("WORDS", .dic (kdD [([32], .str [116, 104, 101, 110]), ([124], .str [111, 114]), ([38], .str [97, 110, 100])]))]
  fn := [("_law_at", (196, 2)),
    ("_law_cell", (4, 2)),
    ("_law_drawn", (5, 3)),
    ("_law_shape", (195, 3)),
    ("is_text", (0, 1)),
    ("are_signs", (1, 1)),
    ("left_of", (2, 2)),
    ("is_shape", (3, 1)),
    ("written", (190, 1)),
    ("read", (191, 1)),
    ("_law_told", (197, 1)),
    ("law", (198, 1))]
  free := ["ValueError", "all", "enumerate", "isinstance", "len", "str", "tuple", "zip"]
  ecl := [("KindError", (0, [0, 1, 3, 7])), ("NoSign", (1, [1])), ("NoGiven", (3, [3])), ("NoWriting", (7, [7]))]
def N0 : List Str := ["_law_text_here", "_law_place", "_law_sign", "_law_signs", "_law_one", "_law_word", "_law_other"]
theorem sc0 : FnScope N0 ["_law_text_here", "_law_place"] (defScope (topS 26)) := ⟨rfl, rfl, rfl, by decide +kernel, rfl, by decide +kernel, by decide +kernel⟩
theorem cv0 : cB { ce with N := N0 } (defScope (topS 26)) none 200 (defBody (topS 26)) = some f__law_at.body := by kernel_rfl
theorem fw0 : (flB (mutB f__law_at.body) f__law_at.body none []).isSome = true := by decide +kernel
def N1 : List Str := ["_law_script", "_law_k"]
theorem sc1 : FnScope N1 ["_law_script", "_law_k"] (defScope (topS 21)) := ⟨rfl, rfl, rfl, by decide +kernel, rfl, by decide +kernel, by decide +kernel⟩
theorem cv1 : cB { ce with N := N1 } (defScope (topS 21)) none 200 (defBody (topS 21)) = some f__law_cell.body := by kernel_rfl
theorem fw1 : (flB (mutB f__law_cell.body) f__law_cell.body none []).isSome = true := by decide +kernel
def N2 : List Str := ["_law_script", "_law_k", "_law_many", "_law_cell_here"]
theorem sc2 : FnScope N2 ["_law_script", "_law_k", "_law_many"] (defScope (topS 22)) := ⟨rfl, rfl, rfl, by decide +kernel, rfl, by decide +kernel, by decide +kernel⟩
theorem cv2 : cB { ce with N := N2 } (defScope (topS 22)) none 200 (defBody (topS 22)) = some f__law_drawn.body := by kernel_rfl
theorem fw2 : (flB (mutB f__law_drawn.body) f__law_drawn.body none []).isSome = true := by decide +kernel
def N3 : List Str := ["_law_script", "_law_at_here", "_law_deep", "_law_way", "_law_some", "_law_k", "_law_sign", "_law_leaf", "_law_one"]
theorem sc3 : FnScope N3 ["_law_script", "_law_at_here", "_law_deep"] (defScope (topS 25)) := ⟨rfl, rfl, rfl, by decide +kernel, rfl, by decide +kernel, by decide +kernel⟩
theorem cv3 : cB { ce with N := N3 } (defScope (topS 25)) none 200 (defBody (topS 25)) = some f__law_shape_2.body := by kernel_rfl
theorem fw3 : (flB (mutB f__law_shape_2.body) f__law_shape_2.body none []).isSome = true := by decide +kernel
def N4 : List Str := ["thing", "sign"]
theorem sc4 : FnScope N4 ["thing"] (defScope (topS 9)) := ⟨rfl, rfl, rfl, by decide +kernel, rfl, by decide +kernel, by decide +kernel⟩
theorem cv4 : cB { ce with N := N4 } (defScope (topS 9)) none 200 (defBody (topS 9)) = some f_is_text.body := by kernel_rfl
theorem fw4 : (flB (mutB f_is_text.body) f_is_text.body none []).isSome = true := by decide +kernel
def N5 : List Str := ["thing", "one", "other"]
theorem sc5 : FnScope N5 ["thing"] (defScope (topS 10)) := ⟨rfl, rfl, rfl, by decide +kernel, rfl, by decide +kernel, by decide +kernel⟩
theorem cv5 : cB { ce with N := N5 } (defScope (topS 10)) none 200 (defBody (topS 10)) = some f_are_signs.body := by kernel_rfl
theorem fw5 : (flB (mutB f_are_signs.body) f_are_signs.body none []).isSome = true := by decide +kernel
def N6 : List Str := ["thing", "left", "part"]
theorem sc6 : FnScope N6 ["thing", "left"] (defScope (topS 11)) := ⟨rfl, rfl, rfl, by decide +kernel, rfl, by decide +kernel, by decide +kernel⟩
theorem cv6 : cB { ce with N := N6 } (defScope (topS 11)) none 200 (defBody (topS 11)) = some f_left_of.body := by kernel_rfl
theorem fw6 : (flB (mutB f_left_of.body) f_left_of.body none []).isSome = true := by decide +kernel
def N7 : List Str := ["thing"]
theorem sc7 : FnScope N7 ["thing"] (defScope (topS 12)) := ⟨rfl, rfl, rfl, by decide +kernel, rfl, by decide +kernel, by decide +kernel⟩
theorem cv7 : cB { ce with N := N7 } (defScope (topS 12)) none 200 (defBody (topS 12)) = some f_is_shape.body := by kernel_rfl
theorem fw7 : (flB (mutB f_is_shape.body) f_is_shape.body none []).isSome = true := by decide +kernel
def N8 : List Str := ["shape", "word"]
theorem sc8 : FnScope N8 ["shape"] (defScope (topS 15)) := ⟨rfl, rfl, rfl, by decide +kernel, rfl, by decide +kernel, by decide +kernel⟩
theorem cv8 : cB { ce with N := N8 } (defScope (topS 15)) none 200 (defBody (topS 15)) = some f_written.body := by kernel_rfl
theorem fw8 : (flB (mutB f_written.body) f_written.body none []).isSome = true := by decide +kernel
def N10 : List Str := ["_law_text_here", "e", "_law_flags"]
theorem sc10 : FnScope N10 ["_law_text_here"] (defScope (topS 27)) := ⟨rfl, rfl, rfl, by decide +kernel, rfl, by decide +kernel, by decide +kernel⟩
theorem cv10 : cB { ce with N := N10 } (defScope (topS 27)) none 200 (defBody (topS 27)) = some f__law_told_8.body := by kernel_rfl
theorem fw10 : (flB (mutB f__law_told_8.body) f__law_told_8.body none []).isSome = true := by decide +kernel
def N11 : List Str := ["_law_script", "_law_text_here", "_law_at_here", "_law_sign", "_law_some", "_law_other", "_law_due", "_law_told_here"]
theorem sc11 : FnScope N11 ["_law_script"] (defScope (topS 28)) := ⟨rfl, rfl, rfl, by decide +kernel, rfl, by decide +kernel, by decide +kernel⟩
theorem cv11 : cB { ce with N := N11 } (defScope (topS 28)) none 200 (defBody (topS 28)) = some f_law_40.body := by kernel_rfl
theorem fw11 : (flB (mutB f_law_40.body) f_law_40.body none []).isSome = true := by decide +kernel
def fn : List He.DefD := [
  ⟨("_law_at", none), "_law_at", "_law_at", defArgs (topS 26), defBody (topS 26), defScope (topS 26), [], []⟩,
  ⟨("_law_cell", none), "_law_cell", "_law_cell", defArgs (topS 21), defBody (topS 21), defScope (topS 21), [], []⟩,
  ⟨("_law_drawn", none), "_law_drawn", "_law_drawn", defArgs (topS 22), defBody (topS 22), defScope (topS 22), [], []⟩,
  ⟨("_law_shape", none), "_law_shape", "_law_shape", defArgs (topS 25), defBody (topS 25), defScope (topS 25), [], []⟩,
  ⟨("is_text", none), "is_text", "is_text", defArgs (topS 9), defBody (topS 9), defScope (topS 9), [], []⟩,
  ⟨("are_signs", none), "are_signs", "are_signs", defArgs (topS 10), defBody (topS 10), defScope (topS 10), [], []⟩,
  ⟨("left_of", none), "left_of", "left_of", defArgs (topS 11), defBody (topS 11), defScope (topS 11), [], []⟩,
  ⟨("is_shape", none), "is_shape", "is_shape", defArgs (topS 12), defBody (topS 12), defScope (topS 12), [], []⟩,
  ⟨("written", none), "written", "written", defArgs (topS 15), defBody (topS 15), defScope (topS 15), [], []⟩,
  ⟨("read", none), "read", "read", defArgs (topS 19), defBody (topS 19), defScope (topS 19), [], []⟩,
  ⟨("_law_told", none), "_law_told", "_law_told", defArgs (topS 27), defBody (topS 27), defScope (topS 27), [], []⟩,
  ⟨("law", none), "law", "law", defArgs (topS 28), defBody (topS 28), defScope (topS 28), [], []⟩,
  ⟨("Reader", some "__init__"), "__init__", "Reader.__init__", defArgs (inClass (topS 18) 0), defBody (inClass (topS 18) 0), defScope (inClass (topS 18) 0), [], []⟩,
  ⟨("Reader", some "next_sign"), "next_sign", "Reader.next_sign", defArgs (inClass (topS 18) 1), defBody (inClass (topS 18) 1), defScope (inClass (topS 18) 1), [], []⟩,
  ⟨("Reader", some "shape"), "shape", "Reader.shape", defArgs (inClass (topS 18) 2), defBody (inClass (topS 18) 2), defScope (inClass (topS 18) 2), [], []⟩,
  ⟨("Reader", some "closed"), "closed", "Reader.closed", defArgs (inClass (topS 18) 3), defBody (inClass (topS 18) 3), defScope (inClass (topS 18) 3), [], []⟩]
def kds : Kds := [("MIDDLES", [([116, 104, 101, 110], .str [32]), ([111, 114], .str [124]), ([97, 110, 100], .str [38])]), ("SINGLES", [([110, 111, 116], .int 1), ([109, 97, 110, 121], .int 1), ([116, 104, 101, 110], .int 2), ([111, 114], .int 2), ([97, 110, 100], .int 2)]), ("WORDS", [([32], .str [116, 104, 101, 110]), ([124], .str [111, 114]), ([38], .str [97, 110, 100])])]
def gcs : List (Str × D) := [("MOST_PARTS", .int 15), ("SIGNS", .str [48, 49, 97, 98])]
def fa : List He.Fa := [.glo "_law_at", .glo "_law_cell", .glo "_law_drawn", .glo "_law_shape", .glo "is_text", .glo "are_signs", .glo "left_of", .glo "is_shape", .glo "written", .glo "read", .glo "_law_told", .glo "law", .free "ValueError", .free "all", .free "enumerate", .free "isinstance", .free "len", .free "str", .free "tuple", .free "zip", .glo "Reader", .cls "Reader", .noat "Reader" "text", .noat "Reader" "place", .meth "Reader" "next_sign", .meth "Reader" "shape", .meth "Reader" "closed", .mkr "Reader"]
abbrev R : PySem.W.OpenRow := PySem.W.OpenLaw.row PySem.Challenge.rw_textkinds_k81_whole_read
abbrev hk : PySem.W.Hook := hookS 5 fa fn kds gcs ce.ecl
def ob (s : PySem.W.SharedT) : He.AlT × Bool := obsSG 5 fa fn kds gcs ce.ecl (HandSHeadRun.getT s)
theorem ob_eq (s : PySem.W.SharedT) : ob s = hk.obs s.abs := obsSG_eq (HandSHeadRun.getT_eq s)
def loose : List Str := [("KindError" : Str), ("NoSign" : Str), ("NoGiven" : Str), ("NoWriting" : Str), ("SIGNS" : Str), ("MOST_PARTS" : Str), ("SINGLES" : Str), ("is_text" : Str), ("are_signs" : Str), ("left_of" : Str), ("is_shape" : Str), ("MIDDLES" : Str), ("written" : Str), ("WORDS" : Str), ("Reader" : Str), ("read" : Str), ("_law_cell" : Str), ("_law_drawn" : Str), ("_law_text" : Str), ("_law_texts" : Str), ("_law_shape" : Str), ("_law_at" : Str), ("_law_told" : Str), ("__name__" : Str)]
theorem runs0 (w : World) : HandSHeadRun.RunEq R (PySem.W.view R.prog [28]) hk ob 4000 loose (w.withFollow "special-get-raises" false) := by
  intro os
  kernel_rfl
theorem runs1 (w : World) : HandSHeadRun.RunEq R (PySem.W.view R.prog [28]) hk ob 4000 loose (w.withFollow "special-get-raises" true) := by
  intro os
  kernel_rfl
theorem runs (w : World) : HandSHeadRun.RunEq R (PySem.W.view R.prog [28]) hk ob 4000 loose w := PySem.W.byRow2 "special-get-raises" (P := fun w => HandSHeadRun.RunEq R (PySem.W.view R.prog [28]) hk ob 4000 loose w) runs0 runs1 w
theorem mods {w : World} {K : PySem.W.Frag} {mg : Str → Option Value} {h : Heap} (X : K.In h) (G : h.Ns mainGlobals mg) (c : SaysS fa fn kds gcs ce.ecl w K) : ModOk w K mg (ctS K kds ce.ecl) ce where
  kd := kdS c
  exc := eclB_ok X G c.e (by decide) rfl
  gc := fun x d hx => (show AllP (fun p : Str × D => ∃ u v, mg p.1 = some u ∧ RelV v u ∧ ∀ H, Den K (ctS K kds ce.ecl) H v p.2) ce.gc from ⟨c.gc X G (by simp [gcs]), c.gc X G (by simp [gcs]), c.gd X G (by simp [kds]), c.gd X G (by simp [kds]), c.gd X G (by simp [kds]), trivial⟩).mem (lookup_mem hx)
  free := fun x hx => (show AllP (fun p : Str => mg p = none) ce.free from ⟨He.free_ok X G (c.fact 12), He.free_ok X G (c.fact 13), He.free_ok X G (c.fact 14), He.free_ok X G (c.fact 15), He.free_ok X G (c.fact 16), He.free_ok X G (c.fact 17), He.free_ok X G (c.fact 18), He.free_ok X G (c.fact 19), trivial⟩).mem (List.contains_iff_mem.mp hx)
/-! ### the class Reader, walked by hand -/
abbrev rI : Stmt := inClass (topS 18) 0
abbrev rN : Stmt := inClass (topS 18) 1
abbrev rS : Stmt := inClass (topS 18) 2
abbrev rC : Stmt := inClass (topS 18) 3
abbrev rR : Stmt := topS 19
/-- what is known of the text around the class -/
structure RT (w : World) (K : PySem.W.Frag) (mg : Str → Option Value) (C E : Addr) : Prop where
  cl : Cls K C
  nT : NoAttr K C "text"
  nP : NoAttr K C "place"
  mgC : mg "Reader" = some (.ref C)
  len : mg "len" = none
  sg : ∃ tk, mg "SIGNS" = some (.str ⟨#[48, 49, 97, 98]⟩ tk)
  mp : ∃ tk, mg "MOST_PARTS" = some (.int 15 tk)
  wd : ∃ d es n, mg "WORDS" = some (.ref d) ∧ KDict K w d es n ∧ ∀ z : List Nat, ∃ r, PySem.W.nsIn K d ⟨z.toArray⟩ = some r ∧ (match r with | some u => ∃ v, RelV v u ∧ v = .str ⟨(wordOf z).toArray⟩ | none => wordOf z = [])
  ex : mg "NoWriting" = some (.ref E) ∧ PySem.W.excIn K E He.veBase "ValueError.__new__" = true ∧ PySem.W.keepIn K (.ref E) = true ∧ PySem.W.subIn K (.ref E) (.type "BaseException") = some true ∧ PySem.W.typeIn K (.ref E) = some (.type "type")
section
variable {P : Program} {w : World} {K : PySem.W.Frag} {mg : Str → Option Value} {base : Heap}
def spRI (C : Addr) : Sp := fun vs H Q _ => ∃ (p dx : Addr) (t : Str), vs = [.ref p, .str t] ∧ H p = some (.ins C dx []) ∧ Q .non (upd (upd H p (.ins C dx (putF "text" (.str t) []))) p (.ins C dx (rf t 0)))
theorem scRI : FnScope ["self", "text"] ["self", "text"] (defScope rI) := ⟨rfl, rfl, rfl, by decide +kernel, rfl, by decide +kernel, by decide +kernel⟩
theorem ok_rI {f C E0 : Addr} {fd : FuncData} (F : FunD K "__init__" "Reader.__init__" (defArgs rI) (defBody rI) (defScope rI) [] [] f fd) (T : RT w K mg C E0) : FnOk P w K mg base (L2.CX P w) 1 f fd ["self", "text"] (spRI C) := by
  refine F.ok scRI (fun vs H Q E h => ?_) fun cdv A outer s H vs Q E hr h => ?_
  · obtain ⟨p, dx, t, rfl, _⟩ := h
    rfl
  · obtain ⟨p, dx, t, rfl, hp, q⟩ := h
    refine ⟨_, pss_cons (ps_fld (pv 0) (pv 1) rfl) (pss_one (ps_fld (pv 0) pe_int rfl)), ?_⟩
    exact ⟨_, rfl, _, rfl, p, C, dx, [], rfl, hp, T.cl, T.nT, (by show 0 < 1000; decide), _, rfl, p, C, dx, _, rfl, upd_same, T.cl, T.nP, (by show 1 < 1000; decide), q⟩
def sgS (t : Str) (n : Nat) : Str := ⟨(sgAt t.cps.toList n).toArray⟩
theorem cut_sg (t : Str) (n : Nat) : cutS t (some (n : Int)) (some ((n : Int) + 1)) = sgS t n := by
  have hl : t.length = t.cps.toList.length := by simp [Str.length]
  have e1 : HT.sIx t.length 0 (some (n : Int)) = min n t.length := by
    unfold HT.sIx
    simp
    try omega
  have e2 : HT.sIx t.length t.length (some ((n : Int) + 1)) = min (n + 1) t.length := by
    unfold HT.sIx
    simp
    try omega
  unfold cutS sgS sgAt
  rw [e1, e2]
  congr 2
  by_cases h : n < t.length
  · rw [Nat.min_eq_left (by omega), Nat.min_eq_left (by omega), Nat.add_sub_cancel_left]
  · rw [Nat.min_eq_right (by omega), Nat.min_eq_right (by omega), Nat.sub_self, List.drop_of_length_le (l := t.cps.toList) (i := n) (by omega)]
    simp
def spRN (C : Addr) : Sp := fun vs H Q _ => ∃ (p dx : Addr) (t : Str) (n : Nat), vs = [.ref p] ∧ H p = some (.ins C dx (rf t n)) ∧ t.length ≤ 100000 ∧ Q (.str (sgS t n)) (upd H p (.ins C dx (rf t ((n + 1 : Nat) : Int))))
theorem scRN : FnScope ["self"] ["self"] (defScope rN) := ⟨rfl, rfl, rfl, by decide +kernel, rfl, by decide +kernel, by decide +kernel⟩
theorem ok_rN {f C E0 : Addr} {fd : FuncData} (F : FunD K "next_sign" "Reader.next_sign" (defArgs rN) (defBody rN) (defScope rN) [] [] f fd) (T : RT w K mg C E0) : FnOk P w K mg base (L2.CX P w) 1 f fd ["self"] (spRN C) := by
  refine F.ok scRN (fun vs H Q E h => ?_) fun cdv A outer s H vs Q E hr h => ?_
  · obtain ⟨p, dx, t, n, rfl, _⟩ := h
    rfl
  · obtain ⟨p, dx, t, n, rfl, hp, hl, q⟩ := h
    refine ⟨_, pss_cons (ps_fld (pv 0) (pe_op op_add (pe_fld (pv 0) rfl) pe_int) rfl) (pss_one (ps_ret (pe_slice sl_str (pe_fld (pv 0) rfl) (po_some (pe_op op_sub (pe_fld (pv 0) rfl) pe_int)) (po_some (pe_fld (pv 0) rfl))))), ?_⟩
    refine ⟨_, rfl, p, C, dx, _, _, rfl, hp, T.cl, T.nP, rf_place _ _, _, _, rfl, rfl, _, rfl, p, C, dx, _, rfl, hp, T.cl, T.nP, rf_len _ _, ?_⟩
    rw [rf_put]
    refine ⟨_, rfl, p, C, dx, _, _, rfl, upd_same, T.cl, T.nT, rf_text _ _, _, rfl, p, C, dx, _, _, rfl, upd_same, T.cl, T.nP, rf_place _ _, _, _, rfl, rfl, _, rfl, _, rfl, p, C, dx, _, _, rfl, upd_same, T.cl, T.nP, rf_place _ _, _, rfl, t, rfl, by rw [sizeLine_eq]; omega, ?_⟩
    have e : (n : Int) + 1 - 1 = (n : Int) := by omega
    rw [e, cut_sg]
    exact q
/-- raise NoWriting(..) -/
theorem ps_nw {X : Cx} {C E0 : Addr} {W : WX} {m : Str} {j : Nat} {p p2 pos pos' : Pos} (T : RT X.w X.K X.mg C E0) (hc : X.calm = true) (tk : Takes X W) (hg : Gl X "NoWriting") : PS X (.Raise (some (.Call (.Name "NoWriting" p) [.Constant (.str m) j p2] [] pos)) none pos') (fun _ σ H => W (.ref E0) none σ H) := by
  obtain ⟨x1, x2, x3, x4, x5⟩ := T.ex
  exact ps_raise hc tk (pmk_own PySem.F.excBase_ValueError x2 x1 x3 (raises_own x4 x5) hg)
def spRC (C E0 : Addr) : Sp := fun vs H Q E => ∃ (p dx : Addr) (t : Str) (n : Nat) (v : V) (c : Str), vs = [.ref p, v, .str c] ∧ H p = some (.ins C dx (rf t n)) ∧ t.length ≤ 100000 ∧ (if sgS t n = c then Q v (upd H p (.ins C dx (rf t ((n + 1 : Nat) : Int)))) else E (.ref E0) none (upd H p (.ins C dx (rf t ((n + 1 : Nat) : Int)))))
theorem scRC : FnScope ["self", "found", "sign"] ["self", "found", "sign"] (defScope rC) := ⟨rfl, rfl, rfl, by decide +kernel, rfl, by decide +kernel, by decide +kernel⟩
theorem ok_rC {f C E0 fN : Addr} {fd fdN : FuncData} (F : FunD K "closed" "Reader.closed" (defArgs rC) (defBody rC) (defScope rC) [] [] f fd) (T : RT w K mg C E0) (mN : Meth K C "next_sign" fN) (GN : FnOk P w K mg base (L2.CX P w) 1 fN fdN ["self"] (spRN C)) (bN : Binds K fdN ["self"] []) : FnOk P w K mg base (L2.CX P w) 2 f fd ["self", "found", "sign"] (spRC C E0) := by
  refine F.ok scRC (fun vs H Q E h => ?_) fun cdv A outer s H vs Q E hr h => ?_
  · obtain ⟨p, dx, t, n, v, c, rfl, _⟩ := h
    rfl
  · obtain ⟨p, dx, t, n, v, c, rfl, hp, hl, q⟩ := h
    have tk : Takes (cxOf (L2.CX P w) P w K mg base ["self", "found", "sign"] "Reader.closed" (defScope rC) f cdv A outer s H E) (fun cls d _ H => E cls d H) := takes_of rfl rfl rfl rfl
    refine ⟨_, pss_cons (ps_if (pt_cmpR op_ne (pe_meth0 (pv 0) T.cl mN GN hr bN .nil (passes_call tk fun _ _ _ _ h => h)) (pv 2) (nomark _)) (pss_one (ps_nw T rfl tk rfl)) pss_nil) (pss_one (ps_ret (pv 1))), ?_⟩
    refine ⟨_, rfl, p, dx, _, rfl, hp, rf_no _ _ (by decide +kernel) (by decide +kernel), p, dx, t, n, rfl, hp, hl, _, rfl, rfl, _, rfl, ?_⟩
    by_cases hc : sgS t n = c
    · rw [if_pos hc] at q
      have e : (!decide (V.str (sgS t n) = V.str c)) = false := by rw [hc]; simp
      rw [e]
      exact ⟨_, rfl, q⟩
    · rw [if_neg hc] at q
      have e : (!decide (V.str (sgS t n) = V.str c)) = true := by simp [hc]
      rw [e]
      exact q
/-- a reader stands at p, over the frozen heap Z -/
def StR (C p dx : Addr) (t : Str) (Z H : Hp) (n : Nat) : Prop := Same Z H ∧ Z p = none ∧ H p = some (.ins C dx (rf t (n : Int)))
theorem StR.step {C p dx : Addr} {t : Str} {Z H : Hp} {n : Nat} (h : StR C p dx t Z H n) (m : Nat) : StR C p dx t Z (upd H p (.ins C dx (rf t (m : Int)))) m := by
  obtain ⟨h1, h2, h3⟩ := h
  refine ⟨fun b o e => ?_, h2, upd_same⟩
  have nb : b ≠ p := fun z => by rw [z, h2] at e; cases e
  rw [upd_ne nb]
  exact h1 b o e
theorem StR.new {C p dx a : Addr} {t : Str} {Z H : Hp} {n : Nat} {o : HO} (h : StR C p dx t Z H n) (ha : H a = none) : StR C p dx t (upd Z a o) (upd H a o) n ∧ Same Z (upd Z a o) := by
  obtain ⟨h1, h2, h3⟩ := h
  have na : p ≠ a := fun z => by rw [← z, h3] at ha; cases ha
  refine ⟨⟨fun b u e => ?_, by rw [upd_ne na]; exact h2, by rw [upd_ne na]; exact h3⟩, same_upd (h1.free ha)⟩
  by_cases hb : b = a
  · subst hb
    rw [upd_same] at e
    rw [upd_same]
    exact e
  · rw [upd_ne hb] at e
    rw [upd_ne hb]
    exact h1 b u e
theorem it_pos {c A B : Prop} [Decidable c] (h : c) (a : A) : if c then A else B := by rw [if_pos h]; exact a
theorem it_neg {c A B : Prop} [Decidable c] (h : ¬ c) (b : B) : if c then A else B := by rw [if_neg h]; exact b
theorem lit_iff {x z : Str} {c k : Nat} (hx : x = ⟨#[c]⟩) (hz : z.cps.toList = [k]) : decide (V.str x = V.str z) = true ↔ c = k := by
  rw [decide_eq_true_iff]
  constructor
  · intro h
    injection h with h
    rw [hx] at h
    have h2 : [c] = z.cps.toList := congrArg (fun y : Str => y.cps.toList) h
    rw [hz] at h2
    injection h2
  · intro h
    subst h
    rw [hx]
    congr 1
    have e : z = ⟨z.cps.toList.toArray⟩ := by simp
    rw [e, hz]
theorem sg_one {t : List Nat} {n c : Nat} {r : List Nat} (h : sgAt t n = c :: r) : sgAt t n = [c] := by
  have hl : (sgAt t n).length ≤ 1 := by unfold sgAt; rw [List.length_take]; omega
  rw [h] at hl ⊢
  cases r with
  | nil => rfl
  | cons a r => simp at hl
theorem sg_drop (t : List Nat) (a k : Nat) : sgAt t (a + k) = ((t.drop a).drop k).take 1 := by
  unfold sgAt
  rw [List.drop_drop]
theorem tw_in {L : List Nat} {k : Nat} (h : k < (L.takeWhile isSg).length) : ∃ c, (L.drop k).take 1 = [c] ∧ isSg c = true ∧ (L.takeWhile isSg).take (k + 1) = (L.takeWhile isSg).take k ++ [c] := by
  have hp : (L.takeWhile isSg) <+: L := List.takeWhile_prefix _
  obtain ⟨r, hr⟩ := hp
  generalize hW : L.takeWhile isSg = W at h hr ⊢
  refine ⟨W[k], ?_, ?_, ?_⟩
  · rw [← hr, List.drop_append_of_le_length (by omega), List.drop_eq_getElem_cons h]
    rfl
  · have : ∀ x ∈ L.takeWhile isSg, isSg x = true := fun x hx => by
      have := List.all_takeWhile (p := isSg) (l := L)
      exact List.all_eq_true.mp this x hx
    exact this _ (by rw [hW]; exact List.getElem_mem h)
  · rw [List.take_succ, List.getElem?_eq_getElem h]
    rfl
theorem tw_out (L : List Nat) : (L.drop (L.takeWhile isSg).length).take 1 = [] ∨ ∃ c, (L.drop (L.takeWhile isSg).length).take 1 = [c] ∧ isSg c = false := by
  induction L with
  | nil => left; rfl
  | cons a L ih =>
    cases h : isSg a with
    | true =>
      rw [List.takeWhile_cons_of_pos h]
      simpa using ih
    | false =>
      right
      refine ⟨a, ?_, h⟩
      rw [List.takeWhile_cons_of_neg (by rw [h]; exact Bool.false_ne_true)]
      rfl
theorem str_app (a b : List Nat) : ((⟨a.toArray⟩ : Str) ++ (⟨b.toArray⟩ : Str)) = ⟨(a ++ b).toArray⟩ := by
  show (⟨a.toArray ++ b.toArray⟩ : Str) = _
  simp
def spRS (ct : CT) (K : PySem.W.Frag) (C E0 : Addr) (l : Nat) : Sp := fun vs H Q E => ∃ (p dx : Addr) (t : Str) (n : Nat) (Z : Hp), vs = [.ref p, .int (l : Int)] ∧ StR C p dx t Z H n ∧ t.length ≤ 100000 ∧ (match rdS t.cps.toList l n with
  | some (d, m) => ∀ v Z' H', Same Z Z' → StR C p dx t Z' H' m → Den K ct Z' v d → Q v H'
  | none => ∀ Z' H' m, Same Z Z' → StR C p dx t Z' H' m → E (.ref E0) none H')
theorem scRS : FnScope ["self", "left", "sign", "signs", "one", "word"] ["self", "left"] (defScope rS) := ⟨rfl, rfl, rfl, by decide +kernel, rfl, by decide +kernel, by decide +kernel⟩
theorem shape_step {ct : CT} {f C E0 fN fC : Addr} {fd fdN fdC : FuncData} (F : FunD K "shape" "Reader.shape" (defArgs rS) (defBody rS) (defScope rS) [] [] f fd) (bS : Binds K fd ["self", "left"] []) (mS : Meth K C "shape" f) (T : RT w K mg C E0) (mN : Meth K C "next_sign" fN) (GN : FnOk P w K mg base (L2.CX P w) 1 fN fdN ["self"] (spRN C)) (bN : Binds K fdN ["self"] [])
    (mC : Meth K C "closed" fC) (GC : FnOk P w K mg base (L2.CX P w) 2 fC fdC ["self", "found", "sign"] (spRC C E0)) (bC : Binds K fdC ["self", "found", "sign"] []) : ∀ l : Nat, (∃ sp, FnOk P w K mg base (L2.CX P w) (l + 2) f fd ["self", "left"] sp ∧ ∀ l', l = l' + 1 → sp = spRS ct K C E0 l') → FnOk P w K mg base (L2.CX P w) (l + 3) f fd ["self", "left"] (spRS ct K C E0 l) := by
  intro l GS
  obtain ⟨sp, GS, hsp⟩ := GS
  refine F.ok scRS (fun vs H Q E h => ?_) fun cdv A outer s H vs Q E hr h => ?_
  · obtain ⟨p, dx, t, n, Z, rfl, _⟩ := h
    rfl
  · obtain ⟨p, dx, t, n, Z, rfl, st, hl, q⟩ := h
    obtain ⟨tks, hsg⟩ := T.sg
    obtain ⟨dw, es, nw, hwd, kd, hwl⟩ := T.wd
    have tk : Takes (cxOf (L2.CX P w) P w K mg base ["self", "left", "sign", "signs", "one", "word"] "Reader.shape" (defScope rS) f cdv A outer s H E) (fun cls d _ H => E cls d H) := takes_of rfl rfl rfl rfl
    have po : PassesOwn (model P w) (cxOf (L2.CX P w) P w K mg base ["self", "left", "sign", "signs", "one", "word"] "Reader.shape" (defScope rS) f cdv A outer s H E).A (cxOf (L2.CX P w) P w K mg base ["self", "left", "sign", "signs", "one", "word"] "Reader.shape" (defScope rS) f cdv A outer s H E).env (cxOf (L2.CX P w) P w K mg base ["self", "left", "sign", "signs", "one", "word"] "Reader.shape" (defScope rS) f cdv A outer s H E).xe := passes_of rfl
    have hr1 : Room 1 _ := hr.mono (by omega)
    have hr2 : Room 2 _ := hr.mono (by omega)
    have px := passes_call (E := E) tk fun _ _ _ _ h => h
    refine ⟨_, pss_cons (ps_set (i := 2) scRS.nd rfl (Or.inl rfl) (pe_meth0 (pv 0) T.cl mN GN hr1 bN .nil px))
      (pss_cons (ps_if (pw_or (pt_cmpR op_eq (pv 1) pe_int (nomark _)) (pw_or1 (pt_cmpR op_eq (pv 2) pe_str (nomark _)))).pt (pss_one (ps_nw T rfl tk rfl)) pss_nil)
      (pss_cons (ps_if (pt_cmpR op_in_str (pv 2) (pe_glob (v := .str ⟨#[48, 49, 97, 98]⟩) (by rfl) hsg ⟨_, rfl⟩) (by rfl)) (pss_one (ps_ret (pe_tup (pa_cons pe_str (pa_cons (pv 2) pa_nil))))) pss_nil)
      (pss_cons (ps_if (pt_cmpR op_eq (pv 2) pe_str (nomark _)) (pss_one (ps_ret (pe_tup (pa_cons pe_str (pa_cons (pe_meth (pv 0) T.cl mS GS hr bS .nil px (pa_cons (pe_op op_sub (pv 1) pe_int) pa_nil)) pa_nil))))) pss_nil)
      (pss_cons (ps_if (pt_cmpR op_eq (pv 2) pe_str (nomark _)) (pss_one (ps_ret (pe_tup (pa_cons pe_str (pa_cons (pe_meth (pv 0) T.cl mS GS hr bS .nil px (pa_cons (pe_op op_sub (pv 1) pe_int) pa_nil)) pa_nil))))) pss_nil)
      (pss_cons (ps_if (pt_cmpR op_eq (pv 2) pe_str (nomark _)) (pss_one (ps_ret (pe_meth (pv 0) T.cl mC GC hr2 bC .nil px (pa_cons (pe_tup (pa_cons pe_str pa_nil)) (pa_cons pe_str pa_nil))))) pss_nil)
      (pss_cons (ps_if (pt_cmpR op_eq (pv 2) pe_str (nomark _))
        (pss_cons (ps_set (i := 3) scRS.nd rfl (Or.inl rfl) pe_str)
          (pss_cons (ps_while po (pw_and (pt_cmpR op_in_str (pe_slice sl_str (pe_fld (pv 0) rfl) (po_some (pe_fld (pv 0) rfl)) (po_some (pe_op op_add (pe_fld (pv 0) rfl) pe_int))) (pe_glob (v := .str ⟨#[48, 49, 97, 98]⟩) (by rfl) hsg ⟨_, rfl⟩) (by rfl)) (pw_and1 (pt_cmpR op_lt (pe_fld (pv 0) rfl) (pe_callB call_len_str (by rfl) T.len PySem.boot_len (pa_cons (pe_fld (pv 0) rfl) pa_nil)) (nomark _)))).pt
              (pss_one (ps_set (i := 3) scRS.nd rfl (Or.inl rfl) (pe_op op_add_str (pv 3) (pe_meth0 (pv 0) T.cl mN GN hr1 bN .nil px)))))
            (pss_one (ps_ret (pe_meth (pv 0) T.cl mC GC hr2 bC .nil px (pa_cons (pe_tup (pa_cons pe_str (pa_cons (pv 3) pa_nil))) (pa_cons pe_str pa_nil))))))) pss_nil)
      (pss_cons (ps_if (pt_cmpR op_ne (pv 2) pe_str (nomark _)) (pss_one (ps_nw T rfl tk rfl)) pss_nil)
      (pss_cons (ps_if (pt_cmpR op_eq (pe_slice sl_str (pe_fld (pv 0) rfl) (po_some (pe_fld (pv 0) rfl)) (po_some (pe_op op_add (pe_fld (pv 0) rfl) pe_int))) pe_str (nomark _)) (pss_one (ps_ret (pe_meth (pv 0) T.cl mC GC hr2 bC .nil px (pa_cons (pe_tup (pa_cons pe_str pa_nil)) (pa_cons pe_str pa_nil))))) pss_nil)
      (pss_cons (ps_set (i := 4) scRS.nd rfl (Or.inl rfl) (pe_meth (pv 0) T.cl mS GS hr bS .nil px (pa_cons (pe_op op_sub (pv 1) pe_int) pa_nil)))
      (pss_cons (ps_set (i := 5) scRS.nd rfl (Or.inl rfl) (pe_kget2 kd (pe_glob (v := .ref dw) (by rfl) hwd rfl) (pe_meth0 (pv 0) T.cl mN GN hr1 bN .nil px) pe_str ⟨rfl, rfl, rfl, rfl⟩))
      (pss_one (ps_ret (pe_meth (pv 0) T.cl mC GC hr2 bC .nil px (pa_cons (pe_tup (pa_cons (pv 5) (pa_cons (pv 4) (pa_cons (pe_meth (pv 0) T.cl mS GS hr bS .nil px (pa_cons (pe_op op_sub (pv 1) pe_int) pa_nil)) pa_nil)))) (pa_cons pe_str pa_nil))))))))))))))), ?_⟩
    obtain ⟨s1, s2, hp⟩ := id st
    have st1 := st.step (n + 1)
    refine ⟨_, rfl, p, dx, _, rfl, hp, rf_no _ _ (by decide +kernel) (by decide +kernel), p, dx, t, n, rfl, hp, hl, ?_⟩
    refine ⟨_, rfl, rfl, _, rfl, ?_⟩
    cases l with
    | zero =>
      refine it_pos (by rfl) ?_
      exact q Z _ (n + 1) (.refl _) st1
    | succ l =>
      have hsp := hsp l rfl
      subst hsp
      have dl : ¬ decide (V.int ((l + 1 : Nat) : Int) = V.int 0) = true := by
        rw [decide_eq_true_iff]
        intro z
        injection z with z
        omega
      refine it_neg dl ?_
      refine ⟨_, rfl, rfl, _, rfl, ?_⟩
      have el : ((l + 1 : Nat) : Int) - 1 = (l : Int) := by omega
      have ea : ([V.ref p, V.int (((l + 1 : Nat) : Int) - 1)] : List V) = [V.ref p, V.int (l : Int)] := by rw [el]
      cases hs : sgAt t.cps.toList n with
      | nil =>
        have e : sgS t n = Str.ofString "" := by unfold sgS; rw [hs]; rfl
        refine it_pos (by rw [e]; exact decide_eq_true rfl) ?_
        have qn : rdS t.cps.toList (l + 1) n = none := by unfold rdS; rw [hs]
        rw [qn] at q
        exact q Z _ (n + 1) (.refl _) st1
      | cons c r0 =>
        have hs1 := sg_one hs
        have hx : sgS t n = ⟨#[c]⟩ := by unfold sgS; rw [hs1]
        have e0 : ¬ decide (V.str (sgS t n) = V.str (Str.ofString "")) = true := by
          rw [decide_eq_true_iff]
          intro z
          injection z with z
          rw [hx] at z
          exact absurd (congrArg (fun y : Str => y.cps.toList) z) (by intro h; cases h)
        refine it_neg e0 ?_
        have qe : rdS t.cps.toList (l + 1) n = (if isSg c then some (.tup [.str [115, 105, 103, 110, 115], .str [c]], n + 1)
          else if c = 33 then (rdS t.cps.toList l (n + 1)).map fun p => (.tup [.str [110, 111, 116], p.1], p.2)
          else if c = 42 then (rdS t.cps.toList l (n + 1)).map fun p => (.tup [.str [109, 97, 110, 121], p.1], p.2)
          else if c = 123 then (if sgAt t.cps.toList (n + 1) = [125] then some (.tup [.str [110, 111, 110, 101]], n + 2) else none)
          else if c = 91 then
            (let w := (t.cps.toList.drop (n + 1)).takeWhile isSg
             if sgAt t.cps.toList (n + 1 + w.length) = [93] then some (.tup [.str [115, 105, 103, 110, 115], .str w], n + 1 + w.length + 1) else none)
          else if c ≠ 40 then none
          else if sgAt t.cps.toList (n + 1) = [41] then some (.tup [.str [101, 109, 112, 116, 121]], n + 2)
          else match rdS t.cps.toList l (n + 1) with
            | none => none
            | some (d1, m) => match rdS t.cps.toList l (m + 1) with
              | none => none
              | some (d2, m2) => if sgAt t.cps.toList m2 = [41] then some (.tup [.str (wordOf (sgAt t.cps.toList m)), d1, d2], m2 + 1) else none) := by
          conv => lhs; unfold rdS
          first
            | (rw [hs]; done)
            | (rw [hs]; rfl)
        rw [qe] at q
        clear qe
        refine ⟨_, rfl, _, _, rfl, rfl, _, rfl, ?_⟩
        have fo : (!(Builtin.Str.occurrences ⟨#[48, 49, 97, 98]⟩ (sgS t n) 0 4 1).isEmpty) = isSg c := by rw [hx]; exact found_sg c
        refine ite2 (fun h => ?_) fun h => ?_
        · have hg : isSg c = true := fo.symm.trans h
          rw [if_pos hg] at q
          refine ⟨_, rfl, (by show 2 ≤ sizeLine; rw [sizeLine_eq]; omega), fun a ha => ?_⟩
          obtain ⟨st2, z2⟩ := st1.new (o := .tup [.str (Str.ofString "signs"), .str (sgS t n)]) ha
          refine q _ _ _ z2 st2 (.tup (.inl (.inl upd_same)) (.cons (.str _) (.cons ?_ .nil)))
          rw [hx]
          exact .str _
        have hg : ¬ isSg c = true := fun z => h (fo.trans z)
        rw [if_neg hg] at q
        have no1 : ∀ k : Int, (rf t k).lookup ("shape" : Str) = none := fun k => rf_no _ _ (by decide +kernel) (by decide +kernel)
        have no2 : ∀ k : Int, (rf t k).lookup ("closed" : Str) = none := fun k => rf_no _ _ (by decide +kernel) (by decide +kernel)
        have no3 : ∀ k : Int, (rf t k).lookup ("next_sign" : Str) = none := fun k => rf_no _ _ (by decide +kernel) (by decide +kernel)
        have hp1 := st1.2.2
        have sl2 : (2 : Nat) ≤ sizeLine := by rw [sizeLine_eq]; omega
        -- "!"
        refine ⟨_, rfl, rfl, _, rfl, ?_⟩
        refine ite2 (fun h => ?_) fun h => ?_
        · have hc : c = 33 := (lit_iff hx (by rfl)).mp h
          rw [if_pos hc] at q
          refine ⟨_, rfl, p, dx, _, rfl, hp1, no1 _, _, rfl, _, _, rfl, rfl, p, dx, t, n + 1, Z, ea, st1, hl, ?_⟩
          cases hq : rdS t.cps.toList l (n + 1) with
          | none => rw [hq] at q; exact q
          | some dm =>
            rw [hq] at q
            intro v Z' H' z' st' dv
            refine ⟨sl2, fun a ha => ?_⟩
            obtain ⟨st2, z2⟩ := st'.new (o := .tup [.str (Str.ofString "not"), v]) ha
            exact q _ _ _ (z'.trans z2) st2 (.tup (.inl (.inl upd_same)) (.cons (.str _) (.cons (Den.mono z2 _ _ dv) .nil)))
        have hn1 : ¬ c = 33 := fun z => h ((lit_iff hx (by rfl)).mpr z)
        rw [if_neg hn1] at q
        -- "*"
        refine ⟨_, rfl, rfl, _, rfl, ?_⟩
        refine ite2 (fun h => ?_) fun h => ?_
        · have hc : c = 42 := (lit_iff hx (by rfl)).mp h
          rw [if_pos hc] at q
          refine ⟨_, rfl, p, dx, _, rfl, hp1, no1 _, _, rfl, _, _, rfl, rfl, p, dx, t, n + 1, Z, ea, st1, hl, ?_⟩
          cases hq : rdS t.cps.toList l (n + 1) with
          | none => rw [hq] at q; exact q
          | some dm =>
            rw [hq] at q
            intro v Z' H' z' st' dv
            refine ⟨sl2, fun a ha => ?_⟩
            obtain ⟨st2, z2⟩ := st'.new (o := .tup [.str (Str.ofString "many"), v]) ha
            exact q _ _ _ (z'.trans z2) st2 (.tup (.inl (.inl upd_same)) (.cons (.str _) (.cons (Den.mono z2 _ _ dv) .nil)))
        have hn2 : ¬ c = 42 := fun z => h ((lit_iff hx (by rfl)).mpr z)
        rw [if_neg hn2] at q
        -- "{"
        refine ⟨_, rfl, rfl, _, rfl, ?_⟩
        refine ite2 (fun h => ?_) fun h => ?_
        · have hc : c = 123 := (lit_iff hx (by rfl)).mp h
          rw [if_pos hc] at q
          refine ⟨_, rfl, p, dx, _, rfl, hp1, no2 _, (by show 1 ≤ sizeLine; omega), fun a ha => ?_⟩
          obtain ⟨st2, z2⟩ := st1.new (o := .tup [.str (Str.ofString "none")]) ha
          refine ⟨p, dx, t, n + 1, _, _, rfl, st2.2.2, hl, ?_⟩
          refine ite2 (fun h => ?_) fun h => ?_
          · have hk : sgAt t.cps.toList (n + 1) = [125] := congrArg (fun y : Str => y.cps.toList) h
            rw [if_pos hk] at q
            exact q _ _ _ z2 (st2.step (n + 2)) (.tup (.inl (.inl upd_same)) (.cons (.str _) .nil))
          · have hk : ¬ sgAt t.cps.toList (n + 1) = [125] := fun z => h (by unfold sgS; rw [z]; rfl)
            rw [if_neg hk] at q
            exact q _ _ (n + 2) z2 (st2.step (n + 2))
        have hn3 : ¬ c = 123 := fun z => h ((lit_iff hx (by rfl)).mpr z)
        rw [if_neg hn3] at q
        -- "["
        have hlen : t.length = t.cps.toList.length := by simp [Str.length]
        refine ⟨_, rfl, rfl, _, rfl, ?_⟩
        refine ite2 (fun h => ?_) fun h => ?_
        · have hc : c = 91 := (lit_iff hx (by rfl)).mp h
          rw [if_pos hc] at q
          generalize hW : (t.cps.toList.drop (n + 1)).takeWhile isSg = W at q
          have hWl : W.length ≤ 100000 := by
            have := (List.takeWhile_prefix (p := isSg) (l := t.cps.toList.drop (n + 1))).length_le
            rw [hW, List.length_drop] at this
            omega
          refine ⟨fun m σ H' => ∃ k, k ≤ W.length ∧ m = W.length - k ∧ σ = [some (.ref p), some (.int ((l + 1 : Nat) : Int)), some (.str (sgS t n)), some (.str ⟨(W.take k).toArray⟩), none, none] ∧ StR C p dx t Z H' (n + 1 + k), ⟨_, 0, Nat.zero_le _, rfl, rfl, st1⟩, ?_⟩
          rintro m σ H' ⟨k, hk, rfl, rfl, stk⟩
          have hpk := stk.2.2
          have cs := cut_sg t (n + 1 + k)
          refine ⟨_, rfl, p, C, dx, _, _, rfl, hpk, T.cl, T.nT, rf_text _ _, _, rfl, p, C, dx, _, _, rfl, hpk, T.cl, T.nP, rf_place _ _, _, rfl, _, rfl, p, C, dx, _, _, rfl, hpk, T.cl, T.nP, rf_place _ _, _, _, rfl, rfl, _, rfl, t, rfl, by rw [sizeLine_eq]; omega, _, _, rfl, rfl, _, rfl, ?_⟩
          have out : ∀ {D : Ends}, True := fun {D} => trivial
          by_cases hkl : k < W.length
          · obtain ⟨c2, g1, g2, g3⟩ := tw_in (L := t.cps.toList.drop (n + 1)) (k := k) (by rw [hW]; exact hkl)
            rw [hW] at g3
            have hs2 : sgAt t.cps.toList (n + 1 + k) = [c2] := (sg_drop _ _ _).trans g1
            have hx2 : sgS t (n + 1 + k) = ⟨#[c2]⟩ := by unfold sgS; rw [hs2]
            have fo2 : (!(Builtin.Str.occurrences ⟨#[48, 49, 97, 98]⟩ (cutS t (some ((n + 1 + k : Nat) : Int)) (some (((n + 1 + k : Nat) : Int) + 1))) 0 4 1).isEmpty) = true := by
              rw [cs, hx2, found_sg]
              exact g2
            refine it_pos fo2 ?_
            have hlt : n + 1 + k < t.length := by
              rw [hlen]
              apply Classical.byContradiction
              intro z
              unfold sgAt at hs2
              rw [List.drop_of_length_le (by omega)] at hs2
              cases hs2
            refine ⟨_, rfl, p, C, dx, _, _, rfl, hpk, T.cl, T.nP, rf_place _ _, _, rfl, p, C, dx, _, _, rfl, hpk, T.cl, T.nT, rf_text _ _, t, rfl, by rw [sizeLine_eq]; omega, _, _, rfl, rfl, _, rfl, ?_⟩
            refine it_pos (decide_eq_true (by omega)) ?_
            refine ⟨fun σ' H'' => ∃ k', k' = k + 1 ∧ σ' = [some (.ref p), some (.int ((l + 1 : Nat) : Int)), some (.str (sgS t n)), some (.str ⟨(W.take k').toArray⟩), none, none] ∧ StR C p dx t Z H'' (n + 1 + k'), ?_, ?_⟩
            · rintro σ' H'' ⟨k', rfl, e1, e2⟩
              exact ⟨_, by omega, k + 1, by omega, rfl, e1, e2⟩
            · refine ⟨_, rfl, _, rfl, p, dx, _, rfl, hpk, no3 _, p, dx, t, n + 1 + k, rfl, hpk, hl, _, _, rfl, rfl, ?_, ?_⟩
              · have l1 : (⟨(W.take k).toArray⟩ : Str).length = (W.take k).length := by simp [Str.length]
                have l2 : (sgS t (n + 1 + k)).length = 1 := by rw [hx2]; rfl
                rw [l1, l2, sizeLine_eq, List.length_take]
                omega
              · refine ⟨k + 1, rfl, ?_, stk.step (n + 1 + (k + 1))⟩
                have e : ((⟨(W.take k).toArray⟩ : Str) ++ sgS t (n + 1 + k)) = ⟨(W.take (k + 1)).toArray⟩ := by
                  unfold sgS
                  rw [hs2, str_app, g3]
                rw [e]
                rfl
          · have hkW : k = W.length := by omega
            subst hkW
            have fin : ∀ (H1 : Hp), StR C p dx t Z H1 (n + 1 + W.length) → tRet (tMeth C (Str.ofString "closed") (spRC C E0) [] E (tVar 0) (tCons (tTup (tCons (tC (V.str (Str.ofString "signs"))) (tCons (tVar 3) tNil))) (tCons (tC (V.str (Str.ofString "]"))) tNil))) ⟨fun _ _ => True, Q, fun _ _ => False, fun _ _ => False⟩ [some (.ref p), some (.int ((l + 1 : Nat) : Int)), some (.str (sgS t n)), some (.str ⟨(W.take W.length).toArray⟩), none, none] H1 := by
              intro H1 st5
              refine ⟨_, rfl, p, dx, _, rfl, st5.2.2, no2 _, _, rfl, sl2, fun a ha => ?_⟩
              obtain ⟨st6, z6⟩ := st5.new (o := .tup [.str (Str.ofString "signs"), .str ⟨(W.take W.length).toArray⟩]) ha
              refine ⟨p, dx, t, n + 1 + W.length, _, _, rfl, st6.2.2, hl, ?_⟩
              refine ite2 (fun h => ?_) fun h => ?_
              · have hk2 : sgAt t.cps.toList (n + 1 + W.length) = [93] := congrArg (fun y : Str => y.cps.toList) h
                rw [if_pos hk2] at q
                refine q _ _ _ z6 (st6.step (n + 1 + W.length + 1)) (.tup (.inl (.inl upd_same)) (.cons (.str _) (.cons ?_ .nil)))
                rw [List.take_length]
                exact .str _
              · have hk2 : ¬ sgAt t.cps.toList (n + 1 + W.length) = [93] := fun z => h (by unfold sgS; rw [z]; rfl)
                rw [if_neg hk2] at q
                exact q _ _ (n + 1 + W.length + 1) z6 (st6.step (n + 1 + W.length + 1))
            rcases tw_out (t.cps.toList.drop (n + 1)) with g1 | ⟨c2, g1, g2⟩
            · rw [hW, ← sg_drop] at g1
              have fo2 : (!(Builtin.Str.occurrences ⟨#[48, 49, 97, 98]⟩ (cutS t (some ((n + 1 + W.length : Nat) : Int)) (some (((n + 1 + W.length : Nat) : Int) + 1))) 0 4 1).isEmpty) = true := by
                rw [cs]
                unfold sgS
                rw [g1]
                exact found_nil
              refine it_pos fo2 ?_
              have hge : ¬ n + 1 + W.length < t.length := by
                intro z
                rw [hlen] at z
                unfold sgAt at g1
                rw [List.drop_eq_getElem_cons z] at g1
                cases g1
              refine ⟨_, rfl, p, C, dx, _, _, rfl, hpk, T.cl, T.nP, rf_place _ _, _, rfl, p, C, dx, _, _, rfl, hpk, T.cl, T.nT, rf_text _ _, t, rfl, by rw [sizeLine_eq]; omega, _, _, rfl, rfl, _, rfl, ?_⟩
              refine it_neg (fun z => hge (by have := of_decide_eq_true z; omega)) ?_
              exact fin _ stk
            · rw [hW, ← sg_drop] at g1
              have hx2 : sgS t (n + 1 + W.length) = ⟨#[c2]⟩ := by unfold sgS; rw [g1]
              have fo2 : ¬ (!(Builtin.Str.occurrences ⟨#[48, 49, 97, 98]⟩ (cutS t (some ((n + 1 + W.length : Nat) : Int)) (some (((n + 1 + W.length : Nat) : Int) + 1))) 0 4 1).isEmpty) = true := by
                rw [cs, hx2, found_sg, g2]
                exact Bool.false_ne_true
              refine it_neg fo2 ?_
              refine it_neg Bool.false_ne_true ?_
              exact fin _ stk
        have hn4 : ¬ c = 91 := fun z => h ((lit_iff hx (by rfl)).mpr z)
        rw [if_neg hn4] at q
        -- not "("
        refine ⟨_, rfl, rfl, _, rfl, ?_⟩
        by_cases h40 : c = 40
        case neg =>
          rw [if_pos h40] at q
          refine it_pos ?_ ?_
          · have : ¬ decide (V.str (sgS t n) = V.str (Str.ofString "(")) = true := fun z => h40 ((lit_iff hx (by rfl)).mp z)
            rw [Bool.not_eq_true] at this
            show (!decide (V.str (sgS t n) = V.str (Str.ofString "("))) = true
            rw [this]
            rfl
          · exact q Z _ (n + 1) (.refl _) st1
        rw [if_neg (fun z => z h40)] at q
        refine it_neg ?_ ?_
        · have : decide (V.str (sgS t n) = V.str (Str.ofString "(")) = true := (lit_iff hx (by rfl)).mpr h40
          show ¬ (!decide (V.str (sgS t n) = V.str (Str.ofString "("))) = true
          rw [this]
          exact Bool.false_ne_true
        -- "()"
        have cs := cut_sg t (n + 1)
        refine ⟨_, rfl, p, C, dx, _, _, rfl, hp1, T.cl, T.nT, rf_text _ _, _, rfl, p, C, dx, _, _, rfl, hp1, T.cl, T.nP, rf_place _ _, _, rfl, _, rfl, p, C, dx, _, _, rfl, hp1, T.cl, T.nP, rf_place _ _, _, _, rfl, rfl, _, rfl, t, rfl, by rw [sizeLine_eq]; omega, rfl, _, rfl, ?_⟩
        by_cases h41 : sgAt t.cps.toList (n + 1) = [41]
        · rw [if_pos h41] at q
          refine it_pos ?_ ?_
          · rw [cs]
            exact (lit_iff (c := 41) (by unfold sgS; rw [h41]) (by rfl)).mpr rfl
          · refine ⟨_, rfl, p, dx, _, rfl, hp1, no2 _, (by show 1 ≤ sizeLine; omega), fun a ha => ?_⟩
            obtain ⟨st2, z2⟩ := st1.new (o := .tup [.str (Str.ofString "empty")]) ha
            refine ⟨p, dx, t, n + 1, _, _, rfl, st2.2.2, hl, ?_⟩
            refine it_pos ?_ ?_
            · unfold sgS
              rw [h41]
              rfl
            · exact q _ _ _ z2 (st2.step (n + 2)) (.tup (.inl (.inl upd_same)) (.cons (.str _) .nil))
        rw [if_neg h41] at q
        refine it_neg ?_ ?_
        · rw [cs, decide_eq_true_iff]
          intro z
          injection z with z
          exact h41 (congrArg (fun y : Str => y.cps.toList) z)
        -- one
        refine ⟨_, rfl, p, dx, _, rfl, hp1, no1 _, _, rfl, _, _, rfl, rfl, p, dx, t, n + 1, Z, ea, st1, hl, ?_⟩
        cases hq : rdS t.cps.toList l (n + 1) with
        | none => rw [hq] at q; exact q
        | some dm =>
          obtain ⟨d1, m⟩ := dm
          rw [hq] at q
          dsimp only at q
          intro v1 Z1 H1 z1 sta dv1
          -- word
          obtain ⟨r, hr1, hr2⟩ := hwl (sgAt t.cps.toList m)
          have stb := sta.step (m + 1)
          refine ⟨_, rfl, p, dx, _, rfl, sta.2.2, no3 _, p, dx, t, m, rfl, sta.2.2, hl, _, r, rfl, hr1, ?_⟩
          have fin : ∀ vw, vw = V.str ⟨(wordOf (sgAt t.cps.toList m)).toArray⟩ → tRet (tMeth C (Str.ofString "closed") (spRC C E0) [] E (tVar 0) (tCons (tTup (tCons (tVar 5) (tCons (tVar 4) (tCons (tMeth C (Str.ofString "shape") (spRS ct K C E0 l) [] E (tVar 0) (tCons (tOp (rI0 fun i j => V.int (i - j)) (tVar 1) (tC (V.int 1))) tNil)) tNil)))) (tCons (tC (V.str (Str.ofString ")"))) tNil))) ⟨fun _ _ => True, Q, fun _ _ => False, fun _ _ => False⟩ [some (.ref p), some (.int ((l + 1 : Nat) : Int)), some (.str (sgS t n)), none, some v1, some vw] (upd H1 p (.ins C dx (rf t ((m + 1 : Nat) : Int)))) := by
            rintro vw rfl
            refine ⟨_, rfl, p, dx, _, rfl, stb.2.2, no2 _, _, rfl, _, rfl, _, rfl, p, dx, _, rfl, stb.2.2, no1 _, _, rfl, _, _, rfl, rfl, p, dx, t, m + 1, Z1, ea, stb, hl, ?_⟩
            cases hq2 : rdS t.cps.toList l (m + 1) with
            | none =>
              rw [hq2] at q
              exact fun Z' H' m' z' st' => q Z' H' m' (z1.trans z') st'
            | some dm2 =>
              obtain ⟨d2, m2⟩ := dm2
              rw [hq2] at q
              intro v2 Z2 H2 z2 stc dv2
              refine ⟨(by show 3 ≤ sizeLine; rw [sizeLine_eq]; omega), fun a ha => ?_⟩
              obtain ⟨std, zd⟩ := stc.new (o := .tup [V.str ⟨(wordOf (sgAt t.cps.toList m)).toArray⟩, v1, v2]) ha
              refine ⟨p, dx, t, m2, _, _, rfl, std.2.2, hl, ?_⟩
              refine ite2 (fun h => ?_) fun h => ?_
              · have hk2 : sgAt t.cps.toList m2 = [41] := congrArg (fun y : Str => y.cps.toList) h
                have q : ∀ v Z' H', Same Z Z' → StR C p dx t Z' H' (m2 + 1) → Den K ct Z' v (.tup [.str (wordOf (sgAt t.cps.toList m)), d1, d2]) → Q v H' := by
                  try dsimp only at q
                  rw [if_pos hk2] at q
                  exact q
                exact q _ _ _ ((z1.trans z2).trans zd) (std.step (m2 + 1)) (.tup (.inl (.inl upd_same)) (.cons (.str _) (.cons (Den.mono (z2.trans zd) _ _ dv1) (.cons (Den.mono zd _ _ dv2) .nil))))
              · have hk2 : ¬ sgAt t.cps.toList m2 = [41] := fun z => h (by unfold sgS; rw [z]; rfl)
                have q : ∀ Z' H' m', Same Z Z' → StR C p dx t Z' H' m' → E (.ref E0) none H' := by
                  try dsimp only at q
                  rw [if_neg hk2] at q
                  exact q
                exact q _ _ (m2 + 1) ((z1.trans z2).trans zd) (std.step (m2 + 1))
          cases r with
          | some u =>
            obtain ⟨vw, g1, g2⟩ := hr2
            exact ⟨vw, g1, fin vw g2⟩
          | none => exact fin _ (by rw [show wordOf (sgAt t.cps.toList m) = [] from hr2]; rfl)
theorem ok_rS {ct : CT} {f C E0 fN fC : Addr} {fd fdN fdC : FuncData} (F : FunD K "shape" "Reader.shape" (defArgs rS) (defBody rS) (defScope rS) [] [] f fd) (bS : Binds K fd ["self", "left"] []) (mS : Meth K C "shape" f) (T : RT w K mg C E0) (mN : Meth K C "next_sign" fN) (GN : FnOk P w K mg base (L2.CX P w) 1 fN fdN ["self"] (spRN C)) (bN : Binds K fdN ["self"] [])
    (mC : Meth K C "closed" fC) (GC : FnOk P w K mg base (L2.CX P w) 2 fC fdC ["self", "found", "sign"] (spRC C E0)) (bC : Binds K fdC ["self", "found", "sign"] []) : ∀ l : Nat, FnOk P w K mg base (L2.CX P w) (l + 3) f fd ["self", "left"] (spRS ct K C E0 l) := by
  have go : ∀ l : Nat, (∃ sp, FnOk P w K mg base (L2.CX P w) (l + 2) f fd ["self", "left"] sp ∧ ∀ l', l = l' + 1 → sp = spRS ct K C E0 l') → FnOk P w K mg base (L2.CX P w) (l + 3) f fd ["self", "left"] (spRS ct K C E0 l) := by
    intro l GS
    exact shape_step F bS mS T mN GN bN mC GC bC l GS
  intro l
  induction l with
  | zero => exact go 0 ⟨fun _ _ _ _ => False, ⟨fun _ _ _ _ h => h.elim, fun _ _ _ _ _ _ _ _ _ _ _ _ _ h => h.elim⟩, fun l' h => by omega⟩
  | succ l ih =>
    refine go (l + 1) ⟨_, ih, fun l' h => ?_⟩
    have e : l = l' := by omega
    rw [e]
def spRead (ct : CT) (K : PySem.W.Frag) : Nat → (Nat → List D → Res D) → Sp := fun L Φ => spD K ct (readX 3 190 7 L Φ) 1
theorem scRR : FnScope ["text", "reader", "shape"] ["text"] (defScope rR) := ⟨rfl, rfl, rfl, by decide +kernel, rfl, by decide +kernel, by decide +kernel⟩
theorem ok_read {ct : CT} {c : CE} {tab : Nat → Option Fn} {F0 L : Nat} {f C E0 fI fN fS fC : Addr} {fd fdI fdN fdS fdC : FuncData} (hE : ct.ex 7 = some E0) (T : RT w K mg C E0) (hfnI : c.fn.lookup ("is_shape" : Str) = some (3, 1)) (hfnW : c.fn.lookup ("written" : Str) = some (190, 1)) (hL : FnsAt P w K mg base ct c tab F0 L)
    (F : FunD K "read" "read" (defArgs rR) (defBody rR) (defScope rR) [] [] f fd) (M : Mk K C fI) (FI : FunD K "__init__" "Reader.__init__" (defArgs rI) (defBody rI) (defScope rI) [] [] fI fdI) (bI : Binds K fdI ["self", "text"] [])
    (FN : FunD K "next_sign" "Reader.next_sign" (defArgs rN) (defBody rN) (defScope rN) [] [] fN fdN) (bN : Binds K fdN ["self"] []) (mN : Meth K C "next_sign" fN)
    (FS : FunD K "shape" "Reader.shape" (defArgs rS) (defBody rS) (defScope rS) [] [] fS fdS) (bS : Binds K fdS ["self", "left"] []) (mS : Meth K C "shape" fS)
    (FC : FunD K "closed" "Reader.closed" (defArgs rC) (defBody rC) (defScope rC) [] [] fC fdC) (bC : Binds K fdC ["self", "found", "sign"] []) (mC : Meth K C "closed" fC) :
    FnOk P w K mg base (L2.CX P w) (L + 1) f fd ["text"] (spD K ct (readX 3 190 7 L (Phi tab F0 L)) 1) := by
  have GI : FnOk P w K mg base (L2.CX P w) 1 fI fdI ["self", "text"] (spRI C) := ok_rI FI T
  have GN : FnOk P w K mg base (L2.CX P w) 1 fN fdN ["self"] (spRN C) := ok_rN FN T
  have GC : FnOk P w K mg base (L2.CX P w) 2 fC fdC ["self", "found", "sign"] (spRC C E0) := ok_rC FC T mN GN bN
  have GS := ok_rS (ct := ct) FS bS mS T mN GN bN mC GC bC 15
  obtain ⟨fi, fdi, psi, i1, i2, i3, i4⟩ := hL "is_shape" 3 1 hfnI
  obtain ⟨fw, fdw, psw, w1, w2, w3, w4⟩ := hL "written" 190 1 hfnW
  refine F.ok scRR (fun vs H Q E h => h.1) fun cdv A outer s H vs Q E hr h => ?_
  obtain ⟨hvl, ds, hd, hq⟩ := h
  match ds, hd, hq with
  | [], _, hq => exact (show False from hq).elim
  | _ :: _ :: _, hd, _ =>
    have := hd.length
    rw [hvl] at this
    simp at this
  | [d], hd, hq =>
    cases hd with
    | cons h1 h2 =>
      rename_i v vs'
      cases h2
      cases h1 with
      | str t =>
        unfold readX at hq
        dsimp only at hq
        by_cases hb : L < 20 ∨ ¬ t.cps.toList.length ≤ 100000
        · rw [if_pos hb] at hq
          exact hq.elim
        · rw [if_neg hb] at hq
          have hL20 : 20 ≤ L := by omega
          have hlen : t.length = t.cps.toList.length := by simp [Str.length]
          have hl : t.length ≤ 100000 := by omega
          obtain ⟨tkm, hmp⟩ := T.mp
          have tk : Takes (cxOf (L2.CX P w) P w K mg base ["text", "reader", "shape"] "read" (defScope rR) f cdv A outer s H E) (fun cls d _ H => E cls d H) := takes_of rfl rfl rfl rfl
          have px := passes_call (E := E) tk fun _ _ _ _ h => h
          have hun : (cxOf (L2.CX P w) P w K mg base ["text", "reader", "shape"] "read" (defScope rR) f cdv A outer s H E).A.units + 64 < cLine := by
            have := hr.un
            show (A.deeper _).units + 64 < cLine
            omega
          have hr2 : Room 2 _ := hr.mono (by omega)
          have hr18 : Room 18 _ := hr.mono (by omega)
          refine ⟨_, pss_cons (ps_set (i := 1) scRR.nd rfl (Or.inl rfl) (pe_make M GI hr2 (by rfl) T.mgC bI .nil px (pa_cons (pv 0) pa_nil)))
            (pss_cons (ps_set (i := 2) scRR.nd rfl (Or.inl rfl) (pe_meth (pv 1) T.cl mS GS hr18 bS .nil px (pa_cons (pe_glob (v := .int 15) (by rfl) hmp ⟨_, rfl⟩) pa_nil)))
            (pss_cons (ps_if (pw_or (pt_cmpR op_ne (pe_fld (pv 1) rfl) (pe_callB call_len_str (by rfl) T.len PySem.boot_len (pa_cons (pv 0) pa_nil)) (nomark _))
                (pw_or (pt_not (pt_val (pe_callS i4 hr (by rfl) i1 i2 i3 (fun σ => passAt tk σ) (pa_cons (pv 2) pa_nil)) fun _ => rfl)) (pw_or1 (pt_cmpR (cmp_ne (ct := ct) hun) (pe_callS w4 hr (by rfl) w1 w2 w3 (fun σ => passAt tk σ) (pa_cons (pv 2) pa_nil)) (pv 0) (nomark _))))).pt (pss_one (ps_nw T rfl tk rfl)) pss_nil)
            (pss_one (ps_ret (pv 2))))), ?_⟩
          refine ⟨_, rfl, fun x dx nx ndx nex => ⟨x, dx, t, rfl, upd_same, rfl, ?_⟩⟩
          have st0 : StR C x dx t H (upd (upd (upd (upd H dx (.own x)) x (.ins C dx [])) x (.ins C dx (putF "text" (.str t) []))) x (.ins C dx (rf t ((0 : Nat) : Int)))) 0 := by
            refine ⟨fun b o e => ?_, nx, upd_same⟩
            have n1 : b ≠ x := fun z => by rw [z, nx] at e; cases e
            have n2 : b ≠ dx := fun z => by rw [z, ndx] at e; cases e
            rw [upd_ne n1, upd_ne n1, upd_ne n1, upd_ne n2]
            exact e
          refine ⟨_, rfl, x, dx, _, rfl, st0.2.2, rf_no _ _ (by decide +kernel) (by decide +kernel), x, dx, t, 0, H, rfl, st0, hl, ?_⟩
          cases hrd : rdS t.cps.toList 15 0 with
          | none =>
            rw [hrd] at hq
            exact fun Z' H' m z st => hq E0 H' hE (z.trans st.1)
          | some dm =>
            obtain ⟨d, m⟩ := dm
            rw [hrd] at hq
            dsimp only at hq
            intro v Z' H' z' st' dv
            have sH : Same H H' := z'.trans st'.1
            refine ⟨_, rfl, x, C, dx, _, _, rfl, st'.2.2, T.cl, T.nP, rf_place _ _, _, rfl, t, rfl, by rw [sizeLine_eq]; omega, rfl, _, rfl, ?_⟩
            by_cases hm : m = t.cps.toList.length
            case neg =>
              rw [if_pos hm] at hq
              refine it_pos ?_ ?_
              · have : ¬ V.int (m : Int) = V.int ((t.length : Nat) : Int) := by
                  intro z
                  injection z with z
                  omega
                show (!decide (V.int (m : Int) = V.int ((t.length : Nat) : Int))) = true
                rw [decide_eq_false this]
                rfl
              · exact hq E0 H' hE sH
            rw [if_neg (fun z => z hm)] at hq
            refine it_neg ?_ ?_
            · have : V.int (m : Int) = V.int ((t.length : Nat) : Int) := by rw [hm, hlen]
              show ¬ (!decide (V.int (m : Int) = V.int ((t.length : Nat) : Int))) = true
              rw [decide_eq_true this]
              exact Bool.false_ne_true
            have dfn : ∀ Hh : Hp, Dif Hh Hh := fun Hh b o e z => by rw [e] at z; cases z
            refine ⟨_, rfl, H', .refl _, dfn _, rfl, [d], .cons (Den.mono st'.1 _ _ dv) .nil, ?_⟩
            cases hI : Phi tab F0 L 3 [d] with
            | bad => rw [hI] at hq; exact hq.elim
            | exc k => rw [hI] at hq; exact fun C2 H2 hc s2 H3 e3 => hq C2 H3 hc (sH.trans e3.hh)
            | ok b =>
              rw [hI] at hq
              have hq : (match (asBl b).bind (fun k => if k then (Phi tab F0 L 190 [d]).bind fun u => (cmpD .ne u (.str t.cps.toList)).bind fun r => (asBl r).bind fun q => if q then Res.exc 7 else .ok d else .exc 7) with
                | .ok d => ∀ v H', Same H H' → Den K ct H' v d → Q v H'
                | .exc c => ∀ C H', ct.ex c = some C → Same H H' → E (.ref C) none H'
                | .bad => False) := hq
              intro v2 H2 s2 dv2 H3 e3
              cases b with
              | bl k =>
                cases dv2
                refine ⟨_, rfl, ?_⟩
                have s3 : Same H H3 := sH.trans e3.hh
                cases k with
                | false =>
                  refine it_pos rfl ?_
                  exact hq E0 H3 hE s3
                | true =>
                  refine it_neg Bool.false_ne_true ?_
                  have dv3 : Den K ct H3 v d := Den.mono (st'.1.trans e3.hh) _ _ dv
                  refine ⟨_, rfl, H3, .refl _, dfn _, rfl, [d], .cons dv3 .nil, ?_⟩
                  have hq : (match (Phi tab F0 L 190 [d]).bind fun u => (cmpD .ne u (.str t.cps.toList)).bind fun r => (asBl r).bind fun q => if q then Res.exc 7 else .ok d with
                    | .ok d => ∀ v H', Same H H' → Den K ct H' v d → Q v H'
                    | .exc c => ∀ C H', ct.ex c = some C → Same H H' → E (.ref C) none H'
                    | .bad => False) := hq
                  cases hW : Phi tab F0 L 190 [d] with
                  | bad => rw [hW] at hq; exact hq.elim
                  | exc k => rw [hW] at hq; exact fun C2 H4 hc s4 H5 e5 => hq C2 H5 hc (s3.trans e5.hh)
                  | ok u =>
                    rw [hW] at hq
                    have hq : (match (cmpD .ne u (.str t.cps.toList)).bind fun r => (asBl r).bind fun q => if q then Res.exc 7 else .ok d with
                      | .ok d => ∀ v H', Same H H' → Den K ct H' v d → Q v H'
                      | .exc c => ∀ C H', ct.ex c = some C → Same H H' → E (.ref C) none H'
                      | .bad => False) := hq
                    intro v4 H4 s4 dv4 H5 e5
                    refine ⟨_, rfl, H5, u, .str t.cps.toList, .refl _, .inl (Den.mono e5.zh _ _ dv4), .inl (.str t), ?_⟩
                    have s5 : Same H H5 := s3.trans e5.hh
                    cases hC : cmpD .ne u (.str t.cps.toList) with
                    | bad => rw [hC] at hq; exact hq.elim
                    | exc k => exact absurd hC cmpD_noexc
                    | ok r =>
                      rw [hC] at hq
                      have hq : (match (asBl r).bind fun q => if q then Res.exc 7 else .ok d with
                        | .ok d => ∀ v H', Same H H' → Den K ct H' v d → Q v H'
                        | .exc c => ∀ C H', ct.ex c = some C → Same H H' → E (.ref C) none H'
                        | .bad => False) := hq
                      intro v6 H6 Z6 e6 dv6
                      cases r with
                      | bl k =>
                        cases dv6
                        refine ⟨_, rfl, ?_⟩
                        have s6 : Same H H6 := s5.trans e6.hh
                        cases k with
                        | true =>
                          refine it_pos rfl ?_
                          exact hq E0 H6 hE s6
                        | false =>
                          refine it_neg Bool.false_ne_true ?_
                          exact ⟨_, rfl, hq v H6 s6 (Den.mono (e5.hh.trans e6.hh) _ _ dv3)⟩
                      | _ => exact (show False from hq).elim
              | _ => exact (show False from hq).elim
      | _ => exact (show False from hq).elim
end
theorem words_ok {z : List Nat} : (match lookD (.str z) (kdD [([32], .str [116, 104, 101, 110]), ([124], .str [111, 114]), ([38], .str [97, 110, 100])]) with | some d => d = .str (wordOf z) | none => wordOf z = []) := by
  have h : lookD (.str z) (kdD [([32], .str [116, 104, 101, 110]), ([124], .str [111, 114]), ([38], .str [97, 110, 100])]) = (if [32] == z then some (.str [116, 104, 101, 110]) else if [124] == z then some (.str [111, 114]) else if [38] == z then some (.str [97, 110, 100]) else none) := rfl
  have sw : ∀ y : List Nat, (y == z) = (z == y) := fun y => by rw [Bool.eq_iff_iff, beq_iff_eq, beq_iff_eq]; exact eq_comm
  rw [h]
  simp only [sw]
  unfold wordOf
  cases (z == [32]) <;> cases (z == [124]) <;> cases (z == [38]) <;> simp
theorem ext_read {P : Program} {w : World} {K : PySem.W.Frag} {mg : Str → Option Value} {h base : Heap} (X : K.In h) (G : h.Ns mainGlobals mg) (c : SaysS fa fn kds gcs ce.ecl w K) : ExtOk P w K mg base (ctS K kds ce.ecl) ce tab 100000 "read" 191 1 := by
  have M := mods X G c
  obtain ⟨E0, x1, x2, x3, x4, x5, x6, _⟩ := M.exc.nm "NoWriting" 7 _ rfl
  have cl := He.cls_ok (c.fact (20 + 1))
  have nT := He.noat_ok (c.fact (20 + 2))
  have nP := He.noat_ok (c.fact (20 + 3))
  have mN := He.meth_ok (c.fact (20 + 4))
  have mS := He.meth_ok (c.fact (20 + 5))
  have mC := He.meth_ok (c.fact (20 + 6))
  have mk := He.mkr_ok (c.fact (20 + 7))
  obtain ⟨fdI, FI⟩ := c.def_ 12
  obtain ⟨fdN, FN⟩ := c.def_ (12 + 1)
  obtain ⟨fdS, FS⟩ := c.def_ (12 + 2)
  obtain ⟨fdC, FC⟩ := c.def_ (12 + 3)
  obtain ⟨fdR, FR⟩ := c.def_ 9
  have bI := FI.bindsN (ps := ["self", "text"]) (fun _ _ _ _ _ _ us hl => match us, hl with | [_, _], _ => rfl)
  have bN := FN.bindsN (ps := ["self"]) (fun _ _ _ _ _ _ us hl => match us, hl with | [_], _ => rfl)
  have bS := FS.bindsN (ps := ["self", "left"]) (fun _ _ _ _ _ _ us hl => match us, hl with | [_, _], _ => rfl)
  have bC := FC.bindsN (ps := ["self", "found", "sign"]) (fun _ _ _ _ _ _ us hl => match us, hl with | [_, _, _], _ => rfl)
  have bR := FR.bindsN (ps := ["text"]) (fun _ _ _ _ _ _ us hl => match us, hl with | [_], _ => rfl)
  have T : RT w K mg (He.ga K "Reader") E0 := by
    refine ⟨cl, nT, nP, He.glo_ok X G (c.fact 20), M.free "len" (by decide +kernel), ?_, ?_, ?_, x1, x3, x4, x5, x6⟩
    · obtain ⟨u, v, g1, g2, g3⟩ := M.gc "SIGNS" (.str [48, 49, 97, 98]) (by rfl)
      have g3 := g3 fun _ => none
      generalize hd : D.str [48, 49, 97, 98] = d at g3
      cases g3 with
      | str z =>
        obtain ⟨tk, rfl⟩ := g2
        refine ⟨tk, ?_⟩
        rw [g1]
        have : z.cps.toList = [48, 49, 97, 98] := by injection hd with hd; exact hd.symm
        have e : z = ⟨z.cps.toList.toArray⟩ := by simp
        rw [e, this]
      | _ => cases hd
    · obtain ⟨u, v, g1, g2, g3⟩ := M.gc "MOST_PARTS" (.int 15) (by rfl)
      have g3 := g3 fun _ => none
      cases g3
      obtain ⟨tk, rfl⟩ := g2
      exact ⟨tk, g1⟩
    · obtain ⟨u, v, g1, g2, g3⟩ := M.gc "WORDS" (.dic (kdD [([32], .str [116, 104, 101, 110]), ([124], .str [111, 114]), ([38], .str [97, 110, 100])])) (by rfl)
      have g3 := g3 fun _ => none
      generalize hd : D.dic (kdD [([32], .str [116, 104, 101, 110]), ([124], .str [111, 114]), ([38], .str [97, 110, 100])]) = d at g3
      cases g3 with
      | dK h1 _ => cases h1
      | dW h1 =>
        rename_i a ps
        cases g2
        obtain ⟨ne, ⟨es, n, kd⟩, look⟩ := M.kd a ps h1
        refine ⟨a, es, n, g1, kd, fun z => ?_⟩
        obtain ⟨r, h2, h3⟩ := look z
        refine ⟨r, h2, ?_⟩
        injection hd with hd
        rw [← hd] at h3
        have wz := words_ok (z := z)
        cases q : lookD (.str z) (kdD [([32], .str [116, 104, 101, 110]), ([124], .str [111, 114]), ([38], .str [97, 110, 100])]) with
        | none =>
          rw [q] at h3 wz
          subst h3
          exact wz
        | some d2 =>
          rw [q] at h3 wz
          obtain ⟨u2, v2, rfl, k2, k3⟩ := h3
          refine ⟨v2, k2, ?_⟩
          have k3 := k3 fun _ => none
          rw [show d2 = .str (wordOf z) from wz] at k3
          generalize hw : D.str (wordOf z) = d3 at k3
          cases k3 with
          | str y =>
            injection hw with hw
            rw [hw]
          | _ => cases hw
      | _ => cases hd
  refine ⟨He.ga K "read", fdR, ["text"], He.glo_ok X G (c.fact 9), FR.kp, bR, rfl, fun L hL => ?_⟩
  have e : Phi tab 100000 (L + 1) 191 = readX 3 190 7 L (Phi tab 100000 L) := funext fun ds => Phi_ext rfl rfl ds
  rw [e]
  exact FnOk.frame (ok_read x2 T (by rfl) (by rfl) hL FR mk FI bI FN bN mN FS bS mS FC bC mC) spD_keeps

theorem defs {K : PySem.W.Frag} {mg : Str → Option Value} {h : Heap} (X : K.In h) (G : h.Ns mainGlobals mg) {P : Program} {w : World} (c : SaysS fa fn kds gcs ce.ecl w K) : ∀ x k m, ce.fn.lookup x = some (k, m) → DefOk K mg ce tab x k m ∨ ∀ base : Heap, K.In base → base.Ns mainGlobals mg → ExtOk P w K mg base (ctS K kds ce.ecl) ce tab 100000 x k m := fun x k m hx =>
  (show AllP (fun p : Str × (Nat × Nat) => DefOk K mg ce tab p.1 p.2.1 p.2.2 ∨ ∀ base : Heap, K.In base → base.Ns mainGlobals mg → ExtOk P w K mg base (ctS K kds ce.ecl) ce tab 100000 p.1 p.2.1 p.2.2) ce.fn from ⟨.inl (def_ok X G (c.fact 0) (c.def_ 0) sc0 (fun _ _ _ _ _ _ us hl => match us, hl with | [_, _], _ => rfl) rfl rfl cv0 fw0),
    .inl (def_ok X G (c.fact 1) (c.def_ 1) sc1 (fun _ _ _ _ _ _ us hl => match us, hl with | [_, _], _ => rfl) rfl rfl cv1 fw1),
    .inl (def_ok X G (c.fact 2) (c.def_ 2) sc2 (fun _ _ _ _ _ _ us hl => match us, hl with | [_, _, _], _ => rfl) rfl rfl cv2 fw2),
    .inl (def_ok X G (c.fact 3) (c.def_ 3) sc3 (fun _ _ _ _ _ _ us hl => match us, hl with | [_, _, _], _ => rfl) rfl rfl cv3 fw3),
    .inl (def_ok X G (c.fact 4) (c.def_ 4) sc4 (fun _ _ _ _ _ _ us hl => match us, hl with | [_], _ => rfl) rfl rfl cv4 fw4),
    .inl (def_ok X G (c.fact 5) (c.def_ 5) sc5 (fun _ _ _ _ _ _ us hl => match us, hl with | [_], _ => rfl) rfl rfl cv5 fw5),
    .inl (def_ok X G (c.fact 6) (c.def_ 6) sc6 (fun _ _ _ _ _ _ us hl => match us, hl with | [_, _], _ => rfl) rfl rfl cv6 fw6),
    .inl (def_ok X G (c.fact 7) (c.def_ 7) sc7 (fun _ _ _ _ _ _ us hl => match us, hl with | [_], _ => rfl) rfl rfl cv7 fw7),
    .inl (def_ok X G (c.fact 8) (c.def_ 8) sc8 (fun _ _ _ _ _ _ us hl => match us, hl with | [_], _ => rfl) rfl rfl cv8 fw8),
    .inr (fun base hk1 hk2 => ext_read X G c),
    .inl (def_ok X G (c.fact 10) (c.def_ 10) sc10 (fun _ _ _ _ _ _ us hl => match us, hl with | [_], _ => rfl) rfl rfl cv10 fw10),
    .inl (def_ok X G (c.fact 11) (c.def_ 11) sc11 (fun _ _ _ _ _ _ us hl => match us, hl with | [_], _ => rfl) rfl rfl cv11 fw11),
    trivial⟩).mem (lookup_mem hx)
theorem facts {P : Program} {w : World} {K : PySem.W.Frag} {mg : Str → Option Value} {h : Heap} (X : K.In h) (G : h.Ns mainGlobals mg) (c : SaysS fa fn kds gcs ce.ecl w K) (hlaw : ∀ ns : List Int, ns.length ≤ 63 → Phi tab 100000 (150 + 1) 198 [.scr ns] = .ok (.bl true)) :
    ∃ (fd : FuncData) (sp : Sp), (∀ (s : Shared) (u : Value), BindsTo s fd ⟨[u], []⟩ [("_law_script", u)]) ∧
        (∀ (H : Hp) (a : Addr) (ns : List Int), ns.length ≤ 63 → Only H → SqL K H a (ns.map V.int) → sp [.ref a] H (fun v _ => v = .bl true) fun _ _ _ => False) ∧
        ∀ base : Heap, K.In base → base.Ns mainGlobals mg → FnOk P w K mg base (L2.CX P w) (150 + 1) (He.ga K ("law" : Str)) fd ["_law_script"] sp :=
  law_F (k := 198) (ss := f_law_40.body) X G (mods X G c) (defs X G c) (c.def_ 11) sc11 (fun _ _ _ _ _ _ us hl => match us, hl with | [_], _ => rfl) rfl cv11 fw11 hlaw
end Tk
/-! Running the small language by simp. -/
namespace Tk
open PySem PySem.Spec PyProof.Rows L2
open D
def getV (ρ : En) (i : Nat) : Res D := match ρ[i]? with | some (some d) => .ok d | _ => .bad
@[simp] theorem getV_zero (d : D) (ρ : En) : getV (some d :: ρ) 0 = .ok d := rfl
@[simp] theorem getV_succ (x : Option D) (ρ : En) (i : Nat) : getV (x :: ρ) (i + 1) = getV ρ i := rfl
section
variable (A : Ar) (ρ : En)
@[simp] theorem ev_var (i : Nat) : ev A (.var i) ρ = getV ρ i := rfl
@[simp] theorem ev_con (d : D) : ev A (.con d) ρ = .ok d := rfl
@[simp] theorem ev_tup (es : List SE) : ev A (.tup es) ρ = (evs A es ρ).bind fun ds => .ok (.tup ds) := rfl
@[simp] theorem ev_lst (es : List SE) : ev A (.lst es) ρ = (evs A es ρ).bind fun ds => .ok (.lst ds) := rfl
@[simp] theorem ev_bin (op : Bo) (a b : SE) : ev A (.bin op a b) ρ = (ev A a ρ).bind fun x => (ev A b ρ).bind fun y => binD op x y := rfl
@[simp] theorem ev_neg (a : SE) : ev A (.neg a) ρ = (ev A a ρ).bind fun x => (asInt x).bind fun i => .ok (.int (-i)) := rfl
@[simp] theorem ev_nt (a : SE) : ev A (.nt a) ρ = (ev A a ρ).bind fun x => (asBl x).bind fun b => .ok (.bl (!b)) := rfl
@[simp] theorem ev_cmp (op : Co) (a b : SE) : ev A (.cmp op a b) ρ = (ev A a ρ).bind fun x => (ev A b ρ).bind fun y => cmpD op x y := rfl
@[simp] theorem ev_cmp2 (op op' : Co) (a b c : SE) : ev A (.cmp2 op op' a b c) ρ = (ev A a ρ).bind fun x => (ev A b ρ).bind fun y => (cmpD op x y).bind fun r => (asBl r).bind fun k => if k then (ev A c ρ).bind fun z => cmpD op' y z else .ok (.bl false) := rfl
@[simp] theorem ev_an (a b : SE) : ev A (.an a b) ρ = (ev A a ρ).bind fun x => (asBl x).bind fun k => if k then (ev A b ρ).bind fun y => (asBl y).bind fun q => .ok (.bl q) else .ok (.bl false) := rfl
@[simp] theorem ev_orr (a b : SE) : ev A (.orr a b) ρ = (ev A a ρ).bind fun x => (asBl x).bind fun k => if k then .ok (.bl true) else (ev A b ρ).bind fun y => (asBl y).bind fun q => .ok (.bl q) := rfl
@[simp] theorem ev_ite (c a b : SE) : ev A (.ite c a b) ρ = (ev A c ρ).bind fun x => (asBl x).bind fun k => if k then ev A a ρ else ev A b ρ := rfl
@[simp] theorem ev_ix (a i : SE) : ev A (.ix a i) ρ = (ev A a ρ).bind fun x => (ev A i ρ).bind fun y => ixD x y := rfl
@[simp] theorem ev_sl (a : SE) (lo hi : Option SE) : ev A (.sl a lo hi) ρ = (ev A a ρ).bind fun x => (evo A lo ρ).bind fun l => (evo A hi ρ).bind fun h => slD x l h := rfl
@[simp] theorem ev_rev (a : SE) : ev A (.rev a) ρ = (ev A a ρ).bind revD := rfl
@[simp] theorem ev_call (f : Nat) (es : List SE) : ev A (.call f es) ρ = (evs A es ρ).bind fun ds => A.Φ f ds := rfl
@[simp] theorem ev_bi (b : Bi) (es : List SE) : ev A (.bi b es) ρ = (evs A es ρ).bind fun ds => biD b ds := rfl
@[simp] theorem ev_me (b : Bi) (o : SE) (es : List SE) : ev A (.me b o es) ρ = (ev A o ρ).bind fun x => if recv b x then (evs A es ρ).bind fun ds => biD b (x :: ds) else .bad := rfl
theorem ev_lc (t : List Nat) (one : Bool) (it : SI) (ifs : List SE) (elt : SE) : ev A (.lc t one it ifs elt) ρ = (evi A it ρ).bind fun ds => (compL (turnF A t one ifs elt ρ) ds).bind fun r => if okN r.length then .ok (.lst r) else .bad := rfl
@[simp] theorem evs_nil : evs A [] ρ = .ok [] := rfl
@[simp] theorem evs_cons (e : SE) (es : List SE) : evs A (e :: es) ρ = (ev A e ρ).bind fun x => (evs A es ρ).bind fun r => .ok (x :: r) := rfl
@[simp] theorem evo_none : evo A none ρ = .ok none := rfl
@[simp] theorem evo_some (e : SE) : evo A (some e) ρ = (ev A e ρ).bind fun x => (asInt x).bind fun i => .ok (some i) := rfl
@[simp] theorem evc_nil : evc A [] ρ = .ok true := rfl
@[simp] theorem evc_cons (e : SE) (es : List SE) : evc A (e :: es) ρ = (ev A e ρ).bind fun x => (asBl x).bind fun k => if k then evc A es ρ else .ok false := rfl
@[simp] theorem evi_of (a : SE) : evi A (.of a) ρ = (ev A a ρ).bind itemsD := rfl
@[simp] theorem evi_zip (a b : SE) : evi A (.zip a b) ρ = (ev A a ρ).bind fun x => (ev A b ρ).bind fun y => (itemsD x).bind fun ds => (itemsD y).bind fun es => .ok (zipL ds es) := rfl
@[simp] theorem evi_enm (a : SE) : evi A (.enm a) ρ = (ev A a ρ).bind fun x => (itemsD x).bind fun ds => .ok (enumL 0 ds) := rfl
@[simp] theorem evi_rng (a b : SE) : evi A (.rng a b) ρ = (ev A a ρ).bind fun x => (ev A b ρ).bind fun y => (asInt x).bind fun i => (asInt y).bind fun j => if small62 i && small62 j then .ok (rangeL i j) else .bad := rfl
@[simp] theorem run_nil : run A [] ρ = .nx ρ := rfl
@[simp] theorem run_cons (s : SS) (r : List SS) : run A (s :: r) ρ = (run1 A s ρ).then fun ρ' => run A r ρ' := rfl
@[simp] theorem run1_asg (i : Nat) (e : SE) : run1 A (.asg i e) ρ = withR ρ (ev A e ρ) fun d => .nx (ρ.set i (some d)) := rfl
@[simp] theorem run1_asgF (i : Nat) (e : SE) : run1 A (.asgF i e) ρ = withR ρ (ev A e ρ) fun d => .nx (ρ.set i (some d)) := rfl
@[simp] theorem run1_asgT (t : List Nat) (e : SE) : run1 A (.asgT t e) ρ = withR ρ (ev A e ρ) fun d => match bindT t false d ρ with | some ρ' => .nx ρ' | none => .bad := rfl
@[simp] theorem run1_ret (e : SE) : run1 A (.ret e) ρ = withR ρ (ev A e ρ) fun d => .rt d := rfl
@[simp] theorem run1_retN : run1 A .retN ρ = .rt .non := rfl
@[simp] theorem run1_ifs (c : SE) (a b : List SS) : run1 A (.ifs c a b) ρ = withR ρ (ev A c ρ) fun x => withR ρ (asBl x) fun k => if k then run A a ρ else run A b ρ := rfl
def forB (t : List Nat) (one : Bool) (body : List SS) (d : D) (ρ : En) : Fl := match bindT t one d ρ with | some ρ' => run A body ρ' | none => .bad
@[simp] theorem forB_one (i : Nat) (body : List SS) (d : D) : forB A [i] true body d ρ = run A body (ρ.set i (some d)) := rfl
@[simp] theorem forB_two (i j : Nat) (body : List SS) (x y : D) : forB A [i, j] false body (.tup [x, y]) ρ = run A body ((ρ.set i (some x)).set j (some y)) := rfl
@[simp] theorem run1_forr (t : List Nat) (one : Bool) (it : SI) (body : List SS) : run1 A (.forr t one it body) ρ = withR ρ (evi A it ρ) fun ds => forL (forB A t one body) ds ρ := rfl
theorem run1_whl (c : SE) (body : List SS) : run1 A (.whl c body) ρ = whlL (fun ρ => (ev A c ρ).bind asBl) (fun ρ => run A body ρ) A.F ρ := rfl
@[simp] theorem run1_brk : run1 A .brk ρ = .bk ρ := rfl
@[simp] theorem run1_pass : run1 A .pass ρ = .nx ρ := rfl
@[simp] theorem run1_ex (e : SE) : run1 A (.ex e) ρ = withR ρ (ev A e ρ) fun _ => .nx ρ := rfl
@[simp] theorem run1_rse (c : Nat) : run1 A (.rse c) ρ = .exc c ρ := rfl
def appD (ρ : En) (i : Nat) (r : Res D) : Fl := match ρ[i]? with
    | some (some (.lst xs)) => withR ρ r fun d => if decide (xs.length < big) then .nx (ρ.set i (some (.lst (xs ++ [d])))) else .bad
    | _ => .bad
@[simp] theorem run1_app (i : Nat) (e : SE) : run1 A (.app i e) ρ = appD ρ i (ev A e ρ) := rfl
end
@[simp] theorem asBl_bl (b : Bool) : asBl (.bl b) = .ok b := rfl
@[simp] theorem asInt_int (b : Int) : asInt (.int b) = .ok b := rfl
@[simp] theorem add_ii (i j : Int) : binD .add (.int i) (.int j) = .ok (.int (i + j)) := rfl
@[simp] theorem sub_ii (i j : Int) : binD .sub (.int i) (.int j) = .ok (.int (i - j)) := rfl
@[simp] theorem mul_ii (i j : Int) : binD .mul (.int i) (.int j) = if inR i || inR j then .ok (.int (i * j)) else .bad := rfl
@[simp] theorem mod_ii (i j : Int) : binD .mod (.int i) (.int j) = if decide (0 < j) then .ok (.int (i % j)) else .bad := rfl
@[simp] theorem fdiv_ii (i j : Int) : binD .fdiv (.int i) (.int j) = if decide (0 < j) && decide (j < 1073741824) then .ok (.int (i / j)) else .bad := rfl
@[simp] theorem add_ss (x y : List Nat) : binD .add (.str x) (.str y) = if okN (x.length + y.length) then .ok (.str (x ++ y)) else .bad := rfl
@[simp] theorem add_ll (x y : List D) : binD .add (.lst x) (.lst y) = if okN (x.length + y.length) then .ok (.lst (x ++ y)) else .bad := rfl
@[simp] theorem add_tt (x y : List D) : binD .add (.tup x) (.tup y) = if okN (x.length + y.length) then .ok (.tup (x ++ y)) else .bad := rfl
@[simp] theorem mul_ti (x : List D) (k : Int) : binD .mul (.tup x) (.int k) = if decide (2 ≤ k) && decide (k ≤ 1000) && decide (x.length ≤ 1000) && !x.isEmpty then .ok (.tup (repL x k)) else .bad := rfl
@[simp] theorem lt_ii (i j : Int) : cmpD .lt (.int i) (.int j) = .ok (.bl (decide (i < j))) := rfl
@[simp] theorem le_ii (i j : Int) : cmpD .le (.int i) (.int j) = .ok (.bl (decide (i ≤ j))) := rfl
@[simp] theorem gt_ii (i j : Int) : cmpD .gt (.int i) (.int j) = .ok (.bl (decide (j < i))) := rfl
@[simp] theorem ge_ii (i j : Int) : cmpD .ge (.int i) (.int j) = .ok (.bl (decide (j ≤ i))) := rfl
@[simp] theorem eq_ii (i j : Int) : cmpD .eq (.int i) (.int j) = .ok (.bl (i == j)) := by simp [cmpD, sh, pln, dep, eqD]
@[simp] theorem ne_ii (i j : Int) : cmpD .ne (.int i) (.int j) = .ok (.bl (!(i == j))) := by simp [cmpD, sh, pln, dep, eqD]
@[simp] theorem eq_bb (i j : Bool) : cmpD .eq (.bl i) (.bl j) = .ok (.bl (i == j)) := by simp [cmpD, sh, pln, dep, eqD]
@[simp] theorem ne_bb (i j : Bool) : cmpD .ne (.bl i) (.bl j) = .ok (.bl (!(i == j))) := by simp [cmpD, sh, pln, dep, eqD]
@[simp] theorem eq_scr (ns : List Int) : cmpD .eq (.scr ns) (.lst []) = .ok (.bl ns.isEmpty) := rfl
@[simp] theorem len_l (xs : List D) : biD .len [.lst xs] = .ok (.int xs.length) := rfl
@[simp] theorem len_t (xs : List D) : biD .len [.tup xs] = .ok (.int xs.length) := rfl
@[simp] theorem len_scr (xs : List Int) : biD .len [.scr xs] = .ok (.int xs.length) := rfl
@[simp] theorem len_s (xs : List Nat) : biD .len [.str xs] = if okN xs.length then .ok (.int xs.length) else .bad := rfl
@[simp] theorem int_i (i : Int) : biD .int [.int i] = .ok (.int i) := rfl
@[simp] theorem int_b (b : Bool) : biD .int [.bl b] = .ok (.int (if b then 1 else 0)) := rfl
@[simp] theorem tuple_l (xs : List D) : biD .tuple [.lst xs] = .ok (.tup xs) := rfl
@[simp] theorem tuple_t (xs : List D) : biD .tuple [.tup xs] = .ok (.tup xs) := rfl
@[simp] theorem list_l (xs : List D) : biD .list [.lst xs] = .ok (.lst xs) := rfl
@[simp] theorem list_t (xs : List D) : biD .list [.tup xs] = .ok (.lst xs) := rfl
@[simp] theorem bi_isi' (t : Nat) (d : D) : biD (.isi t) [d] = isiD t d := rfl
@[simp] theorem ix_l (xs : List D) (i : Int) : ixD (.lst xs) (.int i) = match atI xs i with | some d => .ok d | none => .bad := rfl
@[simp] theorem ix_t (xs : List D) (i : Int) : ixD (.tup xs) (.int i) = match atI xs i with | some d => .ok d | none => .bad := rfl
@[simp] theorem ix_scr (xs : List Int) (i : Int) : ixD (.scr xs) (.int i) = match atI xs i with | some d => .ok (.int d) | none => .bad := rfl
@[simp] theorem ix_s (xs : List Nat) (i : Int) : ixD (.str xs) (.int i) = if okN xs.length then (match atI xs i with | some c => .ok (.str [c]) | none => .bad) else .bad := rfl
@[simp] theorem items_l (xs : List D) : itemsD (.lst xs) = .ok xs := rfl
@[simp] theorem items_t (xs : List D) : itemsD (.tup xs) = .ok xs := rfl
@[simp] theorem items_s (z : List Nat) : itemsD (.str z) = .ok (z.map fun c => D.str [c]) := rfl
@[simp] theorem Ar_Phi (tab : Nat → Option Fn) (F L : Nat) : (ArOf tab F L).Φ = Phi tab F L := rfl
@[simp] theorem Ar_F (tab : Nat → Option Fn) (F L : Nat) : (ArOf tab F L).F = F := rfl
@[simp] theorem okN_iff (n : Nat) : okN n = decide (n ≤ 16777216) := rfl
theorem inR_iff (i : Int) : inR i = true ↔ -18446744073709551616 < i ∧ i < 18446744073709551616 := by
  unfold inR
  simp
theorem atI_get {α : Type} {xs : List α} {i : Int} (h0 : 0 ≤ i) (h1 : i < xs.length) : atI xs i = some (xs[i.toNat]'(by omega)) := by
  unfold atI ixN
  rw [if_pos h0, if_pos h1]
  exact List.getElem?_eq_getElem (by omega)
theorem atI_neg {α : Type} {xs : List α} {i : Int} (h0 : i < 0) (h1 : -(xs.length : Int) ≤ i) : atI xs i = some (xs[(i + xs.length).toNat]'(by omega)) := by
  unfold atI ixN
  rw [if_neg (by omega), if_pos h1]
  exact List.getElem?_eq_getElem (by omega)
@[simp] theorem atI_c0 {α : Type} (a : α) (xs : List α) : atI (a :: xs) 0 = some a := by
  rw [atI_get (by decide) (by simp <;> omega)]; rfl
@[simp] theorem atI_c1 {α : Type} (a b : α) (xs : List α) : atI (a :: b :: xs) 1 = some b := by
  rw [atI_get (by decide) (by simp <;> omega)]; rfl
@[simp] theorem atI_c2 {α : Type} (a b c : α) (xs : List α) : atI (a :: b :: c :: xs) 2 = some c := by
  rw [atI_get (by decide) (by simp <;> omega)]; rfl
@[simp] theorem atI_c3 {α : Type} (a b c d : α) (xs : List α) : atI (a :: b :: c :: d :: xs) 3 = some d := by
  rw [atI_get (by decide) (by simp <;> omega)]; rfl
/-! ### comprehensions -/
theorem compL_filter {f : D → Res (Option D)} {g : D → D} {p : D → Bool} : ∀ {ds : List D}, (∀ d ∈ ds, f d = .ok (if p d then some (g d) else none)) → compL f ds = .ok ((ds.filter p).map g)
  | [], _ => rfl
  | d :: ds, h => by
    unfold compL
    rw [h d List.mem_cons_self, compL_filter (ds := ds) fun x hx => h x (List.mem_cons_of_mem _ hx)]
    cases q : p d <;> simp [List.filter_cons, q]
theorem compL_map {f : D → Res (Option D)} {g : D → D} {ds : List D} (h : ∀ d ∈ ds, f d = .ok (some (g d))) : compL f ds = .ok (ds.map g) := by
  have := compL_filter (f := f) (g := g) (p := fun _ => true) (ds := ds) (by simpa using h)
  rw [this, List.filter_eq_self.mpr (fun _ _ => rfl)]
theorem turn1 {A : Ar} {i : Nat} {ifs : List SE} {elt : SE} {ρ : En} {d : D} : turnF A [i] true ifs elt ρ d = (evc A ifs (ρ.set i (some d))).bind fun k => if k then (ev A elt (ρ.set i (some d))).bind fun x => .ok (some x) else .ok none := rfl
theorem turn2 {A : Ar} {i j : Nat} {ifs : List SE} {elt : SE} {ρ : En} {x y : D} : turnF A [i, j] false ifs elt ρ (.tup [x, y]) = (evc A ifs ((ρ.set i (some x)).set j (some y))).bind fun k => if k then (ev A elt ((ρ.set i (some x)).set j (some y))).bind fun x => .ok (some x) else .ok none := rfl
/-- [elt for i in ..] -/
theorem lc_map {A : Ar} {i : Nat} {it : SI} {elt : SE} {ρ : En} {ds : List D} {g : D → D} (hi : evi A it ρ = .ok ds) (he : ∀ d ∈ ds, ev A elt (ρ.set i (some d)) = .ok (g d)) (hl : ds.length ≤ 16777216) : ev A (.lc [i] true it [] elt) ρ = .ok (.lst (ds.map g)) := by
  rw [ev_lc, hi, Res.bind_ok, compL_map (g := g), Res.bind_ok, if_pos (by simpa using hl)]
  intro d hd
  rw [turn1, evc_nil, Res.bind_ok, if_pos rfl, he d hd]
  rfl
theorem lc_filter {A : Ar} {i : Nat} {it : SI} {c elt : SE} {ρ : En} {ds : List D} {g : D → D} {p : D → Bool} (hi : evi A it ρ = .ok ds) (hc : ∀ d ∈ ds, ev A c (ρ.set i (some d)) = .ok (.bl (p d))) (he : ∀ d ∈ ds, p d = true → ev A elt (ρ.set i (some d)) = .ok (g d)) (hl : ds.length ≤ 16777216) : ev A (.lc [i] true it [c] elt) ρ = .ok (.lst ((ds.filter p).map g)) := by
  rw [ev_lc, hi, Res.bind_ok, compL_filter (g := g) (p := p), Res.bind_ok, if_pos]
  · have := List.length_filter_le p ds
    simp
    omega
  intro d hd
  rw [turn1, evc_cons, hc d hd, Res.bind_ok, asBl_bl, Res.bind_ok]
  cases q : p d with
  | true =>
    rw [if_pos rfl, evc_nil, Res.bind_ok, if_pos rfl, he d hd q]
    rfl
  | false => rfl
theorem intsO_map (ns : List Int) : intsO (ns.map D.int) = some ns := by
  induction ns with
  | nil => rfl
  | cons n ns ih => simp [intsO, ih]
theorem blsO_map {α : Type} (f : α → Bool) (xs : List α) : blsO (xs.map fun x => D.bl (f x)) = some (xs.map f) := by
  induction xs with
  | nil => rfl
  | cons n ns ih => simp [blsO, ih]
theorem all_map {α : Type} (f : α → Bool) (xs : List α) : biD .all [.lst (xs.map fun x => D.bl (f x))] = .ok (.bl (xs.all f)) := by
  show (match blsO (xs.map fun x => D.bl (f x)) with | some bs => Res.ok (D.bl (bs.all id)) | none => .bad) = _
  rw [blsO_map]
  simp [List.all_map]
theorem any_map {α : Type} (f : α → Bool) (xs : List α) : biD .any [.lst (xs.map fun x => D.bl (f x))] = .ok (.bl (xs.any f)) := by
  show (match blsO (xs.map fun x => D.bl (f x)) with | some bs => Res.ok (D.bl (bs.any id)) | none => .bad) = _
  rw [blsO_map]
  simp [List.any_map]
theorem range_mem {lo hi : Int} {d : D} (h : d ∈ rangeL lo hi) : ∃ i : Int, d = .int i ∧ lo ≤ i ∧ i < hi := by
  unfold rangeL at h
  obtain ⟨k, hk, rfl⟩ := List.mem_map.mp h
  have := List.mem_range.mp hk
  exact ⟨_, rfl, by omega, by omega⟩
theorem range_len {lo hi : Int} : (rangeL lo hi).length = (hi - lo).toNat := by simp [rangeL]
/-! ### loops -/
/-- a for whose turns all go through: the slots by a function -/
theorem forL_fold {f : D → En → Fl} {g : En → D → En} : ∀ {ds : List D} {ρ : En}, (∀ (pre : List D) (d : D) (post : List D), ds = pre ++ d :: post → f d (pre.foldl g ρ) = .nx (g (pre.foldl g ρ) d)) → forL f ds ρ = .nx (ds.foldl g ρ)
  | [], ρ, _ => rfl
  | d :: ds, ρ, h => by
    unfold forL
    have h0 := h [] d ds rfl
    simp only [List.foldl_nil] at h0
    rw [h0]
    show forL f ds (g ρ d) = _
    rw [forL_fold (ds := ds) (ρ := g ρ d) fun pre e post hp => by
      have := h (d :: pre) e post (by rw [hp]; rfl)
      simpa using this]
    rfl
/-- a for over states of a kind S: each turn keeps it -/
theorem forL_inv {f : D → En → Fl} {S : Nat → En → Prop} : ∀ {ds : List D} {i : Nat} {ρ : En}, S i ρ → (∀ (j : Nat) (d : D) (ρ : En), ds[j]? = some d → S (i + j) ρ → ∃ ρ', f d ρ = .nx ρ' ∧ S (i + j + 1) ρ') → ∃ ρ', forL f ds ρ = .nx ρ' ∧ S (i + ds.length) ρ'
  | [], i, ρ, h, _ => ⟨ρ, rfl, h⟩
  | d :: ds, i, ρ, h, st => by
    obtain ⟨ρ1, e1, h1⟩ := st 0 d ρ rfl h
    obtain ⟨ρ2, e2, h2⟩ := forL_inv (ds := ds) (i := i + 1) (ρ := ρ1) h1 fun j e ρ hj hS => by
      have := st (j + 1) e ρ (by simpa using hj) (by rw [show i + (j + 1) = i + 1 + j by omega]; exact hS)
      rw [show i + (j + 1) + 1 = i + 1 + j + 1 by omega] at this
      exact this
    refine ⟨ρ2, ?_, by rw [show i + (d :: ds).length = i + 1 + ds.length by simp; omega]; exact h2⟩
    unfold forL
    rw [e1]
    exact e2
/-- a for that leaves by a return where some item says so -/
theorem forL_all {f : D → En → Fl} {p : D → Bool} {r : D} {S : En → Prop} : ∀ {ds : List D} {ρ : En}, S ρ → (∀ d ∈ ds, ∀ ρ, S ρ → if p d then ∃ ρ', f d ρ = .nx ρ' ∧ S ρ' else f d ρ = .rt r) → if ds.all p then ∃ ρ', forL f ds ρ = .nx ρ' ∧ S ρ' else forL f ds ρ = .rt r
  | [], ρ, h, _ => ⟨ρ, rfl, h⟩
  | d :: ds, ρ, h, st => by
    have h0 := st d List.mem_cons_self ρ h
    cases q : p d with
    | false =>
      rw [q] at h0
      simp only [Bool.false_eq_true, ↓reduceIte] at h0
      simp only [List.all_cons, q, Bool.false_and, Bool.false_eq_true, ↓reduceIte]
      unfold forL
      rw [h0]
    | true =>
      rw [q] at h0
      simp only [↓reduceIte] at h0
      obtain ⟨ρ1, e1, h1⟩ := h0
      simp only [List.all_cons, q, Bool.true_and]
      have := forL_all (ds := ds) (ρ := ρ1) h1 fun e he => st e (List.mem_cons_of_mem _ he)
      have e : forL f (d :: ds) ρ = forL f ds ρ1 := by
        conv => lhs; unfold forL
        rw [e1]
      rw [e]
      exact this
end Tk
namespace Tk
open PySem PySem.Spec PyProof.Rows L2
open D
/-! ### things of any kind -/
mutual
/-- no list within is longer -/
def lenB (n : Nat) : D → Bool
  | .tup xs => decide (xs.length ≤ n) && lenAll n xs
  | .lst xs => decide (xs.length ≤ n) && lenAll n xs
  | .str z => decide (z.length ≤ n)
  | _ => true
def lenAll (n : Nat) : List D → Bool
  | [] => true
  | x :: xs => lenB n x && lenAll n xs
end
structure Th (n k : Nat) (d : D) : Prop where
  pl : d.pln = true
  dp : d.dep ≤ k
  ln : lenB n d = true
theorem plnAll_mem {x : D} : ∀ {xs : List D}, plnAll xs = true → x ∈ xs → x.pln = true
  | y :: ys, h, m => by
    simp only [plnAll, Bool.and_eq_true] at h
    rcases List.mem_cons.mp m with e | m
    · rw [e]; exact h.1
    · exact plnAll_mem h.2 m
theorem lenAll_mem {n : Nat} {x : D} : ∀ {xs : List D}, lenAll n xs = true → x ∈ xs → lenB n x = true
  | y :: ys, h, m => by
    simp only [lenAll, Bool.and_eq_true] at h
    rcases List.mem_cons.mp m with e | m
    · rw [e]; exact h.1
    · exact lenAll_mem h.2 m
theorem depAll_mem {x : D} : ∀ {xs : List D}, x ∈ xs → x.dep ≤ depAll xs
  | y :: ys, m => by
    simp only [depAll]
    rcases List.mem_cons.mp m with e | m
    · rw [e]; omega
    · have := depAll_mem m; omega
theorem plnAll_iff : ∀ {xs : List D}, plnAll xs = true ↔ ∀ x ∈ xs, x.pln = true
  | [] => by simp [plnAll]
  | y :: ys => by simp [plnAll, plnAll_iff (xs := ys)]
theorem lenAll_iff {n : Nat} : ∀ {xs : List D}, lenAll n xs = true ↔ ∀ x ∈ xs, lenB n x = true
  | [] => by simp [lenAll]
  | y :: ys => by simp [lenAll, lenAll_iff (xs := ys)]
theorem depAll_iff {k : Nat} : ∀ {xs : List D}, depAll xs ≤ k ↔ ∀ x ∈ xs, x.dep ≤ k
  | [] => by simp [depAll]
  | y :: ys => by
    have := depAll_iff (k := k) (xs := ys)
    simp only [depAll, List.mem_cons, forall_eq_or_imp, ← this]
    omega
theorem Th.tup {n k : Nat} {xs : List D} : Th n (k + 1) (.tup xs) ↔ xs.length ≤ n ∧ ∀ x ∈ xs, Th n k x := by
  constructor
  · intro ⟨h1, h2, h3⟩
    simp only [pln] at h1
    simp only [dep] at h2
    simp only [lenB, Bool.and_eq_true, decide_eq_true_eq] at h3
    exact ⟨h3.1, fun x hx => ⟨plnAll_iff.mp h1 x hx, depAll_iff.mp (by omega) x hx, lenAll_iff.mp h3.2 x hx⟩⟩
  · intro ⟨h1, h2⟩
    refine ⟨by simp only [pln]; exact plnAll_iff.mpr fun x hx => (h2 x hx).pl, by simp only [dep]; have := depAll_iff.mpr fun x hx => (h2 x hx).dp; omega, ?_⟩
    simp only [lenB, Bool.and_eq_true, decide_eq_true_eq]
    exact ⟨h1, lenAll_iff.mpr fun x hx => (h2 x hx).ln⟩
theorem Th.lst {n k : Nat} {xs : List D} : Th n (k + 1) (.lst xs) ↔ xs.length ≤ n ∧ ∀ x ∈ xs, Th n k x := by
  constructor
  · intro ⟨h1, h2, h3⟩
    simp only [pln] at h1
    simp only [dep] at h2
    simp only [lenB, Bool.and_eq_true, decide_eq_true_eq] at h3
    exact ⟨h3.1, fun x hx => ⟨plnAll_iff.mp h1 x hx, depAll_iff.mp (by omega) x hx, lenAll_iff.mp h3.2 x hx⟩⟩
  · intro ⟨h1, h2⟩
    refine ⟨by simp only [pln]; exact plnAll_iff.mpr fun x hx => (h2 x hx).pl, by simp only [dep]; have := depAll_iff.mpr fun x hx => (h2 x hx).dp; omega, ?_⟩
    simp only [lenB, Bool.and_eq_true, decide_eq_true_eq]
    exact ⟨h1, lenAll_iff.mpr fun x hx => (h2 x hx).ln⟩
theorem Th.mono {n n' k k' : Nat} {d : D} (h : Th n k d) (hn : n ≤ n') (hk : k ≤ k') : Th n' k' d := by
  have key : ∀ (d : D), lenB n d = true → lenB n' d = true := by
    intro d
    apply D.rec (motive_1 := fun d => lenB n d = true → lenB n' d = true) (motive_2 := fun ds => lenAll n ds = true → lenAll n' ds = true) (motive_3 := fun _ => True) (motive_4 := fun _ => True)
    all_goals first
      | (intros; trivial)
      | (intro xs ih h; simp only [lenB, Bool.and_eq_true, decide_eq_true_eq] at h ⊢; exact ⟨by omega, ih h.2⟩)
      | (intro z h; simp only [lenB, decide_eq_true_eq] at h ⊢; omega)
      | (intro x xs h1 h2 h; simp only [lenAll, Bool.and_eq_true] at h ⊢; exact ⟨h1 h.1, h2 h.2⟩)
  exact ⟨h.pl, Nat.le_trans h.dp hk, key d h.ln⟩
theorem Th.sh {n k : Nat} {d : D} (h : Th n k d) (hk : k ≤ 64) : d.sh = true := by
  unfold D.sh
  rw [h.pl]
  have := h.dp
  simp
  omega
/-- isinstance of a plain thing -/
def isB (t : Nat) : D → Bool
  | .bl _ => t == 1 || t == 2
  | .int _ => t == 1
  | .str _ => t == 0
  | .tup _ => t == 3
  | .lst _ => t == 4
  | _ => false
theorem isi_ok {d : D} (h : d.pln = true) {t : Nat} (ht : t < 5) : isiD t d = .ok (.bl (isB t d)) := by
  cases d <;> first | (simp [isiD, isB, ht]; done) | (simp [pln] at h; done)
end Tk
namespace Tk
open PySem PySem.Spec PyProof.Rows L2
open D
/-! ### texts of ascending signs -/
theorem filter_asc : ∀ (L t : List Nat), L.Pairwise (· < ·) → t.Pairwise (· < ·) → (∀ x ∈ t, x ∈ L) → L.filter (fun c => t.contains c) = t
  | [], t, _, _, h => by
    cases t with
    | nil => rfl
    | cons b t => exact absurd (h b (by simp)) (by simp)
  | a :: L, t, hL, ht, h => by
    rw [List.pairwise_cons] at hL
    by_cases ha : a ∈ t
    · cases t with
      | nil => cases ha
      | cons b t =>
        rw [List.pairwise_cons] at ht
        have hb : b = a := by
          rcases List.mem_cons.mp ha with e | e
          · exact e.symm
          · have h1 := ht.1 a e
            rcases List.mem_cons.mp (h b (by simp)) with e2 | e2
            · exact e2
            · have := hL.1 b e2
              omega
        subst hb
        have e : L.filter (fun c => (b :: t).contains c) = L.filter (fun c => t.contains c) := by
          apply List.filter_congr
          intro c hc
          have : c ≠ b := by
            have := hL.1 c hc
            omega
          simp [this]
        rw [List.filter_cons_of_pos (by simp), e, filter_asc L t hL.2 ht.2]
        intro x hx
        rcases List.mem_cons.mp (h x (by simp [hx])) with e2 | e2
        · have := ht.1 x hx
          omega
        · exact e2
    · rw [List.filter_cons_of_neg (by simpa using ha)]
      refine filter_asc L t hL.2 ht fun x hx => ?_
      rcases List.mem_cons.mp (h x hx) with e | e
      · exact absurd (e ▸ hx) ha
      · exact e
def ascB : List Nat → Bool
  | a :: b :: r => decide (a < b) && ascB (b :: r)
  | _ => true
theorem asc_pair : ∀ {t : List Nat}, ascB t = true → t.Pairwise (· < ·)
  | [], _ => .nil
  | [a], _ => by simp
  | a :: b :: r, h => by
    unfold ascB at h
    obtain ⟨h1, h2⟩ := Bool.and_eq_true_iff.mp h
    have ih := asc_pair h2
    rw [List.pairwise_cons]
    refine ⟨fun x hx => ?_, ih⟩
    have h1 := of_decide_eq_true h1
    rcases List.mem_cons.mp hx with e | e
    · omega
    · have := (List.pairwise_cons.mp ih).1 x e
      omega
theorem pair_asc : ∀ {t : List Nat}, t.Pairwise (· < ·) → ascB t = true
  | [], _ => rfl
  | [a], _ => rfl
  | a :: b :: r, h => by
    obtain ⟨h1, h2⟩ := List.pairwise_cons.mp h
    unfold ascB
    rw [pair_asc h2, Bool.and_true]
    exact decide_eq_true (h1 b (by simp))
def sgn : List Nat := [48, 49, 97, 98]
/-- the two ways to tell ascending signs are one -/
theorem signs_eq (t : List Nat) : (t.all (fun c => sgn.contains c) && ascB t) = (sgn.filter (fun c => t.contains c) == t) := by
  have hs : sgn.Pairwise (· < ·) := by decide
  rw [Bool.eq_iff_iff]
  constructor
  · intro h
    obtain ⟨h1, h2⟩ := Bool.and_eq_true_iff.mp h
    rw [beq_iff_eq]
    refine filter_asc sgn t hs (asc_pair h2) fun x hx => ?_
    simpa using List.all_eq_true.mp h1 x hx
  · intro h
    rw [beq_iff_eq] at h
    rw [Bool.and_eq_true]
    refine ⟨List.all_eq_true.mpr fun x hx => ?_, pair_asc ?_⟩
    · rw [← h] at hx
      simpa using (List.mem_filter.mp hx).1
    · rw [← h]
      exact hs.filter _
end Tk
namespace Tk
open PySem PySem.Spec PyProof.Rows L2
open D
/-! ### what the laws draw -/
def cellI (ns : List Int) (k : Int) : Int := if ns.isEmpty then 7 * k else ns.getD (k % ns.length).toNat 0 + 6553 * (k / ns.length)
def drawnI (ns : List Int) (k m : Int) : Int :=
  let c := (cellI ns k % 2147483563 * 69069 + 104723 * (k + 1)) % 2147483563
  let c := (c * c + c / 3) % 2147483399
  (c * c + c / 7) % 2147483647 / 11 % m
section
variable {F L : Nat}
theorem cell_ok (ns : List Int) (k : Int) (hl : ns.length ≤ 63) : Phi tab F (L + 1) 4 [.scr ns, .int k] = .ok (.int (cellI ns k)) := by
  rw [Phi_succ (f := f__law_cell) rfl]
  by_cases hn : ns = []
  · subst hn
    simp [callFn, f__law_cell, cellI, inR_iff]
  · have h1 : (0 : Int) < ns.length := by
      have := List.length_pos_iff.mpr hn
      omega
    have h2 : (ns.length : Int) < 1073741824 := by omega
    have h3 : (0 : Int) ≤ k % ns.length := Int.emod_nonneg _ (by omega)
    have h4 : k % ns.length < ns.length := Int.emod_lt_of_pos _ h1
    have e : atI ns (k % ns.length) = some (ns.getD (k % (ns.length : Int)).toNat 0) := by
      rw [atI_get h3 h4, List.getD_eq_getElem?_getD, List.getElem?_eq_getElem (by omega)]
      rfl
    have h5 : inR 6553 = true := by decide
    have h6 : ns.isEmpty = false := by simpa using hn
    have h7 : 0 < ns.length := by omega
    simp [callFn, f__law_cell, cellI, h6, h7, h2, e, h5]
theorem emod_range {x : Int} {m : Int} (h : 0 < m) : 0 ≤ x % m ∧ x % m < m := ⟨Int.emod_nonneg _ (by omega), Int.emod_lt_of_pos _ h⟩
theorem drawn_ok (ns : List Int) (k m : Int) (hl : ns.length ≤ 63) (hm : 0 < m) : Phi tab F (L + 2) 5 [.scr ns, .int k, .int m] = .ok (.int (drawnI ns k m)) := by
  rw [Phi_succ (f := f__law_drawn) rfl]
  have h5 : inR 69069 = true := by decide
  have h6 : inR 104723 = true := by decide
  have hc : ∀ x : Int, inR (x % 2147483563) = true := fun x => by
    have := emod_range (x := x) (m := 2147483563) (by decide)
    rw [inR_iff]; omega
  have hd : ∀ x : Int, inR (x % 2147483399) = true := fun x => by
    have := emod_range (x := x) (m := 2147483399) (by decide)
    rw [inR_iff]; omega
  simp [callFn, f__law_drawn, cell_ok ns k hl, h5, h6, hc, hd, hm, drawnI]
theorem drawn_range (ns : List Int) (k m : Int) (hm : 0 < m) : 0 ≤ drawnI ns k m ∧ drawnI ns k m < m := emod_range hm
end
end Tk
namespace Tk
open PySem PySem.Spec PyProof.Rows L2
open D
/-! ### spoilt things -/
def thB (n k : Nat) (d : D) : Bool := d.pln && decide (d.dep ≤ k) && lenB n d
theorem thB_iff {n k : Nat} {d : D} : thB n k d = true ↔ Th n k d := by
  unfold thB
  simp only [Bool.and_eq_true, decide_eq_true_eq]
  exact ⟨fun h => ⟨h.1.1, h.1.2, h.2⟩, fun h => ⟨⟨h.pl, h.dp⟩, h.ln⟩⟩
mutual
/-- all whole numbers within are figures -/
def figB : D → Bool
  | .int i => decide (0 ≤ i) && decide (i < 10)
  | .tup xs => figAll xs
  | .lst xs => figAll xs
  | _ => true
def figAll : List D → Bool
  | [] => true
  | x :: xs => figB x && figAll xs
end
theorem figAll_iff : ∀ {xs : List D}, figAll xs = true ↔ ∀ x ∈ xs, figB x = true
  | [] => by simp [figAll]
  | y :: ys => by simp [figAll, figAll_iff (xs := ys)]
theorem mem_cutL {α : Type} {xs : List α} {lo hi : Option Int} {x : α} (h : x ∈ cutL xs lo hi) : x ∈ xs := List.mem_of_mem_drop (List.mem_of_mem_take h)
theorem len_cutL {α : Type} {xs : List α} {lo hi : Option Int} : (cutL xs lo hi).length ≤ xs.length := by
  unfold cutL
  rw [List.length_take, List.length_drop]
  omega
@[simp] theorem sl_t (xs : List D) (lo hi : Option Int) : slD (.tup xs) lo hi = .ok (.tup (cutL xs lo hi)) := rfl
@[simp] theorem sl_l (xs : List D) (lo hi : Option Int) : slD (.lst xs) lo hi = .ok (.lst (cutL xs lo hi)) := rfl
@[simp] theorem sl_s (xs : List Nat) (lo hi : Option Int) : slD (.str xs) lo hi = if okN xs.length then .ok (.str (cutL xs lo hi)) else .bad := rfl
@[simp] theorem rev_t (xs : List D) : revD (.tup xs) = .ok (.tup xs.reverse) := rfl
theorem cut_pick {P : D → Prop} {xs : List D} (h : ∀ x ∈ xs, P x) {i : Int} (h0 : 0 ≤ i) (h1 : i < xs.length) : ∃ d, atI xs i = some d ∧ P d := ⟨_, atI_get h0 h1, h _ (List.getElem_mem _)⟩
def odds : List D := [.int (-1), .int 0, .int 1, .int 3, .int 4, .int 7, .bl true, .bl false, .non, .str [], .str [97], .str [48], .str [98, 97], .str [97, 98], .str [50], .tup [], .lst [], .tup [.str [110, 111, 110, 101]], .tup [.str [101, 109, 112, 116, 121]], .tup [.str [115, 105, 103, 110, 115], .str [97, 98]], .tup [.str [115, 105, 103, 110, 115], .str []], .tup [.str [103, 105, 118, 101, 110], .int 0], .tup [.str [116, 101, 120, 116], .str [48, 49]], .tup [.str [116, 104, 101, 110]], .str [110, 111, 116], .tup [.int 0, .int 0, .int 0, .int 0], .tup [.str [109, 97, 110, 121]], .tup [.bl true]]
end Tk
namespace Tk
open PySem PySem.Spec PyProof.Rows L2
open D
/-! ### is_text, are_signs -/
theorem sub_one (c : Nat) (t : List Nat) : subText [c] t = t.contains c := by
  have h := PySem.StrLaws.found_one ⟨t.toArray⟩ c
  unfold subText
  have e : (⟨t.toArray⟩ : Str).length = t.length := by simp [Str.length]
  rw [e] at h
  rw [h]
  simp
def tB : D → Bool
  | .str z => z.all fun c => sgn.contains c
  | _ => false
def sgB : D → Bool
  | .str z => z.all (fun c => sgn.contains c) && ascB z && !z.isEmpty
  | _ => false
theorem zipL_map (f : Nat → D) : ∀ xs ys : List Nat, zipL (xs.map f) (ys.map f) = (xs.zip ys).map fun p => .tup [f p.1, f p.2]
  | [], ys => by simp [zipL]
  | x :: xs, [] => by simp [zipL]
  | x :: xs, y :: ys => by simp [zipL, zipL_map f xs ys]
theorem asc_all : ∀ t : List Nat, (t.zip (t.drop 1)).all (fun p => decide ([p.1] < [p.2])) = ascB t
  | [] => rfl
  | [a] => rfl
  | a :: b :: r => by
    have ih := asc_all (b :: r)
    have e : decide ([a] < [b]) = decide (a < b) := by
      congr 1
      simp [List.cons_lt_cons_iff]
    simp only [List.drop_succ_cons, List.drop_zero] at ih ⊢
    simp only [List.zip_cons_cons, List.all_cons, e]
    unfold ascB
    rw [← ih]
section
variable {F L : Nat}
theorem is_text_ok {d : D} {n k : Nat} (h : Th n k d) (hn : n ≤ 1000) : Phi tab F (L + 1) 0 [d] = .ok (.bl (tB d)) := by
  rw [Phi_succ (f := f_is_text) rfl]
  cases d with
  | str z =>
    have hz : z.length ≤ n := by simpa [lenB] using h.ln
    have c1 : ev (ArOf tab F L) f_is_text_c1 [some (.str z), none] = .ok (.lst (z.map fun c => .bl (sgn.contains c))) := by
      unfold f_is_text_c1
      rw [lc_map (ds := z.map fun c => D.str [c]) (g := fun x => match x with | .str [c] => .bl (sgn.contains c) | _ => .non)]
      · simp
      · simp
      · intro d hd
        obtain ⟨c, _, rfl⟩ := List.mem_map.mp hd
        have : cmpD .isin (.str [c]) (.str [48, 49, 97, 98]) = .ok (.bl (sgn.contains c)) := by
          show Res.ok (D.bl (subText [c] [48, 49, 97, 98])) = _
          rw [sub_one]
          rfl
        simp [this]
      · simp; omega
    simp [callFn, f_is_text, isiD, c1, all_map, tB]
  | dic _ => exact absurd h.pl (by simp [pln])
  | obj _ _ => exact absurd h.pl (by simp [pln])
  | scr _ => exact absurd h.pl (by simp [pln])
  | _ => simp [callFn, f_is_text, isiD, tB]
end
theorem strsO_map {α : Type} (f : α → List Nat) (xs : List α) : strsO (xs.map fun x => D.str (f x)) = some (xs.map f) := by
  induction xs with
  | nil => rfl
  | cons n ns ih => simp [strsO, ih]
theorem join_map {α : Type} (f : α → List Nat) (xs : List α) (h : (xs.map f).flatten.length ≤ 16777216) : biD .join [.str [], .lst (xs.map fun x => D.str (f x))] = .ok (.str (xs.map f).flatten) := by
  show (match strsO (xs.map fun x => D.str (f x)) with | some zs => if okN zs.flatten.length then Res.ok (D.str zs.flatten) else .bad | none => .bad) = _
  rw [strsO_map]
  show (if okN (xs.map f).flatten.length then Res.ok (D.str (xs.map f).flatten) else .bad) = _
  rw [if_pos (by simpa using h)]
theorem flat_one {α : Type} (f : α → Nat) (xs : List α) : (xs.map fun x => [f x]).flatten = xs.map f := by
  induction xs with
  | nil => rfl
  | cons x xs ih => simp [ih]
section
variable {F L : Nat}
theorem cut1 (t : List Nat) : cutL t (some 1) none = t.drop 1 := by
  have e : HT.sIx t.length 0 (some 1) = min 1 t.length := by
    unfold HT.sIx
    simp
    try omega
  have e2 : HT.sIx t.length t.length none = t.length := rfl
  unfold cutL
  rw [e, e2]
  cases t with
  | nil => rfl
  | cons a t =>
    have : min 1 (a :: t).length = 1 := by simp
    rw [this]
    simp
theorem are_signs_ok {d : D} {n k : Nat} (h : Th n k d) (hn : n ≤ 1000) (hk : k ≤ 64) : Phi tab F (L + 2) 1 [d] = .ok (.bl (sgB d)) := by
  rw [Phi_succ (f := f_are_signs) rfl]
  have ht := is_text_ok (F := F) (L := L) h hn
  cases d with
  | str z =>
    have hz : z.length ≤ n := by simpa [lenB] using h.ln
    have hs := h.sh hk
    have he : cmpD .eq (.str z) (.str []) = .ok (.bl z.isEmpty) := by
      have h2 : (D.str []).sh = true := by decide
      show (if (D.str z).sh && (D.str []).sh then Res.ok (D.bl (eqD (.str z) (.str []))) else .bad) = _
      rw [hs, h2]
      cases z <;> rfl
    have c1 : ev (ArOf tab F (L + 1)) f_are_signs_c1 [some (.str z), none, none] = .ok (.lst ((z.zip (z.drop 1)).map fun p => .bl (decide ([p.1] < [p.2])))) := by
      unfold f_are_signs_c1
      rw [ev_lc]
      have e1 : evi (ArOf tab F (L + 1)) (.zip (.var 0) (.sl (.var 0) (some (.con (.int 1))) none)) [some (.str z), none, none] = .ok ((z.zip (z.drop 1)).map fun p => .tup [.str [p.1], .str [p.2]]) := by
        have : z.length ≤ 16777216 := by omega
        simp only [evi_zip, ev_var, getV_zero, Res.bind_ok, ev_sl, evo_some, evo_none, ev_con, asInt_int, sl_s, okN_iff, this, decide_true, if_true, items_s, cut1, zipL_map]
      rw [e1, Res.bind_ok, compL_map (g := fun d => match d with | .tup [.str x, .str y] => .bl (decide (x < y)) | _ => .non)]
      · have : (z.zip (z.drop 1)).length ≤ 16777216 := by simp; omega
        rw [Res.bind_ok, if_pos (by simpa using this)]
        simp
      · intro d hd
        obtain ⟨p, _, rfl⟩ := List.mem_map.mp hd
        rw [turn2]
        have : cmpD .lt (.str [p.1]) (.str [p.2]) = .ok (.bl (decide ([p.1] < [p.2]))) := rfl
        simp [this]
    cases hz2 : z.isEmpty with
    | true =>
      rw [hz2] at he
      cases hb : tB (.str z) <;> simp [callFn, f_are_signs, ht, he, hb, sgB, hz2]
    | false =>
      rw [hz2] at he
      cases hb : tB (.str z) with
      | true =>
        have hb2 : (z.all fun c => sgn.contains c) = true := hb
        simp only [callFn, f_are_signs]
        simp [ht, he, hb, c1, all_map, asc_all, sgB, hz2, hb2, -List.all_eq_true, -List.drop_one, -List.contains_eq_mem]
      | false =>
        have hb2 : (z.all fun c => sgn.contains c) = false := hb
        simp [callFn, f_are_signs, ht, hb, sgB, hb2, -List.all_eq_true, -List.all_eq_false, -List.contains_eq_mem]
  | dic _ => exact absurd h.pl (by simp [pln])
  | obj _ _ => exact absurd h.pl (by simp [pln])
  | scr _ => exact absurd h.pl (by simp [pln])
  | _ => simp [callFn, f_are_signs, ht, sgB, tB]
end
/-! ### left_of and _law_left -/
def kN : List Nat := [110, 111, 110, 101]
def kE : List Nat := [101, 109, 112, 116, 121]
def kS : List Nat := [115, 105, 103, 110, 115]
def sizeI (z : List Nat) : Nat := if z == [110, 111, 116] then 2 else if z == [109, 97, 110, 121] then 2 else if z == [116, 104, 101, 110] then 3 else if z == [111, 114] then 3 else if z == [97, 110, 100] then 3 else 0
mutual
/-- how many parts may come behind -/
def leftI : D → Int → Int
  | .tup (.str z :: r), l => if l ≤ 0 then -1 else if z == kN || z == kE then (if r.isEmpty then l - 1 else -1) else if z == kS then (if r.length == 1 && r.all sgB then l - 1 else -1)
      else if r.length + 1 == sizeI z then leftL r (l - 1) else -1
  | _, _ => -1
def leftL : List D → Int → Int
  | [], l => l
  | d :: ds, l => leftL ds (leftI d l)
end
section
variable {F L : Nat}
theorem parts_for {M : Nat} {a : D} : ∀ (r : List D) (l : Int) (p : Option D), (∀ x ∈ r, ∀ l, Phi tab F M 2 [x, .int l] = .ok (.int (leftI x l))) →
    ∃ p', forL (forB (ArOf tab F M) [2] true f_left_of_b1) r [some a, some (.int l), p] = .nx [some a, some (.int (leftL r l)), p']
  | [], l, p, _ => ⟨p, rfl⟩
  | x :: r, l, p, h => by
    have e : forB (ArOf tab F M) [2] true f_left_of_b1 x [some a, some (.int l), p] = .nx [some a, some (.int (leftI x l)), some x] := by
      simp [f_left_of_b1, h x (by simp)]
    obtain ⟨p', hp⟩ := parts_for r (leftI x l) (some x) fun y hy => h y (by simp [hy])
    refine ⟨p', ?_⟩
    unfold forL
    rw [e]
    exact hp
end
section
variable {F L : Nat}
abbrev dS : List (D × D) := kdD [([110, 111, 116], .int 1), ([109, 97, 110, 121], .int 1), ([116, 104, 101, 110], .int 2), ([111, 114], .int 2), ([97, 110, 100], .int 2)]
theorem notin_dS (z : List Nat) : cmpD .notin (.str z) (.dic dS) = .ok (.bl (sizeI z == 0)) := by
  show (if keyOk (.str z) dS then Res.ok (D.bl (!(dS.any fun p => eqD p.1 (.str z)))) else .bad) = _
  rw [if_pos (show keyOk (.str z) dS = true from rfl)]
  congr 2
  unfold sizeI
  have sw : ∀ y : List Nat, (y == z) = (z == y) := fun y => by rw [Bool.eq_iff_iff, beq_iff_eq, beq_iff_eq]; exact eq_comm
  simp only [dS, kdD, List.map, List.any_cons, List.any_nil, eqD, sw]
  generalize (z == [110, 111, 116]) = b1
  generalize (z == [109, 97, 110, 121]) = b2
  generalize (z == [116, 104, 101, 110]) = b3
  generalize (z == [111, 114]) = b4
  generalize (z == [97, 110, 100]) = b5
  cases b1 <;> cases b2 <;> cases b3 <;> cases b4 <;> cases b5 <;> rfl
theorem ix_dS {z : List Nat} (h : sizeI z ≠ 0) : ixD (.dic dS) (.str z) = .ok (.int ((sizeI z : Int) - 1)) := by
  have : z = [110, 111, 116] ∨ z = [109, 97, 110, 121] ∨ z = [116, 104, 101, 110] ∨ z = [111, 114] ∨ z = [97, 110, 100] := by
    unfold sizeI at h
    simp only [beq_iff_eq] at h
    split at h
    · exact .inl ‹_›
    split at h
    · exact .inr (.inl ‹_›)
    split at h
    · exact .inr (.inr (.inl ‹_›))
    split at h
    · exact .inr (.inr (.inr (.inl ‹_›)))
    split at h
    · exact .inr (.inr (.inr (.inr ‹_›)))
    exact absurd rfl h
  rcases this with rfl | rfl | rfl | rfl | rfl <;> rfl
theorem isin_NE {z : List Nat} (hz : (D.str z).sh = true) : cmpD .isin (.str z) (.tup [.str [110, 111, 110, 101], .str [101, 109, 112, 116, 121]]) = .ok (.bl (z == kN || z == kE)) := by
  have s2 : (D.tup [.str [110, 111, 110, 101], .str [101, 109, 112, 116, 121]]).sh = true := by decide
  have e : cmpD .isin (.str z) (.tup [.str [110, 111, 110, 101], .str [101, 109, 112, 116, 121]]) = .ok (.bl (anyEq (.str z) [.str [110, 111, 110, 101], .str [101, 109, 112, 116, 121]])) := by
    show (if (D.str z).sh && (D.tup [.str [110, 111, 110, 101], .str [101, 109, 112, 116, 121]]).sh then Res.ok (D.bl (anyEq (.str z) [.str [110, 111, 110, 101], .str [101, 109, 112, 116, 121]])) else .bad) = _
    rw [hz, s2]
    rfl
  rw [e]
  congr 2
  have sw : ∀ y : List Nat, (y == z) = (z == y) := fun y => by rw [Bool.eq_iff_iff, beq_iff_eq, beq_iff_eq]; exact eq_comm
  simp only [anyEq, List.any_cons, List.any_nil, eqD, sw, kN, kE, Bool.or_false]
theorem eq_str {z y : List Nat} (hz : (D.str z).sh = true) (hy : (D.str y).sh = true) : cmpD .eq (.str z) (.str y) = .ok (.bl (z == y)) := by
  show (if (D.str z).sh && (D.str y).sh then Res.ok (D.bl (eqD (.str z) (.str y))) else .bad) = _
  rw [hz, hy]
  rfl
end
section
variable {F L : Nat}
theorem leftI_non {d : D} (h : ∀ z r, d ≠ .tup (.str z :: r)) (l : Int) : leftI d l = -1 := by
  unfold leftI
  split
  · exact absurd rfl (h _ _)
  · rfl
theorem cutD1 (x : D) (r : List D) : cutL (x :: r) (some 1) none = r := by
  have e : HT.sIx (x :: r).length 0 (some 1) = 1 := by
    unfold HT.sIx
    simp
    try omega
  have e2 : HT.sIx (x :: r).length (x :: r).length none = (x :: r).length := rfl
  unfold cutL
  rw [e, e2]
  simp
theorem left_non {M : Nat} {d : D} {l : Int} (hp : d.pln = true) (h : ∀ z r, d ≠ .tup (.str z :: r)) : Phi tab F (M + 1) 2 [d, .int l] = .ok (.int (-1)) := by
  rw [Phi_succ (f := f_left_of) rfl]
  by_cases hl : l ≤ 0
  · simp [callFn, f_left_of, hl]
  have i1 := isi_ok hp (t := 3) (by decide)
  cases d with
  | tup xs =>
    cases xs with
    | nil => simp [callFn, f_left_of, hl, i1, isB]
    | cons x r =>
      have hx : x.pln = true := by simp only [pln, plnAll, Bool.and_eq_true] at hp; exact hp.1
      have i2 := isi_ok hx (t := 0) (by decide)
      have ln : ¬ ((r.length : Int) + 1 = 0) := by omega
      cases x with
      | str z => exact absurd rfl (h z r)
      | _ => simp [callFn, f_left_of, hl, i1, i2, isB, ln]
  | _ => simp [callFn, f_left_of, hl, i1, isB]
theorem left_ok : ∀ (k : Nat) {n : Nat} {d : D} (l : Int), n ≤ 1000 → k ≤ 60 → Th n k d → Phi tab F (L + k + 3) 2 [d, .int l] = .ok (.int (leftI d l)) := by
  intro k
  induction k with
  | zero =>
    intro n d l hn hk h
    have : ∀ z r, d ≠ .tup (.str z :: r) := by
      rintro z r rfl
      have := h.dp
      simp [dep] at this
    rw [left_non h.pl this, leftI_non this]
  | succ k ih =>
    intro n d l hn hk h
    by_cases hd : ∀ z r, d ≠ .tup (.str z :: r)
    · rw [left_non h.pl hd, leftI_non hd]
    have ⟨z, r, e⟩ : ∃ z r, d = .tup (.str z :: r) := by
      apply Classical.byContradiction
      intro q
      exact hd fun z r e => q ⟨z, r, e⟩
    subst e
    obtain ⟨hlen, hall⟩ := Th.tup.mp h
    have hz : (D.str z).sh = true := (hall _ (by simp)).sh (by omega)
    have hr : ∀ x ∈ r, Th n k x := fun x hx => hall x (by simp [hx])
    rw [show L + (k + 1) + 3 = (L + k + 3) + 1 by omega, Phi_succ (f := f_left_of) rfl]
    have ln : ¬ ((r.length : Int) + 1 = 0) := by omega
    by_cases hl : l ≤ 0
    · simp [callFn, f_left_of, hl, leftI]
    have n1 := isin_NE hz
    have s1 := eq_str (y := [115, 105, 103, 110, 115]) hz (by decide)
    have n2 := notin_dS z
    cases hNE : (z == kN || z == kE) with
    | true =>
      rw [hNE] at n1
      simp only [leftI, hl, hNE, if_false, if_true]
      cases r with
      | nil => simp [callFn, f_left_of, hl, isiD, n1]
      | cons x r =>
        have t1 : ¬ ((r.length : Int) + 1 + 1 = 1) := by omega
        have t2 : ¬ ((r.length : Int) + 1 = 0) := by omega
        have t3 : ¬ ((r.length : Int) + 1 + 1 = 0) := by omega
        simp [callFn, f_left_of, hl, isiD, n1, t1, t2, t3]
    | false =>
      rw [hNE] at n1
      cases hS : (z == kS) with
      | true =>
        have s1 : cmpD .eq (.str z) (.str [115, 105, 103, 110, 115]) = .ok (.bl true) := by rw [s1]; exact congrArg (fun b => Res.ok (D.bl b)) hS
        simp only [leftI, hl, hNE, hS, if_false, if_true]
        cases r with
        | nil => simp [callFn, f_left_of, hl, isiD, n1, s1]
        | cons x r =>
          cases r with
          | nil =>
            have a1 := are_signs_ok (F := F) (L := L + k + 1) (hr x (by simp)) hn (by omega)
            rw [show L + k + 1 + 2 = L + k + 3 by omega] at a1
            cases hx : sgB x <;> simp [callFn, f_left_of, hl, isiD, n1, s1, a1, hx]
          | cons y r =>
            have t1 : ¬ ((r.length : Int) + 1 + 1 + 1 = 2) := by omega
            have t2 : ¬ ((r.length : Int) + 1 + 1 + 1 = 0) := by omega
            have t3 : ¬ ((r.length : Int) + 1 + 1 = 1) := by omega
            have t4 : ¬ ((r.length : Int) + 1 = 0) := by omega
            simp [callFn, f_left_of, hl, isiD, n1, s1, t1, t2, t3, t4]
      | false =>
        have s1 : cmpD .eq (.str z) (.str [115, 105, 103, 110, 115]) = .ok (.bl false) := by rw [s1]; exact congrArg (fun b => Res.ok (D.bl b)) hS
        simp only [leftI, hl, hNE, hS, if_false]
        cases hZ : (sizeI z == 0) with
        | true =>
          rw [hZ] at n2
          have : ¬ (r.length + 1 == sizeI z) = true := by simp at hZ ⊢; omega
          simp [callFn, f_left_of, hl, isiD, n1, s1, ln, n2]
          simp at this
          simp [this]
        | false =>
          rw [hZ] at n2
          have hZ' : sizeI z ≠ 0 := by simpa using hZ
          have ix := ix_dS hZ'
          by_cases hL : r.length + 1 = sizeI z
          · have hL2 : ((r.length : Int) + 1 = 1 + ((sizeI z : Int) - 1)) = True := eq_true (by omega)
            have hL3 : (r.length + 1 == sizeI z) = true := by simpa using hL
            obtain ⟨p', fo⟩ := parts_for (F := F) (M := L + k + 3) (a := .tup (.str z :: r)) r (l - 1) none fun x hx l => ih l hn (by omega) (hr x hx)
            rw [if_pos hL3]
            simp [callFn, f_left_of, hl, isiD, n1, s1, ln, n2, ix, hL2, cutD1, fo]
          · have hL2 : ¬ ((r.length : Int) + 1 = 1 + ((sizeI z : Int) - 1)) := by omega
            have hL3 : ¬ (r.length + 1 == sizeI z) = true := by simpa using hL
            rw [if_neg hL3]
            simp [callFn, f_left_of, hl, isiD, n1, s1, ln, n2, ix, hL2]
end
end Tk
namespace Tk
open PySem PySem.Spec PyProof.Rows L2
open D
/-! ### shapes as a kind of their own -/
inductive Sh where
  | non
  | emp
  | sg (w : List Nat)
  | nt (a : Sh)
  | mn (a : Sh)
  | bn (k : Nat) (a b : Sh)
namespace Sh
def wrd : Nat → List Nat
  | 0 => [116, 104, 101, 110]
  | 1 => [111, 114]
  | _ => [97, 110, 100]
def mid : Nat → Nat
  | 0 => 32
  | 1 => 124
  | _ => 38
def enc : Sh → D
  | non => .tup [.str [110, 111, 110, 101]]
  | emp => .tup [.str [101, 109, 112, 116, 121]]
  | sg w => .tup [.str [115, 105, 103, 110, 115], .str w]
  | nt a => .tup [.str [110, 111, 116], a.enc]
  | mn a => .tup [.str [109, 97, 110, 121], a.enc]
  | bn k a b => .tup [.str (wrd k), a.enc, b.enc]
def wr : Sh → List Nat
  | non => [123, 125]
  | emp => [40, 41]
  | sg w => if w.length = 1 then w else [91] ++ w ++ [93]
  | nt a => [33] ++ a.wr
  | mn a => [42] ++ a.wr
  | bn k a b => [40] ++ a.wr ++ [mid k] ++ b.wr ++ [41]
def parts : Sh → Nat
  | non => 1
  | emp => 1
  | sg _ => 1
  | nt a => a.parts + 1
  | mn a => a.parts + 1
  | bn _ a b => a.parts + b.parts + 1
def dpt : Sh → Nat
  | non => 0
  | emp => 0
  | sg _ => 0
  | nt a => a.dpt + 1
  | mn a => a.dpt + 1
  | bn _ a b => max a.dpt b.dpt + 1
/-- the signs rise, there is one at least -/
def good : Sh → Prop
  | non => True
  | emp => True
  | sg w => sgB (.str w) = true
  | nt a => a.good
  | mn a => a.good
  | bn k a b => k < 3 ∧ a.good ∧ b.good
end Sh
theorem sgB_iff {w : List Nat} : sgB (.str w) = true ↔ (∀ c ∈ w, c ∈ sgn) ∧ ascB w = true ∧ w ≠ [] := by
  unfold sgB
  simp only [Bool.and_eq_true, List.all_eq_true, List.contains_iff_mem, Bool.not_eq_true', List.isEmpty_eq_false_iff]
  exact ⟨fun h => ⟨h.1.1, h.1.2, h.2⟩, fun h => ⟨⟨h.1, h.2.1⟩, h.2.2⟩⟩
theorem isSg_iff {c : Nat} : isSg c = true ↔ c ∈ sgn := by
  simp [isSg, sgn, or_assoc]
theorem asc_len {w : List Nat} (h : sgB (.str w) = true) : w.length ≤ 4 := by
  obtain ⟨h1, h2, _⟩ := sgB_iff.mp h
  have e := signs_eq w
  have h3 : (w.all (fun c => sgn.contains c) && ascB w) = true := by
    rw [h2, Bool.and_true, List.all_eq_true]
    intro c hc
    simpa using h1 c hc
  rw [h3] at e
  have e := beq_iff_eq.mp e.symm
  have := List.length_filter_le (fun c => w.contains c) sgn
  rw [e] at this
  exact this
theorem dpt_parts : ∀ s : Sh, s.dpt + 1 ≤ s.parts
  | .non => Nat.le_refl _
  | .emp => Nat.le_refl _
  | .sg _ => Nat.le_refl _
  | .nt a => by have := dpt_parts a; simp only [Sh.dpt, Sh.parts]; omega
  | .mn a => by have := dpt_parts a; simp only [Sh.dpt, Sh.parts]; omega
  | .bn k a b => by have := dpt_parts a; have := dpt_parts b; simp only [Sh.dpt, Sh.parts]; omega
theorem parts_dpt : ∀ s : Sh, s.parts + 1 ≤ 2 ^ (s.dpt + 1)
  | .non => by simp [Sh.parts, Sh.dpt]
  | .emp => by simp [Sh.parts, Sh.dpt]
  | .sg _ => by simp [Sh.parts, Sh.dpt]
  | .nt a => by have := parts_dpt a; simp only [Sh.dpt, Sh.parts, Nat.pow_succ] at *; omega
  | .mn a => by have := parts_dpt a; simp only [Sh.dpt, Sh.parts, Nat.pow_succ] at *; omega
  | .bn k a b => by
    have h1 := parts_dpt a
    have h2 := parts_dpt b
    have p1 : 2 ^ (a.dpt + 1) ≤ 2 ^ (max a.dpt b.dpt + 1) := Nat.pow_le_pow_right (by decide) (by omega)
    have p2 : 2 ^ (b.dpt + 1) ≤ 2 ^ (max a.dpt b.dpt + 1) := Nat.pow_le_pow_right (by decide) (by omega)
    simp only [Sh.dpt, Sh.parts]
    rw [Nat.pow_succ]
    omega
theorem wr_len : ∀ s : Sh, s.good → s.wr.length ≤ 6 * s.parts
  | .non, _ => by simp [Sh.wr, Sh.parts]
  | .emp, _ => by simp [Sh.wr, Sh.parts]
  | .sg w, h => by
    have := asc_len h
    simp only [Sh.wr, Sh.parts]
    split
    · omega
    · simp; omega
  | .nt a, h => by have := wr_len a h; simp only [Sh.wr, Sh.parts, List.length_append, List.length_cons, List.length_nil]; omega
  | .mn a, h => by have := wr_len a h; simp only [Sh.wr, Sh.parts, List.length_append, List.length_cons, List.length_nil]; omega
  | .bn k a b, h => by
    have := wr_len a h.2.1
    have := wr_len b h.2.2
    simp only [Sh.wr, Sh.parts, List.length_append, List.length_cons, List.length_nil]
    omega
theorem pln_str {w : List Nat} (h : ∀ c ∈ w, c < 1114112) : (D.str w).pln = true := by
  unfold pln
  exact List.all_eq_true.mpr fun c hc => decide_eq_true (h c hc)
theorem sgn_lt {c : Nat} (h : c ∈ sgn) : c < 1114112 := by
  simp [sgn] at h
  omega
theorem Sh.th : ∀ (s : Sh), s.good → Th 20 (s.dpt + 1) s.enc
  | .non, _ => (thB_iff (k := 1)).mp (by decide)
  | .emp, _ => (thB_iff (k := 1)).mp (by decide)
  | .sg w, h => by
    have hl := asc_len h
    refine Th.tup.mpr ⟨by simp, fun x hx => ?_⟩
    simp at hx
    rcases hx with rfl | rfl
    · exact (thB_iff (k := 0)).mp (by decide)
    · exact ⟨pln_str fun c hc => sgn_lt ((sgB_iff.mp h).1 c hc), by simp [dep], by simp [lenB]; omega⟩
  | .nt a, h => by
    refine Th.tup.mpr ⟨by simp, fun x hx => ?_⟩
    simp at hx
    rcases hx with rfl | rfl
    · exact ((thB_iff (n := 20) (k := 0)).mp (by decide)).mono (by omega) (by omega)
    · exact Sh.th a h
  | .mn a, h => by
    refine Th.tup.mpr ⟨by simp, fun x hx => ?_⟩
    simp at hx
    rcases hx with rfl | rfl
    · exact ((thB_iff (n := 20) (k := 0)).mp (by decide)).mono (by omega) (by omega)
    · exact Sh.th a h
  | .bn k a b, h => by
    refine Th.tup.mpr ⟨by simp, fun x hx => ?_⟩
    simp at hx
    rcases hx with rfl | rfl | rfl
    · have : k = 0 ∨ k = 1 ∨ k = 2 := by have := h.1; omega
      rcases this with rfl | rfl | rfl <;> exact ((thB_iff (n := 20) (k := 0)).mp (by decide)).mono (by omega) (by omega)
    · exact (Sh.th a h.2.1).mono (by omega) (by simp [Sh.dpt]; omega)
    · exact (Sh.th b h.2.2).mono (by omega) (by simp [Sh.dpt]; omega)
/-- is_shape of a shape -/
theorem left_enc : ∀ (s : Sh), s.good → ∀ l : Int, (s.parts : Int) ≤ l → leftI s.enc l = l - s.parts
  | .non, _, l, h => by
    have h : (1 : Int) ≤ l := h
    have hl : ¬ l ≤ 0 := by omega
    simp [Sh.enc, leftI, hl, Sh.parts, kN]
  | .emp, _, l, h => by
    have h : (1 : Int) ≤ l := h
    have hl : ¬ l ≤ 0 := by omega
    simp [Sh.enc, leftI, hl, Sh.parts, kN, kE]
  | .sg w, g, l, h => by
    have h : (1 : Int) ≤ l := h
    have g : sgB (.str w) = true := g
    have hl : ¬ l ≤ 0 := by omega
    simp [Sh.enc, leftI, hl, Sh.parts, kN, kE, kS, g]
  | .nt a, g, l, h => by
    simp only [Sh.parts] at h
    have hl : ¬ l ≤ 0 := by omega
    have ih := left_enc a g (l - 1) (by omega)
    simp [Sh.enc, leftI, leftL, hl, Sh.parts, kN, kE, kS, sizeI, ih]
    omega
  | .mn a, g, l, h => by
    simp only [Sh.parts] at h
    have hl : ¬ l ≤ 0 := by omega
    have ih := left_enc a g (l - 1) (by omega)
    simp [Sh.enc, leftI, leftL, hl, Sh.parts, kN, kE, kS, sizeI, ih]
    omega
  | .bn k a b, g, l, h => by
    simp only [Sh.parts] at h
    have hl : ¬ l ≤ 0 := by omega
    have ih := left_enc a g.2.1 (l - 1) (by omega)
    have ih2 := left_enc b g.2.2 (l - 1 - a.parts) (by omega)
    have : k = 0 ∨ k = 1 ∨ k = 2 := by have := g.1; omega
    rcases this with rfl | rfl | rfl <;> simp [Sh.enc, Sh.wrd, leftI, leftL, hl, Sh.parts, kN, kE, kS, sizeI, ih, ih2] <;> omega
end Tk
namespace Tk
open PySem PySem.Spec PyProof.Rows L2
open D
theorem sg_of {t : List Nat} {n c : Nat} {r : List Nat} (h : t.drop n = c :: r) : sgAt t n = [c] ∧ t.drop (n + 1) = r := by
  unfold sgAt
  rw [h]
  refine ⟨rfl, ?_⟩
  rw [← List.drop_drop, h]
  rfl
theorem drop_app {t : List Nat} {n : Nat} {a r : List Nat} (h : t.drop n = a ++ r) : t.drop (n + a.length) = r := by
  rw [← List.drop_drop, h, List.drop_left]
theorem head_wr : ∀ s : Sh, s.good → ∃ c r, s.wr = c :: r ∧ c ≠ 41
  | .non, _ => ⟨_, _, rfl, by decide⟩
  | .emp, _ => ⟨_, _, rfl, by decide⟩
  | .sg w, h => by
    obtain ⟨h1, _, h3⟩ := sgB_iff.mp h
    cases w with
    | nil => exact absurd rfl h3
    | cons c r =>
      simp only [Sh.wr]
      split
      · refine ⟨c, r, rfl, ?_⟩
        have := h1 c (by simp)
        simp [sgn] at this
        omega
      · exact ⟨_, _, rfl, by decide⟩
  | .nt a, _ => ⟨_, _, rfl, by decide⟩
  | .mn a, _ => ⟨_, _, rfl, by decide⟩
  | .bn k a b, _ => ⟨_, _, rfl, by decide⟩
theorem tw_all {w : List Nat} {r : List Nat} (h : ∀ c ∈ w, isSg c = true) : (w ++ 93 :: r).takeWhile isSg = w := by
  rw [List.takeWhile_append_of_pos h, List.takeWhile_cons_of_neg (by decide), List.append_nil]
/-- the reader reads what was written -/
theorem rd_wr : ∀ (s : Sh), s.good → ∀ (l : Nat) (t : List Nat) (n : Nat) (rest : List Nat), s.dpt + 1 ≤ l → t.drop n = s.wr ++ rest → rdS t l n = some (s.enc, n + s.wr.length)
  | s, g, 0, t, n, rest, hl, ht => by omega
  | .non, _, l + 1, t, n, rest, hl, ht => by
    obtain ⟨s1, d1⟩ := sg_of (c := 123) (r := 125 :: rest) ht
    obtain ⟨s2, d2⟩ := sg_of d1
    unfold rdS
    rw [s1]
    simp [isSg, s2, Sh.enc, Sh.wr]
  | .emp, _, l + 1, t, n, rest, hl, ht => by
    obtain ⟨s1, d1⟩ := sg_of (c := 40) (r := 41 :: rest) ht
    obtain ⟨s2, d2⟩ := sg_of d1
    unfold rdS
    rw [s1]
    simp [isSg, s2, Sh.enc, Sh.wr]
  | .sg w, g, l + 1, t, n, rest, hl, ht => by
    obtain ⟨h1, _, h3⟩ := sgB_iff.mp g
    have hs : ∀ c ∈ w, isSg c = true := fun c hc => isSg_iff.mpr (h1 c hc)
    simp only [Sh.wr] at ht ⊢
    by_cases h : w.length = 1
    · rw [if_pos h] at ht ⊢
      obtain ⟨c, rfl⟩ := List.length_eq_one_iff.mp h
      obtain ⟨s1, d1⟩ := sg_of (c := c) (r := rest) ht
      unfold rdS
      rw [s1]
      simp [hs c (by simp), Sh.enc]
    · rw [if_neg h] at ht ⊢
      have ht : t.drop n = 91 :: (w ++ 93 :: rest) := by rw [ht]; simp
      obtain ⟨s1, d1⟩ := sg_of ht
      have d2 := drop_app d1
      obtain ⟨s2, _⟩ := sg_of d2
      unfold rdS
      rw [s1]
      simp only [d1, tw_all hs, s2]
      simp [isSg, Sh.enc]
      omega
  | .nt a, g, l + 1, t, n, rest, hl, ht => by
    have ht : t.drop n = 33 :: (a.wr ++ rest) := by rw [ht]; simp [Sh.wr]
    obtain ⟨s1, d1⟩ := sg_of ht
    have ih := rd_wr a g l t (n + 1) rest (by simp only [Sh.dpt] at hl; omega) d1
    unfold rdS
    rw [s1]
    simp [isSg, ih, Sh.enc, Sh.wr]
    omega
  | .mn a, g, l + 1, t, n, rest, hl, ht => by
    have ht : t.drop n = 42 :: (a.wr ++ rest) := by rw [ht]; simp [Sh.wr]
    obtain ⟨s1, d1⟩ := sg_of ht
    have ih := rd_wr a g l t (n + 1) rest (by simp only [Sh.dpt] at hl; omega) d1
    unfold rdS
    rw [s1]
    simp [isSg, ih, Sh.enc, Sh.wr]
    omega
  | .bn k a b, g, l + 1, t, n, rest, hl, ht => by
    have ht : t.drop n = 40 :: (a.wr ++ (Sh.mid k :: (b.wr ++ 41 :: rest))) := by rw [ht]; simp [Sh.wr]
    obtain ⟨s1, d1⟩ := sg_of ht
    simp only [Sh.dpt] at hl
    have ih1 := rd_wr a g.2.1 l t (n + 1) _ (by omega) d1
    have d2 := drop_app d1
    obtain ⟨s2, d3⟩ := sg_of d2
    have ih2 := rd_wr b g.2.2 l t (n + 1 + a.wr.length + 1) _ (by omega) d3
    have d4 := drop_app d3
    obtain ⟨s3, _⟩ := sg_of d4
    obtain ⟨c, r, hc, hne⟩ := head_wr a g.2.1
    have s0 : ¬ sgAt t (n + 1) = [41] := by
      rw [hc] at d1
      rw [(sg_of d1).1]
      intro z
      injection z with z
      exact hne z
    have hw : wordOf [Sh.mid k] = Sh.wrd k := by
      have : k = 0 ∨ k = 1 ∨ k = 2 := by have := g.1; omega
      rcases this with rfl | rfl | rfl <;> rfl
    unfold rdS
    rw [s1]
    simp [isSg, s0, ih1, ih2, s2, s3, hw, Sh.enc, Sh.wr]
    omega
theorem eq_tt {xs ys : List D} (hx : (D.tup xs).sh = true) (hy : (D.tup ys).sh = true) : cmpD .eq (.tup xs) (.tup ys) = .ok (.bl (eqAll xs ys)) := by
  show (if (D.tup xs).sh && (D.tup ys).sh then Res.ok (D.bl (eqD (.tup xs) (.tup ys))) else .bad) = _
  rw [hx, hy]
  rfl
theorem sh_words : (D.str [110, 111, 110, 101]).sh = true ∧ (D.str [101, 109, 112, 116, 121]).sh = true ∧ (D.str [115, 105, 103, 110, 115]).sh = true ∧ (D.str [110, 111, 116]).sh = true ∧ (D.str [109, 97, 110, 121]).sh = true ∧ (D.str [116, 104, 101, 110]).sh = true ∧ (D.str [111, 114]).sh = true ∧ (D.str [97, 110, 100]).sh = true := by decide
section
variable {F L : Nat}
theorem wr_small {s : Sh} (g : s.good) (h : s.parts ≤ 1000) : s.wr.length ≤ 6000 := by
  have h1 := wr_len s g
  omega
theorem written_ok : ∀ (s : Sh) (M : Nat), s.good → s.parts ≤ 1000 → Phi tab F (M + s.dpt + 1) 190 [s.enc] = .ok (.str s.wr) := by
  obtain ⟨w1, w2, w3, w4, w5, w6, w7, w8⟩ := sh_words
  intro s
  induction s with
  | non =>
    intro M g h
    rw [Phi_succ (f := f_written) rfl]
    simp [callFn, f_written, Sh.enc, Sh.wr, eq_str, w1]
  | emp =>
    intro M g h
    rw [Phi_succ (f := f_written) rfl]
    simp [callFn, f_written, Sh.enc, Sh.wr, eq_str, w1, w2]
  | sg w =>
    intro M g h
    have hl := asc_len g
    have ok : w.length ≤ 16777216 := by omega
    rw [Phi_succ (f := f_written) rfl]
    by_cases h1 : w.length = 1
    · have h2 : ((w.length : Int) = 1) = True := eq_true (by omega)
      simp [callFn, f_written, Sh.enc, Sh.wr, eq_str, w1, w2, w3, ok, h1]
    · have h2 : ((w.length : Int) = 1) = False := eq_false (by omega)
      have o1 : 1 + w.length ≤ 16777216 := by omega
      have o2 : 1 + w.length + 1 ≤ 16777216 := by omega
      have o3 : w.length + 1 ≤ 16777216 := by omega
      have o4 : w.length + 1 + 1 ≤ 16777216 := by omega
      simp [callFn, f_written, Sh.enc, Sh.wr, eq_str, w1, w2, w3, ok, h1, h2, o1, o2, o3, o4]
  | nt a ih =>
    intro M g h
    simp only [Sh.parts] at h
    have ih := ih M g (by omega)
    have hs := wr_small (s := a) g (by omega)
    have o1 : 1 + a.wr.length ≤ 16777216 := by omega
    have o3 : a.wr.length + 1 ≤ 16777216 := by omega
    rw [show M + (Sh.nt a).dpt + 1 = (M + a.dpt + 1) + 1 by simp [Sh.dpt]; omega, Phi_succ (f := f_written) rfl]
    simp [callFn, f_written, Sh.enc, Sh.wr, eq_str, w1, w2, w3, w4, ih, o1, o3]
  | mn a ih =>
    intro M g h
    simp only [Sh.parts] at h
    have ih := ih M g (by omega)
    have hs := wr_small (s := a) g (by omega)
    have o1 : 1 + a.wr.length ≤ 16777216 := by omega
    have o3 : a.wr.length + 1 ≤ 16777216 := by omega
    rw [show M + (Sh.mn a).dpt + 1 = (M + a.dpt + 1) + 1 by simp [Sh.dpt]; omega, Phi_succ (f := f_written) rfl]
    simp [callFn, f_written, Sh.enc, Sh.wr, eq_str, w1, w2, w3, w4, w5, ih, o1, o3]
  | bn k a b iha ihb =>
    intro M g h
    simp only [Sh.parts] at h
    have ih1 := iha (M + (max a.dpt b.dpt - a.dpt)) g.2.1 (by omega)
    have ih2 := ihb (M + (max a.dpt b.dpt - b.dpt)) g.2.2 (by omega)
    rw [show M + (max a.dpt b.dpt - a.dpt) + a.dpt + 1 = M + max a.dpt b.dpt + 1 by omega] at ih1
    rw [show M + (max a.dpt b.dpt - b.dpt) + b.dpt + 1 = M + max a.dpt b.dpt + 1 by omega] at ih2
    have hs1 := wr_small (s := a) g.2.1 (by omega)
    have hs2 := wr_small (s := b) g.2.2 (by omega)
    have ad : ∀ x y : List Nat, x.length + y.length ≤ 100000 → binD .add (.str x) (.str y) = .ok (.str (x ++ y)) := fun x y h => by
      rw [add_ss, if_pos]
      simp
      omega
    have e : k = 0 ∨ k = 1 ∨ k = 2 := by have := g.1; omega
    rw [show M + (Sh.bn k a b).dpt + 1 = (M + max a.dpt b.dpt + 1) + 1 by simp [Sh.dpt]; omega, Phi_succ (f := f_written) rfl]
    have a1 := ad [40] a.wr (by simp; omega)
    have a2 := ad ([40] ++ a.wr) [Sh.mid k] (by simp; omega)
    have a3 := ad ([40] ++ a.wr ++ [Sh.mid k]) b.wr (by simp; omega)
    have a4 := ad ([40] ++ a.wr ++ [Sh.mid k] ++ b.wr) [41] (by simp; omega)
    have ixw : ∀ k, k = 0 ∨ k = 1 ∨ k = 2 → ixD (.dic (kdD [([116, 104, 101, 110], .str [32]), ([111, 114], .str [124]), ([97, 110, 100], .str [38])])) (.str (Sh.wrd k)) = .ok (.str [Sh.mid k]) := by
      rintro k (rfl | rfl | rfl) <;> rfl
    have ixk := ixw k e
    have n1 : ∀ y, (y = [110, 111, 110, 101] ∨ y = [101, 109, 112, 116, 121] ∨ y = [115, 105, 103, 110, 115] ∨ y = [110, 111, 116] ∨ y = [109, 97, 110, 121]) → cmpD .eq (.str (Sh.wrd k)) (.str y) = .ok (.bl false) := by
      rintro y (rfl | rfl | rfl | rfl | rfl) <;> rcases e with rfl | rfl | rfl <;> rfl
    have m1 := n1 _ (.inl rfl)
    have m2 := n1 _ (.inr (.inl rfl))
    have m3 := n1 _ (.inr (.inr (.inl rfl)))
    have m4 := n1 _ (.inr (.inr (.inr (.inl rfl))))
    have m5 := n1 _ (.inr (.inr (.inr (.inr rfl))))
    simp only [callFn, f_written, Sh.enc, Sh.wr, List.length_cons, List.length_nil, ↓reduceIte, List.map_cons, List.map_nil, run_cons, run1_asg, run1_ifs, run1_ret, ev_ix, ev_var, ev_con, ev_cmp, ev_call, ev_bin, evs_cons, evs_nil, List.cons_append, List.nil_append, getV_zero, getV_succ, Res.bind_ok, Ar_Phi, ix_t, atI_c0, atI_c1, atI_c2, withR_ok, Fl.then_nx, List.set_cons_zero, List.set_cons_succ, asBl_bl, Bool.false_eq_true, run_nil, m1, m2, m3, m4, m5, ih1, ih2, ixk, Fl.then_rt, show List.replicate (2 - 1) (none : Option D) = [none] from rfl]
    simp only [List.cons_append, List.nil_append] at a1 a2 a3 a4
    simp only [a1, a2, a3, a4, Res.bind_ok, withR_ok, Fl.then_rt]
end
end Tk
namespace Tk
open PySem PySem.Spec PyProof.Rows L2
open D
section
variable {F L : Nat}
theorem shape_c1 (ns : List Int) (hl : ns.length ≤ 63) {M : Nat} (a : Int) (r : List (Option D)) {e1 e2 : Option D} : ∃ zs : List Nat, zs.Sublist sgn ∧ ev (ArOf tab F (M + 2)) f__law_shape_2_c1 (some (.scr ns) :: some (.int a) :: e1 :: e2 :: none :: none :: none :: r) = .ok (.lst (zs.map fun c => .str [c])) := by
  let qs : List (Int × Nat) := [(0, 48), (1, 49), (2, 97), (3, 98)]
  refine ⟨(qs.filter fun q => drawnI ns (a + 1 + q.1) 2 == 0).map (·.2), ?_, ?_⟩
  · have : ((qs.filter fun q => drawnI ns (a + 1 + q.1) 2 == 0).map (·.2)).Sublist (qs.map (·.2)) := List.Sublist.map _ List.filter_sublist
    exact this
  unfold f__law_shape_2_c1
  rw [ev_lc]
  have ei : evi (ArOf tab F (M + 2)) (.enm (.con (.str [48, 49, 97, 98]))) (some (.scr ns) :: some (.int a) :: e1 :: e2 :: none :: none :: none :: r) = .ok (qs.map fun q => .tup [.int q.1, .str [q.2]]) := rfl
  rw [ei, Res.bind_ok, compL_filter (p := fun d => match d with | .tup [.int k, _] => drawnI ns (a + 1 + k) 2 == 0 | _ => false) (g := fun d => match d with | .tup [_, x] => x | _ => .non)]
  · rw [Res.bind_ok, if_pos, List.filter_map, List.map_map, List.map_map]
    · rfl
    · rw [List.length_map]
      have := List.length_filter_le (fun d => match d with | .tup [.int k, _] => drawnI ns (a + 1 + k) 2 == 0 | _ => false) (qs.map fun q => D.tup [.int q.1, .str [q.2]])
      have e : (qs.map fun q => D.tup [.int q.1, .str [q.2]]).length = 4 := rfl
      simp only [okN_iff, decide_eq_true_eq]
      omega
  · intro d hd
    obtain ⟨q, _, rfl⟩ := List.mem_map.mp hd
    rw [turn2]
    have dr := drawn_ok (F := F) (L := M) ns (a + 1 + q.1) 2 hl (by decide)
    cases hq : (drawnI ns (a + 1 + q.1) 2 == 0) <;> simp [dr, hq]
theorem sub_good {zs : List Nat} (h : zs.Sublist sgn) (h0 : zs ≠ []) : (Sh.sg zs).good := by
  refine sgB_iff.mpr ⟨fun c hc => h.subset hc, pair_asc ?_, h0⟩
  exact List.Pairwise.sublist h (by decide)
theorem leaf4 (m : Int) (h : 0 ≤ m) (h2 : m < 4) : ∃ s : Sh, atI [D.tup [.str [110, 111, 110, 101]], .tup [.str [101, 109, 112, 116, 121]], .tup [.str [115, 105, 103, 110, 115], .str [97]], .tup [.str [101, 109, 112, 116, 121]]] m = some s.enc ∧ s.good ∧ s.dpt = 0 := by
  have : m = 0 ∨ m = 1 ∨ m = 2 ∨ m = 3 := by omega
  rcases this with rfl | rfl | rfl | rfl
  · exact ⟨.non, rfl, trivial, rfl⟩
  · exact ⟨.emp, rfl, trivial, rfl⟩
  · exact ⟨.sg [97], rfl, by show sgB (.str [97]) = true; decide, rfl⟩
  · exact ⟨.emp, rfl, trivial, rfl⟩
theorem shape_leaf (ns : List Int) (hl : ns.length ≤ 63) {M : Nat} (a deep : Int) (h : deep = 0 ∨ drawnI ns a 9 < 2) : ∃ s : Sh, s.good ∧ s.dpt = 0 ∧ Phi tab F (M + 3) 195 [.scr ns, .int a, .int deep] = .ok s.enc := by
  rw [Phi_succ (f := f__law_shape_2) rfl]
  obtain ⟨zs, hz, c1⟩ := shape_c1 (F := F) (M := M) ns hl a [none, none] (e1 := some (.int deep)) (e2 := some (.int (drawnI ns a 9)))
  have zl : zs.length ≤ 4 := hz.length_le
  have j1 := join_map (fun c => [c]) zs (by rw [flat_one]; simp; omega)
  rw [flat_one, List.map_id'] at j1
  have rj : recv .join (.str []) = true := rfl
  have d1 := drawn_ok (F := F) (L := M) ns a 9 hl (by decide)
  have d2 := drawn_ok (F := F) (L := M) ns (a + 5) 4 hl (by decide)
  have r2 := drawn_range ns (a + 5) 4 (by decide)
  obtain ⟨s, hx, hg, hd⟩ := leaf4 _ r2.1 r2.2
  have hsh : (D.str zs).sh = true := by
    unfold D.sh
    rw [pln_str fun c hc => sgn_lt (hz.subset hc)]
    rfl
  have e0 := eq_str (y := []) hsh (by decide)
  cases hzs : zs with
  | nil =>
    have e0 : cmpD .eq (.str zs) (.str []) = .ok (.bl true) := by rw [e0, hzs]; rfl
    refine ⟨s, hg, hd, ?_⟩
    by_cases h0 : deep = 0
    · subst h0
      simp [callFn, f__law_shape_2, d1, c1, rj, j1, e0, d2, hx]
    · have h := h.resolve_left h0
      simp [callFn, f__law_shape_2, d1, h, h0, c1, rj, j1, e0, d2, hx]
  | cons c zs' =>
    have e0 : cmpD .eq (.str zs) (.str []) = .ok (.bl false) := by rw [e0, hzs]; rfl
    refine ⟨.sg zs, sub_good hz (by rw [hzs]; exact List.cons_ne_nil _ _), rfl, ?_⟩
    by_cases h0 : deep = 0
    · subst h0
      simp [callFn, f__law_shape_2, d1, c1, rj, j1, e0, Sh.enc]
    · have h := h.resolve_left h0
      simp [callFn, f__law_shape_2, d1, h, h0, c1, rj, j1, e0, Sh.enc]
theorem shape_ok (ns : List Int) (hl : ns.length ≤ 63) : ∀ (j : Nat) (a : Int), ∃ s : Sh, s.good ∧ s.dpt ≤ j ∧ Phi tab F (L + j + 3) 195 [.scr ns, .int a, .int j] = .ok s.enc
  | 0, a => by
    obtain ⟨s, h1, h2, h3⟩ := shape_leaf (F := F) (M := L) ns hl a ((0 : Nat) : Int) (.inl rfl)
    exact ⟨s, h1, by omega, h3⟩
  | j + 1, a => by
    by_cases hw : drawnI ns a 9 < 2
    · obtain ⟨s, h1, h2, h3⟩ := shape_leaf (F := F) (M := L + (j + 1)) ns hl a ((j + 1 : Nat) : Int) (.inr hw)
      exact ⟨s, h1, by omega, h3⟩
    obtain ⟨x, x1, x2, x3⟩ := shape_ok ns hl j (a * 2 + 11)
    obtain ⟨y, y1, y2, y3⟩ := shape_ok ns hl j (a * 2 + 31)
    rw [show L + (j + 1) + 3 = (L + j + 3) + 1 by omega, Phi_succ (f := f__law_shape_2) rfl]
    have d1 := drawn_ok (F := F) (L := L + j + 1) ns a 9 hl (by decide)
    rw [show L + j + 1 + 2 = L + j + 3 by omega] at d1
    have r1 := drawn_range ns a 9 (by decide)
    generalize drawnI ns a 9 = w at *
    have n0 : ¬ ((j : Int) + 1 = 0) := by omega
    have i2 : inR 2 = true := by decide
    have : w = 2 ∨ w = 3 ∨ w = 4 ∨ w = 5 ∨ w = 6 ∨ w = 7 ∨ w = 8 := by omega
    have mx : (max x.dpt y.dpt) + 1 ≤ j + 1 := by omega
    rcases this with rfl | rfl | rfl | rfl | rfl | rfl | rfl
    · exact ⟨.nt x, x1, by simp only [Sh.dpt]; omega, by simp [callFn, f__law_shape_2, d1, n0, i2, x3, Sh.enc]⟩
    · exact ⟨.mn x, x1, by simp only [Sh.dpt]; omega, by simp [callFn, f__law_shape_2, d1, n0, i2, x3, Sh.enc]⟩
    · exact ⟨.bn 0 x y, ⟨by decide, x1, y1⟩, by simp only [Sh.dpt]; omega, by simp [callFn, f__law_shape_2, d1, n0, i2, x3, y3, Sh.enc, Sh.wrd]⟩
    · exact ⟨.bn 1 x y, ⟨by decide, x1, y1⟩, by simp only [Sh.dpt]; omega, by simp [callFn, f__law_shape_2, d1, n0, i2, x3, y3, Sh.enc, Sh.wrd]⟩
    · exact ⟨.bn 2 x y, ⟨by decide, x1, y1⟩, by simp only [Sh.dpt]; omega, by simp [callFn, f__law_shape_2, d1, n0, i2, x3, y3, Sh.enc, Sh.wrd]⟩
    · exact ⟨.bn 0 x y, ⟨by decide, x1, y1⟩, by simp only [Sh.dpt]; omega, by simp [callFn, f__law_shape_2, d1, n0, i2, x3, y3, Sh.enc, Sh.wrd, atI, ixN]⟩
    · exact ⟨.bn 1 x y, ⟨by decide, x1, y1⟩, by simp only [Sh.dpt]; omega, by simp [callFn, f__law_shape_2, d1, n0, i2, x3, y3, Sh.enc, Sh.wrd, atI, ixN]⟩
theorem is_shape_ok {n k : Nat} {d : D} (hn : n ≤ 1000) (hk : k ≤ 60) (h : Th n k d) : Phi tab F (L + k + 4) 3 [d] = .ok (.bl (decide (0 ≤ leftI d 15))) := by
  rw [Phi_succ (f := f_is_shape) rfl]
  have l1 := left_ok (F := F) (L := L) k 15 hn hk h
  simp [callFn, f_is_shape, l1]
mutual
theorem eqD_refl : ∀ d : D, d.pln = true → eqD d d = true
  | .non, _ => rfl
  | .bl b, _ => by simp [eqD]
  | .int i, _ => by simp [eqD]
  | .str z, _ => by simp [eqD]
  | .tup xs, h => by simp only [eqD]; exact eqAll_refl xs (by simpa [pln] using h)
  | .lst xs, h => by simp only [eqD]; exact eqAll_refl xs (by simpa [pln] using h)
  | .dic _, h => by simp [pln] at h
  | .obj _ _, h => by simp [pln] at h
  | .scr _, h => by simp [pln] at h
theorem eqAll_refl : ∀ ds : List D, plnAll ds = true → eqAll ds ds = true
  | [], _ => rfl
  | d :: ds, h => by
    simp only [plnAll, Bool.and_eq_true] at h
    simp only [eqAll, eqD_refl d h.1, eqAll_refl ds h.2, Bool.and_self]
end
theorem wr_lt : ∀ s : Sh, s.good → ∀ c ∈ s.wr, c < 1114112
  | .non, _, c, h => by simp [Sh.wr] at h; omega
  | .emp, _, c, h => by simp [Sh.wr] at h; omega
  | .sg w, g, c, h => by
    have hw : ∀ c ∈ w, c < 1114112 := fun c hc => sgn_lt ((sgB_iff.mp g).1 c hc)
    simp only [Sh.wr] at h
    split at h
    · exact hw c h
    · simp at h
      rcases h with rfl | h | rfl
      · decide
      · exact hw c h
      · decide
  | .nt a, g, c, h => by
    simp [Sh.wr] at h
    rcases h with rfl | h
    · decide
    · exact wr_lt a g c h
  | .mn a, g, c, h => by
    simp [Sh.wr] at h
    rcases h with rfl | h
    · decide
    · exact wr_lt a g c h
  | .bn k a b, g, c, h => by
    simp [Sh.wr] at h
    rcases h with rfl | h | rfl | h | rfl
    · decide
    · exact wr_lt a g.2.1 c h
    · have : k = 0 ∨ k = 1 ∨ k = 2 := by have := g.1; omega
      rcases this with rfl | rfl | rfl <;> decide
    · exact wr_lt b g.2.2 c h
    · decide
theorem wr_pln (s : Sh) (g : s.good) : (D.str s.wr).pln = true := pln_str (wr_lt s g)
/-- read gives back what was written -/
theorem read_wr (s : Sh) (g : s.good) (hp : s.parts ≤ 15) : Phi tab 100000 (148 + 1) 191 [.str s.wr] = .ok s.enc := by
  rw [Phi_ext (f := f_read) rfl rfl]
  have hl := wr_len s g
  have hdp := dpt_parts s
  have h1 := rd_wr s g 15 s.wr 0 [] (by omega) (by simp)
  have a1 : Phi tab 100000 148 3 [s.enc] = .ok (.bl true) := by
    have := is_shape_ok (F := 100000) (L := 148 - 4 - (s.dpt + 1)) (n := 20) (k := s.dpt + 1) (by decide) (by omega) (s.th g)
    rw [show 148 - 4 - (s.dpt + 1) + (s.dpt + 1) + 4 = 148 by omega] at this
    rw [this, left_enc s g 15 (by omega)]
    congr 2
    exact decide_eq_true (by omega)
  have a2 := written_ok (F := 100000) s (148 - 1 - s.dpt) g (by omega)
  rw [show 148 - 1 - s.dpt + s.dpt + 1 = 148 by omega] at a2
  have hsh : (D.str s.wr).sh = true := by
    unfold D.sh
    have : (D.str s.wr).pln = true := wr_pln s g
    rw [this]
    rfl
  have a3 : cmpD .ne (.str s.wr) (.str s.wr) = .ok (.bl false) := by
    show (if (D.str s.wr).sh && (D.str s.wr).sh then Res.ok (D.bl (!eqD (.str s.wr) (.str s.wr))) else .bad) = _
    rw [hsh]
    simp [eqD]
  have hb : ¬ ((148 : Nat) < 20 ∨ ¬ s.wr.length ≤ 100000) := by omega
  unfold readX
  dsimp only
  rw [if_neg hb, h1]
  dsimp only
  rw [if_neg (by omega), a1, Res.bind_ok, asBl_bl, Res.bind_ok, if_pos rfl, a2, Res.bind_ok, a3, Res.bind_ok, asBl_bl, Res.bind_ok, if_neg Bool.false_ne_true]
end
end Tk
namespace Tk
open PySem PySem.Spec PyProof.Rows L2
open D
/-! ### what is_shape says yes to is a shape -/
theorem leftI_le {d : D} {l : Int} (h : l ≤ 0) : leftI d l = -1 := by
  unfold leftI
  split
  · rw [if_pos h]
  · rfl
theorem size_cases {z : List Nat} (h : sizeI z ≠ 0) : (z = [110, 111, 116] ∧ sizeI z = 2) ∨ (z = [109, 97, 110, 121] ∧ sizeI z = 2) ∨ (z = [116, 104, 101, 110] ∧ sizeI z = 3) ∨ (z = [111, 114] ∧ sizeI z = 3) ∨ (z = [97, 110, 100] ∧ sizeI z = 3) := by
  have : z = [110, 111, 116] ∨ z = [109, 97, 110, 121] ∨ z = [116, 104, 101, 110] ∨ z = [111, 114] ∨ z = [97, 110, 100] := by
    unfold sizeI at h
    simp only [beq_iff_eq] at h
    split at h
    · exact .inl ‹_›
    split at h
    · exact .inr (.inl ‹_›)
    split at h
    · exact .inr (.inr (.inl ‹_›))
    split at h
    · exact .inr (.inr (.inr (.inl ‹_›)))
    split at h
    · exact .inr (.inr (.inr (.inr ‹_›)))
    exact absurd rfl h
  rcases this with rfl | rfl | rfl | rfl | rfl
  · exact .inl ⟨rfl, rfl⟩
  · exact .inr (.inl ⟨rfl, rfl⟩)
  · exact .inr (.inr (.inl ⟨rfl, rfl⟩))
  · exact .inr (.inr (.inr (.inl ⟨rfl, rfl⟩)))
  · exact .inr (.inr (.inr (.inr ⟨rfl, rfl⟩)))
theorem left_inv : ∀ (k : Nat) {n : Nat} {d : D} {l : Int}, Th n k d → 0 ≤ leftI d l → ∃ s : Sh, s.good ∧ d = s.enc ∧ leftI d l = l - s.parts := by
  intro k
  induction k with
  | zero =>
    intro n d l h hd
    have : ∀ z r, d ≠ .tup (.str z :: r) := by
      rintro z r rfl
      have := h.dp
      simp [dep] at this
    rw [leftI_non this] at hd
    omega
  | succ k ih =>
    intro n d l h hd
    by_cases hn : ∀ z r, d ≠ .tup (.str z :: r)
    · rw [leftI_non hn] at hd
      omega
    have ⟨z, r, e⟩ : ∃ z r, d = .tup (.str z :: r) := by
      apply Classical.byContradiction
      intro q
      exact hn fun z r e => q ⟨z, r, e⟩
    subst e
    obtain ⟨_, hall⟩ := Th.tup.mp h
    by_cases hl : l ≤ 0
    · rw [leftI_le hl] at hd
      omega
    have hd0 := hd
    simp only [leftI, hl, if_false] at hd ⊢
    cases hNE : (z == kN || z == kE) with
    | true =>
      simp only [hNE, if_true] at hd ⊢
      cases r with
      | nil =>
        have hz2 : z = kN ∨ z = kE := by simpa using hNE
        rcases hz2 with rfl | rfl
        · exact ⟨.non, trivial, rfl, by simp [Sh.parts]⟩
        · exact ⟨.emp, trivial, rfl, by simp [Sh.parts]⟩
      | cons x r => simp at hd
    | false =>
      simp only [hNE, Bool.false_eq_true, if_false] at hd ⊢
      cases hS : (z == kS) with
      | true =>
        simp only [hS, if_true] at hd ⊢
        split at hd
        · rename_i hc
          rw [if_pos hc]
          obtain ⟨c1, c2⟩ := Bool.and_eq_true_iff.mp hc
          obtain ⟨x, rfl⟩ := List.length_eq_one_iff.mp (beq_iff_eq.mp c1)
          have hx : sgB x = true := by simpa using c2
          cases x with
          | str w =>
            have : z = kS := beq_iff_eq.mp hS
            subst this
            exact ⟨.sg w, hx, rfl, by simp [Sh.parts]⟩
          | _ => cases hx
        · omega
      | false =>
        simp only [hS, Bool.false_eq_true, if_false] at hd ⊢
        split at hd
        · rename_i hc
          rw [if_pos hc]
          have hc := beq_iff_eq.mp hc
          have hz0 : sizeI z ≠ 0 := by omega
          have two : sizeI z = 2 → ∃ x, r = [x] := fun e => by
            rw [e] at hc
            exact List.length_eq_one_iff.mp (by omega)
          have three : sizeI z = 3 → ∃ x y, r = [x, y] := fun e => by
            rw [e] at hc
            match r, hc with
            | [x, y], _ => exact ⟨x, y, rfl⟩
            | [], hc => simp at hc
            | [_], hc => simp at hc
            | _ :: _ :: _ :: _, hc => simp at hc
          rcases size_cases hz0 with ⟨rfl, e⟩ | ⟨rfl, e⟩ | ⟨rfl, e⟩ | ⟨rfl, e⟩ | ⟨rfl, e⟩
          · obtain ⟨x, rfl⟩ := two e
            simp only [leftL] at hd ⊢
            obtain ⟨s, g, rfl, e2⟩ := ih (hall x (by simp)) hd
            exact ⟨.nt s, g, rfl, by rw [e2]; simp only [Sh.parts]; omega⟩
          · obtain ⟨x, rfl⟩ := two e
            simp only [leftL] at hd ⊢
            obtain ⟨s, g, rfl, e2⟩ := ih (hall x (by simp)) hd
            exact ⟨.mn s, g, rfl, by rw [e2]; simp only [Sh.parts]; omega⟩
          all_goals
            obtain ⟨x, y, rfl⟩ := three e
            simp only [leftL] at hd ⊢
            have hx : 0 ≤ leftI x (l - 1) := by
              apply Classical.byContradiction
              intro q
              rw [leftI_le (d := y) (by omega)] at hd
              omega
            obtain ⟨s, g, rfl, e2⟩ := ih (hall x (by simp)) hx
            obtain ⟨s2, g2, rfl, e3⟩ := ih (hall y (by simp)) hd
          · exact ⟨.bn 0 s s2, ⟨by decide, g, g2⟩, rfl, by rw [e3, e2]; simp only [Sh.parts]; omega⟩
          · exact ⟨.bn 1 s s2, ⟨by decide, g, g2⟩, rfl, by rw [e3, e2]; simp only [Sh.parts]; omega⟩
          · exact ⟨.bn 2 s s2, ⟨by decide, g, g2⟩, rfl, by rw [e3, e2]; simp only [Sh.parts]; omega⟩
        · omega
/-! ### what is read is a thing of some size -/
def okT (t : List Nat) : Prop := t.length ≤ 100 ∧ ∀ c ∈ t, c < 1114112
theorem Th.strS {n k : Nat} {z : List Nat} (h : z.length ≤ n) (hp : ∀ c ∈ z, c < 1114112) : Th n k (.str z) := ⟨pln_str hp, by simp [dep], by simpa [lenB] using h⟩
theorem rd_th {t : List Nat} (ht : okT t) : ∀ (l n : Nat) {d : D} {m : Nat}, rdS t l n = some (d, m) → Th 200 (l + 1) d
  | 0, n, d, m, h => by unfold rdS at h; cases h
  | l + 1, n, d, m, h => by
    have mem_drop : ∀ k c, c ∈ t.drop k → c < 1114112 := fun k c hc => ht.2 c (List.mem_of_mem_drop hc)
    have W : ∀ z : List Nat, z.length ≤ 200 → (∀ c ∈ z, c < 1114112) → Th 200 (l + 1) (.str z) := fun z h1 h2 => Th.strS h1 h2
    have K : ∀ z : List Nat, z.length ≤ 20 → (z.all fun c => decide (c < 1114112)) = true → Th 200 (l + 1) (.str z) := fun z h1 h2 => W z (by omega) fun c hc => of_decide_eq_true (List.all_eq_true.mp h2 c hc)
    have two : ∀ x y, Th 200 (l + 1) x → Th 200 (l + 1) y → Th 200 (l + 1 + 1) (.tup [x, y]) := fun x y hx hy => Th.tup.mpr ⟨by simp, fun z hz => by
      simp at hz
      rcases hz with rfl | rfl
      · exact hx
      · exact hy⟩
    have one : ∀ x, Th 200 (l + 1) x → Th 200 (l + 1 + 1) (.tup [x]) := fun x hx => Th.tup.mpr ⟨by simp, fun z hz => by
      simp at hz
      subst hz
      exact hx⟩
    have three : ∀ x y z, Th 200 (l + 1) x → Th 200 (l + 1) y → Th 200 (l + 1) z → Th 200 (l + 1 + 1) (.tup [x, y, z]) := fun x y z hx hy hz => Th.tup.mpr ⟨by simp, fun u hu => by
      simp at hu
      rcases hu with rfl | rfl | rfl
      · exact hx
      · exact hy
      · exact hz⟩
    unfold rdS at h
    split at h
    · cases h
    · rename_i c r hs
      have hc : c < 1114112 := by
        have : c ∈ sgAt t n := by rw [hs]; simp
        exact mem_drop n c (List.mem_of_mem_take this)
      split at h
      · cases h
        exact two _ _ (K _ (by simp) (by decide)) (W _ (by simp) fun x hx => by simp at hx; rw [hx]; exact hc)
      split at h
      · obtain ⟨p, hp, e⟩ := Option.map_eq_some_iff.mp h
        cases e
        exact two _ _ (K _ (by simp) (by decide)) (rd_th ht l (n + 1) hp)
      split at h
      · obtain ⟨p, hp, e⟩ := Option.map_eq_some_iff.mp h
        cases e
        exact two _ _ (K _ (by simp) (by decide)) (rd_th ht l (n + 1) hp)
      split at h
      · split at h
        · cases h
          exact one _ (K _ (by simp) (by decide))
        · cases h
      split at h
      · dsimp only at h
        split at h
        · cases h
          have hpre := List.takeWhile_prefix (p := isSg) (l := t.drop (n + 1))
          refine two _ _ (K _ (by simp) (by decide)) (W _ ?_ fun x hx => mem_drop (n + 1) x (hpre.subset hx))
          have := hpre.length_le
          rw [List.length_drop] at this
          have := ht.1
          omega
        · cases h
      split at h
      · cases h
      split at h
      · cases h
        exact one _ (K _ (by simp) (by decide))
      split at h
      · cases h
      · rename_i d1 m1 h1
        split at h
        · cases h
        · rename_i d2 m2 h2
          split at h
          · cases h
            refine three _ _ _ ?_ (rd_th ht l _ h1) (rd_th ht l _ h2)
            unfold wordOf
            split
            · exact K _ (by simp) (by decide)
            split
            · exact K _ (by simp) (by decide)
            split
            · exact K _ (by simp) (by decide)
            · exact K _ (by simp) (by decide)
          · cases h
/-- read: the shape whose writing it is, or the error -/
theorem read_cases {t : List Nat} (ht : okT t) : (∃ s : Sh, s.good ∧ s.parts ≤ 15 ∧ t = s.wr ∧ Phi tab 100000 (148 + 1) 191 [.str t] = .ok s.enc) ∨ ((¬ ∃ s : Sh, s.good ∧ s.parts ≤ 15 ∧ t = s.wr) ∧ Phi tab 100000 (148 + 1) 191 [.str t] = .exc 7) := by
  by_cases h : ∃ s : Sh, s.good ∧ s.parts ≤ 15 ∧ t = s.wr
  · left
    obtain ⟨s, g, hp, rfl⟩ := h
    exact ⟨s, g, hp, rfl, read_wr s g hp⟩
  · right
    refine ⟨h, ?_⟩
    rw [Phi_ext (f := f_read) rfl rfl]
    have hb : ¬ ((148 : Nat) < 20 ∨ ¬ t.length ≤ 100000) := by have := ht.1; omega
    unfold readX
    dsimp only
    rw [if_neg hb]
    cases hr : rdS t 15 0 with
    | none => rfl
    | some dm =>
      obtain ⟨d, m⟩ := dm
      dsimp only
      by_cases hm : m = t.length
      case neg => rw [if_pos hm]
      rw [if_neg (fun z => z hm)]
      have hT := rd_th ht 15 0 hr
      have a1 : Phi tab 100000 148 3 [d] = .ok (.bl (decide (0 ≤ leftI d 15))) := by
        have := is_shape_ok (F := 100000) (L := 128) (n := 200) (k := 16) (by decide) (by decide) hT
        exact this
      rw [a1, Res.bind_ok, asBl_bl, Res.bind_ok]
      by_cases hl : 0 ≤ leftI d 15
      case neg => rw [decide_eq_false hl, if_neg Bool.false_ne_true]
      rw [decide_eq_true hl, if_pos rfl]
      obtain ⟨s, g, rfl, e⟩ := left_inv 16 hT hl
      have hp : s.parts ≤ 15 := by omega
      have hdp := dpt_parts s
      have a2 := written_ok (F := 100000) s (147 - s.dpt) g (by omega)
      rw [show 147 - s.dpt + s.dpt + 1 = 148 by omega] at a2
      rw [a2, Res.bind_ok]
      have s1 : (D.str s.wr).sh = true := by
        unfold D.sh
        rw [wr_pln s g]
        rfl
      have s2 : (D.str t).sh = true := by
        unfold D.sh
        rw [pln_str ht.2]
        rfl
      have a3 : cmpD .ne (.str s.wr) (.str t) = .ok (.bl (!(s.wr == t))) := by
        show (if (D.str s.wr).sh && (D.str t).sh then Res.ok (D.bl (!eqD (.str s.wr) (.str t))) else .bad) = _
        rw [s1, s2]
        rfl
      rw [a3, Res.bind_ok, asBl_bl, Res.bind_ok]
      have ne : (s.wr == t) = false := beq_eq_false_iff_ne.mpr fun z => h ⟨s, g, hp, z.symm⟩
      rw [ne]
      rfl
end Tk
namespace Tk
open PySem PySem.Spec PyProof.Rows L2
open D
/-! ### the law's own reading -/
def W11 : List (List Nat) := [[48, 49], [48, 97], [48, 98], [49, 97], [49, 98], [97, 98], [48, 49, 97], [48, 49, 98], [48, 97, 98], [49, 97, 98], [48, 49, 97, 98]]
def midOf (c : List Nat) : Option Nat := if c = [32] then some 0 else if c = [124] then some 1 else if c = [38] then some 2 else none
def atS (t : List Nat) : Nat → Nat → Option Sh
  | 0, _ => none
  | f + 1, n => match sgAt t n with
    | [] => none
    | c :: _ =>
      if isSg c then some (.sg [c])
      else if (t.drop n).take 2 = [123, 125] then some .non
      else if (t.drop n).take 2 = [40, 41] then some .emp
      else if c = 91 then (W11.find? fun w => (t.drop n).take (w.length + 2) == [91] ++ w ++ [93]).map .sg
      else if c = 33 then (atS t f (n + 1)).map .nt
      else if c = 42 then (atS t f (n + 1)).map .mn
      else if c = 40 then (match atS t f (n + 1) with
        | none => none
        | some a => match midOf (sgAt t (n + 1 + a.wr.length)) with
          | none => none
          | some k => match atS t f (n + 1 + a.wr.length + 1) with
            | none => none
            | some b => if sgAt t (n + 1 + a.wr.length + 1 + b.wr.length) = [41] then some (.bn k a b) else none)
      else none
theorem filt4 (p : Nat → Bool) : (sgn.filter p).length = 1 ∨ sgn.filter p ∈ W11 ∨ sgn.filter p = [] := by
  unfold sgn
  simp only [List.filter_cons, List.filter_nil]
  cases p 48 <;> cases p 49 <;> cases p 97 <;> cases p 98 <;> decide
theorem good_W {w : List Nat} (g : (Sh.sg w).good) (h : ¬ w.length = 1) : w ∈ W11 := by
  obtain ⟨h1, h2, h3⟩ := sgB_iff.mp g
  have e := signs_eq w
  have h4 : (w.all (fun c => sgn.contains c) && ascB w) = true := by
    rw [h2, Bool.and_true, List.all_eq_true]
    intro c hc
    simpa using h1 c hc
  rw [h4] at e
  have e := beq_iff_eq.mp e.symm
  rcases filt4 (fun c => w.contains c) with q | q | q
  · rw [e] at q; exact absurd q h
  · rw [e] at q; exact q
  · rw [e] at q; exact absurd q h3
theorem W_good : ∀ w ∈ W11, (Sh.sg w).good ∧ ¬ w.length = 1 := by
  intro w hw
  have : W11.all (fun w => sgB (.str w) && !(w.length == 1)) = true := by decide
  have := List.all_eq_true.mp this w hw
  obtain ⟨a, b⟩ := Bool.and_eq_true_iff.mp this
  exact ⟨a, by simpa using b⟩
theorem sg_all {w : List Nat} (g : (Sh.sg w).good) : ∀ c ∈ w, isSg c = true := fun c hc => isSg_iff.mpr ((sgB_iff.mp g).1 c hc)
theorem take_pre {L w : List Nat} (h : L.take (w.length + 2) = [91] ++ w ++ [93]) : ∃ r, L = 91 :: (w ++ 93 :: r) := by
  refine ⟨L.drop (w.length + 2), ?_⟩
  have e := List.take_append_drop (w.length + 2) L
  rw [h] at e
  rw [← e]
  simp
theorem mid_ok {k : Nat} (h : k < 3) : midOf [Sh.mid k] = some k := by
  have : k = 0 ∨ k = 1 ∨ k = 2 := by omega
  rcases this with rfl | rfl | rfl <;> rfl
theorem mid_inv {c : List Nat} {k : Nat} (h : midOf c = some k) : k < 3 ∧ c = [Sh.mid k] := by
  unfold midOf at h
  split at h
  · cases h; exact ⟨by decide, by assumption⟩
  split at h
  · cases h; exact ⟨by decide, by assumption⟩
  split at h
  · cases h; exact ⟨by decide, by assumption⟩
  · cases h
theorem head_non {c : Nat} {r : List Nat} (h : c ≠ 123) : ¬ (c :: r).take 2 = [123, 125] := fun z => by
  cases r with
  | nil => simp at z
  | cons a r => simp at z; exact h z.1
theorem head_emp {c : Nat} {r : List Nat} (h : c ≠ 40) : ¬ (c :: r).take 2 = [40, 41] := fun z => by
  cases r with
  | nil => simp at z
  | cons a r => simp at z; exact h z.1
/-- what was written is read by the law -/
theorem at_wr : ∀ (s : Sh), s.good → ∀ (f : Nat) (t : List Nat) (n : Nat) (rest : List Nat), s.dpt + 1 ≤ f → t.drop n = s.wr ++ rest → atS t f n = some s
  | s, g, 0, t, n, rest, hl, ht => by omega
  | .non, _, f + 1, t, n, rest, hl, ht => by
    obtain ⟨s1, d1⟩ := sg_of (c := 123) (r := 125 :: rest) ht
    unfold atS
    rw [s1, ht]
    simp [isSg, Sh.wr]
  | .emp, _, f + 1, t, n, rest, hl, ht => by
    obtain ⟨s1, d1⟩ := sg_of (c := 40) (r := 41 :: rest) ht
    unfold atS
    rw [s1, ht]
    simp [isSg, Sh.wr]
  | .sg w, g, f + 1, t, n, rest, hl, ht => by
    have hs := sg_all g
    simp only [Sh.wr] at ht
    by_cases h : w.length = 1
    · rw [if_pos h] at ht
      obtain ⟨c, rfl⟩ := List.length_eq_one_iff.mp h
      obtain ⟨s1, d1⟩ := sg_of (c := c) (r := rest) ht
      unfold atS
      rw [s1]
      simp [hs c (by simp)]
    · rw [if_neg h] at ht
      have ht : t.drop n = 91 :: (w ++ 93 :: rest) := by rw [ht]; simp
      obtain ⟨s1, d1⟩ := sg_of ht
      have hf : W11.find? (fun w => (t.drop n).take (w.length + 2) == [91] ++ w ++ [93]) = some w := by
        have hw := good_W g h
        have hp : ((t.drop n).take (w.length + 2) == [91] ++ w ++ [93]) = true := by
          rw [ht, beq_iff_eq]
          simp [List.take_append]
          exact List.take_of_length_le (Nat.le_succ _)
        cases q : W11.find? (fun w => (t.drop n).take (w.length + 2) == [91] ++ w ++ [93]) with
        | none =>
          have := List.find?_eq_none.mp q w hw
          exact absurd hp this
        | some w2 =>
          have h2 := List.find?_some q
          have m2 := List.mem_of_find?_eq_some q
          obtain ⟨r, hr⟩ := take_pre (beq_iff_eq.mp h2)
          rw [ht] at hr
          have hr : w ++ 93 :: rest = w2 ++ 93 :: r := by injection hr
          have e1 := tw_all (r := rest) hs
          have e2 := tw_all (r := r) (sg_all (W_good w2 m2).1)
          rw [hr] at e1
          rw [e1] at e2
          rw [e2]
      unfold atS
      rw [s1]
      rw [ht] at hf ⊢
      simp only [hf]
      simp [isSg, head_non (c := 91), head_emp (c := 91)]
  | .nt a, g, f + 1, t, n, rest, hl, ht => by
    have ht : t.drop n = 33 :: (a.wr ++ rest) := by rw [ht]; simp [Sh.wr]
    obtain ⟨s1, d1⟩ := sg_of ht
    have ih := at_wr a g f t (n + 1) rest (by simp only [Sh.dpt] at hl; omega) d1
    unfold atS
    rw [s1, ht]
    simp [isSg, head_non (c := 33), head_emp (c := 33), ih]
  | .mn a, g, f + 1, t, n, rest, hl, ht => by
    have ht : t.drop n = 42 :: (a.wr ++ rest) := by rw [ht]; simp [Sh.wr]
    obtain ⟨s1, d1⟩ := sg_of ht
    have ih := at_wr a g f t (n + 1) rest (by simp only [Sh.dpt] at hl; omega) d1
    unfold atS
    rw [s1, ht]
    simp [isSg, head_non (c := 42), head_emp (c := 42), ih]
  | .bn k a b, g, f + 1, t, n, rest, hl, ht => by
    have ht : t.drop n = 40 :: (a.wr ++ (Sh.mid k :: (b.wr ++ 41 :: rest))) := by rw [ht]; simp [Sh.wr]
    obtain ⟨s1, d1⟩ := sg_of ht
    simp only [Sh.dpt] at hl
    have ih1 := at_wr a g.2.1 f t (n + 1) _ (by omega) d1
    have d2 := drop_app d1
    obtain ⟨s2, d3⟩ := sg_of d2
    have ih2 := at_wr b g.2.2 f t (n + 1 + a.wr.length + 1) _ (by omega) d3
    have d4 := drop_app d3
    obtain ⟨s3, _⟩ := sg_of d4
    obtain ⟨c, r, hc, hne⟩ := head_wr a g.2.1
    have h0 : ¬ (40 :: (a.wr ++ (Sh.mid k :: (b.wr ++ 41 :: rest)))).take 2 = [40, 41] := by
      rw [hc]
      intro z
      simp at z
      exact hne z
    unfold atS
    rw [s1, ht]
    dsimp only
    rw [if_neg (by decide), if_neg (head_non (by decide)), if_neg h0, if_neg (by decide), if_neg (by decide), if_neg (by decide), if_pos rfl, ih1]
    dsimp only
    rw [s2, mid_ok g.1]
    dsimp only
    rw [ih2]
    dsimp only
    rw [if_pos s3]
/-- what the law reads was written -/
theorem at_inv : ∀ (f : Nat) (t : List Nat) (n : Nat) {s : Sh}, atS t f n = some s → s.good ∧ ∃ rest, t.drop n = s.wr ++ rest
  | 0, t, n, s, h => by unfold atS at h; cases h
  | f + 1, t, n, s, h => by
    unfold atS at h
    split at h
    · cases h
    rename_i c r0 hs
    have hd : ∃ r, t.drop n = c :: r := by
      unfold sgAt at hs
      cases q : t.drop n with
      | nil => rw [q] at hs; cases hs
      | cons a r => rw [q] at hs; injection hs with e _; exact ⟨r, by rw [e]⟩
    obtain ⟨r, hd⟩ := hd
    have d1 := (sg_of hd).2
    split at h
    · rename_i hc
      cases h
      refine ⟨?_, r, by rw [hd]; rfl⟩
      have := isSg_iff.mp hc
      refine sgB_iff.mpr ⟨fun x hx => by simp at hx; rw [hx]; exact this, rfl, by simp⟩
    have tk : ∀ w : List Nat, (t.drop n).take w.length = w → ∃ rest, t.drop n = w ++ rest := fun w e => ⟨_, by
      have := List.take_append_drop w.length (t.drop n)
      rw [e] at this
      exact this.symm⟩
    split at h
    · rename_i h2
      cases h
      exact ⟨trivial, tk [123, 125] h2⟩
    split at h
    · rename_i h2
      cases h
      exact ⟨trivial, tk [40, 41] h2⟩
    split at h
    · obtain ⟨w, hw, e⟩ := Option.map_eq_some_iff.mp h
      cases e
      obtain ⟨g, hl⟩ := W_good w (List.mem_of_find?_eq_some hw)
      have h2 := List.find?_some hw
      obtain ⟨r2, hr⟩ := take_pre (beq_iff_eq.mp h2)
      refine ⟨g, r2, ?_⟩
      rw [hr]
      simp [Sh.wr, hl]
    split at h
    · rename_i h33
      obtain ⟨a, ha, e⟩ := Option.map_eq_some_iff.mp h
      cases e
      obtain ⟨g, rest, hr⟩ := at_inv f t (n + 1) ha
      refine ⟨g, rest, ?_⟩
      rw [hd, h33, ← d1, hr]
      rfl
    split at h
    · rename_i h42
      obtain ⟨a, ha, e⟩ := Option.map_eq_some_iff.mp h
      cases e
      obtain ⟨g, rest, hr⟩ := at_inv f t (n + 1) ha
      refine ⟨g, rest, ?_⟩
      rw [hd, h42, ← d1, hr]
      rfl
    split at h
    · rename_i h40
      split at h
      · cases h
      rename_i a ha
      split at h
      · cases h
      rename_i k hk
      split at h
      · cases h
      rename_i b hb
      split at h
      · rename_i h41
        cases h
        obtain ⟨g1, r1, e1⟩ := at_inv f t (n + 1) ha
        obtain ⟨g2, r2, e2⟩ := at_inv f t _ hb
        obtain ⟨k3, hk2⟩ := mid_inv hk
        have one : ∀ m x, sgAt t m = [x] → ∃ r, t.drop m = x :: r := fun m x hx => by
          unfold sgAt at hx
          cases q : t.drop m with
          | nil => rw [q] at hx; cases hx
          | cons y r => rw [q] at hx; injection hx with e _; exact ⟨r, by rw [e]⟩
        have e3 := drop_app e1
        obtain ⟨r3, e4⟩ := one _ _ hk2
        have e5 := (sg_of e4).2
        have e6 := drop_app e2
        obtain ⟨r5, e7⟩ := one _ _ h41
        refine ⟨⟨k3, g1, g2⟩, r5, ?_⟩
        rw [hd, h40, ← d1, e1, ← e3, e4, ← e5, e2, ← e6, e7]
        simp [Sh.wr]
      · cases h
    · cases h
theorem dpt_wr : ∀ s : Sh, s.good → s.dpt + 1 ≤ s.wr.length
  | .non, _ => by simp [Sh.wr, Sh.dpt]
  | .emp, _ => by simp [Sh.wr, Sh.dpt]
  | .sg w, h => by
    simp only [Sh.wr, Sh.dpt]
    split
    · omega
    · simp
  | .nt a, h => by have := dpt_wr a h; simp only [Sh.wr, Sh.dpt, List.length_append, List.length_cons, List.length_nil]; omega
  | .mn a, h => by have := dpt_wr a h; simp only [Sh.wr, Sh.dpt, List.length_append, List.length_cons, List.length_nil]; omega
  | .bn k a b, h => by
    have := dpt_wr a h.2.1
    have := dpt_wr b h.2.2
    simp only [Sh.wr, Sh.dpt, List.length_append, List.length_cons, List.length_nil]
    omega
end Tk
namespace Tk
open PySem PySem.Spec PyProof.Rows L2
open D
theorem forL_first {f : D → En → Fl} {p : D → Bool} {r : D → D} {S : En → Prop} : ∀ {ds : List D} {ρ : En}, S ρ → (∀ d ∈ ds, ∀ ρ, S ρ → if p d then f d ρ = .rt (r d) else ∃ ρ', f d ρ = .nx ρ' ∧ S ρ') → match ds.find? p with | some d => forL f ds ρ = .rt (r d) | none => ∃ ρ', forL f ds ρ = .nx ρ' ∧ S ρ'
  | [], ρ, h, _ => ⟨ρ, rfl, h⟩
  | d :: ds, ρ, h, st => by
    have h0 := st d List.mem_cons_self ρ h
    cases q : p d with
    | true =>
      rw [q, if_pos rfl] at h0
      rw [List.find?_cons_of_pos q]
      show forL f (d :: ds) ρ = .rt (r d)
      unfold forL
      rw [h0]
    | false =>
      rw [q, if_neg Bool.false_ne_true] at h0
      obtain ⟨ρ1, e1, h1⟩ := h0
      rw [List.find?_cons_of_neg (by rw [q]; exact Bool.false_ne_true)]
      have := forL_first (ds := ds) (ρ := ρ1) h1 fun e he => st e (List.mem_cons_of_mem _ he)
      have e : forL f (d :: ds) ρ = forL f ds ρ1 := by
        conv => lhs; unfold forL
        rw [e1]
      rw [e]
      exact this
theorem sg_one1 {t : List Nat} {n c : Nat} {r : List Nat} (h : sgAt t n = c :: r) : sgAt t n = [c] := by
  have hl : (sgAt t n).length ≤ 1 := by unfold sgAt; rw [List.length_take]; omega
  rw [h] at hl ⊢
  cases r with
  | nil => rfl
  | cons a r => simp at hl
theorem cutN {α : Type} (t : List α) (n k : Nat) : cutL t (some (n : Int)) (some ((n : Int) + (k : Int))) = (t.drop n).take k := by
  have e1 : HT.sIx t.length 0 (some (n : Int)) = min n t.length := by
    unfold HT.sIx
    simp
    try omega
  have e2 : HT.sIx t.length t.length (some ((n : Int) + (k : Int))) = min (n + k) t.length := by
    unfold HT.sIx
    simp
    rw [if_neg (by omega)]
    omega
  unfold cutL
  rw [e1, e2]
  by_cases h : n ≤ t.length
  · rw [Nat.min_eq_left h]
    by_cases h2 : n + k ≤ t.length
    · rw [Nat.min_eq_left h2, Nat.add_sub_cancel_left]
    · rw [Nat.min_eq_right (by omega), List.take_of_length_le (by rw [List.length_drop]; omega), List.take_of_length_le (by rw [List.length_drop]; omega)]
  · rw [Nat.min_eq_right (by omega), Nat.min_eq_right (by omega), List.drop_of_length_le (i := n) (by omega), List.drop_of_length_le (Nat.le_refl _)]
    simp
def tell (n : Nat) : Option Sh → D
  | some s => .tup [s.enc, .int (s.parts : Int), .int ((n + s.wr.length : Nat) : Int)]
  | none => .non
theorem ne_str {z y : List Nat} (hz : (D.str z).sh = true) (hy : (D.str y).sh = true) : cmpD .ne (.str z) (.str y) = .ok (.bl (!(z == y))) := by
  show (if (D.str z).sh && (D.str y).sh then Res.ok (D.bl (!eqD (.str z) (.str y))) else .bad) = _
  rw [hz, hy]
  rfl
theorem sh_str {z : List Nat} (h : ∀ c ∈ z, c < 1114112) : (D.str z).sh = true := by
  unfold D.sh
  rw [pln_str h]
  rfl
theorem isin3 {z : List Nat} (hz : (D.str z).sh = true) : cmpD .isin (.str z) (.tup [.str [33], .str [42], .str [40]]) = .ok (.bl (z == [33] || (z == [42] || z == [40]))) := by
  have s2 : (D.tup [.str [33], .str [42], .str [40]]).sh = true := by decide
  have h : cmpD .isin (.str z) (.tup [.str [33], .str [42], .str [40]]) = .ok (.bl ([33] == z || ([42] == z || ([40] == z || false)))) := by
    show (if (D.str z).sh && (D.tup [.str [33], .str [42], .str [40]]).sh then Res.ok (D.bl ([33] == z || ([42] == z || ([40] == z || false)))) else .bad) = _
    rw [hz, s2]
    rfl
  have sw : ∀ y : List Nat, (y == z) = (z == y) := fun y => by rw [Bool.eq_iff_iff, beq_iff_eq, beq_iff_eq]; exact eq_comm
  rw [h]
  simp only [sw, Bool.or_false]
theorem get1_ok (c : List Nat) : biD .get1 [.dic [(.str [32], .str [116, 104, 101, 110]), (.str [124], .str [111, 114]), (.str [38], .str [97, 110, 100])], .str c] = .ok (match midOf c with | some k => .str (Sh.wrd k) | none => .non) := by
  have h : biD .get1 [.dic [(.str [32], .str [116, 104, 101, 110]), (.str [124], .str [111, 114]), (.str [38], .str [97, 110, 100])], .str c] = .ok ((if [32] == c then some (.str [116, 104, 101, 110]) else if [124] == c then some (.str [111, 114]) else if [38] == c then some (.str [97, 110, 100]) else none : Option D).getD .non) := rfl
  have sw : ∀ y : List Nat, (y == c) = decide (c = y) := fun y => by
    rw [Bool.eq_iff_iff, beq_iff_eq, decide_eq_true_iff]; exact eq_comm
  rw [h]
  simp only [sw, decide_eq_true_eq]
  unfold midOf
  by_cases h1 : c = [32]
  · simp [h1, Sh.wrd]
  by_cases h2 : c = [124]
  · simp [h2, Sh.wrd]
  by_cases h3 : c = [38]
  · simp [h3, Sh.wrd]
  · simp [h1, h2, h3]
section
variable {F L : Nat}
theorem law_at_ok {t : List Nat} (ht : okT t) : ∀ (f n : Nat), t.length ≤ n + f → Phi tab F (L + f + 1) 196 [.str t, .int (n : Int)] = .ok (tell n (atS t (f + 1) n)) := by
  have okl : t.length ≤ 16777216 := by have := ht.1; omega
  have sub : ∀ {z : List Nat}, (∀ c ∈ z, c ∈ t) → (D.str z).sh = true := fun h => sh_str fun c hc => ht.2 c (h c hc)
  have sgm : ∀ m, ∀ c ∈ sgAt t m, c ∈ t := fun m c hc => List.mem_of_mem_drop (List.mem_of_mem_take hc)
  have sl1 : ∀ m : Nat, slD (.str t) (some (m : Int)) (some ((m : Int) + 1)) = .ok (.str (sgAt t m)) := fun m => by
    have := cutN t m 1
    show (if okN t.length then Res.ok (D.str (cutL t (some (m : Int)) (some ((m : Int) + 1)))) else .bad) = _
    rw [if_pos (by simpa using okl)]
    exact congrArg (fun z => Res.ok (D.str z)) this
  have slk : ∀ m k : Nat, slD (.str t) (some (m : Int)) (some ((m : Int) + (k : Int))) = .ok (.str ((t.drop m).take k)) := fun m k => by
    have := cutN t m k
    show (if okN t.length then Res.ok (D.str (cutL t (some (m : Int)) (some ((m : Int) + (k : Int))))) else .bad) = _
    rw [if_pos (by simpa using okl)]
    exact congrArg (fun z => Res.ok (D.str z)) this
  intro f
  induction f with
  | zero =>
    intro n hn
    have hd : t.drop n = [] := List.drop_of_length_le (by omega)
    have hs : sgAt t n = [] := by unfold sgAt; rw [hd]; rfl
    have s1 := sl1 n
    have s2 := slk n 2
    rw [hs] at s1
    rw [hd] at s2
    have s2 : slD (.str t) (some (n : Int)) (some ((n : Int) + 2)) = .ok (.str []) := s2
    have n1 := ne_str (z := []) (y := []) (by decide) (by decide)
    have q1 := eq_str (z := []) (y := [123, 125]) (by decide) (by decide)
    have q2 := eq_str (z := []) (y := [40, 41]) (by decide) (by decide)
    have q3 := eq_str (z := []) (y := [91]) (by decide) (by decide)
    have q4 := isin3 (z := []) (by decide)
    have ea : atS t (0 + 1) n = none := by unfold atS; rw [hs]
    rw [ea, Phi_succ (f := f__law_at) rfl]
    simp [-sl_s, callFn, f__law_at, s1, s2, n1, q1, q2, q3, q4, tell]
  | succ f ih =>
    intro n hn
    rw [show L + (f + 1) + 1 = (L + f + 1) + 1 by omega, Phi_succ (f := f__law_at) rfl]
    have s1 := sl1 n
    have s2 : slD (.str t) (some (n : Int)) (some ((n : Int) + 2)) = .ok (.str ((t.drop n).take 2)) := slk n 2
    have sh2 : (D.str ((t.drop n).take 2)).sh = true := sub fun c hc => List.mem_of_mem_drop (List.mem_of_mem_take hc)
    have q1 := eq_str (y := [123, 125]) sh2 (by decide)
    have q2 := eq_str (y := [40, 41]) sh2 (by decide)
    have sh1 : (D.str (sgAt t n)).sh = true := sub (sgm n)
    have n1 := ne_str (y := []) sh1 (by decide)
    have q3 := eq_str (y := [91]) sh1 (by decide)
    have q4 := isin3 sh1
    have n2 := ne_str (y := [40]) sh1 (by decide)
    cases hs : sgAt t n with
    | nil =>
      have hd : (t.drop n).take 2 = [] := by
        unfold sgAt at hs
        cases q : t.drop n with
        | nil => rfl
        | cons a r => rw [q] at hs; cases hs
      have ea : atS t (f + 1 + 1) n = none := by unfold atS; rw [hs]
      rw [hs] at s1 n1 q3 q4
      rw [hd] at s2 q1 q2
      rw [ea]
      simp [-sl_s, callFn, f__law_at, s1, s2, n1, q1, q2, q3, q4, tell]
    | cons c r0 =>
      have hs1 := sg_one1 hs
      have ct : c ∈ t := sgm n c (by rw [hs]; simp)
      rw [hs1] at s1 n1 q3 q4 n2
      have ii : cmpD .isin (.str [c]) (.str [48, 49, 97, 98]) = .ok (.bl (isSg c)) := by
        show Res.ok (D.bl (subText [c] [48, 49, 97, 98])) = _
        rw [sub_one]
        congr 2
        cases q : isSg c with
        | true => exact List.contains_iff_mem.mpr (isSg_iff.mp q)
        | false =>
          cases q2 : ([48, 49, 97, 98] : List Nat).contains c with
          | false => rfl
          | true =>
            have := isSg_iff.mpr (show c ∈ sgn from List.contains_iff_mem.mp q2)
            rw [q] at this
            cases this
      have c1 : ((n + 1 : Nat) : Int) = (n : Int) + 1 := by omega
      have ea : atS t (f + 1 + 1) n = (if isSg c then some (.sg [c])
        else if (t.drop n).take 2 = [123, 125] then some .non
        else if (t.drop n).take 2 = [40, 41] then some .emp
        else if c = 91 then (W11.find? fun w => (t.drop n).take (w.length + 2) == [91] ++ w ++ [93]).map .sg
        else if c = 33 then (atS t (f + 1) (n + 1)).map .nt
        else if c = 42 then (atS t (f + 1) (n + 1)).map .mn
        else if c = 40 then (match atS t (f + 1) (n + 1) with
          | none => none
          | some a => match midOf (sgAt t (n + 1 + a.wr.length)) with
            | none => none
            | some k => match atS t (f + 1) (n + 1 + a.wr.length + 1) with
              | none => none
              | some b => if sgAt t (n + 1 + a.wr.length + 1 + b.wr.length) = [41] then some (.bn k a b) else none)
        else none) := by
        conv => lhs; unfold atS
        first
          | (rw [hs]; done)
          | (rw [hs]; rfl)
      rw [ea]
      clear ea
      cases hg : isSg c with
      | true =>
        rw [hg] at ii
        simp [-sl_s, callFn, f__law_at, s1, n1, ii, tell, Sh.enc, Sh.parts, Sh.wr]
      | false =>
        rw [hg] at ii
        rw [if_neg Bool.false_ne_true]
        by_cases h1 : (t.drop n).take 2 = [123, 125]
        · rw [if_pos h1]
          rw [h1] at s2 q1
          simp [-sl_s, callFn, f__law_at, s1, s2, n1, ii, q1, tell, Sh.enc, Sh.parts, Sh.wr]
        rw [if_neg h1]
        have q1 : cmpD .eq (.str ((t.drop n).take 2)) (.str [123, 125]) = .ok (.bl false) := by rw [q1, beq_eq_false_iff_ne.mpr h1]
        by_cases h2 : (t.drop n).take 2 = [40, 41]
        · rw [if_pos h2]
          have q2 : cmpD .eq (.str ((t.drop n).take 2)) (.str [40, 41]) = .ok (.bl true) := by rw [q2, h2]; rfl
          simp [-sl_s, callFn, f__law_at, s1, s2, n1, ii, q1, q2, tell, Sh.enc, Sh.parts, Sh.wr]
        rw [if_neg h2]
        have q2 : cmpD .eq (.str ((t.drop n).take 2)) (.str [40, 41]) = .ok (.bl false) := by rw [q2, beq_eq_false_iff_ne.mpr h2]
        by_cases h91 : c = 91
        · rw [if_pos h91]
          subst h91
          have q3 : cmpD .eq (.str [91]) (.str [91]) = .ok (.bl true) := q3
          have fst := forL_first (f := forB (ArOf tab F (L + f + 1)) [3] true f__law_at_b1) (p := fun d => match d with | .str w => (t.drop n).take (w.length + 2) == [91] ++ w ++ [93] | _ => false) (r := fun d => match d with | .str w => .tup [.tup [.str [115, 105, 103, 110, 115], .str w], .int 1, .int ((n : Int) + (w.length : Int) + 2)] | _ => .non) (S := fun ρ => ∃ a, ρ = [some (.str t), some (.int (n : Int)), some (.str [91]), a, none, none, none]) (ds := W11.map D.str) (ρ := [some (.str t), some (.int (n : Int)), some (.str [91]), none, none, none, none]) ⟨none, rfl⟩ (by
            rintro d hd ρ ⟨a, rfl⟩
            obtain ⟨w, hw, rfl⟩ := List.mem_map.mp hd
            obtain ⟨gw, _⟩ := W_good w hw
            have wl := asc_len gw
            have wlt : ∀ c ∈ w, c < 1114112 := fun c hc => sgn_lt ((sgB_iff.mp gw).1 c hc)
            have o1 : w.length ≤ 16777216 := by omega
            have o2 : 1 + w.length ≤ 16777216 := by omega
            have o3 : 1 + w.length + 1 ≤ 16777216 := by omega
            have o4 : w.length + 1 ≤ 16777216 := by omega
            have o5 : w.length + 1 + 1 ≤ 16777216 := by omega
            have sk := slk n (w.length + 2)
            rw [show (n : Int) + ((w.length + 2 : Nat) : Int) = (n : Int) + (w.length : Int) + 2 by omega] at sk
            have shk : (D.str ((t.drop n).take (w.length + 2))).sh = true := sub fun c hc => List.mem_of_mem_drop (List.mem_of_mem_take hc)
            have shw : (D.str ([91] ++ w ++ [93])).sh = true := sh_str fun c hc => by
              simp at hc
              rcases hc with rfl | hc | rfl
              · decide
              · exact wlt c hc
              · decide
            have qe := eq_str shk shw
            have ad1 : binD .add (.str [91]) (.str w) = .ok (.str ([91] ++ w)) := by rw [add_ss, if_pos]; simp; omega
            have ad2 : binD .add (.str ([91] ++ w)) (.str [93]) = .ok (.str ([91] ++ w ++ [93])) := by rw [add_ss, if_pos]; simp; omega
            have ln : biD .len [.str w] = .ok (.int w.length) := by rw [len_s, if_pos]; simpa using o1
            dsimp only
            by_cases hq : ((t.drop n).take (w.length + 2) == [91] ++ w ++ [93]) = true
            · rw [hq] at qe
              rw [if_pos hq]
              simp only [forB_one, f__law_at_b1, List.set_cons_zero, List.set_cons_succ, run_cons, run1_ifs, ev_cmp, ev_sl, ev_var, evo_some, ev_bin, ev_bi, ev_con, ev_tup, evs_cons, evs_nil, getV_zero, getV_succ, Res.bind_ok, asInt_int, add_ii, ln, sk, ad1, ad2, qe, withR_ok, asBl_bl, ↓reduceIte, run1_ret, run_nil, Fl.then_rt]
            · rw [Bool.eq_false_iff.mpr hq] at qe
              rw [if_neg hq]
              refine ⟨_, ?_, some (.str w), rfl⟩
              simp only [forB_one, f__law_at_b1, List.set_cons_zero, List.set_cons_succ, run_cons, run1_ifs, ev_cmp, ev_sl, ev_var, evo_some, ev_bin, ev_bi, ev_con, ev_tup, evs_cons, evs_nil, getV_zero, getV_succ, Res.bind_ok, asInt_int, add_ii, ln, sk, ad1, ad2, qe, withR_ok, asBl_bl, Bool.false_eq_true, ↓reduceIte, run1_ret, run_nil, Fl.then_nx])
          rw [List.find?_map] at fst
          have wm : W11.map D.str = [.str [48, 49], .str [48, 97], .str [48, 98], .str [49, 97], .str [49, 98], .str [97, 98], .str [48, 49, 97], .str [48, 49, 98], .str [48, 97, 98], .str [49, 97, 98], .str [48, 49, 97, 98]] := rfl
          have ff : W11.find? ((fun d => match d with | .str w => (t.drop n).take (w.length + 2) == [91] ++ w ++ [93] | _ => false) ∘ D.str) = W11.find? fun w => (t.drop n).take (w.length + 2) == [91] ++ w ++ [93] := rfl
          rw [ff] at fst
          cases hf : W11.find? fun w => (t.drop n).take (w.length + 2) == [91] ++ w ++ [93] with
          | none =>
            rw [hf] at fst
            obtain ⟨ρ', fo, a, rfl⟩ := fst
            rw [wm] at fo
            simp [-sl_s, callFn, f__law_at, s1, s2, n1, ii, q1, q2, q3, fo, tell]
          | some w =>
            rw [hf] at fst
            have fst : forL (forB (ArOf tab F (L + f + 1)) [3] true f__law_at_b1) (W11.map D.str) [some (.str t), some (.int (n : Int)), some (.str [91]), none, none, none, none] = .rt (.tup [.tup [.str [115, 105, 103, 110, 115], .str w], .int 1, .int ((n : Int) + (w.length : Int) + 2)]) := fst
            rw [wm] at fst
            obtain ⟨gw, w1⟩ := W_good w (List.mem_of_find?_eq_some hf)
            have el : ((n + (Sh.sg w).wr.length : Nat) : Int) = (n : Int) + (w.length : Int) + 2 := by
              simp only [Sh.wr]
              rw [if_neg w1]
              simp
              omega
            show _ = Res.ok (D.tup [(Sh.sg w).enc, .int ((Sh.sg w).parts : Int), .int ((n + (Sh.sg w).wr.length : Nat) : Int)])
            rw [el]
            simp [-sl_s, callFn, f__law_at, s1, s2, n1, ii, q1, q2, q3, fst, Sh.enc, Sh.parts]
        rw [if_neg h91]
        have q3 : cmpD .eq (.str [c]) (.str [91]) = .ok (.bl false) := by
          rw [q3]
          congr 2
          exact beq_eq_false_iff_ne.mpr fun z => h91 (by injection z)
        by_cases h33 : c = 33
        · rw [if_pos h33]
          subst h33
          have ih1 := ih (n + 1) (by omega)
          rw [c1] at ih1
          have q4 : cmpD .isin (.str [33]) (.tup [.str [33], .str [42], .str [40]]) = .ok (.bl true) := q4
          have n2 : cmpD .ne (.str [33]) (.str [40]) = .ok (.bl true) := n2
          have ix : ixD (.dic [(.str [33], .str [110, 111, 116]), (.str [42], .str [109, 97, 110, 121])]) (.str [33]) = .ok (.str [110, 111, 116]) := rfl
          cases ha : atS t (f + 1) (n + 1) with
          | none =>
            rw [ha] at ih1
            have nn : cmpD .isN .non .non = .ok (.bl true) := rfl
            simp [-sl_s, callFn, f__law_at, s1, s2, n1, ii, q1, q2, q3, q4, ih1, tell, nn]
          | some a =>
            rw [ha] at ih1
            have nn : cmpD .isN (.tup [a.enc, .int (a.parts : Int), .int ((n + 1 + a.wr.length : Nat) : Int)]) .non = .ok (.bl false) := rfl
            have ih1 : Phi tab F (L + f + 1) 196 [.str t, .int ((n : Int) + 1)] = .ok (.tup [a.enc, .int (a.parts : Int), .int ((n + 1 + a.wr.length : Nat) : Int)]) := ih1
            have el : ((n + (Sh.nt a).wr.length : Nat) : Int) = ((n + 1 + a.wr.length : Nat) : Int) := by simp [Sh.wr]; omega
            show _ = Res.ok (D.tup [(Sh.nt a).enc, .int ((Sh.nt a).parts : Int), .int ((n + (Sh.nt a).wr.length : Nat) : Int)])
            rw [el]
            generalize ((n + 1 + a.wr.length : Nat) : Int) = e at ih1 nn ⊢
            simp [-sl_s, callFn, f__law_at, s1, s2, n1, ii, q1, q2, q3, q4, ih1, nn, n2, ix, Sh.enc, Sh.parts]
        rw [if_neg h33]
        by_cases h42 : c = 42
        · rw [if_pos h42]
          subst h42
          have ih1 := ih (n + 1) (by omega)
          rw [c1] at ih1
          have q4 : cmpD .isin (.str [42]) (.tup [.str [33], .str [42], .str [40]]) = .ok (.bl true) := q4
          have n2 : cmpD .ne (.str [42]) (.str [40]) = .ok (.bl true) := n2
          have ix : ixD (.dic [(.str [33], .str [110, 111, 116]), (.str [42], .str [109, 97, 110, 121])]) (.str [42]) = .ok (.str [109, 97, 110, 121]) := rfl
          cases ha : atS t (f + 1) (n + 1) with
          | none =>
            rw [ha] at ih1
            have nn : cmpD .isN .non .non = .ok (.bl true) := rfl
            simp [-sl_s, callFn, f__law_at, s1, s2, n1, ii, q1, q2, q3, q4, ih1, tell, nn]
          | some a =>
            rw [ha] at ih1
            have nn : cmpD .isN (.tup [a.enc, .int (a.parts : Int), .int ((n + 1 + a.wr.length : Nat) : Int)]) .non = .ok (.bl false) := rfl
            have ih1 : Phi tab F (L + f + 1) 196 [.str t, .int ((n : Int) + 1)] = .ok (.tup [a.enc, .int (a.parts : Int), .int ((n + 1 + a.wr.length : Nat) : Int)]) := ih1
            have el : ((n + (Sh.mn a).wr.length : Nat) : Int) = ((n + 1 + a.wr.length : Nat) : Int) := by simp [Sh.wr]; omega
            show _ = Res.ok (D.tup [(Sh.mn a).enc, .int ((Sh.mn a).parts : Int), .int ((n + (Sh.mn a).wr.length : Nat) : Int)])
            rw [el]
            generalize ((n + 1 + a.wr.length : Nat) : Int) = e at ih1 nn ⊢
            simp [-sl_s, callFn, f__law_at, s1, s2, n1, ii, q1, q2, q3, q4, ih1, nn, n2, ix, Sh.enc, Sh.parts]
        rw [if_neg h42]
        by_cases h40 : c = 40
        · rw [if_pos h40]
          subst h40
          have ih1 := ih (n + 1) (by omega)
          rw [c1] at ih1
          have q4 : cmpD .isin (.str [40]) (.tup [.str [33], .str [42], .str [40]]) = .ok (.bl true) := q4
          have n2 : cmpD .ne (.str [40]) (.str [40]) = .ok (.bl false) := n2
          have nn0 : cmpD .isN .non .non = .ok (.bl true) := rfl
          have nn : ∀ a b c : D, cmpD .isN (.tup [a, b, c]) .non = .ok (.bl false) := fun _ _ _ => rfl
          have nns : ∀ z : List Nat, cmpD .isN (.str z) .non = .ok (.bl false) := fun _ => rfl
          have rg : ∀ ps, recv .get1 (.dic ps) = true := fun _ => rfl
          cases ha : atS t (f + 1) (n + 1) with
          | none =>
            rw [ha] at ih1
            simp [-sl_s, callFn, f__law_at, s1, s2, n1, ii, q1, q2, q3, q4, ih1, tell, nn0]
          | some a =>
            rw [ha] at ih1
            have ih1 : Phi tab F (L + f + 1) 196 [.str t, .int ((n : Int) + 1)] = .ok (.tup [a.enc, .int (a.parts : Int), .int ((n + 1 + a.wr.length : Nat) : Int)]) := ih1
            dsimp only
            have sm := sl1 (n + 1 + a.wr.length)
            have gm := get1_ok (sgAt t (n + 1 + a.wr.length))
            have ih2 := ih (n + 1 + a.wr.length + 1) (by omega)
            rw [show ((n + 1 + a.wr.length + 1 : Nat) : Int) = ((n + 1 + a.wr.length : Nat) : Int) + 1 by omega] at ih2
            cases hm : midOf (sgAt t (n + 1 + a.wr.length)) with
            | none =>
              rw [hm] at gm
              generalize ((n + 1 + a.wr.length : Nat) : Int) = e at ih1 sm
              simp [-sl_s, callFn, f__law_at, s1, s2, n1, ii, q1, q2, q3, q4, ih1, nn, n2, sm, rg, gm, nn0, tell]
            | some k =>
              rw [hm] at gm
              dsimp only
              cases hb : atS t (f + 1) (n + 1 + a.wr.length + 1) with
              | none =>
                rw [hb] at ih2
                generalize ((n + 1 + a.wr.length : Nat) : Int) = e at ih1 sm ih2
                simp [-sl_s, callFn, f__law_at, s1, s2, n1, ii, q1, q2, q3, q4, ih1, nn, n2, sm, rg, gm, nns, ih2, nn0, tell]
              | some b =>
                rw [hb] at ih2
                have ih2 : Phi tab F (L + f + 1) 196 [.str t, .int (((n + 1 + a.wr.length : Nat) : Int) + 1)] = .ok (.tup [b.enc, .int (b.parts : Int), .int ((n + 1 + a.wr.length + 1 + b.wr.length : Nat) : Int)]) := ih2
                dsimp only
                have sm2 := sl1 (n + 1 + a.wr.length + 1 + b.wr.length)
                have ne2 := ne_str (z := sgAt t (n + 1 + a.wr.length + 1 + b.wr.length)) (y := [41]) (sub (sgm _)) (by decide)
                have el : ((n + (Sh.bn k a b).wr.length : Nat) : Int) = ((n + 1 + a.wr.length + 1 + b.wr.length : Nat) : Int) + 1 := by simp [Sh.wr]; omega
                by_cases h41 : sgAt t (n + 1 + a.wr.length + 1 + b.wr.length) = [41]
                · rw [if_pos h41]
                  have ne2 : cmpD .ne (.str (sgAt t (n + 1 + a.wr.length + 1 + b.wr.length))) (.str [41]) = .ok (.bl false) := by rw [ne2, h41]; rfl
                  show _ = Res.ok (D.tup [(Sh.bn k a b).enc, .int ((Sh.bn k a b).parts : Int), .int ((n + (Sh.bn k a b).wr.length : Nat) : Int)])
                  rw [el]
                  generalize ((n + 1 + a.wr.length + 1 + b.wr.length : Nat) : Int) = e2 at ih2 sm2 ⊢
                  generalize sgAt t (n + 1 + a.wr.length + 1 + b.wr.length) = g2 at sm2 ne2
                  generalize ((n + 1 + a.wr.length : Nat) : Int) = e at ih1 sm ih2
                  simp [-sl_s, callFn, f__law_at, s1, s2, n1, ii, q1, q2, q3, q4, ih1, nn, n2, sm, rg, gm, nns, ih2, sm2, ne2, Sh.enc, Sh.parts]
                · rw [if_neg h41]
                  have ne2 : cmpD .ne (.str (sgAt t (n + 1 + a.wr.length + 1 + b.wr.length))) (.str [41]) = .ok (.bl true) := by rw [ne2, beq_eq_false_iff_ne.mpr h41]; rfl
                  generalize ((n + 1 + a.wr.length + 1 + b.wr.length : Nat) : Int) = e2 at ih2 sm2
                  generalize sgAt t (n + 1 + a.wr.length + 1 + b.wr.length) = g2 at sm2 ne2
                  generalize ((n + 1 + a.wr.length : Nat) : Int) = e at ih1 sm ih2
                  simp [-sl_s, callFn, f__law_at, s1, s2, n1, ii, q1, q2, q3, q4, ih1, nn, n2, sm, rg, gm, nns, ih2, sm2, ne2, tell]
        rw [if_neg h40]
        have q4 : cmpD .isin (.str [c]) (.tup [.str [33], .str [42], .str [40]]) = .ok (.bl false) := by
          rw [q4]
          congr 2
          simp [h33, h42, h40]
        simp [-sl_s, callFn, f__law_at, s1, s2, n1, ii, q1, q2, q3, q4, tell]
end
end Tk
namespace Tk
open PySem PySem.Spec PyProof.Rows L2
open D
theorem run1_tryS (A : Ar) (b s : List SS) (cs : List Nat) (i : Option Nat) (ρ : En) : run1 A (.tryS b cs i s) ρ = (match run A b ρ with
    | .nx ρ' => .nx ρ'
    | .rt d => .rt d
    | .exc c ρ' => if cs.contains c && decide (i.getD 0 < ρ'.length) then endS i (run { A with hot := some c } s (match i with | some j => ρ'.set j none | none => ρ')) else .bad
    | _ => .bad) := rfl
@[simp] theorem ev_isx (A : Ar) (cs : List Nat) (ρ : En) : ev A (.isx cs) ρ = (match A.hot with | some c => .ok (.bl (cs.contains c)) | none => .bad) := rfl
theorem told_ok {t : List Nat} (ht : okT t) : (∃ s : Sh, s.good ∧ s.parts ≤ 15 ∧ t = s.wr ∧ Phi tab 100000 (149 + 1) 197 [.str t] = .ok s.enc) ∨ ((¬ ∃ s : Sh, s.good ∧ s.parts ≤ 15 ∧ t = s.wr) ∧ Phi tab 100000 (149 + 1) 197 [.str t] = .ok .non) := by
  rcases read_cases ht with ⟨s, g, hp, e, h⟩ | ⟨hn, h⟩
  · left
    refine ⟨s, g, hp, e, ?_⟩
    rw [Phi_succ (f := f__law_told_8) rfl]
    have h : Phi tab 100000 149 191 [.str t] = .ok s.enc := h
    simp [callFn, f__law_told_8, run1_tryS, h]
  · right
    refine ⟨hn, ?_⟩
    rw [Phi_succ (f := f__law_told_8) rfl]
    have h : Phi tab 100000 149 191 [.str t] = .exc 7 := h
    have e : cmpD .eq (.lst [.bl true, .bl false, .bl false]) (.lst [.bl true, .bl false, .bl false]) = .ok (.bl true) := rfl
    simp [callFn, f__law_told_8, run1_tryS, h, endS, e]
theorem forL_run {f : D → En → Fl} {S : En → Prop} {ds : List D} {ρ : En} (h0 : S ρ) (h : ∀ d ∈ ds, ∀ ρ, S ρ → ∃ ρ', f d ρ = .nx ρ' ∧ S ρ') : ∃ ρ', forL f ds ρ = .nx ρ' ∧ S ρ' := by
  have := forL_all (f := f) (p := fun _ => true) (r := .non) (S := S) (ds := ds) (ρ := ρ) h0 (fun d hd ρ hs => by simpa using h d hd ρ hs)
  simpa using this
/-- one text asked -/
theorem one_ok {t : List Nat} (ht : okT t) (x0 x1 x2 x3 x4 a b c : Option D) : ∃ b' c', forB (ArOf tab 100000 150) [5] true f_law_40_b1 (.str t) [x0, x1, x2, x3, x4, a, b, c] = .nx [x0, x1, x2, x3, x4, some (.str t), b', c'] := by
  have hlen := ht.1
  have at0 : Phi tab 100000 150 196 [.str t, .int 0] = .ok (tell 0 (atS t (t.length + 1) 0)) := by
    have := law_at_ok (F := 100000) (L := 149 - t.length) ht t.length 0 (by omega)
    rw [show 149 - t.length + t.length + 1 = 150 by omega] at this
    exact this
  have ln : biD .len [.str t] = .ok (.int t.length) := by rw [len_s, if_pos]; simp; omega
  have tsh : (D.str t).sh = true := sh_str ht.2
  rcases told_ok ht with ⟨s, g, hp, e, h⟩ | ⟨hn, h⟩
  · have h : Phi tab 100000 150 197 [.str t] = .ok s.enc := h
    have hdp := dpt_parts s
    have ea : atS t (t.length + 1) 0 = some s := at_wr s g (t.length + 1) t 0 [] (by have := dpt_wr s g; rw [e]; omega) (by rw [e]; simp)
    rw [ea] at at0
    have at0 : Phi tab 100000 150 196 [.str t, .int 0] = .ok (.tup [s.enc, .int (s.parts : Int), .int ((0 + s.wr.length : Nat) : Int)]) := at0
    have a2 := written_ok (F := 100000) s (149 - s.dpt) g (by omega)
    rw [show 149 - s.dpt + s.dpt + 1 = 150 by omega] at a2
    have nn : cmpD .notN (.tup [s.enc, .int (s.parts : Int), .int ((0 + s.wr.length : Nat) : Int)]) .non = .ok (.bl true) := rfl
    have nn2 : cmpD .isN (.tup [s.enc, .int (s.parts : Int), .int ((0 + s.wr.length : Nat) : Int)]) .non = .ok (.bl false) := rfl
    have nn3 : cmpD .notN s.enc .non = .ok (.bl true) := by cases s <;> rfl
    have hT := s.th g
    have q2 : cmpD .ne s.enc s.enc = .ok (.bl false) := by
      have hs := hT.sh (by omega)
      have hr := eqD_refl s.enc hT.pl
      have : cmpD .ne s.enc s.enc = if s.enc.sh && s.enc.sh then .ok (.bl (!eqD s.enc s.enc)) else .bad := by
        cases s <;> rfl
      rw [this, hs, hr]
      rfl
    have q3 : cmpD .ne (.str s.wr) (.str t) = .ok (.bl false) := by
      rw [← e, ne_str tsh tsh]
      simp
    have p15 : cmpD .gt (.int (s.parts : Int)) (.int 15) = .ok (.bl false) := by
      rw [gt_ii]
      congr 2
      exact decide_eq_false (by omega)
    have q4 : cmpD .ne (.int ((0 + s.wr.length : Nat) : Int)) (.int (t.length : Int)) = .ok (.bl false) := by
      rw [ne_ii, e]
      simp
    refine ⟨some (.tup [s.enc, .int (s.parts : Int), .int ((0 + s.wr.length : Nat) : Int)]), some s.enc, ?_⟩
    generalize ((0 + s.wr.length : Nat) : Int) = e1 at *
    simp only [forB_one, f_law_40_b1, List.set_cons_zero, List.set_cons_succ, run_cons, run1_asg, run1_ifs, ev_call, ev_var, ev_con, evs_cons, evs_nil, ev_an, ev_orr, ev_cmp, ev_ix, ev_bi, ev_ite, getV_zero, getV_succ, Res.bind_ok, Ar_Phi, at0, withR_ok, Fl.then_nx, nn, asBl_bl, ↓reduceIte, ix_t, atI_c0, atI_c1, atI_c2, p15, Bool.false_eq_true, ln, q4, run_nil, h, nn2, q2, nn3, a2, q3]
  · have h : Phi tab 100000 150 197 [.str t] = .ok .non := h
    have n0 : cmpD .notN .non .non = .ok (.bl false) := rfl
    have n1 : cmpD .isN .non .non = .ok (.bl true) := rfl
    have n2 : cmpD .ne .non .non = .ok (.bl false) := rfl
    cases ea : atS t (t.length + 1) 0 with
    | none =>
      rw [ea] at at0
      have at0 : Phi tab 100000 150 196 [.str t, .int 0] = .ok .non := at0
      refine ⟨some .non, some .non, ?_⟩
      simp only [forB_one, f_law_40_b1, List.set_cons_zero, List.set_cons_succ, run_cons, run1_asg, run1_ifs, ev_call, ev_var, ev_con, evs_cons, evs_nil, ev_an, ev_orr, ev_cmp, ev_ix, ev_bi, ev_ite, getV_zero, getV_succ, Res.bind_ok, Ar_Phi, at0, withR_ok, Fl.then_nx, n0, n1, n2, asBl_bl, ↓reduceIte, Bool.false_eq_true, run_nil, h]
    | some s =>
      rw [ea] at at0
      obtain ⟨g, rest, hr⟩ := at_inv _ t 0 ea
      have at0 : Phi tab 100000 150 196 [.str t, .int 0] = .ok (.tup [s.enc, .int (s.parts : Int), .int ((0 + s.wr.length : Nat) : Int)]) := at0
      have nn : cmpD .notN (.tup [s.enc, .int (s.parts : Int), .int ((0 + s.wr.length : Nat) : Int)]) .non = .ok (.bl true) := rfl
      refine ⟨some .non, some .non, ?_⟩
      by_cases hp : s.parts ≤ 15
      · have hne : ¬ s.wr.length = t.length := by
          intro z
          apply hn
          refine ⟨s, g, hp, ?_⟩
          rw [List.drop_zero] at hr
          have := congrArg List.length hr
          rw [List.length_append] at this
          have r0 : rest = [] := List.length_eq_zero_iff.mp (by omega)
          rw [hr, r0, List.append_nil]
        have p15 : cmpD .gt (.int (s.parts : Int)) (.int 15) = .ok (.bl false) := by
          rw [gt_ii]
          congr 2
          exact decide_eq_false (by omega)
        have q4 : cmpD .ne (.int ((0 + s.wr.length : Nat) : Int)) (.int (t.length : Int)) = .ok (.bl true) := by
          rw [ne_ii]
          congr 2
          have : ¬ ((0 + s.wr.length : Nat) : Int) = (t.length : Int) := by omega
          rw [beq_eq_false_iff_ne.mpr this]
          rfl
        simp only [forB_one, f_law_40_b1, List.set_cons_zero, List.set_cons_succ, run_cons, run1_asg, run1_ifs, ev_call, ev_var, ev_con, evs_cons, evs_nil, ev_an, ev_orr, ev_cmp, ev_ix, ev_bi, ev_ite, getV_zero, getV_succ, Res.bind_ok, Ar_Phi, at0, withR_ok, Fl.then_nx, nn, n0, n1, n2, asBl_bl, ↓reduceIte, ix_t, atI_c0, atI_c1, atI_c2, p15, Bool.false_eq_true, ln, q4, run_nil, h]
      · have p15 : cmpD .gt (.int (s.parts : Int)) (.int 15) = .ok (.bl true) := by
          rw [gt_ii]
          congr 2
          exact decide_eq_true (by omega)
        simp only [forB_one, f_law_40_b1, List.set_cons_zero, List.set_cons_succ, run_cons, run1_asg, run1_ifs, ev_call, ev_var, ev_con, evs_cons, evs_nil, ev_an, ev_orr, ev_cmp, ev_ix, ev_bi, ev_ite, getV_zero, getV_succ, Res.bind_ok, Ar_Phi, at0, withR_ok, Fl.then_nx, nn, n0, n1, n2, asBl_bl, ↓reduceIte, ix_t, atI_c0, atI_c1, atI_c2, p15, Bool.false_eq_true, run_nil, h]
end Tk
namespace Tk
open PySem PySem.Spec PyProof.Rows L2
open D
theorem okT_app {a b : List Nat} {n : Nat} (ha : ∀ c ∈ a, c < 1114112) (hb : ∀ c ∈ b, c < 1114112) (hl : a.length + b.length ≤ 100) : okT (a ++ b) := by
  refine ⟨by rw [List.length_append]; exact hl, fun c hc => ?_⟩
  rcases List.mem_append.mp hc with h | h
  · exact ha c h
  · exact hb c h
theorem okT_dec {z : List Nat} (h : (decide (z.length ≤ 100) && z.all fun c => decide (c < 1114112)) = true) : okT z := by
  obtain ⟨h1, h2⟩ := Bool.and_eq_true_iff.mp h
  exact ⟨of_decide_eq_true h1, fun c hc => of_decide_eq_true (List.all_eq_true.mp h2 c hc)⟩
theorem law_true : ∀ ns : List Int, ns.length ≤ 63 → Phi tab 100000 (150 + 1) 198 [.scr ns] = .ok (.bl true) := by
  intro ns hl
  rw [Phi_succ (f := f_law_40) rfl]
  obtain ⟨s, g, hd, e1⟩ := shape_ok (F := 100000) (L := 145) ns hl 2 1
  have e1 : Phi tab 100000 150 195 [.scr ns, .int 1, .int 2] = .ok s.enc := e1
  have hp : s.parts ≤ 7 := by
    have h1 := parts_dpt s
    have h2 : 2 ^ (s.dpt + 1) ≤ 2 ^ 3 := Nat.pow_le_pow_right (by decide) (by omega)
    omega
  have a1 := written_ok (F := 100000) s (149 - s.dpt) g (by omega)
  rw [show 149 - s.dpt + s.dpt + 1 = 150 by omega] at a1
  have hTl := wr_len s g
  have hTc := wr_lt s g
  generalize s.wr = T at *
  have ln : biD .len [.str T] = .ok (.int T.length) := by rw [len_s, if_pos]; simp; omega
  have d2 : Phi tab 100000 150 5 [.scr ns, .int 200, .int ((T.length : Int) + 1)] = .ok (.int (drawnI ns 200 ((T.length : Int) + 1))) := drawn_ok (F := 100000) (L := 148) ns 200 ((T.length : Int) + 1) hl (by omega)
  have d3 : Phi tab 100000 150 5 [.scr ns, .int 201, .int 16] = .ok (.int (drawnI ns 201 16)) := drawn_ok (F := 100000) (L := 148) ns 201 16 hl (by decide)
  have r3 := drawn_range ns 201 16 (by decide)
  have r2 := drawn_range ns 200 ((T.length : Int) + 1) (by omega)
  generalize drawnI ns 200 ((T.length : Int) + 1) = q at *
  obtain ⟨c, hc, hcl⟩ : ∃ c, atI ([48, 49, 97, 98, 40, 41, 91, 93, 33, 42, 124, 38, 32, 123, 125, 120] : List Nat) (drawnI ns 201 16) = some c ∧ c < 1114112 := ⟨_, atI_get r3.1 (by simpa using r3.2), by
    have : ∀ x ∈ ([48, 49, 97, 98, 40, 41, 91, 93, 33, 42, 124, 38, 32, 123, 125, 120] : List Nat), x < 1114112 := by decide
    exact this _ (List.getElem_mem _)⟩
  have ixc : ixD (.str [48, 49, 97, 98, 40, 41, 91, 93, 33, 42, 124, 38, 32, 123, 125, 120]) (.int (drawnI ns 201 16)) = .ok (.str [c]) := by
    show (if okN 16 then (match atI ([48, 49, 97, 98, 40, 41, 91, 93, 33, 42, 124, 38, 32, 123, 125, 120] : List Nat) (drawnI ns 201 16) with | some c => Res.ok (D.str [c]) | none => .bad) else .bad) = _
    rw [hc]
    rfl
  have okl : okN T.length = true := by simp; omega
  have k1 : slD (.str T) none (some q) = .ok (.str (cutL T none (some q))) := if_pos okl
  have k2 : slD (.str T) (some q) none = .ok (.str (cutL T (some q) none)) := if_pos okl
  have k3 : slD (.str T) (some (q + 1)) none = .ok (.str (cutL T (some (q + 1)) none)) := if_pos okl
  have l1 := len_cutL (xs := T) (lo := none) (hi := some q)
  have l2 := len_cutL (xs := T) (lo := some q) (hi := none)
  have l3 := len_cutL (xs := T) (lo := some (q + 1)) (hi := none)
  have m1 : ∀ x ∈ cutL T none (some q), x < 1114112 := fun x hx => hTc x (mem_cutL hx)
  have m2 : ∀ x ∈ cutL T (some q) none, x < 1114112 := fun x hx => hTc x (mem_cutL hx)
  have m3 : ∀ x ∈ cutL T (some (q + 1)) none, x < 1114112 := fun x hx => hTc x (mem_cutL hx)
  generalize cutL T none (some q) = p1 at *
  generalize cutL T (some q) none = p2 at *
  generalize cutL T (some (q + 1)) none = p3 at *
  have ad : ∀ x y : List Nat, x.length + y.length ≤ 100000 → binD .add (.str x) (.str y) = .ok (.str (x ++ y)) := fun x y h => by
    rw [add_ss, if_pos]
    simp
    omega
  have A1 := ad p1 [c] (by simp; omega)
  have A2 := ad (p1 ++ [c]) p2 (by simp; omega)
  have A3 := ad p1 p3 (by omega)
  have A4 := ad (p1 ++ [c]) p3 (by simp; omega)
  have B1 := ad [40] T (by simp; omega)
  have B2 := ad ([40] ++ T) [124] (by simp; omega)
  have B3 := ad ([40] ++ T ++ [124]) T (by simp; omega)
  have B4 := ad ([40] ++ T ++ [124] ++ T) [41] (by simp; omega)
  have C1 : binD .mul (.str [33]) (.int 16) = .ok (.str (repL [33] 16)) := rfl
  have C2 : binD .mul (.str [33]) (.int 14) = .ok (.str (repL [33] 14)) := rfl
  have C3 : binD .mul (.str [33]) (.int 15) = .ok (.str (repL [33] 15)) := rfl
  have D1 := ad (repL [33] 16) [97] (by decide)
  have D2 := ad (repL [33] 14) [97] (by decide)
  have D3 := ad (repL [33] 15) [97] (by decide)
  obtain ⟨d5, h5, z5, rfl, o5⟩ := cut_pick (P := fun d => ∃ z, d = .str z ∧ okT z) (xs := [D.str [], .str (repL [33] 16 ++ [97]), .str (repL [33] 14 ++ [97]), .str (repL [33] 15 ++ [97]), .str [91, 93], .str [40, 97, 32, 98]]) (by
    intro x hx
    simp at hx
    rcases hx with rfl | rfl | rfl | rfl | rfl | rfl <;> exact ⟨_, rfl, okT_dec (by decide)⟩) (i := q % 6) (emod_range (by decide)).1 (emod_range (x := q) (m := 6) (by decide)).2
  have ix5 : ixD (.lst [D.str [], .str (repL [33] 16 ++ [97]), .str (repL [33] 14 ++ [97]), .str (repL [33] 15 ++ [97]), .str [91, 93], .str [40, 97, 32, 98]]) (.int (q % 6)) = .ok (.str z5) := by
    rw [ix_l, h5]
  have mo : binD .mod (.int q) (.int 6) = .ok (.int (q % 6)) := rfl
  have loop := forL_run (f := forB (ArOf tab 100000 150) [5] true f_law_40_b1) (S := fun ρ => ∃ a b c', ρ = [some (.scr ns), some (.str T), some (.int q), some (.str [c]), some (.lst [.str (p1 ++ [c] ++ p2), .str (p1 ++ p3), .str (p1 ++ [c] ++ p3), .str ([40] ++ T ++ [124] ++ T ++ [41]), .str z5]), a, b, c']) (ds := [.str (p1 ++ [c] ++ p2), .str (p1 ++ p3), .str (p1 ++ [c] ++ p3), .str ([40] ++ T ++ [124] ++ T ++ [41]), .str z5, .str T]) (ρ := [some (.scr ns), some (.str T), some (.int q), some (.str [c]), some (.lst [.str (p1 ++ [c] ++ p2), .str (p1 ++ p3), .str (p1 ++ [c] ++ p3), .str ([40] ++ T ++ [124] ++ T ++ [41]), .str z5]), none, none, none]) ⟨none, none, none, rfl⟩ (by
    rintro d hd ρ ⟨a, b, c', rfl⟩
    have hT : ∃ t, d = .str t ∧ okT t := by
      have mc : ∀ x ∈ [c], x < 1114112 := fun x hx => by simp at hx; rw [hx]; exact hcl
      have m1c : ∀ x ∈ p1 ++ [c], x < 1114112 := fun x hx => by
        rcases List.mem_append.mp hx with h | h
        · exact m1 x h
        · exact mc x h
      simp only [List.mem_cons, List.not_mem_nil, or_false] at hd
      rcases hd with rfl | rfl | rfl | rfl | rfl | rfl
      · exact ⟨_, rfl, okT_app (n := 0) m1c m2 (by simp; omega)⟩
      · exact ⟨_, rfl, okT_app (n := 0) m1 m3 (by omega)⟩
      · exact ⟨_, rfl, okT_app (n := 0) m1c m3 (by simp; omega)⟩
      · refine ⟨_, rfl, ⟨by simp; omega, fun x hx => ?_⟩⟩
        simp at hx
        rcases hx with rfl | hx | rfl | hx | rfl
        · decide
        · exact hTc x hx
        · decide
        · exact hTc x hx
        · decide
      · exact ⟨_, rfl, o5⟩
      · exact ⟨_, rfl, by omega, hTc⟩
    obtain ⟨t, rfl, ht⟩ := hT
    obtain ⟨b', c2, h⟩ := one_ok ht (some (.scr ns)) (some (.str T)) (some (.int q)) (some (.str [c])) (some (.lst [.str (p1 ++ [c] ++ p2), .str (p1 ++ p3), .str (p1 ++ [c] ++ p3), .str ([40] ++ T ++ [124] ++ T ++ [41]), .str z5])) a b c'
    exact ⟨_, h, _, _, _, rfl⟩)
  obtain ⟨ρ2, lp, a, b, c', rfl⟩ := loop
  have rp : List.replicate (8 - 1) (none : Option D) = [none, none, none, none, none, none, none] := rfl
  have ap : ∀ (ρ : En) (xs : List D) (d : D), ρ[4]? = some (some (.lst xs)) → xs.length < 10 → appD ρ 4 (.ok d) = .nx (ρ.set 4 (some (.lst (xs ++ [d])))) := by
    intro ρ xs d h hl
    unfold appD
    rw [h]
    dsimp only
    rw [withR_ok, if_pos]
    exact decide_eq_true (by unfold big; omega)
  have al : binD .add (.lst [.str (p1 ++ [c] ++ p2), .str (p1 ++ p3), .str (p1 ++ [c] ++ p3), .str ([40] ++ T ++ [124] ++ T ++ [41]), .str z5]) (.lst [.str T]) = .ok (.lst [.str (p1 ++ [c] ++ p2), .str (p1 ++ p3), .str (p1 ++ [c] ++ p3), .str ([40] ++ T ++ [124] ++ T ++ [41]), .str z5, .str T]) := rfl
  have ap1 := ap [some (.scr ns), some (.str T), some (.int q), some (.str [c]), some (.lst [.str (p1 ++ [c] ++ p2), .str (p1 ++ p3), .str (p1 ++ [c] ++ p3)]), none, none, none] _ (.str ([40] ++ T ++ [124] ++ T ++ [41])) rfl (by simp)
  have ap2 := ap [some (.scr ns), some (.str T), some (.int q), some (.str [c]), some (.lst [.str (p1 ++ [c] ++ p2), .str (p1 ++ p3), .str (p1 ++ [c] ++ p3), .str ([40] ++ T ++ [124] ++ T ++ [41])]), none, none, none] _ (.str z5) rfl (by simp)
  have ap1 : appD [some (.scr ns), some (.str T), some (.int q), some (.str [c]), some (.lst [.str (p1 ++ [c] ++ p2), .str (p1 ++ p3), .str (p1 ++ [c] ++ p3)]), none, none, none] 4 (.ok (.str ([40] ++ T ++ [124] ++ T ++ [41]))) = .nx [some (.scr ns), some (.str T), some (.int q), some (.str [c]), some (.lst [.str (p1 ++ [c] ++ p2), .str (p1 ++ p3), .str (p1 ++ [c] ++ p3), .str ([40] ++ T ++ [124] ++ T ++ [41])]), none, none, none] := ap1
  have ap2 : appD [some (.scr ns), some (.str T), some (.int q), some (.str [c]), some (.lst [.str (p1 ++ [c] ++ p2), .str (p1 ++ p3), .str (p1 ++ [c] ++ p3), .str ([40] ++ T ++ [124] ++ T ++ [41])]), none, none, none] 4 (.ok (.str z5)) = .nx [some (.scr ns), some (.str T), some (.int q), some (.str [c]), some (.lst [.str (p1 ++ [c] ++ p2), .str (p1 ++ p3), .str (p1 ++ [c] ++ p3), .str ([40] ++ T ++ [124] ++ T ++ [41]), .str z5]), none, none, none] := ap2
  simp only [callFn, f_law_40, List.length_cons, List.length_nil, ↓reduceIte, List.map_cons, List.map_nil, run_cons, run1_asg, run1_asgF, run1_app, ev_call, evs_cons, ev_var, evs_nil, ev_con, ev_bin, ev_bi, ev_ix, ev_sl, evo_some, evo_none, ev_lst, rp, getV_zero, getV_succ, Res.bind_ok, Ar_Phi, e1, a1, withR_ok, Fl.then_nx, List.set_cons_zero, List.set_cons_succ, ln, add_ii, d2, d3, ixc, asInt_int, k1, k2, k3, A1, A2, A3, A4, B1, B2, B3, B4, C1, C2, C3, D1, D2, D3, mo, ix5, ap1, ap2, run1_forr, evi_of, al, items_l, lp, run1_ret, run_nil, Fl.then_rt, show ([some (D.scr ns)] ++ [none, none, none, none, none, none, none] : En) = [some (D.scr ns), none, none, none, none, none, none, none] from rfl]
end Tk
namespace Tk
end Tk
open PySem PySem.W PySem.Calls PyProof.Rows
theorem PySem.Challenge.cw_textkinds_k81_whole_read_holds : PySem.Challenge.rw_textkinds_k81_whole_read.Holds := by
  w_on; o_law
  refine HandSHeadRun.head_any (r := OpenLaw.row PySem.Challenge.rw_textkinds_k81_whole_read) (q := view (OpenLaw.row PySem.Challenge.rw_textkinds_k81_whole_read).prog [28]) (H := Tk.hk) (ob := Tk.ob) (M := 4000) (loose := Tk.loose) (d := HandSHeadRun.topDef (OpenLaw.row PySem.Challenge.rw_textkinds_k81_whole_read).prog 28) (kwd := []) Tk.ob_eq
    (by kernel_rfl) (fun s => by kernel_rfl) Tk.runs (by kernel_rfl) (by kernel_rfl) (by kernel_rfl) (by rfl) (by first | assumption | decide +kernel) (by decide +kernel) ⟨rfl, rfl, rfl, rfl, rfl, by decide +kernel⟩ ?hw ?hc
  case hw => w_witness2
  case hc =>
    refine Tk.walkW (l := PySem.Challenge.rw_textkinds_k81_whole_read) (n := 63) (k := 150 + 1) (x := "_law_script") (CX := fun w => L2.CX (PySem.Challenge.rw_textkinds_k81_whole_read).prog w) rfl (by decide) (by kernel_rfl) ⟨rfl, by decide, by decide⟩ ?F Tk.cx_false
    intro w mg fa h Y G hmg0
    obtain ⟨K, KX, c⟩ := Y
    have hmg : mg ("law" : PySem.Str) = some (.ref fa) := by
      have e : (HandSHeadRun.topDef (OpenLaw.row PySem.Challenge.rw_textkinds_k81_whole_read).prog 28).name = ("law" : PySem.Str) := by kernel_rfl
      rw [← e]
      exact hmg0
    obtain ⟨fd, sp, hb, hsp, hF⟩ := Tk.facts (P := (PySem.Challenge.rw_textkinds_k81_whole_read).prog) (w := w) KX G c Tk.law_true
    have e := hmg.symm.trans (He.glo_ok KX G (c.fact 11))
    cases e
    exact ⟨K, fd, sp, KX, hb, hsp, hF⟩
