import PyProof.Rows.All
import Wide.All
import OpenK.AllK
import Wide.FinOn
import KE.KeyNested
import KE.KDictPairs
import PyProof.DictRoadsH
import KE.KDictWalk
import HandS.Dict
import HandS.Walk
import KE.KDictCopyH
import PyProof.DictTable
import HandS.SetFor
import HandS.TupSets
import HandS.Strs
import HandS.ForMost
import HandS.TupAny
import HandS.TupMul
import HandS.IsInst
import HandS.Deep
import HandS.Zip
import HandS.Rev
import HandS.Conv
import HandS.Exc
import HandS.ExcOwn
import HandS.TryOnly
import HandS.WordsExc
import KE.GoesEnum
import KE.KDictZip
import PyProof.StrOps2
import PyProof.Rows.IntBool
import HandS.More
import HandS.Style
import PyProof.DictUpdate
import HandS.ExcIs
import HandS.HeadHook1
import PyProof.ExcBaseAll.ValueError
import HandS.Defaults
import KE.KStateDown
import HandS.Head0
import HandS.Head1
import HandS.Head2
import HandS.HeadEnd
import HandS.HeadHook2
import HandS.HeadHook3
import HandS.HeadHook4
import PyProof.DictCalls
import PyProof.StrLawsIn
import PySem.Challenge.RW_textkinds_k21_whole_sets
set_option Elab.async false
set_option linter.all false
set_option maxRecDepth 100000
set_option maxHeartbeats 8000000
/-! Dicts whose keys are of any kind at once: None, truths, ints, texts, tuples of such. -/
namespace Gd
open PySem

/-- the value v is the key k, and may be kept -/
def Ky (h : Heap) (k : NestedKey) (v : Value) : Prop := NestedIs h k v ∧ k.depth ≤ 8
/-- the entries' keys -/
inductive Kys (w : World) (h : Heap) : List NestedKey → List DictEntry → Prop
  | nil : Kys w h [] []
  | cons {k : NestedKey} {e : DictEntry} {ks : List NestedKey} {es : List DictEntry} : Ky h k e.key → e.hash = k.hash w → Kys w h ks es → Kys w h (k :: ks) (e :: es)
section
variable {prog : Program} {w : World} {A : Around} {E : Value → Shared → Prop} {s : Shared} {h h' : Heap}
theorem Ky.inj {k q : NestedKey} {v : Value} (a : Ky h k v) (b : Ky h q v) : k = q := NestedIs.inj _ _ _ a.1 b.1
theorem Kys.len : ∀ {ks : List NestedKey} {es : List DictEntry}, Kys w h ks es → es.length = ks.length
  | _, _, .nil => rfl
  | _, _, .cons _ _ r => by rw [List.length_cons, List.length_cons, Kys.len r]
theorem Kys.get : ∀ {ks : List NestedKey} {es : List DictEntry} {i : Nat} {e : DictEntry}, Kys w h ks es → es[i]? = some e → ∃ k, ks[i]? = some k ∧ Ky h k e.key ∧ e.hash = k.hash w
  | _, _, _, _, .nil, q => by simp at q
  | _, _, 0, _, .cons a b _, q => by simp at q; subst q; exact ⟨_, rfl, a, b⟩
  | _, _, i + 1, e, .cons _ _ r, q => by
    obtain ⟨k, a, b⟩ := Kys.get (i := i) r (by simpa using q)
    exact ⟨k, by simpa using a, b⟩
theorem Kys.get' {ks : List NestedKey} {es : List DictEntry} {i : Nat} {k : NestedKey} (r : Kys w h ks es) (q : ks[i]? = some k) : ∃ e, es[i]? = some e ∧ Ky h k e.key ∧ e.hash = k.hash w := by
  have hl : i < es.length := by rw [r.len]; exact (List.getElem?_eq_some_iff.mp q).1
  obtain ⟨k', a, b⟩ := r.get (List.getElem?_eq_getElem hl)
  rw [q] at a; cases a
  exact ⟨_, List.getElem?_eq_getElem hl, b⟩
theorem Kys.keep (st : ∀ k v, Ky h k v → Ky h' k v) : ∀ {ks : List NestedKey} {es : List DictEntry}, Kys w h ks es → Kys w h' ks es
  | _, _, .nil => .nil
  | _, _, .cons a b r => .cons (st _ _ a) b (Kys.keep st r)
theorem Kys.snoc {k : NestedKey} {e : DictEntry} (a : Ky h k e.key) (b : e.hash = k.hash w) : ∀ {ks : List NestedKey} {es : List DictEntry}, Kys w h ks es → Kys w h (ks ++ [k]) (es ++ [e])
  | _, _, .nil => .cons a b .nil
  | _, _, .cons c d r => .cons c d (Kys.snoc a b r)
theorem Kys.modify (v : Value) : ∀ {ks : List NestedKey} {es : List DictEntry} (j : Nat), Kys w h ks es → Kys w h ks (es.modify j fun e => { e with val := v })
  | _, _, _, .nil => by simp; exact .nil
  | _, _, 0, .cons c d r => by simp; exact .cons c d r
  | _, _, j + 1, .cons c d r => by simp; exact .cons c d (Kys.modify v j r)

theorem nodup_at {ks : List NestedKey} (hn : ks.Nodup) {i j : Nat} {k : NestedKey} (a : ks[i]? = some k) (b : ks[j]? = some k) : i = j :=
  (List.getElem?_inj (List.getElem?_eq_some_iff.mp a).1 hn).mp (a.trans b.symm)

theorem eqKy {u v : Value} {x y : NestedKey} {Q : Bool → Shared → Prop} (hu : A.units + 8 < cLine) (a : Ky s.heap x u) (b : Ky s.heap y v) (q : Q (decide (x = y)) s) : wpAny (model prog w) A (eqBool u v) Q E s := by
  have d1 := a.2
  refine eqAt_key x y A s u v a.1 b.1 (by omega) _ _ _ _ ?_
  rw [← NestedKey.decide_eq]
  exact q
theorem quietKy {v : Value} {k : NestedKey} {Q : Bool → Shared → Prop} (a : Ky s.heap k v) (q : Q true s) : wpAny (model prog w) A (eqIsQuiet 8 v) Q E s :=
  quiet_key k v 8 s a.1 a.2 A E Q q
theorem tellsKy {v : Value} {k : NestedKey} {l : List Value} {Q : Bool → Shared → Prop} (a : Ky s.heap k v) (hl : ∀ u ∈ l, ∃ x, Ky s.heap x u) (q : Q false s) : wpAny (model prog w) A (tableMayTell v l) Q E s := by
  unfold tableMayTell
  by_cases c : l.isEmpty = true
  · rw [if_pos c]; exact wpAny_pure q
  · rw [if_neg c]
    refine wpAny_bind (quietKy a ?_)
    rw [if_neg (by simp)]
    refine wpAny_bind (wpAny_forIn_list _ (fun more r t => t = s ∧ r = (none, ()) ∧ ∀ u ∈ more, u ∈ l) _ ?_ ?_ _ _ ⟨rfl, rfl, fun _ z => z⟩)
    · rintro u more r t ⟨rfl, rfl, g⟩
      obtain ⟨x, hx⟩ := hl u (g u (by simp))
      refine wpAny_bind (quietKy hx ?_)
      rw [if_neg (by simp)]
      exact wpAny_pure ⟨rfl, rfl, fun y hy => g y (by simp [hy])⟩
    · rintro r t ⟨rfl, rfl, _⟩
      exact wpAny_pure q

theorem tells2 {v : Value} {k : NestedKey} {l : List Value} {c : Bool} {Q : Bool → Shared → Prop} (a : Ky s.heap k v) (hl : ∀ u ∈ l, ∃ x, Ky s.heap x u) (q : Q false s) : wpAny (model prog w) A (if c = true then pure false else tableMayTell v l) Q E s := by
  cases c
  · exact tellsKy a hl q
  · exact wpAny_pure q

/-- where a key stands -/
theorem findKy {d : Addr} {o : Obj} {es : Array DictEntry} {ep : Nat} {ks : List NestedKey} {k : NestedKey} {v : Value} {Q : Option Nat → Shared → Prop} (hu : A.units + 8 < cLine) (hv : Ky s.heap k v)
    (ho : s.heap.get? d = some o) (hd : o.data = .dict es ep) (hk : Kys w s.heap ks es.toList) (hn : ks.Nodup)
    (no : (∀ j : Nat, ks[j]? ≠ some k) → Q none s) (yes : ∀ j : Nat, ks[j]? = some k → Q (some j) s) : wpAny (model prog w) A (dictFind d v (k.hash w)) Q E s := by
  have atE : ∀ {i : Nat} {e : DictEntry}, es[i]? = some e → ∃ x, ks[i]? = some x ∧ Ky s.heap x e.key ∧ e.hash = x.hash w := fun {i e} q => hk.get (by rw [Array.getElem?_toList]; exact q)
  generalize hP : placesWithHash es.size (fun i => es[i]?.map (·.hash)) (k.hash w) = P
  have memP : ∀ i, i ∈ P ↔ i < es.size ∧ (es[i]?.map (·.hash)) = some (k.hash w) := fun i => by
    rw [← hP]; unfold placesWithHash; simp [List.mem_filter]
  have ndP : P.Nodup := by rw [← hP]; unfold placesWithHash; exact List.nodup_range.filter _
  have inP : ∀ j : Nat, ks[j]? = some k → j ∈ P := fun j q => by
    obtain ⟨e, q1, q2, q3⟩ := hk.get' q
    rw [Array.getElem?_toList] at q1
    refine (memP j).mpr ⟨(Array.getElem?_eq_some_iff.mp q1).1, by rw [q1]; simp [q3]⟩
  have hst : ∀ u ∈ P.filterMap (fun i => es[i]?.map (·.key)), ∃ x, Ky s.heap x u := fun u hm => by
    obtain ⟨i, _, q⟩ := List.mem_filterMap.mp hm
    obtain ⟨e, q1, rfl⟩ := Option.map_eq_some_iff.mp q
    obtain ⟨x, _, q2, _⟩ := atE q1
    exact ⟨x, q2⟩
  have fin : (∀ i ∈ P, ks[i]? ≠ some k) → Q none s := fun g => no fun j q => g j (inP j q) q
  -- the walk that stops at the first hit
  have plain : wpAny (model prog w) A (dictWalkPlain d v (k.hash w) es P) Q E s := by
    unfold dictWalkPlain
    refine wpAny_bind (wpAny_forIn_list _ (fun more b t => t = s ∧ b = (none, ()) ∧ ∃ pre, pre ++ more = P ∧ ∀ i ∈ pre, ks[i]? ≠ some k) _ ?_ ?_ _ _ ⟨rfl, rfl, [], rfl, by simp⟩)
    · rintro i more b t ⟨rfl, rfl, pre, hp, g⟩
      obtain ⟨il, ih⟩ := (memP i).mp (by rw [← hp]; simp)
      obtain ⟨x, x1, x2, x3⟩ := atE (Array.getElem?_eq_getElem il)
      have next : ks[i]? ≠ some k → ∃ pre, pre ++ more = P ∧ ∀ i ∈ pre, ks[i]? ≠ some k := fun ne => ⟨pre ++ [i], by rw [← hp]; simp, fun j hj => by
        rcases List.mem_append.mp hj with z | z
        · exact g j z
        · rw [List.mem_singleton] at z; subst z; exact ne⟩
      simp only [Array.getElem?_eq_getElem il]
      by_cases c : (es[i].hash == k.hash w) = true
      · rw [if_pos c]
        refine wpAny_bind (wpAny_dictEpoch ho hd (wpAny_bind (eqKy hu x2 hv (wpAny_bind (wpAny_dictEpoch ho hd ?_)))))
        rw [if_neg (by simp)]
        by_cases ck : x = k
        · rw [decide_eq_true ck]
          exact wpAny_bind (wpAny_rule (wpAny_pure (wpAny_pure (yes i (by rw [x1, ck])))))
        · rw [decide_eq_false ck]
          exact wpAny_bind (wpAny_rule (wpAny_pure ⟨rfl, rfl, next (by rw [x1]; exact fun z => ck (Option.some.inj z))⟩))
      · rw [if_neg c]
        refine wpAny_pure ⟨rfl, rfl, next fun z => c ?_⟩
        rw [x1] at z; cases z
        rw [x3]; simp
    · rintro b t ⟨rfl, rfl, pre, hp, g⟩
      rw [List.append_nil] at hp; subst hp
      exact wpAny_pure (fin g)
  have rest : (¬ ∃ x t, v = .str x t ∧ (es.all fun e => isExactStrKey e.key) = true) → wpAny (model prog w) A (dictFind d v (k.hash w)) Q E s := by
    intro hns
    have body : (∀ c : Bool, c = (es.any fun e => e.key == v && e.hash != k.hash w) → c = true → ∀ a, v ≠ .ref a) := by
      rintro c hc c1 a rfl
      rw [hc, ← Array.any_toList, List.any_eq_true] at c1
      obtain ⟨e, em, ec⟩ := c1
      obtain ⟨i, hi⟩ := List.mem_iff_getElem?.mp em
      obtain ⟨x, _, x2, x3⟩ := hk.get hi
      simp only [Bool.and_eq_true, beq_iff_eq, bne_iff_ne, ne_eq] at ec
      rw [ec.1] at x2
      exact ec.2 (by rw [x3, x2.inj hv])
    unfold dictFind
    try with_reducible refine wpAny_holding ?_
    refine wpAny_bind (wpAny_dictEntries ho hd ?_)
    dsimp only
    rw [hP]
    by_cases cv : ((v :: P.filterMap (fun i => es[i]?.map (·.key))).all carriedByValue) = true
    · rw [if_pos cv]
      split
      · split
        · rename_i x t q; exact absurd ⟨x, t, rfl, q⟩ hns
        · exact plain
      · exact plain
    · rw [if_neg cv]
      have rf : ∀ a, v = .ref a → ¬ (es.any fun e => e.key == v && e.hash != k.hash w) = true := fun a e c => body _ rfl c a e
      generalize hone : (P.filterMap (fun i => es[i]?.map (·.key)) == [v]) = one
      cases v
      all_goals dsimp only
      all_goals try rw [if_neg (fun q => hns ⟨_, _, rfl, q⟩)]
      all_goals try rw [if_neg (rf _ rfl)]
      all_goals cases one
      all_goals first | rw [if_pos rfl] | rw [if_neg Bool.false_ne_true]
      all_goals first | refine wpAny_bind (wpAny_pure ?_) | refine wpAny_bind (tellsKy hv hst ?_)
      all_goals (
        rw [if_neg (by simp)]
        refine wpAny_bind (wpAny_forIn_list _ (fun more b t => t = s ∧ ∃ hit, b = (none, hit) ∧ ∃ pre, pre ++ more = P ∧ ((hit = none ∧ ∀ i ∈ pre, ks[i]? ≠ some k) ∨ ∃ j ∈ pre, hit = some j ∧ ks[j]? = some k)) _ ?_ ?_ _ _ ⟨rfl, none, rfl, [], rfl, .inl ⟨rfl, by simp⟩⟩)
        · rintro i more b t ⟨rfl, hit, rfl, pre, hp, g⟩
          obtain ⟨il, ih⟩ := (memP i).mp (by rw [← hp]; simp)
          obtain ⟨x, x1, x2, x3⟩ := atE (Array.getElem?_eq_getElem il)
          have hp2 : (pre ++ [i]) ++ more = P := by rw [← hp]; simp
          have next : ks[i]? ≠ some k → ((hit = none ∧ ∀ q ∈ pre ++ [i], ks[q]? ≠ some k) ∨ ∃ j ∈ pre ++ [i], hit = some j ∧ ks[j]? = some k) := fun ne => by
            rcases g with ⟨g1, g2⟩ | ⟨j, g1, g2, g3⟩
            · refine .inl ⟨g1, fun j hj => ?_⟩
              rcases List.mem_append.mp hj with z | z
              · exact g2 j z
              · rw [List.mem_singleton] at z; subst z; exact ne
            · exact .inr ⟨j, by simp [g1], g2, g3⟩
          simp only [Array.getElem?_eq_getElem il]
          by_cases c : (es[i].hash == k.hash w) = true
          · rw [if_pos c]
            refine wpAny_bind (wpAny_dictEpoch ho hd (wpAny_bind (eqKy hu x2 hv (wpAny_bind (wpAny_dictEpoch ho hd ?_)))))
            rw [if_neg (by simp)]
            by_cases ck : x = k
            · rw [decide_eq_true ck, if_pos rfl]
              rcases g with ⟨g1, g2⟩ | ⟨j, g1, g2, g3⟩
              · subst g1
                rw [if_neg (by simp)]
                refine wpAny_bind (wpAny_rule ?_)
                split
                · exact wpAny_pure (wpAny_pure (yes i (by rw [x1, ck])))
                · exact wpAny_pure ⟨rfl, some i, rfl, _, hp2, .inr ⟨i, by simp, rfl, by rw [x1, ck]⟩⟩
              · have e : j = i := nodup_at hn g3 (by rw [x1, ck])
                rw [← hp] at ndP
                have := (List.nodup_append.mp ndP).2.2 j g1 i (by simp)
                exact absurd e this
            · rw [decide_eq_false ck, if_neg (by simp)]
              refine wpAny_bind (wpAny_rule ?_)
              rw [if_neg (by simp)]
              exact wpAny_pure ⟨rfl, hit, rfl, _, hp2, next (by rw [x1]; exact fun z => ck (Option.some.inj z))⟩
          · rw [if_neg c]
            refine wpAny_pure ⟨rfl, hit, rfl, _, hp2, next fun z => c ?_⟩
            rw [x1] at z; cases z
            rw [x3]; simp
        · rintro b t ⟨rfl, hit, rfl, pre, hp, g⟩
          rw [List.append_nil] at hp; subst hp
          rcases g with ⟨rfl, g⟩ | ⟨j, _, rfl, g⟩
          · exact wpAny_pure (fin g)
          · exact wpAny_pure (yes j g))
  by_cases cs : ∃ x t, v = .str x t ∧ (es.all fun e => isExactStrKey e.key) = true
  · obtain ⟨x, t, rfl, cs⟩ := cs
    unfold dictFind
    try with_reducible refine wpAny_holding ?_
    refine wpAny_bind (wpAny_dictEntries ho hd ?_)
    dsimp only
    rw [if_pos cs]
    have kx : k = .text x := NestedIs.inj _ _ _ hv.1 (.text x t)
    have same : ∀ {i : Nat} {e : DictEntry}, es[i]? = some e → (e.key.isStr x = true ↔ ks[i]? = some k) := fun {i e} q => by
      obtain ⟨y, y1, y2, _⟩ := atE q
      have m : isExactStrKey e.key = true := by
        rw [← Array.all_toList, List.all_eq_true] at cs
        exact cs e (List.mem_of_getElem? (by rw [Array.getElem?_toList]; exact q))
      rw [y1]
      cases ek : e.key with
      | str z u =>
        rw [ek] at y2
        have ey : y = .text z := NestedIs.inj _ _ _ y2.1 (.text z u)
        rw [ey, kx]
        simp [Value.isStr]
      | _ => rw [ek] at m; cases m
    unfold foundByValue
    cases hf : es.findIdx? (·.key.isStr x) with
    | none =>
      refine wpAny_pure (no fun j q => ?_)
      obtain ⟨e, q1, _⟩ := hk.get' q
      rw [Array.getElem?_toList] at q1
      have := Array.findIdx?_eq_none_iff.mp hf e (Array.mem_of_getElem? q1)
      rw [(same q1).mpr q] at this
      cases this
    | some i =>
      obtain ⟨il, i1, _⟩ := Array.findIdx?_eq_some_iff_getElem.mp hf
      have iq := (same (Array.getElem?_eq_getElem il)).mp i1
      obtain ⟨y, y1, y2, _⟩ := atE (Array.getElem?_eq_getElem il)
      rw [iq] at y1; cases y1
      simp only [Array.getElem?_eq_getElem il]
      refine wpAny_bind (wpAny_dictEpoch ho hd (wpAny_bind (eqKy hu y2 hv (wpAny_bind (wpAny_dictEpoch ho hd ?_)))))
      rw [if_neg (by simp), decide_eq_true rfl]
      exact wpAny_bind (wpAny_rule (wpAny_pure (yes i iq)))
  · exact rest cs
end
end Gd
/-! What such dicts do: look-up, store, dict(pairs). -/
namespace Gd
open PySem

/-- the entries with their keys -/
abbrev Acc := List (NestedKey × DictEntry)
def putG (w : World) (acc : Acc) (k : NestedKey) (u x : Value) : Acc :=
  if acc.any (fun p => decide (p.1 = k)) then acc.map (fun p => if p.1 = k then (p.1, { p.2 with val := x }) else p) else acc ++ [(k, ⟨k.hash w, u, x⟩)]
def lookG (acc : Acc) (k : NestedKey) : Option Value := match acc with
  | [] => none
  | p :: r => if p.1 = k then some p.2.val else lookG r k
def RawD (h : Heap) (d : Addr) (es : List DictEntry) (ep : Nat) : Prop := ∃ o, h.get? d = some o ∧ o.ExactDict ∧ o.data = .dict es.toArray ep
/-- hashes as they are, no key twice -/
def Okay (w : World) (acc : Acc) : Prop := (∀ p ∈ acc, p.2.hash = p.1.hash w) ∧ (acc.map (·.1)).Nodup
/-- the keys stand in the heap -/
def Stand (h : Heap) (acc : Acc) : Prop := ∀ p ∈ acc, Ky h p.1 p.2.key
section
variable {w : World} {h h' : Heap} {acc : Acc} {k : NestedKey} {u x : Value}
theorem Okay.kys (a : Okay w acc) (b : Stand h acc) : Kys w h (acc.map (·.1)) (acc.map (·.2)) := by
  obtain ⟨a, nd⟩ := a
  clear nd
  induction acc with
  | nil => exact .nil
  | cons p r ih => exact .cons (b p (by simp)) (a p (by simp)) (ih (fun q hq => b q (by simp [hq])) fun q hq => a q (by simp [hq]))
theorem keys_map {f : NestedKey × DictEntry → NestedKey × DictEntry} (hf : ∀ p, (f p).1 = p.1) : (acc.map f).map (·.1) = acc.map (·.1) := by
  rw [List.map_map]
  exact List.map_congr_left fun p _ => hf p
theorem rep_fst (p : NestedKey × DictEntry) : (if p.1 = k then (p.1, { p.2 with val := x }) else p : NestedKey × DictEntry).1 = p.1 := by split <;> rfl
theorem any_iff : (acc.any fun p => decide (p.1 = k)) = true ↔ k ∈ acc.map (·.1) := by
  rw [List.any_eq_true]
  constructor
  · rintro ⟨p, hp, e⟩
    exact List.mem_map.mpr ⟨p, hp, of_decide_eq_true e⟩
  · intro hm
    obtain ⟨p, hp, e⟩ := List.mem_map.mp hm
    exact ⟨p, hp, decide_eq_true e⟩
theorem Okay.put (a : Okay w acc) : Okay w (putG w acc k u x) := by
  unfold putG
  split
  · refine ⟨fun p hp => ?_, by rw [keys_map rep_fst]; exact a.2⟩
    obtain ⟨q, hq, rfl⟩ := List.mem_map.mp hp
    split
    · exact a.1 q hq
    · exact a.1 q hq
  · rename_i c
    refine ⟨fun p hp => ?_, ?_⟩
    · rcases List.mem_append.mp hp with z | z
      · exact a.1 p z
      · rw [List.mem_singleton] at z; subst z; rfl
    · rw [List.map_append, List.nodup_append]
      refine ⟨a.2, by simp, ?_⟩
      intro y hy z hz e
      simp only [List.map_cons, List.map_nil, List.mem_singleton] at hz
      subst hz e
      exact c (any_iff.mpr hy)
theorem Stand.put (b : Stand h acc) (c : Ky h k u) : Stand h (putG w acc k u x) := by
  unfold putG
  split
  · intro p hp
    obtain ⟨q, hq, rfl⟩ := List.mem_map.mp hp
    split
    · exact b q hq
    · exact b q hq
  · intro p hp
    rcases List.mem_append.mp hp with z | z
    · exact b p z
    · rw [List.mem_singleton] at z; subst z; exact c
theorem Stand.keep (b : Stand h acc) (st : ∀ k v, Ky h k v → Ky h' k v) : Stand h' acc := fun p hp => st _ _ (b p hp)
theorem put_len : (putG w acc k u x).length ≤ acc.length + 1 := by
  unfold putG
  split <;> simp
theorem Ky.at (hk : ∀ a o vs n, h.get? a = some o → o.data = .seq vs n → h'.get? a = some o) (a : Ky h k u) : Ky h' k u := ⟨NestedIs.at hk _ _ a.1, a.2⟩
theorem Ky.but {d : Addr} {o : Obj} {es ep} (ho : h.get? d = some o) (hd : o.data = .dict es ep) (hs : Heap.SameBut d h h') (a : Ky h k u) : Ky h' k u := a.at fun b ob vs n e q => by
  refine (hs.2 b fun z => ?_).trans e
  subst z
  rw [ho] at e; cases e
  rw [hd] at q; cases q
theorem look_none (hn : ∀ j : Nat, (acc.map (·.1))[j]? ≠ some k) : lookG acc k = none ∧ (acc.any fun p => decide (p.1 = k)) = false := by
  have hm : k ∉ acc.map (·.1) := fun hm => by
    obtain ⟨j, hj⟩ := List.mem_iff_getElem?.mp hm
    exact hn j hj
  refine ⟨?_, ?_⟩
  · clear hn
    induction acc with
    | nil => rfl
    | cons p r ih =>
      simp only [List.map_cons, List.mem_cons, not_or] at hm
      unfold lookG
      rw [if_neg fun e => hm.1 e.symm]
      exact ih hm.2
  · cases c : acc.any fun p => decide (p.1 = k) with
    | false => rfl
    | true => exact absurd (any_iff.mp c) hm
theorem look_some {j : Nat} (hn : (acc.map (·.1)).Nodup) (hj : (acc.map (·.1))[j]? = some k) : ∃ e, acc[j]? = some (k, e) ∧ lookG acc k = some e.val ∧ (acc.any fun p => decide (p.1 = k)) = true ∧
    (acc.map (·.2)).modify j (fun e => { e with val := x }) = (acc.map (fun p => if p.1 = k then (p.1, { p.2 with val := x }) else p)).map (·.2) := by
  have ha := any_iff.mpr (List.mem_of_getElem? hj)
  rw [List.getElem?_map] at hj
  obtain ⟨⟨k', e⟩, q, rfl⟩ := Option.map_eq_some_iff.mp hj
  refine ⟨e, q, ?_, ha, ?_⟩
  · clear hj ha
    induction acc generalizing j with
    | nil => simp at q
    | cons p r ih =>
      rw [List.map_cons, List.nodup_cons] at hn
      cases j with
      | zero => simp at q; subst q; unfold lookG; rw [if_pos rfl]
      | succ j =>
        have q' : r[j]? = some (k', e) := by simpa using q
        unfold lookG
        rw [if_neg fun z => hn.1 (by rw [z]; exact List.mem_map.mpr ⟨_, List.mem_of_getElem? q', rfl⟩)]
        exact ih hn.2 q'
  · clear hj ha
    induction acc generalizing j with
    | nil => simp at q
    | cons p r ih =>
      rw [List.map_cons, List.nodup_cons] at hn
      cases j with
      | zero =>
        simp at q; subst q
        have : r.map (fun p => if p.1 = k' then (p.1, { p.2 with val := x }) else p) = r := by
          refine (List.map_congr_left fun p hp => ?_).trans (List.map_id r)
          rw [if_neg fun z => hn.1 (by rw [← z]; exact List.mem_map.mpr ⟨p, hp, rfl⟩)]
          rfl
        simp [this]
      | succ j =>
        have q' : r[j]? = some (k', e) := by simpa using q
        have ne : p.1 ≠ k' := fun z => hn.1 (by rw [z]; exact List.mem_map.mpr ⟨_, List.mem_of_getElem? q', rfl⟩)
        simp only [List.map_cons, List.modify_succ_cons]
        rw [ih hn.2 q', if_neg ne]
end
section
variable {prog : Program} {w : World} {A : Around} {E : Value → Shared → Prop} {s : Shared} {acc : Acc} {d : Addr} {k : NestedKey} {u x : Value} {ep : Nat}
theorem hashKy {Q : Int → Shared → Prop} (hu : A.units + 8 < cLine) (a : Ky s.heap k u) (q : Q (k.hash w) { s with toks := s.toks + k.draws }) : wpAny (model prog w) A (pyHash u) Q E s := by
  have := a.2
  exact pyHash_key k u A s Q a.1 (by omega) q
theorem getKy {Q : Option Value → Shared → Prop} (hu : A.units + 8 < cLine) (hv : Ky s.heap k u) (rd : RawD s.heap d (acc.map (·.2)) ep) (ok : Okay w acc) (st : Stand s.heap acc) (q : Q (lookG acc k) { s with toks := s.toks + k.draws }) : wpAny (model prog w) A (dictGet d u) Q E s := by
  obtain ⟨o, ho, hc, hd⟩ := rd
  unfold dictGet
  try with_reducible refine wpAny_holding ?_
  refine wpAny_bind (hashKy hu hv (wpAny_bind (findKy (s := { s with toks := s.toks + k.draws }) hu hv ho hd (ok.kys st) ok.2 (fun hn => ?_) fun j hj => ?_)))
  · rw [(look_none hn).1] at q
    exact wpAny_pure q
  · obtain ⟨e, e1, e2, _⟩ := look_some (x := u) ok.2 hj
    rw [e2] at q
    refine wpAny_bind (wpAny_dictEntries (s := { s with toks := s.toks + k.draws }) ho hd ?_)
    have : (acc.map (·.2)).toArray[j]? = some e := by simp [e1]
    rw [this]
    exact wpAny_pure q
theorem setKy {Q : Unit → Shared → Prop} (hu : A.units + 8 < cLine) (hv : Ky s.heap k u) (rd : RawD s.heap d (acc.map (·.2)) ep) (ok : Okay w acc) (st : Stand s.heap acc) (hz : acc.length ≤ sizeLine)
    (q : ∀ h' ep', RawD h' d ((putG w acc k u x).map (·.2)) ep' → Stand h' (putG w acc k u x) → Heap.SameBut d s.heap h' → Q () { s with heap := h', toks := s.toks + k.draws }) : wpAny (model prog w) A (dictSet d u x) Q E s := by
  obtain ⟨o, ho, hc, hd⟩ := rd
  unfold dictSet
  try with_reducible refine wpAny_holding ?_
  refine wpAny_bind (hashKy hu hv ?_)
  unfold dictSetHashed
  try with_reducible refine wpAny_holding ?_
  refine wpAny_bind (findKy (s := { s with toks := s.toks + k.draws }) hu hv ho hd (ok.kys st) ok.2 (fun hn => ?_) fun j hj => ?_)
  · have e : putG w acc k u x = acc ++ [(k, ⟨k.hash w, u, x⟩)] := by unfold putG; rw [if_neg (by rw [(look_none hn).2]; simp)]
    refine wpAny_bind (wpAny_rule (wpAny_updateDictKeys (hz := by simpa using hz) (s := { s with toks := s.toks + k.draws }) ho hd (q _ (ep + 1) ⟨_, Heap.get?_update_self _ ho (Obj.isFreed_of_dict (Obj.data_mapDictKeys hd _)), hc.mapDictKeys _, ?_⟩ ((st.put hv).keep fun a v z => z.but ho hd (Heap.SameBut.update ..)) (Heap.SameBut.update ..))))
    rw [Obj.data_mapDictKeys hd, e]
    simp
  · obtain ⟨en, e1, e2, e3, e4⟩ := look_some (x := x) ok.2 hj
    have e : putG w acc k u x = acc.map (fun p => if p.1 = k then (p.1, { p.2 with val := x }) else p) := by unfold putG; rw [if_pos e3]
    refine wpAny_bind (wpAny_rule (wpAny_bind (wpAny_updateDict (s := { s with toks := s.toks + k.draws }) ho hd (wpAny_point (q _ ep ⟨_, Heap.get?_update_self _ ho (Obj.isFreed_of_dict (Obj.data_mapDict hd _)), hc.mapDict _, ?_⟩ ((st.put hv).keep fun a v z => z.but ho hd (Heap.SameBut.update ..)) (Heap.SameBut.update ..))))))
    rw [Obj.data_mapDict hd, e, ← e4]
    simp
theorem RawD.typeIs {es : List DictEntry} (rd : RawD s.heap d es ep) : s.TypeIs (.ref d) "dict" := let ⟨o, ho, hc, _⟩ := rd; ⟨o, ho, hc.1⟩
theorem RawD.raw {h : Heap} {es : List DictEntry} (rd : RawD h d es ep) : h.DictRaw d es.toArray ep := rd
/-- u in d -/
theorem inKy {Q : Bool → Shared → Prop} (hu : A.in1.units + 8 < cLine) (hs : (d == sysModules) = false) (hv : Ky s.heap k u) (rd : RawD s.heap d (acc.map (·.2)) ep) (ok : Okay w acc) (st : Stand s.heap acc)
    (q : Q (lookG acc k).isSome { s with toks := s.toks + k.draws }) : wpAny (model prog w) A (contains (.ref d) u) Q E s := by
  refine wpAny_contains_slot rd.typeIs F.slot_dict_contains ?_
  refine call_meetsIn F.slot_dict_contains rd.typeIs F.entry_dict_contains (F.args_dict_contains_2 _ _) (S := fun B R t => B = A ∧ t = s ∧ R (.ok (.ret (.bool (lookG acc k).isSome))) { s with toks := s.toks + k.draws }) (fun B R t hS => ?_) ⟨rfl, rfl, wpAny_truthy_bool q⟩
  obtain ⟨rfl, rfl, hq⟩ := hS
  show wpAny _ _ (dictGet d u >>= _) _ _ _
  refine wpAny_bind (getKy hu hv rd ok st ?_)
  cases c : lookG acc k with
  | some p => rw [c] at hq; exact wpAny_pure hq
  | none =>
    rw [c] at hq
    show wpAny _ _ (Builtin.Dict.pendingKey? d u >>= _) _ _ _
    exact wpAny_bind (wpAny_pendingKey_other hs (wpAny_pure hq))
/-- d[u] -/
theorem itemKy {v : Value} {Q : Value → Shared → Prop} (hu : A.in1.units + 8 < cLine) (hv : Ky s.heap k u) (rd : RawD s.heap d (acc.map (·.2)) ep) (ok : Okay w acc) (st : Stand s.heap acc) (hl : lookG acc k = some v)
    (q : Q v { s with toks := s.toks + k.draws }) : wpAny (model prog w) A (getItem (.ref d) u) Q E s := by
  unfold getItem
  try with_reducible refine wpAny_holding ?_
  refine wpAny_bind (wpAny_sequenceKey rd.typeIs (by decide) ?_)
  refine wpAny_bind (wpAny_callSpecial?_slot (name := Str.ofString "__getitem__") rd.typeIs F.slot_dict_getitem (wpAny_call_entry F.slot_dict_getitem rd.typeIs F.entry_dict_getitem ?_ (F.args_dict_getitem_2 _ _)))
  show wpAny _ _ (dictGet d u >>= _) _ _ s
  refine wpAny_bind (getKy hu hv rd ok st ?_)
  rw [hl]
  exact wpAny_pure ⟨v, rfl, wpAny_pure q⟩
/-- d[u] = x -/
theorem storeKy {Q : Unit → Shared → Prop} (hu : A.in1.units + 8 < cLine) (hv : Ky s.heap k u) (rd : RawD s.heap d (acc.map (·.2)) ep) (ok : Okay w acc) (st : Stand s.heap acc) (hz : acc.length ≤ sizeLine)
    (q : ∀ h' ep', RawD h' d ((putG w acc k u x).map (·.2)) ep' → Heap.SameBut d s.heap h' → Q () { s with heap := h', toks := s.toks + k.draws }) : wpAny (model prog w) A (setItem (.ref d) u x) Q E s := by
  unfold setItem
  try with_reducible refine wpAny_holding ?_
  refine wpAny_bind (wpAny_sequenceKey rd.typeIs (by decide) ?_)
  refine wpAny_bind (wpAny_callSpecial?_slot (name := Str.ofString "__setitem__") rd.typeIs F.slot_dict_setitem (wpAny_call_entry F.slot_dict_setitem rd.typeIs F.entry_dict_setitem ?_ (F.args_dict_setitem_3 _ _ _)))
  show wpAny _ _ (Builtin.Dict.notOrdered "__setitem__" ⟨[.ref d, u, x], []⟩ >>= _) _ _ s
  refine wpAny_bind (wpAny_notOrdered_dict rd.typeIs ?_)
  show wpAny _ _ (dictSet d u x >>= _) _ _ s
  exact wpAny_bind (setKy hu hv rd ok st hz fun h' ep' a _ c => wpAny_pure ⟨.none, rfl, wpAny_pure (q h' ep' a c)⟩)
/-- d.get(u, v) -/
theorem getorKy {v : Value} {Q : Value → Shared → Prop} (hu : A.in1.units + 8 < cLine) (hs : (d == sysModules) = false) (hv : Ky s.heap k u) (rd : RawD s.heap d (acc.map (·.2)) ep) (ok : Okay w acc) (st : Stand s.heap acc)
    (q : Q ((lookG acc k).getD v) { s with toks := s.toks + k.draws }) : wpAny (model prog w) A (call (.builtin "dict.get") [.ref d, u, v]) Q E s := by
  refine call_meetsIn F.slot_dict_get rd.typeIs F.entry_dict_get (F.args_dict_get_3 _ _ _) (S := fun B R t => B = A ∧ t = s ∧ R (.ok (.ret ((lookG acc k).getD v))) { s with toks := s.toks + k.draws }) (.of_wp fun B R t hS => ?_) ⟨rfl, rfl, q⟩
  obtain ⟨rfl, rfl, hq⟩ := hS
  show wpAny _ _ (dictGet d u >>= _) _ _ _
  refine wpAny_bind (getKy hu hv rd ok st ?_)
  cases c : lookG acc k with
  | some p => rw [c] at hq; exact wpAny_pure ⟨p, rfl, hq⟩
  | none =>
    rw [c] at hq
    show wpAny _ _ (Builtin.Dict.missed d u >>= _) _ _ _
    exact wpAny_bind (wpAny_missed_other hs (wpAny_pure ⟨v, rfl, hq⟩))
theorem get1Ky {Q : Value → Shared → Prop} (hu : A.in1.units + 8 < cLine) (hs : (d == sysModules) = false) (hv : Ky s.heap k u) (rd : RawD s.heap d (acc.map (·.2)) ep) (ok : Okay w acc) (st : Stand s.heap acc)
    (q : Q ((lookG acc k).getD .none) { s with toks := s.toks + k.draws }) : wpAny (model prog w) A (call (.builtin "dict.get") [.ref d, u]) Q E s := by
  refine call_meetsIn F.slot_dict_get rd.typeIs F.entry_dict_get (F.args_dict_get_2 _ _) (S := fun B R t => B = A ∧ t = s ∧ R (.ok (.ret ((lookG acc k).getD .none))) { s with toks := s.toks + k.draws }) (.of_wp fun B R t hS => ?_) ⟨rfl, rfl, q⟩
  obtain ⟨rfl, rfl, hq⟩ := hS
  show wpAny _ _ (dictGet d u >>= _) _ _ _
  refine wpAny_bind (getKy hu hv rd ok st ?_)
  cases c : lookG acc k with
  | some p => rw [c] at hq; exact wpAny_pure ⟨p, rfl, hq⟩
  | none =>
    rw [c] at hq
    show wpAny _ _ (Builtin.Dict.missed d u >>= _) _ _ _
    exact wpAny_bind (wpAny_missed_other hs (wpAny_pure ⟨.none, rfl, hq⟩))
end
end Gd
/-! dict(pairs), len, list(d); the object as the hand layer tracks it. -/
namespace Gd
open PySem
def mergeG (w : World) (acc : Acc) (ts : List (NestedKey × Value × Value)) : Acc := ts.foldl (fun acc t => putG w acc t.1 t.2.1 t.2.2) acc
theorem merge_take {w : World} {acc : Acc} {ts : List (NestedKey × Value × Value)} {i : Nat} {t : NestedKey × Value × Value} (h : ts[i]? = some t) : mergeG w acc (ts.take (i + 1)) = putG w (mergeG w acc (ts.take i)) t.1 t.2.1 t.2.2 := by
  unfold mergeG
  rw [List.take_add_one, h]
  simp [List.foldl_append]
theorem merge_ok {w : World} : ∀ {ts : List (NestedKey × Value × Value)} {acc : Acc}, Okay w acc → Okay w (mergeG w acc ts)
  | [], _, a => a
  | t :: ts, _, a => merge_ok (ts := ts) (Okay.put a)
theorem merge_len {w : World} : ∀ {ts : List (NestedKey × Value × Value)} {acc : Acc}, (mergeG w acc ts).length ≤ acc.length + ts.length
  | [], _ => Nat.le_refl _
  | t :: ts, acc => by
    have h := merge_len (w := w) (ts := ts) (acc := putG w acc t.1 t.2.1 t.2.2)
    have := put_len (w := w) (acc := acc) (k := t.1) (u := t.2.1) (x := t.2.2)
    show (mergeG w (putG w acc t.1 t.2.1 t.2.2) ts).length ≤ _
    rw [List.length_cons]
    omega
theorem merge_stand {w : World} {h : Heap} : ∀ {ts : List (NestedKey × Value × Value)} {acc : Acc}, Stand h acc → (∀ t ∈ ts, Ky h t.1 t.2.1) → Stand h (mergeG w acc ts)
  | [], _, a, _ => a
  | t :: ts, _, a, b => merge_stand (ts := ts) (a.put (b t (by simp))) fun q hq => b q (by simp [hq])
section
variable {prog : Program} {w : World} {A : Around} {E : Value → Shared → Prop} {s : Shared}
theorem dictKy {l : Addr} {items : Array Value} {Ts : Nat → Addr} {ts : List (NestedKey × Value × Value)} {Q : Value → Shared → Prop} (hh : A.handled = none) (hu : A.in1.in1.units + 8 < cLine)
    (hl : PlainSeq "list" s.heap l items) (hp : PairItems s.heap items Ts (ts.map (·.2))) (hk : ∀ t ∈ ts, Ky s.heap t.1 t.2.1) (hz : ts.length ≤ sizeLine)
    (q : ∀ h' tk ep, RawD h' s.heap.objs.size ((mergeG w [] ts).map (·.2)) ep → (∀ b o, s.heap.get? b = some o → h'.get? b = some o) → Q (.ref s.heap.objs.size) { s with heap := h', toks := tk }) :
    wpAny (model prog w) A (call (.type "dict") [.ref l]) Q E s := by
  have P := PairArg.list (prog := prog) (w := w) l items Ts (ts.map (·.2))
  refine call_dict_arg P ⟨hl, hp⟩ fun s1 e1 hdf ok1 => ?_
  subst e1
  have kept : ∀ b o, s.heap.get? b = some o → b ≠ s.heap.objs.size := fun b o e => Nat.ne_of_lt (Heap.lt_size e)
  have stay : ∀ h1 : Heap, (∀ b o, s.heap.get? b = some o → h1.get? b = some o) → ∀ i, Stand h1 (mergeG w [] (ts.take i)) := fun h1 k i =>
    merge_stand (fun p hp => by cases hp) fun t ht => (hk t (List.mem_of_mem_take ht)).at fun a o vs n e _ => k a o e
  refine updateFrom_arg (A := A.in1) (Tab := fun i h => (∃ ep, RawD h s.heap.objs.size ((mergeG w [] (ts.take i)).map (·.2)) ep) ∧ ∀ b o, s.heap.get? b = some o → h.get? b = some o) P .none hh ok1 hdf
    ⟨⟨0, _, Heap.get?_push_size _ rfl, ⟨rfl, rfl, rfl⟩, rfl⟩, fun b o e => Heap.get?_push_of_some _ e⟩ (fun i h tb => let ⟨_, o, ho, _⟩ := tb.1; Heap.lt_size ho) (fun i h h' wr hd hw tb hk' => ?_) (fun i k v s' Q' E' hi hr tb _ hq => ?_) (fun h' tk tb hk' => ?_)
  · obtain ⟨⟨ep, o, ho, r⟩, kp⟩ := tb
    refine ⟨⟨ep, o, hk' _ _ hd ho, r⟩, fun b ob e => hk' b ob (fun hm => ?_) (kp b ob e)⟩
    rcases hw b hm with z | z
    · cases z
    · have z : (s.heap.push { cls := .type "dict", data := .dict #[] }).get? b = none := z
      rw [Heap.get?_push_of_some _ e] at z; cases z
  · have hr : (ts.map (·.2))[i]? = some (k, v) := hr
    rw [List.getElem?_map] at hr
    obtain ⟨t, ht, e⟩ := Option.map_eq_some_iff.mp hr
    obtain ⟨t0, t1, t2⟩ := t
    cases e
    have kk : Ky s'.heap t0 k := (hk _ (List.mem_of_getElem? ht)).at fun a o vs n e _ => tb.2 a o e
    obtain ⟨⟨ep, tb1⟩, tb2⟩ := tb
    refine setKy (x := v) hu kk tb1 (merge_ok ⟨fun p hp => (by cases hp), List.nodup_nil⟩) (stay _ tb2 i) ?_ fun h' ep' r1 _ r2 => hq h' _ ⟨⟨ep', ?_⟩, fun b o e => r2.extBut b o (kept b o e) (tb2 b o e)⟩ r2
    · have := merge_len (w := w) (ts := ts.take i) (acc := [])
      rw [List.length_take] at this
      simp only [List.length_nil] at this
      omega
    · rw [merge_take ht]; exact r1
  · have e : ts.take (ts.map (·.2)).length = ts := by simp
    rw [e] at tb
    obtain ⟨⟨ep, tb1⟩, tb2⟩ := tb
    exact ⟨rfl, q h' tk ep tb1 tb2⟩
theorem lenKy {d : Addr} {es : List DictEntry} {ep : Nat} {Q : Value → Shared → Prop} (hs : (d == sysModules) = false) (rd : RawD s.heap d es ep) (hz : es.length ≤ sizeLine) (q : ∀ t tk, Q (.int es.length t) { s with toks := tk }) : wpAny (model prog w) A (call (.builtin "len") [.ref d]) Q E s := by
  have r := rd.raw
  refine PyProof.Rows.call_len_slot (n := es.length) rd.typeIs F.slot_dict_len (fun Q' hq => call_len_raw hs r ?_) (by omega) (by rw [sizeLine_eq] at hz; omega) ?_
  · simp only [List.size_toArray]; exact hq
  · exact q _ _
theorem listKy {d : Addr} {es : List DictEntry} {ep : Nat} {Q : Value → Shared → Prop} (hh : A.handled = none) (hs : (d == sysModules) = false) (rd : RawD s.heap d es ep) (hz : es.length ≤ sizeLine)
    (q : ∀ h' tk n, (∀ b o, s.heap.get? b = some o → h'.get? b = some o) → h'.get? s.heap.objs.size = some { cls := .type "list", data := .seq (es.map (·.key)).toArray n } → Q (.ref s.heap.objs.size) { s with heap := h', toks := tk }) :
    wpAny (model prog w) A (call (.type "list") [.ref d]) Q E s := by
  refine W.kdl_call (KdlSrc.rawDict (es := es.toArray) (ep := ep) hs) hh rd.raw (by simpa using hz) fun h' tk acc' c' hk hl hi => q h' tk c' hk ?_
  have e : acc' = (es.map (·.key)).toArray := by
    obtain ⟨h1, h2⟩ := hi
    apply Array.ext
    · simpa using h1
    · intro i i1 i2
      obtain ⟨hi, e⟩ := h2 i _ (Array.getElem?_eq_getElem i1)
      rw [e]
      simp
  rw [← e]
  exact hl
end
end Gd
/-! The rules of the hand layer for such dicts. -/
namespace Gd
open PySem PySem.Spec PyProof.Rows L2
/-- a dict with these entries, at its epoch -/
def gdO (w : World) (a : Addr) (acc : Acc) (ep : Nat) : HO := .ext fun h => RawD h a (acc.map (·.2)) ep ∧ Okay w acc ∧ acc.length ≤ sizeLine ∧ (a == sysModules) = false
mutual
/-- the value is the key, as the hand layer tracks it -/
inductive KyV (K : PySem.W.Frag) (H : Hp) : V → NestedKey → Prop
  | non : KyV K H .non .none
  | bl (b : Bool) : KyV K H (.bl b) (.num (if b = true then 1 else 0))
  | int (i : Int) : KyV K H (.int i) (.num i)
  | str (x : Str) : KyV K H (.str x) (.text x)
  | tup {a : Addr} {xs : List V} {ks : List NestedKey} : SqT K H a xs → KyVs K H xs ks → KyV K H (.ref a) (.tup ks)
inductive KyVs (K : PySem.W.Frag) (H : Hp) : List V → List NestedKey → Prop
  | nil : KyVs K H [] []
  | cons {x : V} {k : NestedKey} {xs : List V} {ks : List NestedKey} : KyV K H x k → KyVs K H xs ks → KyVs K H (x :: xs) (k :: ks)
end
section
variable {X : Cx} {pins : List (Addr × Obj)} {σ : L2.St} {H : Hp} {s : Shared} {a : Addr} {acc : Acc} {ep : Nat} {k : NestedKey} {y v : V} {u r : Value}
mutual
theorem KyV.at (I : Inv X pins σ H s) : ∀ {k : NestedKey} {y : V} {u : Value}, KyV X.K H y k → RelV y u → NestedIs s.heap k u
  | _, _, _, .non, r => by cases r; exact .none
  | _, _, _, .bl b, r => by cases r; exact .bool rfl
  | _, _, _, .int i, r => by obtain ⟨t, rfl⟩ := r; exact .int i t
  | _, _, _, .str x, r => by obtain ⟨t, rfl⟩ := r; exact .text x t
  | _, _, _, .tup h1 h2, r => by
    cases r
    obtain ⟨its, rv, ⟨o, ho, hc, n, hd⟩, _⟩ := I.tuple h1
    exact .tup ho hc hd (KyVs.at I h2 rv)
theorem KyVs.at (I : Inv X pins σ H s) : ∀ {ks : List NestedKey} {ys : List V} {us : List Value}, KyVs X.K H ys ks → Vals ys us → NestedAll s.heap ks us
  | _, _, _, .nil, r => by cases r; exact .nil
  | _, _, _, .cons h1 h2, r => by
    cases r with
    | cons r1 r2 => exact .cons (KyV.at I h1 r1) (KyVs.at I h2 r2)
end
def KyD (K : PySem.W.Frag) (H : Hp) (y : V) (k : NestedKey) : Prop := KyV K H y k ∧ k.depth ≤ 8
theorem KyD.ky (I : Inv X pins σ H s) (h : KyD X.K H y k) (r : RelV y u) : Ky s.heap k u := ⟨h.1.at I r, h.2⟩
/-- the dict stands at a, its keys with it -/
def GHas (K : PySem.W.Frag) (w : World) (H : Hp) (a : Addr) (acc : Acc) : Prop := (∃ ep, H a = some (gdO w a acc ep)) ∧ ∀ p ∈ acc, ∃ y, RelV y p.2.key ∧ KyD K H y p.1
theorem gd_at (I : Inv X pins σ H s) (h : H a = some (gdO X.w a acc ep)) : RawD s.heap a (acc.map (·.2)) ep ∧ Okay X.w acc ∧ acc.length ≤ sizeLine ∧ (a == sysModules) = false := (I.hok a _ h).1
theorem GHas.stand (I : Inv X pins σ H s) (h : GHas X.K X.w H a acc) : Stand s.heap acc := fun p hp => by
  obtain ⟨y, r, q⟩ := h.2 p hp
  exact q.ky I r
theorem gd_ok {P : Program} {w : World} {H : Hp} {h : Heap} (r : RawD h a (acc.map (·.2)) ep) (o : Okay w acc) (z : acc.length ≤ sizeLine) (n : (a == sysModules) = false) : ObjOk P w H h a (gdO w a acc ep) := by
  refine ⟨⟨r, o, z, n⟩, let ⟨o, ho, _⟩ := r; ⟨o, ho⟩, fun h1 h2 ⟨r1, r2⟩ k => ⟨?_, r2⟩⟩
  obtain ⟨o, ho, q⟩ := r1
  exact ⟨o, k o ho, q⟩
theorem gd_noDict (I : Inv X pins σ H s) (h : H a = some (gdO X.w a acc ep)) : ∀ b, Value.ref a = .ref b → ∃ ob, s.heap.get? b = some ob ∧ ob.dict = none := fun b q => by
  cases q
  obtain ⟨⟨o, ho, hc, _⟩, _⟩ := gd_at I h
  exact ⟨o, ho, hc.2.1⟩
variable {A : Around} {E : Value → Shared → Prop}
theorem g_in {Q : Value → Shared → Prop} (hu : A.units + 9 < cLine) (I : Inv X pins σ H s) (g : GHas X.K X.w H a acc) (hk : KyD X.K H y k) (r : RelV y u) (h : ∀ s', Inv X pins σ H s' → Q (.bool (lookG acc k).isSome) s') :
    wpAny (model X.prog X.w) A (compareOp .In u (.ref a)) Q E s := by
  obtain ⟨ep, ha⟩ := g.1
  obtain ⟨g1, g2, g3, g4⟩ := gd_at I ha
  show wpAny _ _ (do return .bool (← contains (.ref a) u)) Q E s
  exact wpAny_bind (inKy (by show A.units + 1 + 8 < cLine; omega) g4 (hk.ky I r) g1 g2 (g.stand I) (wpAny_pure (h _ (I.tok _))))
theorem g_notIn {Q : Value → Shared → Prop} (hu : A.units + 9 < cLine) (I : Inv X pins σ H s) (g : GHas X.K X.w H a acc) (hk : KyD X.K H y k) (r : RelV y u) (h : ∀ s', Inv X pins σ H s' → Q (.bool (!(lookG acc k).isSome)) s') :
    wpAny (model X.prog X.w) A (compareOp .NotIn u (.ref a)) Q E s := by
  obtain ⟨ep, ha⟩ := g.1
  obtain ⟨g1, g2, g3, g4⟩ := gd_at I ha
  show wpAny _ _ (do return .bool (!(← contains (.ref a) u))) Q E s
  exact wpAny_bind (inKy (by show A.units + 1 + 8 < cLine; omega) g4 (hk.ky I r) g1 g2 (g.stand I) (wpAny_pure (h _ (I.tok _))))
theorem g_item {w' : Value} {Q : Value → Shared → Prop} (hu : A.units + 9 < cLine) (I : Inv X pins σ H s) (g : GHas X.K X.w H a acc) (hk : KyD X.K H y k) (r : RelV y u) (hl : lookG acc k = some w') (h : ∀ s', Inv X pins σ H s' → Q w' s') :
    wpAny (model X.prog X.w) A (getItem (.ref a) u) Q E s := by
  obtain ⟨ep, ha⟩ := g.1
  obtain ⟨g1, g2, g3, g4⟩ := gd_at I ha
  exact itemKy (by show A.units + 1 + 8 < cLine; omega) (hk.ky I r) g1 g2 (g.stand I) hl (h _ (I.tok _))
theorem g_get2 {Q : Value → Shared → Prop} (hu : A.units + 9 < cLine) (I : Inv X pins σ H s) (g : GHas X.K X.w H a acc) (hk : KyD X.K H y k) (ry : RelV y u) (h : ∀ s', Inv X pins σ H s' → Q ((lookG acc k).getD r) s') :
    wpAny (model X.prog X.w) A (call (.builtin "dict.get") [.ref a, u, r]) Q E s := by
  obtain ⟨ep, ha⟩ := g.1
  obtain ⟨g1, g2, g3, g4⟩ := gd_at I ha
  exact getorKy (by show A.units + 1 + 8 < cLine; omega) g4 (hk.ky I ry) g1 g2 (g.stand I) (h _ (I.tok _))
theorem g_get1 {Q : Value → Shared → Prop} (hu : A.units + 9 < cLine) (I : Inv X pins σ H s) (g : GHas X.K X.w H a acc) (hk : KyD X.K H y k) (ry : RelV y u) (h : ∀ s', Inv X pins σ H s' → Q ((lookG acc k).getD .none) s') :
    wpAny (model X.prog X.w) A (call (.builtin "dict.get") [.ref a, u]) Q E s := by
  obtain ⟨ep, ha⟩ := g.1
  obtain ⟨g1, g2, g3, g4⟩ := gd_at I ha
  exact get1Ky (by show A.units + 1 + 8 < cLine; omega) g4 (hk.ky I ry) g1 g2 (g.stand I) (h _ (I.tok _))
theorem g_store {Q : Unit → Shared → Prop} (hu : A.units + 9 < cLine) (I : Inv X pins σ H s) (g : GHas X.K X.w H a acc) (hk : KyD X.K H y k) (ry : RelV y u) (hz : acc.length < sizeLine) (h : ∀ ep' s', Inv X pins σ (upd H a (gdO X.w a (putG X.w acc k u r) ep')) s' → Q () s') :
    wpAny (model X.prog X.w) A (setItem (.ref a) u r) Q E s := by
  obtain ⟨ep, ha⟩ := g.1
  obtain ⟨g1, g2, g3, g4⟩ := gd_at I ha
  refine storeKy (by show A.units + 1 + 8 < cLine; omega) (hk.ky I ry) g1 g2 (g.stand I) g3 fun h' ep' r1 r2 => h ep' _ ?_
  have he : ∃ q, h'.get? a = some q := let ⟨o, ho, _⟩ := r1; ⟨o, ho⟩
  refine d_write I (by rw [ha]; exact True.intro) r2 he (gd_ok r1 g2.put ?_ g4)
  have := put_len (w := X.w) (acc := acc) (k := k) (u := u) (x := r)
  omega
end
/-! ### readings and rules -/
section
variable {X : Cx}
/-- y in d, y not in d -/
def rGIn (K : PySem.W.Frag) (w : World) (ng : Bool) : R2 := fun y x H Q => ∃ a acc k, x = .ref a ∧ GHas K w H a acc ∧ KyD K H y k ∧ Q (.bl ((lookG acc k).isSome != ng)) H
theorem op_gin (hu : X.A.units + 9 < cLine) : OpR X (compareOp .In) (rGIn X.K X.w false) := by
  intro pins s σ H y x v u Q I ry rx h
  obtain ⟨a, acc, k, rfl, g, hk, q⟩ := h
  cases rx
  exact g_in hu I g hk ry fun s' I' => ⟨.bl (lookG acc k).isSome, H, I', rfl, by simpa using q⟩
theorem op_gnin (hu : X.A.units + 9 < cLine) : OpR X (compareOp .NotIn) (rGIn X.K X.w true) := by
  intro pins s σ H y x v u Q I ry rx h
  obtain ⟨a, acc, k, rfl, g, hk, q⟩ := h
  cases rx
  exact g_notIn hu I g hk ry fun s' I' => ⟨.bl (!(lookG acc k).isSome), H, I', rfl, by simpa using q⟩
/-- d[y] -/
def rGIx (K : PySem.W.Frag) (w : World) : R2 := fun x y H Q => ∃ a acc k w' v, x = .ref a ∧ GHas K w H a acc ∧ KyD K H y k ∧ lookG acc k = some w' ∧ RelV v w' ∧ Q v H
theorem ix_g (hu : X.A.units + 9 < cLine) : IxR X (rGIx X.K X.w) := by
  intro value slice pins s σ H x y v u Q I rx ry h hs
  obtain ⟨a, acc, k, w', z, rfl, g, hk, hl, rz, q⟩ := h
  cases rx
  obtain ⟨ep, ha⟩ := g.1
  have hT : s.TypeIs (.ref a) "dict" := (gd_at I ha).1.typeIs
  unfold subscriptTail
  refine wpAny_bind ?_
  rw [getitemInPython_of_ne hT.not_modules]
  refine wpAny_bind (wpAny_specialOf hT F.slot_dict_getitem.lookup ?_)
  have fin : wpAny (model X.prog X.w) X.A (subscripted slice false (.ref a) u) (fun r s₃ => wpAny (model X.prog X.w) X.A (letTemporaryGo value (.ref a) r >>= fun _ => pure r) (EP X pins σ Q) X.xe s₃) X.xe s := by
    rw [hs]
    exact wpAny_operating (g_item hu I g hk ry hl fun s' I' => wpAny_bind (wpAny_letTemporaryGo (wpAny_pure ⟨z, H, I', rz, q⟩)))
  first
    | exact wpAny_pure (wpAny_bind fin)
    | exact wpAny_bind (wpAny_pure (wpAny_bind fin))
    | exact wpAny_bind fin
/-- d.get(y, z), d.get(y) -/
def rGGet (K : PySem.W.Frag) (w : World) : V → List V → Hp → VK → Prop := fun x ys H Q => ∃ a acc k y, x = .ref a ∧ GHas K w H a acc ∧ KyD K H y k ∧
  ((∃ z, ys = [y, z] ∧ (match lookG acc k with | some w' => ∃ v, RelV v w' ∧ Q v H | none => Q z H)) ∨ (ys = [y] ∧ (match lookG acc k with | some w' => ∃ v, RelV v w' ∧ Q v H | none => Q .non H)))
theorem mt_gget (hu : X.A.units + 9 < cLine) : MtR X "dict.get" (rGGet X.K X.w) := by
  intro pins s σ H x ys v us Q I rx rys h
  obtain ⟨a, acc, k, y, rfl, g, hk, h⟩ := h
  cases rx
  rcases h with ⟨z, rfl, q⟩ | ⟨rfl, q⟩
  · obtain ⟨uy, uz, rfl, ry, rz⟩ := vals2 rys
    refine g_get2 hu I g hk ry fun s' I' => ?_
    cases c : lookG acc k with
    | none => rw [c] at q; exact ⟨z, H, I', rz, q⟩
    | some w' => rw [c] at q; obtain ⟨v, rv, q⟩ := q; exact ⟨v, H, I', rv, q⟩
  · obtain ⟨uy, rfl, ry⟩ := vals1 rys
    refine g_get1 hu I g hk ry fun s' I' => ?_
    cases c : lookG acc k with
    | none => rw [c] at q; exact ⟨.non, H, I', rfl, q⟩
    | some w' => rw [c] at q; obtain ⟨v, rv, q⟩ := q; exact ⟨v, H, I', rv, q⟩
/-- len(d) -/
theorem call_glen : CallR X (.builtin "len") (fun xs H Q => ∃ a acc, xs = [.ref a] ∧ (∃ ep, H a = some (gdO X.w a acc ep)) ∧ Q (.int acc.length) H) := by
  intro pins s σ H xs us Q I r h
  obtain ⟨a, acc, rfl, ⟨ep, g⟩, q⟩ := h
  obtain ⟨u, rfl, rx⟩ := vals1 r
  cases rx
  obtain ⟨g1, g2, g3, g4⟩ := gd_at I g
  refine lenKy g4 g1 (by simpa using g3) fun t tk => ⟨.int acc.length, H, I.tok _, ⟨t, by simp⟩, q⟩
/-- list(d): its keys -/
theorem call_glist (hc : X.calm = true) : CallR X (.type "list") (fun xs H Q => ∃ a acc ys, xs = [.ref a] ∧ (∃ ep, H a = some (gdO X.w a acc ep)) ∧ Vals ys (acc.map fun p => p.2.key) ∧ ∀ p, H p = none → Q (.ref p) (upd H p (.lst ys))) := by
  intro pins s σ H xs us Q I r h
  obtain ⟨a, acc, ys, rfl, ⟨ep, g⟩, rv, q⟩ := h
  obtain ⟨u, rfl, rx⟩ := vals1 r
  cases rx
  obtain ⟨g1, g2, g3, g4⟩ := gd_at I g
  refine listKy (I.ok.hd hc) g4 g1 (by simpa using g3) fun h' tk n k hl => ?_
  refine ⟨.ref _, upd H s.heap.objs.size (.lst ys), I.laid (t' := tk) k (Nat.le_refl _) ?_, rfl, q _ (I.hok.fresh (Nat.le_refl _))⟩
  refine ⟨by rw [rv.length]; simpa using g3, acc.map fun p => p.2.key, n, rv, ?_⟩
  rw [hl]
  simp [Function.comp_def]
/-- dict(xs), a list of pairs -/
def RelT (K : PySem.W.Frag) (H : Hp) (p : Addr) (t : NestedKey × V × V) : Prop := SqT K H p [t.2.1, t.2.2] ∧ KyD K H t.2.1 t.1
theorem pairs_at {pins : List (Addr × Obj)} {σ : L2.St} {H : Hp} {s : Shared} (I : Inv X pins σ H s) : ∀ {ps : List Addr} {ts : List (NestedKey × V × V)}, Paired (RelT X.K H) ps ts →
    ∃ rs : List (NestedKey × Value × Value), Paired (fun (t : NestedKey × V × V) (r : NestedKey × Value × Value) => t.1 = r.1 ∧ RelV t.2.1 r.2.1 ∧ RelV t.2.2 r.2.2) ts rs ∧ rs.length = ps.length ∧ (∀ r ∈ rs, Ky s.heap r.1 r.2.1) ∧ ∀ (j : Nat) k v, (rs.map (·.2))[j]? = some (k, v) → ∃ b, ps[j]? = some b ∧ PairAt s.heap b k v
  | _, _, .nil => ⟨[], .nil, rfl, (fun r hr => by cases hr), fun j k v e => by simp at e⟩
  | _, _, .cons (a := p) (b := t) h tl => by
    obtain ⟨rs, r, hl, hk, hp⟩ := pairs_at I tl
    obtain ⟨h1, h2⟩ := h
    obtain ⟨its, rv, ht, _⟩ := I.tuple h1
    obtain ⟨u, x, rfl, ru, rx⟩ := vals2 rv
    refine ⟨(t.1, u, x) :: rs, .cons ⟨rfl, ru, rx⟩ r, by rw [List.length_cons, List.length_cons, hl], fun q hq => ?_, fun j k v e => ?_⟩
    · rcases List.mem_cons.mp hq with rfl | hq
      · exact h2.ky I ru
      · exact hk q hq
    · cases j with
      | zero =>
        simp at e
        obtain ⟨rfl, rfl⟩ := e
        exact ⟨p, rfl, .inl ht⟩
      | succ j =>
        obtain ⟨b, e1, e2⟩ := hp j k v (by simpa using e)
        exact ⟨b, by simpa using e1, e2⟩
theorem call_gdict (hc : X.calm = true) (hu : X.A.units + 10 < cLine) : CallR X (.type "dict") (fun xs H Q => ∃ (a : Addr) (ps : List Addr) (ts : List (NestedKey × V × V)), xs = [.ref a] ∧ SqL X.K H a (ps.map V.ref) ∧ Paired (RelT X.K H) ps ts ∧
    ∀ p rs ep, H p = none → Paired (fun (t : NestedKey × V × V) (r : NestedKey × Value × Value) => t.1 = r.1 ∧ RelV t.2.1 r.2.1 ∧ RelV t.2.2 r.2.2) ts rs → Q (.ref p) (upd H p (gdO X.w p (mergeG X.w [] rs) ep))) := by
  intro pins s σ H xs us Q I r q
  obtain ⟨a, ps, ts, rfl, hq, hp, q⟩ := q
  obtain ⟨u, rfl, rx⟩ := vals1 r
  cases rx
  obtain ⟨its, rv, pl, hz⟩ := I.list hq
  have ei := refs_at rv
  subst ei
  rw [List.length_map] at hz
  obtain ⟨rs, rel, hl, hk, hpr⟩ := pairs_at I hp
  obtain ⟨o, n, ho, hcl, hd, hdat⟩ := pl
  refine dictKy (Ts := fun j => ps.getD j 0) (ts := rs) (I.ok.hd hc) (by show X.A.units + 1 + 1 + 8 < cLine; omega) ⟨o, n, ho, hcl, hd, hdat⟩ ⟨by simp [hl], fun j k v e => ?_⟩ hk (by omega) fun h' tk ep r1 k => ?_
  · obtain ⟨b, e1, e2⟩ := hpr j k v e
    have : ps.getD j 0 = b := by rw [List.getD_eq_getElem?_getD, e1]; rfl
    show _ ∧ PairAt s.heap (ps.getD j 0) k v
    rw [this]
    exact ⟨by simp [e1], e2⟩
  · have hm : (s.heap.objs.size == sysModules) = false := beq_eq_false_iff_ne.mpr (Nat.ne_of_gt I.big)
    have hlen : (mergeG X.w [] rs).length ≤ sizeLine := by
      have := merge_len (w := X.w) (ts := rs) (acc := [])
      simp only [List.length_nil] at this
      omega
    exact ⟨.ref s.heap.objs.size, _, I.laid (t' := tk) k (Nat.le_refl _) (gd_ok r1 (merge_ok ⟨fun p hp => (by cases hp), List.nodup_nil⟩) hlen hm), rfl, q _ rs ep (I.hok.fresh (Nat.le_refl _)) rel⟩
/-- {} -/
theorem pe_gnew {pos : Pos} : PE X (.Dict [] [] pos) (fun _ H Q => ∀ p, H p = none → Q (.ref p) (upd H p (gdO X.w p [] 0))) := ⟨fun pins s σ H Q I h =>
  wpAny_Dict_empty ⟨.ref s.heap.objs.size, _, I.laid (a := s.heap.objs.size) (o := gdO X.w s.heap.objs.size [] 0) (t' := s.toks) (fun _ _ q => Heap.get?_push_of_some _ q) (Nat.le_refl _)
    (gd_ok ⟨_, Heap.get?_push_size _ rfl, ⟨rfl, rfl, rfl⟩, rfl⟩ ⟨fun p hp => (by cases hp), List.nodup_nil⟩ (Nat.zero_le _) (beq_eq_false_iff_ne.mpr (Nat.ne_of_gt I.big))), rfl, h _ (I.hok.fresh (Nat.le_refl _))⟩⟩
/-! ### for k in d -/
def ItG (w : World) (d : Addr) (acc : Acc) (ep : Nat) : It :=
  ⟨fun i H => H d = some (gdO w d acc ep) ∧ i < acc.length, fun i H x H' => H' = H ∧ ∃ p, acc[i]? = some p ∧ RelV x p.2.key, fun i H => H d = some (gdO w d acc ep) ∧ acc.length ≤ i⟩
theorem turn_g {P : Program} {w : World} {K : PySem.W.Frag} {tg : Expr} {d : Addr} {acc : Acc} {ep : Nat} (it : Addr) (rl : ∀ p ∈ acc, ∃ x, RelV x p.2.key) : Turn P w K tg (ItG w d acc ep) [it] it (fun i h => h.IsKeyIter it d i acc.length ep) where
  mem := by simp
  obj := fun i h st b hb => by
    have e : b = it := by simpa using hb
    subst e
    obtain ⟨oi, e, c, dd⟩ := st
    exact ⟨oi, e, fun v z => by rw [dd] at z; cases z⟩
  keep := fun i h h' st k => st.at fun oi e => k it (by simp) oi e
  item := by
    intro X hP hw hK hc i pins s σ H E I hf st hg
    subst hP hw hK
    obtain ⟨hd, hi⟩ := hg
    obtain ⟨f0, f1, f2, f3, f4, f5⟩ := hf it (by simp)
    obtain ⟨⟨o, ho, hx, hdt⟩, g2, g3, g4⟩ := gd_at I hd
    have hp : acc[i]? = some acc[i] := List.getElem?_eq_getElem hi
    obtain ⟨x, rx⟩ := rl acc[i] (List.getElem_mem hi)
    refine next_key_item (en := acc[i].2) st ho hdt (by simp) (by simp [hp]) fun h' st' sb => ?_
    have I1 : Inv X pins σ H { s with heap := h' } := I.turned (t' := s.toks) (fun b ob hb e => (sb.2 b hb).trans e) f0 f1 f3 f4 f5
    obtain ⟨oi, e, c, dd⟩ := id st'
    exact ⟨_, rfl, go_of (s := { s with heap := h' }) e c dd (by decide) ⟨x, H, I1, rx, ⟨rfl, _, hp, rx⟩, st', fun b hb => (hf b hb).1⟩⟩
  done := by
    intro X hP hw hK hc i pins s σ H E I hf st hg
    subst hP hw hK
    obtain ⟨hd, hi⟩ := hg
    obtain ⟨f0, f1, f2, f3, f4, f5⟩ := hf it (by simp)
    obtain ⟨⟨o, ho, hx, hdt⟩, g2, g3, g4⟩ := gd_at I hd
    exact next_key_end (I.ok.hd hc) st ho hdt (by simp) hi fun h' eb => ⟨rfl, I.turned (t' := s.toks) (fun b ob hb e => eb b ob hb e) f0 f1 f3 f4 f5⟩
  self := fun A i s Q E st h => wpAny_pyIter_keyiter st h
theorem pi_g {tg e : Expr} {td : TE} (he : PE X e td) : PI X tg e (fun σ H R => td σ H fun x H1 => ∃ d acc ep, x = .ref d ∧ H1 d = some (gdO X.w d acc ep) ∧ (∀ p ∈ acc, ∃ x, RelV x p.2.key) ∧ R (ItG X.w d acc ep) H1) := by
  refine ⟨fun pins s σ H R I h => ?_⟩
  refine thn (he.run pins s σ H _ I h) fun u s1 ⟨x, H1, I1, rx, d, acc, ep, ex, hd, rl, q⟩ => ?_
  subst ex
  obtain rfl : u = Value.ref d := rx
  obtain ⟨⟨o, ho, hx, hdt⟩, g2, g3, g4⟩ := gd_at I1 hd
  refine iter_keys g4 ho hx hdt (pi_one (tk := s1.toks) I1 _ (turn_g _ rl) ⟨_, Heap.get?_push_size _ rfl, rfl, ?_⟩ q)
  simp
end
end Gd
/-! {k: v} -/
namespace Gd
open PySem PySem.Spec PyProof.Rows L2
section
variable {X : Cx}
theorem pe_gone {k v : Expr} {tk tv : TE} {pos : Pos} (hu : X.A.units + 8 < cLine) (hk : PE X k tk) (hv : PE X v tv) :
    PE X (.Dict [some k] [v] pos) (fun σ H Q => ∀ p, H p = none → tk σ (upd H p (gdO X.w p [] 0)) fun x H1 => tv σ H1 fun y H2 => H2 p = some (gdO X.w p [] 0) ∧ ∃ q, KyD X.K H2 x q ∧
      ∀ u r ep, RelV x u → RelV y r → Q (.ref p) (upd H2 p (gdO X.w p [(q, ⟨q.hash X.w, u, r⟩)] ep))) := by
  refine ⟨fun pins s σ H Q I h => ?_⟩
  have hn := I.hok.fresh (Nat.le_refl s.heap.objs.size)
  have hm : (s.heap.objs.size == sysModules) = false := beq_eq_false_iff_ne.mpr (Nat.ne_of_gt I.big)
  have ok0 : Okay X.w ([] : Acc) := ⟨fun p hp => (by cases hp), List.nodup_nil⟩
  have I1 := I.laid (a := s.heap.objs.size) (o := gdO X.w s.heap.objs.size [] 0) (h' := s.heap.push { cls := .type "dict", data := .dict #[] }) (t' := s.toks) (fun _ _ q => Heap.get?_push_of_some _ q) (Nat.le_refl _)
    (gd_ok ⟨_, Heap.get?_push_size _ rfl, ⟨rfl, rfl, rfl⟩, rfl⟩ ok0 (Nat.zero_le _) hm)
  rw [arm_eval_Dict, zip_pairTrees [some k] [v] X.env pos rfl rfl, dictDisplay_pairs (pairTrees [some k] [v] X.env pos) (by simp [pairTrees]) (by simp [pairTrees])]
  refine wpAny_bind (wpAny_standAt (wpAny_bind ?_))
  unfold subDict
  refine wpAny_bind (wpAny_alloc ?_)
  refine wpAny_bind (wpAny_holding ?_)
  rw [if_pos (by simp [pairTrees])]
  refine wpAny_bind (pairTrees_cons_walk (thn (hk.run pins _ σ _ _ I1 (h _ hn)) fun u s1 ⟨x, H1, I2, rx, q1⟩ => thn (hv.run pins s1 σ H1 _ I2 q1) fun r s2 ⟨y, H2, I3, ry, ha, q, kq, q2⟩ => pairTrees_nil_walk ?_))
  refine wpAny_holding ?_
  obtain ⟨g1, g2, g3, g4⟩ := gd_at I3 ha
  refine wpAny_bind ?_
  rw [List.forIn_cons]
  refine wpAny_bind (wpAny_bind (setKy (acc := []) (x := r) hu (kq.ky I3 rx) g1 g2 (fun p hp => by cases hp) g3 fun h' ep' r1 _ r2 => wpAny_pure ?_))
  dsimp only
  rw [List.forIn_nil]
  refine wpAny_pure (wpAny_pure (wpAny_pure (wpAny_pure ⟨.ref s.heap.objs.size, _, ?_, rfl, q2 u r ep' rx ry⟩)))
  have he : ∃ z, h'.get? s.heap.objs.size = some z := let ⟨o, ho, _⟩ := r1; ⟨o, ho⟩
  exact d_write (a := s.heap.objs.size) I3 (by rw [ha]; exact True.intro) r2 he (gd_ok (acc := [(q, ⟨q.hash X.w, u, r⟩)]) r1 (Okay.put (k := q) (u := u) (x := r) ok0) (by rw [sizeLine_eq]; simp) hm)
end
end Gd
/-! set(xs) of a list, whatever its loop adds; sorted(set(xs)) of ints. -/
namespace Gs
open PySem PySem.Spec PyProof.Rows L2
def new (w : World) : Obj := { cls := .type "set", dict := none, data := .set #[] 0 (.fresh 0 0 (!w.params.followText "set-order")) }
def itr (l : Addr) : Obj := { cls := .type "list_iterator", data := .fields #[.ref l, .int 0 0] }
section
variable {P : Program} {w : World} {A : Around} {E : Value → Shared → Prop} {s : Shared}
set_option maxHeartbeats 8000000 in
theorem set_list {l : Addr} {items : Array Value} {Q : Value → Shared → Prop} {G : Heap → Prop} (hl : s.heap.IsList l items)
    (loop : ∀ R : Result → Shared → Prop, (∀ h' tk, G h' → (∀ b o, s.heap.get? b = some o → h'.get? b = some o) → R (.ok (.ret .none)) { s with heap := h', toks := tk }) →
      codeAny (model P w) A.in1.in1 (.builtin "set.update.loop" ⟨[.ref s.heap.objs.size, .ref (s.heap.push (new w)).objs.size], []⟩) R { s with heap := (s.heap.push (new w)).push (itr l) })
    (q : ∀ h' tk, G h' → (∀ b o, s.heap.get? b = some o → h'.get? b = some o) → Q (.ref s.heap.objs.size) { s with heap := h', toks := tk }) :
    wpAny (model P w) A (call (.type "set") [.ref l]) Q E s := by
  obtain ⟨c, tl, mro⟩ := F.called_set.mro
  have made := F.called_set.made
  have sub := F.called_set.sub
  refine wpAny_call (codeAny_of_tree ?_)
  show wpAny _ _ (callAny (.type "set") _) _ _ _
  refine wpAny_pure ⟨Code.quiet_builtin _ (by decide +kernel), codeAny_builtin F.entry_type_call ?_⟩
  rw [Around.under_plain (weight_type_call_type "set" [.ref l] []) rfl]
  have n1 := F.called_set.notType
  have n2 := F.called_set.canCreate
  have n3 := F.typeCall_set_1 (.ref l)
  repeat (any_goals (first | assumption | wp_step))
  refine codeAny_mono (code_set_led1 (.ref l) (E := E) (Q₁ := fun v t => v = .ref s.heap.objs.size ∧ t = { s with heap := s.heap.push (new w) }) ⟨rfl, rfl⟩) fun r t hr => ?_
  cases r with
  | error e => exact hr
  | ok f =>
    cases f with
    | ret v =>
      obtain ⟨rfl, rfl⟩ := hr
      have there : (s.heap.push (new w)).get? s.heap.objs.size = some (new w) := Heap.get?_push_size _ rfl
      have ty : Shared.TypeIs { s with heap := s.heap.push (new w) } (.ref s.heap.objs.size) "set" := ⟨_, there, rfl⟩
      have n4 := F.called_set.init.lookup
      have n5 := F.called_set.init.bind (.ref s.heap.objs.size)
      repeat (any_goals (first | assumption | wp_step))
      refine codeAny_mono (codeAny_call_builtin (R := wants (fun r t => r = .none ∧ ∃ h' tk, t = { s with heap := h', toks := tk } ∧ G h' ∧ ∀ b o, s.heap.get? b = some o → h'.get? b = some o) E) F.called_set.init.plain F.entry_set_init (check_set_init_1 ty ?_)) fun r2 t2 hr2 => ?_
      · obtain ⟨ob, ho, hc, n, hd⟩ := hl
        obtain ⟨oc, od, odt, os⟩ := ob
        simp only at hc hd
        subst hc; subst hd
        have ho2 : (s.heap.push (new w)).get? l = some { cls := .type "list", dict := od, data := .seq items n, slots := os } := Heap.get?_push_of_some _ ho
        have n6 := F.sub_list_set
        have n7 := F.sub_list_frozenset
        have n8 : (Value.type "list" == Value.type "dict") = false := by decide
        unfold Builtin.«set.__init__» noKeywords Builtin.Frozenset.updateFrom
        generalize hp : pyIter = pit
        wp_walk
        subst hp
        refine wpAny_pyIter_list (items := items) ⟨_, ho2, rfl, n, rfl⟩ ?_
        refine wpAny_bind (wpAny_runValue (loop _ fun h' tk g k => ?_))
        show wpAny _ _ _ _ _ _
        refine wpAny_pure ?_
        exact wpAny_pure ⟨rfl, h', tk, rfl, g, k⟩
      · cases r2 with
        | error e => exact hr2
        | ok f2 =>
          cases f2 with
          | ret r =>
            obtain ⟨rfl, h', tk, rfl, g, k⟩ := hr2
            repeat (any_goals (first | assumption | wp_step))
            exact q h' tk g k
          | _ => exact hr2.elim
    | _ => exact hr.elim
end
end Gs
/-! set(xs) of a list or a tuple of ints, as the hand layer tracks it. -/
namespace Gs
open PySem PySem.Spec PyProof.Rows L2
section
variable {P : Program} {w : World} {A : Around} {E : Value → Shared → Prop} {s : Shared}
theorem set_ints {l : Addr} {items : Array Value} (ns : List Int) {Q : Value → Shared → Prop} (hh : A.handled = none) (hl : s.heap.IsList l items) (hit : IntsAre items.toList ns) (hb : ns.length + 1 < scanBound)
    (q : ∀ h' tk, (∃ c, SetR w h' s.heap.objs.size (fun j => decide (j ∈ ns)) c) → (∀ b o, s.heap.get? b = some o → h'.get? b = some o) → Q (.ref s.heap.objs.size) { s with heap := h', toks := tk }) :
    wpAny (model P w) A (call (.type "set") [.ref l]) Q E s := by
  have hz : items.size = ns.length := by
    have := IntsAre.length hit
    rwa [Array.length_toList] at this
  refine set_list (G := fun h' => ∃ c, SetR w h' s.heap.objs.size (fun j => decide (j ∈ ns)) c) hl (fun R r => ?_) q
  have h3 : A.in1.in1.in1.handled = none := by simp [hh]
  obtain ⟨o, ho, hc, n, hd⟩ := hl
  have lt : l < s.heap.objs.size := Heap.lt_size ho
  have sz : (s.heap.push (new w)).objs.size = s.heap.objs.size + 1 := Heap.size_push ..
  have ne : l ≠ (s.heap.push (new w)).objs.size := by rw [sz]; exact Nat.ne_of_lt (Nat.lt_succ_of_lt lt)
  have hval : ∀ (i : Nat) (v : Value), items[i]? = some v → ∃ k t, ns[i]? = some k ∧ v = .int k t := fun i v hv => by
    have hi : i < ns.length := by rw [← hz]; exact (Array.getElem?_eq_some_iff.mp hv).1
    obtain ⟨t, e⟩ := PyProof.Rows.IntsAre.int_at hit i v (by rw [Array.getElem?_toList]; exact hv)
    exact ⟨ns[i], t, List.getElem?_eq_getElem hi, by rw [e]; simp [hi]⟩
  have isl : (s.heap.push (new w)).IsList l items := ⟨o, Heap.get?_push_of_some _ ho, hc, n, hd⟩
  refine set_update_ints ((Walks.list h3 _ l ne items).toS) s.heap.objs.size (by rw [sz]; simp only [List.mem_cons, List.not_mem_nil, or_false, not_or]; exact ⟨Nat.ne_of_lt (Nat.lt_succ_self _), Nat.ne_of_gt lt⟩) ns hz hb hval (items.size - 0) 0 _ (by omega) (Nat.zero_le _) ⟨⟨_, Heap.get?_push_size _ rfl, rfl, rfl⟩, isl.push _⟩
    ⟨0, Nat.le_refl 0, setR_new_at (Heap.get?_push_of_some _ (Heap.get?_push_size _ rfl))⟩ fun t c mv _ hS => ?_
  obtain ⟨h', g, d', tk, os⟩ := t
  have e1 : g = s.gens := mv.gens
  have e2 : d' = s.drawn := mv.drawn
  have e3 : os = s.os := mv.os
  subst e1; subst e2; subst e3
  refine r h' tk ⟨c, hS⟩ fun b ob e => ?_
  have b0 : b < s.heap.objs.size := Heap.lt_size e
  exact mv.heap b ob (by rw [sz]; simp only [List.mem_cons, List.not_mem_nil, or_false, not_or]; exact ⟨Nat.ne_of_lt b0, Nat.ne_of_lt (Nat.lt_succ_of_lt b0)⟩) (Heap.get?_push_of_some _ (Heap.get?_push_of_some _ e))
end
section
variable {X : Cx}
/-- set(xs): a list or a tuple of ints -/
def rSetI (K : PySem.W.Frag) (w : World) : List V → Hp → VK → Prop := fun xs H Q => ∃ (l : Addr) (ns : List Int), xs = [V.ref l] ∧ (SqL K H l (ns.map V.int) ∨ SqT K H l (ns.map V.int)) ∧ ns.length < 4000 ∧
  ∀ a c, H a = none → (∃ ks : List Int, ks.Nodup ∧ ks.length = c ∧ ∀ k, k ∈ ks ↔ k ∈ ns) → Q (.ref a) (upd H a (SetO w a (fun j => decide (j ∈ ns)) c))
theorem setR_count {w : World} {h : Heap} {a : Addr} {ns : List Int} {c : Nat} (R : SetR w h a (fun j => decide (j ∈ ns)) c) : ∃ ks : List Int, ks.Nodup ∧ ks.length = c ∧ ∀ k, k ∈ ks ↔ k ∈ ns := by
  obtain ⟨o, es, ep, t, _, _, _, _, nd, hm, _, _, hn, _⟩ := R
  refine ⟨es.toList.map keyOf, nd, by simpa using hn, fun k => ?_⟩
  rw [← hm k]
  simp
theorem cr_setI (hc : X.calm = true) : CallR X (.type "set") (rSetI X.K X.w) := by
  intro pins s σ H xs us Q I r h
  obtain ⟨l, ns, rfl, hl, hf, q⟩ := h
  rw [Vals.ref1 r]
  have hn : H s.heap.objs.size = none := I.hok.fresh (Nat.le_refl _)
  have fin : ∀ h' tk, (∃ c, SetR X.w h' s.heap.objs.size (fun j => decide (j ∈ ns)) c) → (∀ b o, s.heap.get? b = some o → h'.get? b = some o) → EP X pins σ Q (.ref s.heap.objs.size) { s with heap := h', toks := tk } := fun h' tk ⟨c, R⟩ k =>
    ⟨.ref s.heap.objs.size, _, I.laid (t' := tk) k (Nat.le_refl _) (setO_new R), rfl, q _ c hn (setR_count R)⟩
  rcases hl with hl | hl
  · obtain ⟨its, rv, pl, hz⟩ := I.list hl
    exact set_ints ns (I.ok.hd hc) pl.isList (by simpa using rv.ints) (by unfold scanBound; omega) fin
  · obtain ⟨its, rv, pt, hz⟩ := I.tuple hl
    exact call_set_tupI ns (I.ok.hd hc) pt (by simpa using rv.ints) (by unfold scanBound; omega) fun h' tk c R _ k => fin h' tk ⟨c, R⟩ k
end
end Gs
/-! Pure data, and how values of the heap denote it. -/
namespace Tk
open PySem PySem.Spec PyProof.Rows L2

inductive D where
  | non
  | bl (b : Bool)
  | int (i : Int)
  | str (z : List Nat)
  | tup (xs : List D)
  | lst (xs : List D)
  | dic (kvs : List (D × D))
  | obj (c : Nat) (fs : List D)
  /-- the script: a list of whole numbers, only read -/
  | scr (ns : List Int)
  /-- a dict with keys of any kind, in the order of insertion -/
  | gd (ps : List (D × D))
  /-- what stands at an address, not looked at -/
  | adr (a : Nat)

namespace D
mutual
/-- Python's own == of plain data -/
def eqD : D → D → Bool
  | .non, .non => true
  | .bl a, .bl b => a == b
  | .bl a, .int j => (if a then 1 else 0) == j
  | .int i, .bl b => i == (if b then 1 else 0)
  | .int i, .int j => i == j
  | .str x, .str y => x == y
  | .lst xs, .lst ys => eqAll xs ys
  | .tup xs, .tup ys => eqAll xs ys
  | _, _ => false
def eqAll : List D → List D → Bool
  | [], [] => true
  | x :: xs, y :: ys => eqD x y && eqAll xs ys
  | _, _ => false
end
mutual
/-- no dict, no object within -/
def pln : D → Bool
  | .str z => z.all (· < 0x110000)
  | .tup xs => plnAll xs
  | .lst xs => plnAll xs
  | .dic _ => false
  | .obj _ _ => false
  | .scr _ => false
  | .gd _ => false
  | .adr _ => false
  | _ => true
def plnAll : List D → Bool
  | [] => true
  | x :: xs => pln x && plnAll xs
end
mutual
def dep : D → Nat
  | .tup xs => depAll xs + 1
  | .lst xs => depAll xs + 1
  | _ => 0
def depAll : List D → Nat
  | [] => 0
  | x :: xs => max (dep x) (depAll xs)
end
mutual
def py : D → PyData
  | .non => .none
  | .bl b => .bool b
  | .int i => .int i
  | .str z => .str ⟨z.toArray⟩
  | .tup xs => .tuple (pyAll xs)
  | .lst xs => .list (pyAll xs)
  | .dic _ => .dict []
  | .obj _ _ => .dict []
  | .scr _ => .dict []
  | .gd _ => .dict []
  | .adr _ => .dict []
def pyAll : List D → List PyData
  | [] => []
  | x :: xs => py x :: pyAll xs
end
mutual
/-- what may be a key -/
def kb : D → Bool
  | .non => true
  | .bl _ => true
  | .int _ => true
  | .str _ => true
  | .tup xs => kbs xs
  | _ => false
def kbs : List D → Bool
  | [] => true
  | x :: xs => kb x && kbs xs
end
mutual
def nk : D → NestedKey
  | .non => .none
  | .bl b => .num (if b = true then 1 else 0)
  | .int i => .num i
  | .str z => .text ⟨z.toArray⟩
  | .tup xs => .tup (nks xs)
  | _ => .none
def nks : List D → List NestedKey
  | [] => []
  | x :: xs => nk x :: nks xs
end
def kyB (d : D) : Bool := d.kb && decide (d.dep ≤ 8)
/-- what may be compared -/
def sh (d : D) : Bool := d.pln && decide (d.dep ≤ 64)
end D


open D
theorem str_beq (x y : List Nat) : ((⟨x.toArray⟩ : Str) == ⟨y.toArray⟩) = (x == y) := by
  by_cases h : x = y
  · subst h; simp
  · have h2 : ¬ ((⟨x.toArray⟩ : Str) = ⟨y.toArray⟩) := fun e => h (by
      have := congrArg (fun s : Str => s.cps.toList) e
      simpa using this)
    rw [beq_eq_false_iff_ne.mpr h2, beq_eq_false_iff_ne.mpr h]
mutual
theorem eqv_py : ∀ (a b : D), a.pln = true → b.pln = true → PyData.eqv a.py b.py = eqD a b
  | .non, b, _, hb => by cases b <;> simp_all [py, PyData.eqv, eqD, pln]
  | .bl x, b, _, hb => by cases b <;> simp_all [py, PyData.eqv, eqD, pln]
  | .int x, b, _, hb => by cases b <;> simp_all [py, PyData.eqv, eqD, pln]
  | .str x, b, _, hb => by
    cases b <;> simp only [py, PyData.eqv, eqD, pln, Bool.false_eq_true] at hb ⊢
    exact str_beq _ _
  | .tup xs, b, ha, hb => by
    cases b <;> simp_all [py, PyData.eqv, eqD, pln]
    rename_i ys
    exact eqvAll_py xs ys ha hb
  | .lst xs, b, ha, hb => by
    cases b <;> simp_all [py, PyData.eqv, eqD, pln]
    rename_i ys
    exact eqvAll_py xs ys ha hb
  | .dic _, _, ha, _ => by simp [pln] at ha
  | .obj _ _, _, ha, _ => by simp [pln] at ha
  | .scr _, _, ha, _ => by simp [pln] at ha
  | .gd _, _, ha, _ => by simp [pln] at ha
  | .adr _, _, ha, _ => by simp [pln] at ha
theorem eqvAll_py : ∀ (a b : List D), plnAll a = true → plnAll b = true → PyData.eqvAll (pyAll a) (pyAll b) = eqAll a b
  | [], b, _, _ => by cases b <;> simp [pyAll, PyData.eqvAll, eqAll]
  | x :: xs, [], _, _ => by simp [pyAll, PyData.eqvAll, eqAll]
  | x :: xs, y :: ys, ha, hb => by
    simp only [plnAll, Bool.and_eq_true] at ha hb
    simp [pyAll, PyData.eqvAll, eqAll, eqv_py x y ha.1 hb.1, eqvAll_py xs ys ha.2 hb.2]
end
mutual
theorem py_depth : ∀ a : D, a.pln = true → a.py.depth = a.dep
  | .non, _ | .bl _, _ | .int _, _ | .str _, _ => by simp [py, PyData.depth, dep]
  | .tup xs, h => by simp [py, PyData.depth, dep, pyAll_depth xs (by simpa [pln] using h)]
  | .lst xs, h => by simp [py, PyData.depth, dep, pyAll_depth xs (by simpa [pln] using h)]
  | .dic _, h | .obj _ _, h | .scr _, h | .gd _, h | .adr _, h => by simp [pln] at h
theorem pyAll_depth : ∀ a : List D, plnAll a = true → PyData.depthAll (pyAll a) = depAll a
  | [], _ => by simp [pyAll, PyData.depthAll, depAll]
  | x :: xs, h => by
    simp only [plnAll, Bool.and_eq_true] at h
    simp [pyAll, PyData.depthAll, depAll, py_depth x h.1, pyAll_depth xs h.2]
end
mutual
theorem py_lay : ∀ a : D, a.pln = true → a.py.canLay0 = true
  | .non, _ | .bl _, _ | .int _, _ => by simp [py, PyData.canLay0]
  | .str z, h => by
    simp only [py, PyData.canLay0, PyData.strOk]
    simpa [pln] using h
  | .tup xs, h => by simp [py, PyData.canLay0, pyAll_lay xs (by simpa [pln] using h)]
  | .lst xs, h => by simp [py, PyData.canLay0, pyAll_lay xs (by simpa [pln] using h)]
  | .dic _, h | .obj _ _, h | .scr _, h | .gd _, h | .adr _, h => by simp [pln] at h
theorem pyAll_lay : ∀ a : List D, plnAll a = true → PyData.canLayAll0 (pyAll a) = true
  | [], _ => by simp [pyAll, PyData.canLayAll0]
  | x :: xs, h => by
    simp only [plnAll, Bool.and_eq_true] at h
    simp [pyAll, PyData.canLayAll0, py_lay x h.1, pyAll_lay xs h.2]
end
theorem sh_pln {d : D} (h : d.sh = true) : d.pln = true := (Bool.and_eq_true_iff.mp h).1
theorem sh_shaped {d : D} (h : d.sh = true) : SeqAt.shaped d.py = true := by
  obtain ⟨h1, h2⟩ := Bool.and_eq_true_iff.mp h
  unfold SeqAt.shaped
  rw [py_lay d h1, py_depth d h1]
  simpa using h2

/-! ### what a value denotes -/
/-- cl: classes by number: where they stand, their fields' names in order; kd: the module's own dicts with text keys; ex: classes of errors by number -/
structure CT where
  cl : Nat → Option (Addr × List Str)
  kd : Addr → Option (List (List Nat × D))
  ex : Nat → Option Addr
  w : World
def kdD (ps : List (List Nat × D)) : List (D × D) := ps.map fun p => (.str p.1, p.2)
def kD : Key → D
  | .inl i => .int i
  | .inr x => .str x.cps.toList
mutual
inductive Den (K : PySem.W.Frag) (ct : CT) (H : Hp) : V → D → Prop
  | non : Den K ct H .non .non
  | bl (b : Bool) : Den K ct H (.bl b) (.bl b)
  | int (i : Int) : Den K ct H (.int i) (.int i)
  | str (x : Str) : Den K ct H (.str x) (.str x.cps.toList)
  | tup {a : Addr} {xs : List V} {ds : List D} : SqT K H a xs → DenAll K ct H xs ds → Den K ct H (.ref a) (.tup ds)
  | lst {a : Addr} {xs : List V} {ds : List D} : Rd H a (.lst xs) → DenAll K ct H xs ds → Den K ct H (.ref a) (.lst ds)
  | dK {a : Addr} {kvs : List (Key × V)} {ps : List (D × D)} : H a = some (.dK kvs) → DenK K ct H kvs ps → Den K ct H (.ref a) (.dic ps)
  | dW {a : Addr} {ps : List (List Nat × D)} : ct.kd a = some ps → Den K ct H (.ref a) (.dic (kdD ps))
  | obj {a C dx : Addr} {c : Nat} {ns : List Str} {fs : List (Str × V)} {ds : List D} : H a = some (.ins C dx fs) → ct.cl c = some (C, ns) → fs.map (·.1) = ns → DenAll K ct H (fs.map (·.2)) ds → Den K ct H (.ref a) (.obj c ds)
  | scr {a : Addr} {ns : List Int} : SqL K H a (ns.map V.int) → Den K ct H (.ref a) (.scr ns)
  | gd {a : Addr} {acc : Gd.Acc} {ep : Nat} {ps : List (D × D)} : H a = some (Gd.gdO ct.w a acc ep) → DenG K ct H acc ps → Den K ct H (.ref a) (.gd ps)
  | adr (a : Addr) : Den K ct H (.ref a) (.adr a)
inductive DenAll (K : PySem.W.Frag) (ct : CT) (H : Hp) : List V → List D → Prop
  | nil : DenAll K ct H [] []
  | cons {v : V} {vs : List V} {d : D} {ds : List D} : Den K ct H v d → DenAll K ct H vs ds → DenAll K ct H (v :: vs) (d :: ds)
inductive DenK (K : PySem.W.Frag) (ct : CT) (H : Hp) : List (Key × V) → List (D × D) → Prop
  | nil : DenK K ct H [] []
  | cons {k : Key} {v : V} {kvs : List (Key × V)} {d : D} {ps : List (D × D)} : Den K ct H v d → DenK K ct H kvs ps → DenK K ct H ((k, v) :: kvs) ((kD k, d) :: ps)
inductive DenG (K : PySem.W.Frag) (ct : CT) (H : Hp) : Gd.Acc → List (D × D) → Prop
  | nil : DenG K ct H [] []
  | cons {e : DictEntry} {acc : Gd.Acc} {kd d : D} {ps : List (D × D)} {x v : V} : RelV x e.key → Den K ct H x kd → kyB kd = true → RelV v e.val → Den K ct H v d → DenG K ct H acc ps → DenG K ct H ((nk kd, e) :: acc) ((kd, d) :: ps)
end
section
variable {K : PySem.W.Frag} {ct : CT} {H H' : Hp}
theorem same_seqT {H H' : Hp} {a : Addr} {xs : List V} (e : Same H H') (h : SqT K H a xs) : SqT K H' a xs := by
  rcases h with (h | ⟨o, h⟩) | h
  · exact .inl (.inl (e _ _ h))
  · exact .inl (.inr ⟨o, e _ _ h⟩)
  · exact .inr h
theorem same_rd {H H' : Hp} {a : Addr} {o : HO} (e : Same H H') (h : Rd H a o) : Rd H' a o := by
  rcases h with h | ⟨u, h⟩
  · exact .inl (e _ _ h)
  · exact .inr ⟨u, e _ _ h⟩
mutual
theorem Den.mono (s : Same H H') : ∀ (d : D) (v : V), Den K ct H v d → Den K ct H' v d
  | .non, _, h => by cases h; exact .non
  | .bl b, _, h => by cases h; exact .bl b
  | .int b, _, h => by cases h; exact .int b
  | .str b, _, h => by cases h; exact .str _
  | .tup ds, _, h => by cases h with | tup h1 h2 => exact .tup (same_seqT s h1) (DenAll.mono s ds _ h2)
  | .lst ds, _, h => by cases h with | lst h1 h2 => exact .lst (same_rd s h1) (DenAll.mono s ds _ h2)
  | .dic ps, _, h => by
    cases h with
    | dK h1 h2 => exact .dK (s _ _ h1) (DenK.mono s ps _ h2)
    | dW h1 => exact .dW h1
  | .obj c ds, _, h => by cases h with | obj h1 h2 h3 h4 => exact .obj (s _ _ h1) h2 h3 (DenAll.mono s ds _ h4)
  | .scr ns, _, h => by cases h with | scr h1 => exact .scr (h1.imp (same_rd s) id)
  | .gd ps, _, h => by cases h with | gd h1 h2 => exact .gd (s _ _ h1) (DenG.mono s ps _ h2)
  | .adr a, _, h => by cases h; exact .adr a
theorem DenAll.mono (s : Same H H') : ∀ (ds : List D) (vs : List V), DenAll K ct H vs ds → DenAll K ct H' vs ds
  | [], _, h => by cases h; exact .nil
  | d :: ds, _, h => by cases h with | cons h1 h2 => exact .cons (Den.mono s d _ h1) (DenAll.mono s ds _ h2)
theorem DenK.mono (s : Same H H') : ∀ (ds : List (D × D)) (vs : List (Key × V)), DenK K ct H vs ds → DenK K ct H' vs ds
  | [], _, h => by cases h; exact .nil
  | (a, d) :: ds, _, h => by cases h with | cons h1 h2 => exact .cons (Den.mono s d _ h1) (DenK.mono s ds _ h2)
theorem DenG.mono (s : Same H H') : ∀ (ds : List (D × D)) (vs : Gd.Acc), DenG K ct H vs ds → DenG K ct H' vs ds
  | [], _, h => by cases h; exact .nil
  | (a, d) :: ds, _, h => by cases h with | cons h1 h2 h3 h4 h5 h6 => exact .cons h1 (Den.mono s a _ h2) h3 h4 (Den.mono s d _ h5) (DenG.mono s ds _ h6)
end
mutual
theorem Den.dp : ∀ (d : D) (v : V), Den K ct H v d → d.pln = true → Dp K H v d.py
  | .non, _, h, _ => by cases h; exact .non
  | .bl b, _, h, _ => by cases h; exact .bl b
  | .int b, _, h, _ => by cases h; exact .int b
  | .str b, _, h, _ => by
    cases h with
    | str x =>
      have e : (D.str x.cps.toList).py = .str x := by simp [py]
      rw [e]
      exact .str _
  | .tup ds, _, h, q => by cases h with | tup h1 h2 => exact .tup h1 (DenAll.dp ds _ h2 (by simpa [pln] using q))
  | .lst ds, _, h, q => by cases h with | lst h1 h2 => exact .lst (.inl h1) (DenAll.dp ds _ h2 (by simpa [pln] using q))
  | .dic ps, _, h, q => by simp [pln] at q
  | .obj c ds, _, h, q => by simp [pln] at q
  | .scr ds, _, h, q => by simp [pln] at q
  | .gd ds, _, h, q => by simp [pln] at q
  | .adr a, _, h, q => by simp [pln] at q
theorem DenAll.dp : ∀ (ds : List D) (vs : List V), DenAll K ct H vs ds → plnAll ds = true → DpAll K H vs (pyAll ds)
  | [], _, h, _ => by cases h; exact .nil
  | d :: ds, _, h, q => by
    simp only [plnAll, Bool.and_eq_true] at q
    cases h with | cons h1 h2 => exact .cons (Den.dp d _ h1 q.1) (DenAll.dp ds _ h2 q.2)
end
theorem DenAll.length : ∀ {vs : List V} {ds : List D}, DenAll K ct H vs ds → vs.length = ds.length
  | [], _, h => by cases h; rfl
  | v :: vs, _, h => by cases h with | cons h1 h2 => simp [DenAll.length h2]
theorem DenAll.get : ∀ {vs : List V} {ds : List D} {i : Nat} {d : D}, DenAll K ct H vs ds → ds[i]? = some d → ∃ v, vs[i]? = some v ∧ Den K ct H v d
  | [], _, i, d, h, e => by cases h; simp at e
  | v :: vs, _, 0, d, h, e => by cases h with | cons h1 h2 => simp at e; subst e; exact ⟨v, rfl, h1⟩
  | v :: vs, _, i + 1, d, h, e => by cases h with | cons h1 h2 => exact (DenAll.get (i := i) h2 (by simpa using e)).imp fun w hw => ⟨by simpa using hw.1, hw.2⟩
theorem DenAll.append : ∀ {vs ws : List V} {ds es : List D}, DenAll K ct H vs ds → DenAll K ct H ws es → DenAll K ct H (vs ++ ws) (ds ++ es)
  | [], _, _, _, h, q => by cases h; exact q
  | v :: vs, _, _, _, h, q => by cases h with | cons h1 h2 => exact .cons h1 (DenAll.append h2 q)
theorem DenAll.take : ∀ {vs : List V} {ds : List D} (n : Nat), DenAll K ct H vs ds → DenAll K ct H (vs.take n) (ds.take n)
  | _, _, 0, _ => by simp; exact .nil
  | [], _, n + 1, h => by cases h; exact .nil
  | v :: vs, _, n + 1, h => by cases h with | cons h1 h2 => exact .cons h1 (DenAll.take n h2)
theorem DenAll.drop : ∀ {vs : List V} {ds : List D} (n : Nat), DenAll K ct H vs ds → DenAll K ct H (vs.drop n) (ds.drop n)
  | _, _, 0, h => by simpa using h
  | [], _, n + 1, h => by cases h; exact .nil
  | v :: vs, _, n + 1, h => by cases h with | cons h1 h2 => exact DenAll.drop n h2
theorem DenAll.reverse : ∀ {vs : List V} {ds : List D}, DenAll K ct H vs ds → DenAll K ct H vs.reverse ds.reverse
  | [], _, h => by cases h; exact .nil
  | v :: vs, _, h => by
    cases h with
    | cons h1 h2 =>
      rw [List.reverse_cons, List.reverse_cons]
      exact (DenAll.reverse h2).append (.cons h1 .nil)
mutual
theorem nk_depth : ∀ a : D, a.kb = true → (nk a).depth = a.dep
  | .non, _ | .bl _, _ | .int _, _ | .str _, _ => by simp [nk, NestedKey.depth, dep]
  | .tup xs, h => by simp [nk, NestedKey.depth, dep, nks_depth xs (by simpa [kb] using h)]
  | .lst _, h | .dic _, h | .obj _ _, h | .scr _, h | .gd _, h | .adr _, h => by simp [kb] at h
theorem nks_depth : ∀ a : List D, kbs a = true → NestedKey.depthAll (nks a) = depAll a
  | [], _ => by simp [nks, NestedKey.depthAll, depAll]
  | x :: xs, h => by
    simp only [kbs, Bool.and_eq_true] at h
    simp [nks, NestedKey.depthAll, depAll, nk_depth x h.1, nks_depth xs h.2]
end
mutual
theorem Den.kyV : ∀ (d : D) (v : V), Den K ct H v d → d.kb = true → Gd.KyV K H v (nk d)
  | .non, _, h, _ => by cases h; exact .non
  | .bl b, _, h, _ => by cases h; exact .bl b
  | .int b, _, h, _ => by cases h; exact .int b
  | .str b, _, h, _ => by
    cases h with
    | str x =>
      have e : nk (D.str x.cps.toList) = .text x := by simp [nk]
      rw [e]; exact .str x
  | .tup ds, _, h, q => by cases h with | tup h1 h2 => exact .tup h1 (DenAll.kyVs ds _ h2 (by simpa [kb] using q))
  | .lst _, _, _, q | .dic _, _, _, q | .obj _ _, _, _, q | .scr _, _, _, q | .gd _, _, _, q | .adr _, _, _, q => by simp [kb] at q
theorem DenAll.kyVs : ∀ (ds : List D) (vs : List V), DenAll K ct H vs ds → kbs ds = true → Gd.KyVs K H vs (nks ds)
  | [], _, h, _ => by cases h; exact .nil
  | d :: ds, _, h, q => by
    simp only [kbs, Bool.and_eq_true] at q
    cases h with | cons h1 h2 => exact .cons (Den.kyV d _ h1 q.1) (DenAll.kyVs ds _ h2 q.2)
end
theorem Den.kyD {d : D} {v : V} (h : Den K ct H v d) (q : kyB d = true) : Gd.KyD K H v (nk d) := by
  obtain ⟨q1, q2⟩ := Bool.and_eq_true_iff.mp q
  exact ⟨Den.kyV d v h q1, by rw [nk_depth d q1]; exact of_decide_eq_true q2⟩
theorem beq_dec {α : Type} [BEq α] [LawfulBEq α] [DecidableEq α] (a b : α) : (a == b) = decide (a = b) := by
  by_cases h : a = b <;> simp [h]
mutual
theorem eqD_nk : ∀ a b : D, a.kb = true → b.kb = true → eqD a b = decide (nk a = nk b)
  | .non, b, _, hb => by cases b <;> simp_all [eqD, nk, kb]
  | .bl x, b, _, hb => by cases b <;> simp_all [eqD, nk, kb] <;> (rename_i y; cases x <;> cases y <;> rfl)
  | .int x, b, _, hb => by cases b <;> simp_all [eqD, nk, kb, beq_dec]
  | .str x, b, _, hb => by cases b <;> simp_all [eqD, nk, kb, beq_dec]
  | .tup xs, b, ha, hb => by
    cases b <;> simp_all [eqD, nk, kb]
    rename_i ys
    exact eqAll_nks xs ys ha hb
  | .lst _, _, ha, _ | .dic _, _, ha, _ | .obj _ _, _, ha, _ | .scr _, _, ha, _ | .gd _, _, ha, _ | .adr _, _, ha, _ => by simp [kb] at ha
theorem eqAll_nks : ∀ a b : List D, kbs a = true → kbs b = true → eqAll a b = decide (nks a = nks b)
  | [], b, _, _ => by cases b <;> simp [eqAll, nks]
  | x :: xs, [], _, _ => by simp [eqAll, nks]
  | x :: xs, y :: ys, ha, hb => by
    simp only [kbs, Bool.and_eq_true] at ha hb
    simp [eqAll, nks, eqD_nk x y ha.1 hb.1, eqAll_nks xs ys ha.2 hb.2]
end
end
end Tk
/-! The small language and its interpreter over pure data. -/
namespace Tk
open PySem PySem.Spec PyProof.Rows L2
open D

inductive Res (α : Type) where
  | ok (a : α)
  | exc (c : Nat)
  | bad
namespace Res
def bind {α β : Type} (r : Res α) (f : α → Res β) : Res β := match r with
  | .ok a => f a
  | .exc c => .exc c
  | .bad => .bad
@[simp] theorem bind_ok {α β : Type} (a : α) (f : α → Res β) : (Res.ok a).bind f = f a := rfl
@[simp] theorem bind_exc {α β : Type} (c : Nat) (f : α → Res β) : (Res.exc c : Res α).bind f = .exc c := rfl
@[simp] theorem bind_bad {α β : Type} (f : α → Res β) : (Res.bad : Res α).bind f = .bad := rfl
end Res

inductive Bo where
  | add | sub | mul | mod | fdiv | pow
  deriving DecidableEq
inductive Co where
  | eq | ne | lt | le | gt | ge | isin | notin | isN | notN
  deriving DecidableEq
/-- built-in calls, and methods of built-in types (the receiver first) -/
inductive Bi where
  | len | int | tuple | list | sum | any | all | isi (t : Nat) | listR | min2 | max2 | join | sindex | str1
  | sorted | sortedSet | lenSet | dict | get2 | get1 | getN | getN1 | lindex | tcount | minL | maxL | items | max1 | min1 | scount | sortedStr
  deriving DecidableEq

abbrev En := List (Option D)

mutual
inductive SE where
  | var (i : Nat)
  | con (d : D)
  | tup (es : List SE)
  | lst (es : List SE)
  | bin (op : Bo) (a b : SE)
  | neg (a : SE)
  | nt (a : SE)
  | cmp (op : Co) (a b : SE)
  | cmp2 (op op' : Co) (a b c : SE)
  | an (a b : SE)
  | orr (a b : SE)
  | ite (c a b : SE)
  | ix (a i : SE)
  | sl (a : SE) (lo hi : Option SE)
  | rev (a : SE)
  | call (f : Nat) (es : List SE)
  | bi (b : Bi) (es : List SE)
  | lc (t : List Nat) (one : Bool) (it : SI) (ifs : List SE) (elt : SE)
  | dict (ks : List SE) (vs : List SE)
  | mk (c : Nat) (es : List SE)
  | fld (o : SE) (k : Str)
  | meth (o : SE) (m : Str) (es : List SE)
  | isx (cs : List Nat)
  | me (b : Bi) (o : SE) (es : List SE)
  /-- a dict, updated in a loop -/
  | upl (x : Nat) (it : SI) (e : SE)
inductive SI where
  | of (a : SE)
  | rng (a b : SE)
  | enm (a : SE)
  | zip (a b : SE)
  | rev (a : SE)
end

/-! ### operations on data -/
/-- 2 ^ 24: the longest list or text that is made -/
def big : Nat := 16777216
def okN (n : Nat) : Bool := decide (n ≤ big)
def inR (i : Int) : Bool := decide (-(2 ^ 64) < i) && decide (i < 2 ^ 64)
def repL {α : Type} (xs : List α) (k : Int) : List α := (List.replicate k.toNat xs).flatten
def binD : Bo → D → D → Res D
  | .add, .int i, .int j => .ok (.int (i + j))
  | .add, .str x, .str y => if okN (x.length + y.length) then .ok (.str (x ++ y)) else .bad
  | .add, .lst x, .lst y => if okN (x.length + y.length) then .ok (.lst (x ++ y)) else .bad
  | .add, .tup x, .tup y => if okN (x.length + y.length) then .ok (.tup (x ++ y)) else .bad
  | .sub, .int i, .int j => .ok (.int (i - j))
  | .add, .bl i, .int j => .ok (.int ((if i then 1 else 0) + j))
  | .add, .int i, .bl j => .ok (.int (i + if j then 1 else 0))
  | .sub, .bl i, .int j => .ok (.int ((if i then 1 else 0) - j))
  | .sub, .int i, .bl j => .ok (.int (i - if j then 1 else 0))
  | .mul, .int i, .int j => if inR i || inR j then .ok (.int (i * j)) else .bad
  | .mul, .lst x, .int k => if decide (0 ≤ k) && decide (k < 1000) && decide (x.length < 1000) then .ok (.lst (repL x k)) else .bad
  | .mul, .tup x, .int k => if decide (2 ≤ k) && decide (k ≤ 1000) && decide (x.length ≤ 1000) && !x.isEmpty then .ok (.tup (repL x k)) else .bad
  | .mul, .str x, .int k => if decide (2 ≤ k) && decide (k ≤ 1000) && decide (x.length = 1) then .ok (.str (repL x k)) else .bad
  | .mod, .int i, .int j => if decide (0 < j) then .ok (.int (i % j)) else .bad
  | .fdiv, .int i, .int j => if decide (0 < j) && decide (j < 1073741824) then .ok (.int (i / j)) else .bad
  | .pow, .int i, .int j => if decide (0 ≤ j) && decide (j ≤ 100) && inR i then .ok (.int (i ^ j.toNat)) else .bad
  | _, _, _ => .bad
def D.flat : D → Bool
  | .non => true
  | .bl _ => true
  | .int _ => true
  | .str _ => true
  | _ => false
def anyEq (d : D) (xs : List D) : Bool := xs.any fun z => eqD z d
/-- is the text x within y -/
def subText (x y : List Nat) : Bool := !(Builtin.Str.occurrences ⟨y.toArray⟩ ⟨x.toArray⟩ 0 y.length 1).isEmpty
def isStrKey : D → Bool
  | .str _ => true
  | .int _ => true
  | _ => false
/-- a key that may be looked up: a text; an int where all keys are ints -/
def keyOk (k : D) (ps : List (D × D)) : Bool := match k with
  | .str _ => true
  | .int _ => ps.all fun p => match p.1 with | .int _ => true | _ => false
  | _ => false
def cmpD : Co → D → D → Res D
  | .eq, .scr ns, .lst [] => .ok (.bl ns.isEmpty)
  | .eq, x, y => if x.sh && y.sh then .ok (.bl (eqD x y)) else .bad
  | .ne, x, y => if x.sh && y.sh then .ok (.bl (!eqD x y)) else .bad
  | .lt, .int i, .int j => .ok (.bl (decide (i < j)))
  | .le, .int i, .int j => .ok (.bl (decide (i ≤ j)))
  | .gt, .int i, .int j => .ok (.bl (decide (j < i)))
  | .ge, .int i, .int j => .ok (.bl (decide (j ≤ i)))
  | .lt, .str i, .str j => .ok (.bl (decide (i < j)))
  | .isin, .str x, .str y => .ok (.bl (subText x y))
  | .notin, .str x, .str y => .ok (.bl (!subText x y))
  | .isin, x, .lst ys => if x.sh && (D.lst ys).sh then .ok (.bl (anyEq x ys)) else .bad
  | .notin, x, .lst ys => if x.sh && (D.lst ys).sh then .ok (.bl (!anyEq x ys)) else .bad
  | .isin, x, .tup ys => if x.sh && (D.tup ys).sh then .ok (.bl (anyEq x ys)) else .bad
  | .notin, x, .tup ys => if x.sh && (D.tup ys).sh then .ok (.bl (!anyEq x ys)) else .bad
  | .isin, x, .dic ps => if keyOk x ps then .ok (.bl (ps.any fun p => eqD p.1 x)) else .bad
  | .notin, x, .dic ps => if keyOk x ps then .ok (.bl (!(ps.any fun p => eqD p.1 x))) else .bad
  | .isin, x, .gd ps => if kyB x then .ok (.bl (ps.any fun p => eqD p.1 x)) else .bad
  | .notin, x, .gd ps => if kyB x then .ok (.bl (!(ps.any fun p => eqD p.1 x))) else .bad
  | .isN, x, .non => .ok (.bl (match x with | .non => true | _ => false))
  | .notN, x, .non => .ok (.bl (match x with | .non => false | _ => true))
  | _, _, _ => .bad
def lookD (k : D) : List (D × D) → Option D
  | [] => none
  | p :: ps => if eqD p.1 k then some p.2 else lookD k ps
def ixD : D → D → Res D
  | .lst xs, .int i => match atI xs i with | some d => .ok d | none => .bad
  | .tup xs, .int i => match atI xs i with | some d => .ok d | none => .bad
  | .scr ns, .int i => match atI ns i with | some k => .ok (.int k) | none => .bad
  | .str z, .int i => if okN z.length then (match atI z i with | some c => .ok (.str [c]) | none => .bad) else .bad
  | .dic ps, k => if keyOk k ps then (match lookD k ps with | some d => .ok d | none => .bad) else .bad
  | .gd ps, k => if kyB k then (match lookD k ps with | some d => .ok d | none => .bad) else .bad
  | _, _ => .bad
def cutL {α : Type} (xs : List α) (lo hi : Option Int) : List α := (xs.drop (HT.sIx xs.length 0 lo)).take (HT.sIx xs.length xs.length hi - HT.sIx xs.length 0 lo)
def slD (a : D) (lo hi : Option Int) : Res D := match a with
  | .lst xs => .ok (.lst (cutL xs lo hi))
  | .tup xs => .ok (.tup (cutL xs lo hi))
  | .str z => if okN z.length then .ok (.str (cutL z lo hi)) else .bad
  | _ => .bad
def revD : D → Res D
  | .str z => if okN z.length then .ok (.str z.reverse) else .bad
  | .tup xs => .ok (.tup xs.reverse)
  | .lst xs => .ok (.lst xs.reverse)
  | _ => .bad
def asInt : D → Res Int
  | .int i => .ok i
  | _ => .bad
def asBl : D → Res Bool
  | .bl b => .ok b
  | _ => .bad
def intsO : List D → Option (List Int)
  | [] => some []
  | .int i :: r => (intsO r).map (i :: ·)
  | _ => none
def blsO : List D → Option (List Bool)
  | [] => some []
  | .bl b :: r => (blsO r).map (b :: ·)
  | _ => none
def strsO : List D → Option (List (List Nat))
  | [] => some []
  | .str z :: r => (strsO r).map (z :: ·)
  | _ => none
/-- isinstance: 0 str 1 int 2 bool 3 tuple 4 list -/
def isiD (t : Nat) : D → Res D
  | .non => if t < 5 then .ok (.bl false) else .bad
  | .bl _ => if t < 5 then .ok (.bl (t == 1 || t == 2)) else .bad
  | .int _ => if t < 5 then .ok (.bl (t == 1)) else .bad
  | .str _ => if t < 5 then .ok (.bl (t == 0)) else .bad
  | .tup _ => if t < 5 then .ok (.bl (t == 3)) else .bad
  | .lst _ => if t < 5 then .ok (.bl (t == 4)) else .bad
  | _ => .bad
def rangeL (lo hi : Int) : List D := (List.range (hi - lo).toNat).map fun (k : Nat) => D.int (lo + (k : Int))
def small62 (i : Int) : Bool := decide (-(2 ^ 62) ≤ i) && decide (i < 2 ^ 62)
/-- what a method may be called of -/
def recv : Bi → D → Bool
  | .join, .str [] => true
  | .sindex, .str _ => true
  | .get2, .dic _ => true
  | .get1, .dic _ => true
  | .getN, .gd _ => true
  | .getN1, .gd _ => true
  | .sindex, .lst _ => true
  | _, _ => false
def setD (k d : D) (ps : List (D × D)) : List (D × D) := if ps.any (fun p => eqD p.1 k) then ps.map (fun p => if eqD p.1 k then (p.1, d) else p) else ps ++ [(k, d)]
def mkD (ps acc : List (D × D)) : List (D × D) := ps.foldl (fun acc p => setD p.1 p.2 acc) acc
/-- pairs with a key ahead -/
def pairsO : List D → Option (List (D × D))
  | [] => some []
  | .tup [k, v] :: r => if kyB k then (pairsO r).map ((k, v) :: ·) else none
  | _ => none
/-- ascending, each once -/
def insU {α : Type} (lt : α → α → Bool) (x : α) : List α → List α
  | [] => [x]
  | y :: r => if lt x y then x :: y :: r else if lt y x then y :: insU lt x r else y :: r
def sortU {α : Type} (lt : α → α → Bool) (xs : List α) : List α := xs.foldr (insU lt) []
def ltI (a b : Int) : Bool := decide (a < b)
def ltL : List Int → List Int → Bool
  | [], [] => false
  | [], _ :: _ => true
  | _ :: _, [] => false
  | x :: xs, y :: ys => decide (x < y) || (decide (x = y) && ltL xs ys)
/-- tuples of ints, as long as the first one, no int below 0 -/
def rowsO : List D → Option (List (List Int))
  | [] => some []
  | .tup xs :: r => (match intsO xs, rowsO r with
    | some ns, some rs => some (ns :: rs)
    | _, _ => none)
  | _ => none
def rowsOk (rs : List (List Int)) : Bool := match rs with
  | [] => true
  | r :: _ => !r.isEmpty && rs.all (fun q => q.length == r.length && q.all fun n => decide (0 ≤ n)) && decide (rs.length < 64)
def sortSetD (xs : List D) : Res D := match intsO xs with
  | some ns => if decide (ns.length < 4000) && decide ((sortU ltI ns).length < 64) then .ok (.lst ((sortU ltI ns).map .int)) else .bad
  | none => (match rowsO xs with
    | some rs => if rowsOk rs then .ok (.lst ((sortU ltL rs).map fun r => .tup (r.map .int))) else .bad
    | none => .bad)
def findD (d : D) : List D → Nat → Option Nat
  | [], _ => none
  | x :: xs, k => if eqD x d then some k else findD d xs (k + 1)
def biD : Bi → List D → Res D
  | .len, [.lst xs] => .ok (.int xs.length)
  | .len, [.tup xs] => .ok (.int xs.length)
  | .len, [.scr xs] => .ok (.int xs.length)
  | .len, [.gd ps] => .ok (.int ps.length)
  | .list, [.gd ps] => .ok (.lst (ps.map (·.1)))
  | .dict, [.lst xs] => match pairsO xs with | some ps => .ok (.gd (mkD ps [])) | none => .bad
  | .getN, [.gd ps, k, d] => if kyB k then .ok ((lookD k ps).getD d) else .bad
  | .getN1, [.gd ps, k] => if kyB k then .ok ((lookD k ps).getD .non) else .bad
  | .sortedSet, [.lst xs] => sortSetD xs
  | .sortedSet, [.tup xs] => if (intsO xs).isSome then sortSetD xs else .bad
  | .listR, [.int n] => if decide (0 ≤ n) && decide (n ≤ 1000000) then .ok (.lst (rangeL 0 n)) else .bad
  | .sindex, [.lst xs, d] => if d.sh && (D.lst xs).sh then (match findD d xs 0 with | some k => .ok (.int k) | none => .bad) else .bad
  | .len, [.str xs] => if okN xs.length then .ok (.int xs.length) else .bad
  | .int, [.int i] => .ok (.int i)
  | .int, [.bl b] => .ok (.int (if b then 1 else 0))
  | .tuple, [.lst xs] => .ok (.tup xs)
  | .tuple, [.tup xs] => .ok (.tup xs)
  | .list, [.lst xs] => .ok (.lst xs)
  | .list, [.tup xs] => .ok (.lst xs)
  | .sum, [.lst xs] => match intsO xs with | some ns => .ok (.int ns.sum) | none => .bad
  | .max1, [.lst xs] => match intsO xs with | some ns => (match ns with | n :: r => .ok (.int (r.foldl max n)) | [] => .bad) | none => .bad
  | .min2, [.int i, .int j] => .ok (.int (if j < i then j else i))
  | .lenSet, [.lst xs] => match intsO xs with | some ns => if decide (ns.length < 1000) then .ok (.int (firstMet (fun i => ns.getD i 0) ns.length).length) else .bad | none => .bad
  | .any, [.lst xs] => match blsO xs with | some bs => .ok (.bl (bs.any id)) | none => .bad
  | .all, [.lst xs] => match blsO xs with | some bs => .ok (.bl (bs.all id)) | none => .bad
  | .isi t, [d] => isiD t d
  | .join, [.str [], .lst xs] => match strsO xs with
    | some zs => if okN zs.flatten.length then .ok (.str zs.flatten) else .bad
    | none => .bad
  | .sindex, [.str z, .str c] => match Builtin.Str.occurrences ⟨z.toArray⟩ ⟨c.toArray⟩ 0 z.length 1 with | i :: _ => .ok (.int i) | [] => .bad
  | .get2, [.dic ps, k, d] => if keyOk k ps then .ok ((lookD k ps).getD d) else .bad
  | .get1, [.dic ps, k] => if keyOk k ps then .ok ((lookD k ps).getD .non) else .bad
  | .str1, [.bl b] => .ok (.str (if b then [84, 114, 117, 101] else [70, 97, 108, 115, 101]))
  | .str1, [.int i] => if decide (i.natAbs.log2 < 1920) then .ok (.str (Str.ofString (toString i)).cps.toList) else .bad
  | _, _ => .bad

/-! ### expressions -/
def bindT (t : List Nat) (one : Bool) (d : D) (ρ : En) : Option En := match one, t with
  | true, [i] => some (ρ.set i (some d))
  | false, [i, j] => (match d with
    | .tup [x, y] => some ((ρ.set i (some x)).set j (some y))
    | _ => none)
  | _, _ => none
/-- the turns of a comprehension -/
def compL (f : D → Res (Option D)) : List D → Res (List D)
  | [] => .ok []
  | d :: ds => match f d with
    | .ok o => (match compL f ds with
      | .ok r => .ok (match o with | some x => x :: r | none => r)
      | _ => .bad)
    | _ => .bad
def itemsD : D → Res (List D)
  | .lst xs => .ok xs
  | .tup xs => .ok xs
  | .str z => .ok (z.map fun c => D.str [c])
  | _ => .bad
def itemsG : D → Res (List D)
  | .gd ps => .ok (ps.map (·.1))
  | d => itemsD d
def enumL : Nat → List D → List D
  | _, [] => []
  | k, d :: ds => .tup [.int k, d] :: enumL (k + 1) ds
def zipL : List D → List D → List D
  | x :: xs, y :: ys => .tup [x, y] :: zipL xs ys
  | _, _ => []

/-- what stands around: the defs; the class of the error that is handled -/
structure Ar where
  Φ : Nat → List D → Res D
  Ψ : Nat → Str → Option (List D → Res D)
  fl : Nat → List Str
  hot : Option Nat
  F : Nat
def isTxt : D → Bool
  | .str _ => true
  | _ => false
def txtK (ps : List (D × D)) : Bool := ps.all fun p => isTxt p.1
def updL (f : D → Res D) : List D → List (D × D) → Res D
  | [], acc => .ok (.gd acc)
  | d :: ds, acc => match f d with
    | .ok (.gd qs) => if (txtK qs && txtK acc) && decide (acc.length + qs.length ≤ big) then updL f ds (mkD qs acc) else .bad
    | _ => .bad
def noEx : Res D → Res D
  | .ok d => .ok d
  | _ => .bad
section
variable (A : Ar)
mutual
def ev : SE → En → Res D
  | .var i, ρ => match ρ[i]? with | some (some d) => .ok d | _ => .bad
  | .con d, _ => .ok d
  | .tup es, ρ => (evs es ρ).bind fun ds => .ok (.tup ds)
  | .lst es, ρ => (evs es ρ).bind fun ds => .ok (.lst ds)
  | .bin op a b, ρ => (ev a ρ).bind fun x => (ev b ρ).bind fun y => binD op x y
  | .neg a, ρ => (ev a ρ).bind fun x => (asInt x).bind fun i => .ok (.int (-i))
  | .nt a, ρ => (ev a ρ).bind fun x => (asBl x).bind fun b => .ok (.bl (!b))
  | .cmp op a b, ρ => (ev a ρ).bind fun x => (ev b ρ).bind fun y => cmpD op x y
  | .cmp2 op op' a b c, ρ => (ev a ρ).bind fun x => (ev b ρ).bind fun y => (cmpD op x y).bind fun r => (asBl r).bind fun k =>
      if k then (ev c ρ).bind fun z => cmpD op' y z else .ok (.bl false)
  | .an a b, ρ => (ev a ρ).bind fun x => (asBl x).bind fun k => if k then (ev b ρ).bind fun y => (asBl y).bind fun q => .ok (.bl q) else .ok (.bl false)
  | .orr a b, ρ => (ev a ρ).bind fun x => (asBl x).bind fun k => if k then .ok (.bl true) else (ev b ρ).bind fun y => (asBl y).bind fun q => .ok (.bl q)
  | .ite c a b, ρ => (ev c ρ).bind fun x => (asBl x).bind fun k => if k then ev a ρ else ev b ρ
  | .ix a i, ρ => (ev a ρ).bind fun x => (ev i ρ).bind fun y => ixD x y
  | .sl a lo hi, ρ => (ev a ρ).bind fun x => (evo lo ρ).bind fun l => (evo hi ρ).bind fun h => slD x l h
  | .rev a, ρ => (ev a ρ).bind revD
  | .call f es, ρ => (evs es ρ).bind fun ds => A.Φ f ds
  | .bi b es, ρ => (evs es ρ).bind fun ds => biD b ds
  | .lc t one it ifs elt, ρ => (evi it ρ).bind fun ds => (compL (fun d => match bindT t one d ρ with
      | some ρ' => (evc ifs ρ').bind fun k => if k then (ev elt ρ').bind fun x => .ok (some x) else .ok none
      | none => .bad) ds).bind fun r => if okN r.length then .ok (.lst r) else .bad
  | .dict ks vs, ρ => (evs ks ρ).bind fun xs => (evs vs ρ).bind fun ys => match xs, ys with | [x], [y] => if kyB x then .ok (.gd [(x, y)]) else .bad | _, _ => .bad
  | .mk _ _, _ => .bad
  | .fld o k, ρ => (ev o ρ).bind fun x => match x with
    | .obj c fs => (match (A.fl c).findIdx? (· == k) with
      | some i => (match fs[i]? with | some d => .ok d | none => .bad)
      | none => .bad)
    | _ => .bad
  | .meth o m es, ρ => (noEx (ev o ρ)).bind fun x => match x with
    | .obj c fs => (match A.Ψ c m with
      | some g => (evs es ρ).bind fun ds => noEx (g (.obj c fs :: ds))
      | none => .bad)
    | _ => .bad
  | .me b o es, ρ => (ev o ρ).bind fun x => if recv b x then (evs es ρ).bind fun ds => biD b (x :: ds) else .bad
  | .upl x it e, ρ => (evi it ρ).bind fun ds => updL (fun d => ev e (ρ.set x (some d))) ds []
  | .isx cs, _ => match A.hot with | some c => .ok (.bl (cs.contains c)) | none => .bad
def evs : List SE → En → Res (List D)
  | [], _ => .ok []
  | e :: es, ρ => (ev e ρ).bind fun x => (evs es ρ).bind fun r => .ok (x :: r)
def evo : Option SE → En → Res (Option Int)
  | none, _ => .ok none
  | some e, ρ => (ev e ρ).bind fun x => (asInt x).bind fun i => .ok (some i)
def evc : List SE → En → Res Bool
  | [], _ => .ok true
  | e :: es, ρ => (ev e ρ).bind fun x => (asBl x).bind fun k => if k then evc es ρ else .ok false
def evi : SI → En → Res (List D)
  | .of a, ρ => (ev a ρ).bind itemsG
  | .rng a b, ρ => (ev a ρ).bind fun x => (ev b ρ).bind fun y => (asInt x).bind fun i => (asInt y).bind fun j => if small62 i && small62 j then .ok (rangeL i j) else .bad
  | .enm a, ρ => (ev a ρ).bind fun x => (itemsD x).bind fun ds => .ok (enumL 0 ds)
  | .zip a b, ρ => (ev a ρ).bind fun x => (ev b ρ).bind fun y => (itemsD x).bind fun ds => (itemsD y).bind fun es => .ok (zipL ds es)
  | .rev a, ρ => (ev a ρ).bind fun x => match x with | .lst xs => .ok xs.reverse | .tup xs => .ok xs.reverse | _ => .bad
end
end

/-! ### statements -/
inductive SS where
  | asg (i : Nat) (e : SE)
  | asgF (i : Nat) (e : SE)
  | asgT (t : List Nat) (e : SE)
  | ret (e : SE)
  | retN
  | ifs (c : SE) (a b : List SS)
  | forr (t : List Nat) (one : Bool) (it : SI) (body : List SS)
  | whl (c : SE) (body : List SS)
  | brk
  | pass
  | app (i : Nat) (e : SE)
  | ext (i : Nat) (e : SE)
  | setK (i : Nat) (k e : SE)
  | ex (e : SE)
  | rse (c : Nat)
  | tryS (body : List SS) (cs : List Nat) (i : Option Nat) (suite : List SS)

inductive Fl where
  | nx (ρ : En)
  | rt (d : D)
  | bk (ρ : En)
  | exc (c : Nat) (ρ : En)
  | bad
def Fl.then (r : Fl) (f : En → Fl) : Fl := match r with
  | .nx ρ => f ρ
  | .rt d => .rt d
  | .bk ρ => .bk ρ
  | .exc c ρ => .exc c ρ
  | .bad => .bad
@[simp] theorem Fl.then_nx (ρ : En) (f : En → Fl) : (Fl.nx ρ).then f = f ρ := rfl
@[simp] theorem Fl.then_rt (d : D) (f : En → Fl) : (Fl.rt d).then f = .rt d := rfl
@[simp] theorem Fl.then_bk (ρ : En) (f : En → Fl) : (Fl.bk ρ).then f = .bk ρ := rfl
@[simp] theorem Fl.then_exc (c : Nat) (ρ : En) (f : En → Fl) : (Fl.exc c ρ).then f = .exc c ρ := rfl
@[simp] theorem Fl.then_bad (f : En → Fl) : (Fl.bad).then f = .bad := rfl
def withR {α : Type} (ρ : En) (r : Res α) (f : α → Fl) : Fl := match r with
  | .ok d => f d
  | .exc c => .exc c ρ
  | .bad => .bad
@[simp] theorem withR_ok {α : Type} (ρ : En) (a : α) (f : α → Fl) : withR ρ (.ok a) f = f a := rfl
@[simp] theorem withR_exc {α : Type} (ρ : En) (c : Nat) (f : α → Fl) : withR ρ (.exc c : Res α) f = .exc c ρ := rfl
@[simp] theorem withR_bad {α : Type} (ρ : En) (f : α → Fl) : withR ρ (.bad : Res α) f = .bad := rfl
/-- the turns of a for: f d ρ runs the target's binding and the body -/
def forL (f : D → En → Fl) : List D → En → Fl
  | [], ρ => .nx ρ
  | d :: ds, ρ => match f d ρ with
    | .nx ρ' => forL f ds ρ'
    | .bk ρ' => .nx ρ'
    | .rt d => .rt d
    | .exc c ρ' => .exc c ρ'
    | .bad => .bad
/-- the turns of a while, so many at most -/
def whlL (c : En → Res Bool) (f : En → Fl) : Nat → En → Fl
  | 0, _ => .bad
  | n + 1, ρ => match c ρ with
    | .ok true => (match f ρ with
      | .nx ρ' => whlL c f n ρ'
      | .bk ρ' => .nx ρ'
      | .rt d => .rt d
      | .exc c ρ' => .exc c ρ'
      | .bad => .bad)
    | .ok false => .nx ρ
    | .exc e => .exc e ρ
    | .bad => .bad
/-- an except suite's end: the error's name is gone; nothing may leave it -/
def endS (i : Option Nat) : Fl → Fl
  | .nx ρ => .nx (match i with | some j => ρ.set j none | none => ρ)
  | .rt d => .rt d
  | _ => .bad
mutual
def run1 (A : Ar) : SS → En → Fl
  | .asg i e, ρ => withR ρ (ev A e ρ) fun d => .nx (ρ.set i (some d))
  | .asgF i e, ρ => withR ρ (ev A e ρ) fun d => .nx (ρ.set i (some d))
  | .asgT t e, ρ => withR ρ (ev A e ρ) fun d => match bindT t false d ρ with | some ρ' => .nx ρ' | none => .bad
  | .ret e, ρ => withR ρ (ev A e ρ) fun d => .rt d
  | .retN, _ => .rt .non
  | .ifs c a b, ρ => withR ρ (ev A c ρ) fun x => withR ρ (asBl x) fun k => if k then run A a ρ else run A b ρ
  | .forr t one it body, ρ => withR ρ (evi A it ρ) fun ds => forL (fun d ρ => match bindT t one d ρ with | some ρ' => run A body ρ' | none => .bad) ds ρ
  | .whl c body, ρ => whlL (fun ρ => (ev A c ρ).bind asBl) (fun ρ => run A body ρ) A.F ρ
  | .brk, ρ => .bk ρ
  | .pass, ρ => .nx ρ
  | .app i e, ρ => (match ρ[i]? with
    | some (some (.lst xs)) => withR ρ (ev A e ρ) fun d => if decide (xs.length < big) then .nx (ρ.set i (some (.lst (xs ++ [d])))) else .bad
    | _ => .bad)
  | .ext i e, ρ => (match ρ[i]? with
    | some (some (.lst xs)) => withR ρ (ev A e ρ) fun d => (match d with
      | .lst ys => if okN (xs.length + ys.length) then .nx (ρ.set i (some (.lst (xs ++ ys)))) else .bad
      | _ => .bad)
    | _ => .bad)
  | .setK i k e, ρ => (match ρ[i]? with
    | some (some (.gd ps)) => withR ρ (ev A e ρ) fun d => withR ρ (ev A k ρ) fun kd => if kyB kd && decide (ps.length < big) then .nx (ρ.set i (some (.gd (setD kd d ps)))) else .bad
    | _ => .bad)
  | .ex e, ρ => withR ρ (ev A e ρ) fun _ => .nx ρ
  | .rse c, ρ => .exc c ρ
  | .tryS body cs i suite, ρ => match run A body ρ with
    | .nx ρ' => .nx ρ'
    | .rt d => .rt d
    | .exc c ρ' => if cs.contains c && decide (i.getD 0 < ρ'.length) then endS i (run { A with hot := some c } suite (match i with | some j => ρ'.set j none | none => ρ')) else .bad
    | _ => .bad
def run (A : Ar) : List SS → En → Fl
  | [], ρ => .nx ρ
  | s :: ss, ρ => (run1 A s ρ).then fun ρ' => run A ss ρ'
end
end Tk
/-! zip and enumerate over texts, lists and tuples of any kind. -/
namespace Tk
open PySem PySem.Spec PyProof.Rows L2

/-- what zip and enumerate walk -/
inductive Src where
  | str (x : Str)
  | lst (a : Addr)
  | tup (a : Addr)
def Src.has (K : PySem.W.Frag) : Src → Hp → List V → Prop
  | .str x, _, vs => vs = x.cps.toList.map fun c => V.str ⟨#[c]⟩
  | .lst a, H, vs => SqL K H a vs
  | .tup a, H, vs => SqT K H a vs
def Src.val : Src → V
  | .str x => .str x
  | .lst a => .ref a
  | .tup a => .ref a
def Src.at : Src → Addr → Prop
  | .str _, _ => False
  | .lst a, b => b = a
  | .tup a, b => b = a
/-- its iterator's cell -/
def Src.cell (t : Tok) : Src → Addr → Nat → Heap → Prop
  | .str x, it, i, h => h.IsStrIter it (strIterType x) x t i
  | .lst a, it, i, h => h.IsListIter it a i
  | .tup a, it, i, h => h.IsTupleIter it a i
theorem Src.cell_obj {S : Src} {t : Tok} {it : Addr} {i : Nat} {h : Heap} (c : S.cell t it i h) : ∃ o, h.get? it = some o ∧ ∀ v, o.data ≠ .cell v := by
  cases S with
  | str x => obtain ⟨o, e, _, d⟩ := c; exact ⟨o, e, fun v z => by rw [d] at z; cases z⟩
  | lst a => obtain ⟨o, e, _, d⟩ := c; exact ⟨o, e, fun v z => by rw [d] at z; cases z⟩
  | tup a => obtain ⟨o, e, _, d⟩ := c; exact ⟨o, e, fun v z => by rw [d] at z; cases z⟩
theorem Src.cell_keep {S : Src} {t : Tok} {it : Addr} {i : Nat} {h h' : Heap} (c : S.cell t it i h) (k : ∀ o, h.get? it = some o → h'.get? it = some o) : S.cell t it i h' := by
  cases S with
  | str x => obtain ⟨o, e, r⟩ := c; exact ⟨o, k o e, r⟩
  | lst a => obtain ⟨o, e, r⟩ := c; exact ⟨o, k o e, r⟩
  | tup a => obtain ⟨o, e, r⟩ := c; exact ⟨o, k o e, r⟩
section
variable {X : Cx} {pins : List (Addr × Obj)} {σ : L2.St} {H : Hp} {s : Shared}
theorem Src.inj (I : Inv X pins σ H s) {S : Src} {xs ys : List V} (h1 : S.has X.K H xs) (h2 : S.has X.K H ys) : xs = ys := by
  cases S with
  | str x => exact h1.trans h2.symm
  | lst a => exact I.list_inj h1 h2
  | tup a => exact I.tuple_inj h1 h2
theorem vals_get2 : ∀ {xs : List V} {us : List Value} {i : Nat} {u : Value}, Vals xs us → us[i]? = some u → ∃ x, xs[i]? = some x ∧ RelV x u
  | [], _, i, u, r, h => by cases r; simp at h
  | x :: xs, _, 0, u, r, h => by cases r with | cons r1 r2 => simp at h; subst h; exact ⟨x, rfl, r1⟩
  | x :: xs, _, i + 1, u, r, h => by cases r with | cons r1 r2 => exact (vals_get2 (i := i) r2 (by simpa using h)).imp fun w hw => ⟨by simpa using hw.1, hw.2⟩
theorem Src.draws (I : Inv X pins σ H s) (hc : X.calm = true) {S : Src} {vs : List V} (h : S.has X.K H vs) {t : Tok} {it : Addr} {i : Nat} (st : S.cell t it i s.heap) (hne : ¬ S.at it) :
    ∃ fp P St, Draws X.prog X.w X.A.in1 it fp vs.length P St ∧ St i s.heap ∧ (∀ j u, P j u → ∃ v, vs[j]? = some v ∧ RelV v u) ∧ (∀ j h', St j h' → S.cell t it j h') ∧ it ∈ fp ∧ ∀ b ∈ fp, b = it ∨ S.at b := by
  have hh : X.A.in1.handled = none := I.ok.hd hc
  cases S with
  | str x =>
    have e : vs.length = x.cps.size := by rw [h]; simp
    rw [e]
    refine ⟨_, _, _, Draws.text hh it x t, st, ?_, fun _ _ q => q, by simp, by simp⟩
    rintro j u ⟨c, tk, hcx, rfl⟩
    refine ⟨.str ⟨#[c]⟩, ?_, tk, rfl⟩
    rw [h, List.getElem?_map]
    have : x.cps.toList[j]? = some c := by simpa using hcx
    rw [this]; rfl
  | lst a =>
    obtain ⟨its, rv, p, _⟩ := I.list h
    have e : vs.length = its.toArray.size := by rw [rv.length]; simp
    rw [e]
    refine ⟨_, _, _, Draws.list hh it a (fun q => hne q.symm) its.toArray, ⟨st, p.isList⟩, ?_, fun _ _ q => q.1, by simp, ?_⟩
    · intro j u hu
      have hu : its[j]? = some u := by simpa using hu
      exact vals_get2 rv hu
    · intro b hb
      simpa [Src.at] using hb
  | tup a =>
    obtain ⟨its, rv, p, _⟩ := I.tuple h
    have e : vs.length = its.toArray.size := by rw [rv.length]; simp
    rw [e]
    refine ⟨_, _, _, Draws.tuple hh it a (fun q => hne q.symm) its.toArray, ⟨st, p⟩, ?_, fun _ _ q => q.1, by simp, ?_⟩
    · intro j u hu
      have hu : its[j]? = some u := by simpa using hu
      exact vals_get2 rv hu
    · intro b hb
      simpa [Src.at] using hb
end
theorem zsep {S S2 : Src} {z TI TO i1 i2 : Addr} {fp fp2 : List Addr} (hd : [z, TI, TO, i1, i2].Nodup) (ap : ∀ b ∈ [z, TI, TO, i1, i2], ¬ S.at b ∧ ¬ S2.at b) (m : i1 ∈ fp) (h : ∀ b ∈ fp, b = i1 ∨ S.at b) (m2 : i2 ∈ fp2) (h2 : ∀ b ∈ fp2, b = i2 ∨ S2.at b) : ZipSep2 z TI TO i1 i2 fp fp2 := by
  simp only [List.nodup_cons, List.mem_cons, List.not_mem_nil, or_false, not_or, List.nodup_nil, and_true, not_false_eq_true] at hd
  obtain ⟨⟨a1, a2, a3, a4⟩, ⟨b1, b2, b3⟩, ⟨c1, c2⟩, d1⟩ := hd
  have n1 : ∀ b ∈ [z, TI, TO, i1, i2], b ≠ i1 → b ∉ fp := fun b hb q r => (h b r).elim q (ap b hb).1
  have n2 : ∀ b ∈ [z, TI, TO, i1, i2], b ≠ i2 → b ∉ fp2 := fun b hb q r => (h2 b r).elim q (ap b hb).2
  exact { TIz := Ne.symm a1, TOz := Ne.symm a2, TITO := b1, TIi1 := b2, mem1 := m, zf1 := n1 _ (by simp) a3, Tf1 := n1 _ (by simp) c1, TIi2 := b3, mem2 := m2, zf2 := n2 _ (by simp) a4, Tf2 := n2 _ (by simp) c2, sep1_2 := n2 _ (by simp) d1, sep2_1 := n1 _ (by simp) (Ne.symm d1) }
/-! ### enumerate -/
def ItE (K : PySem.W.Frag) (S : Src) : It :=
  ⟨fun i H => ∃ (xs : List V) (x : V), S.has K H xs ∧ xs[i]? = some x, fun i H v H' => ∃ T x, v = .ref T ∧ H T = none ∧ H' = upd H T (.tup [.int (i : Nat), x]) ∧ ∀ xs, S.has K H xs → xs[i]? = some x, fun i H => ∃ xs : List V, S.has K H xs ∧ xs.length = i⟩
theorem turn_enumS {P : Program} {w : World} {K : PySem.W.Frag} {elts : List Expr} {kk : Nat} {tpos : Pos} (S : Src) (t : Tok) (e it : Addr) (hne : e ≠ it) (ae : ¬ S.at e) (ai : ¬ S.at it) :
    Turn P w K (.Tuple elts kk tpos) (ItE K S) [e, it] e (fun i h => (∃ old, IsEnum h e it ((i : Nat) : Int) old) ∧ S.cell t it i h) where
  mem := by simp
  obj := fun i h st b hb => by
    obtain ⟨⟨old, he⟩, hcell⟩ := st
    have e' : b = e ∨ b = it := by simpa using hb
    rcases e' with z | z
    · rw [z]; exact ⟨_, he, fun v q => nomatch q⟩
    · rw [z]; exact Src.cell_obj hcell
  keep := fun i h h' st k => let ⟨⟨old, he⟩, hi⟩ := st; ⟨⟨old, k e (by simp) _ he⟩, Src.cell_keep hi fun o q => k it (by simp) o q⟩
  item := by
    intro X hP hw hK hc i pins s σ H E I hf st hg
    subst hP hw hK
    obtain ⟨⟨old, he⟩, hit⟩ := st
    obtain ⟨xs, x, hq, hx⟩ := hg
    obtain ⟨fp, P, St, D, hst, hP, hcell, hmem, hfp⟩ := Src.draws I hc hq hit ai
    have hef : e ∉ fp := fun q => by
      rcases hfp e q with z | z
      · exact hne z
      · exact ae z
    have hel : e < s.heap.objs.size := Heap.lt_size he
    have hil : it < s.heap.objs.size := by obtain ⟨o, q, _⟩ := Src.cell_obj hit; exact Heap.lt_size q
    have hi : i < xs.length := by
      have := List.getElem?_eq_some_iff.mp hx
      exact this.1
    refine wpAny_pyNext_enum_itemC D he hst hi hne hef fun u h' tk hPu ho hst' hT hsz hk => ?_
    obtain ⟨x2, hx2, ru⟩ := hP _ _ hPu
    rw [hx] at hx2
    cases hx2
    refine ⟨_, rfl, wpAny_letOwnedTupleGo_enum (s := { s with heap := h', toks := tk + 1 }) ho fun h'' he' sb => ?_⟩
    have hT2 : h''.get? s.heap.objs.size = some { cls := .type "tuple", data := .seq #[.int i tk, u] } := (sb.2 _ (Nat.ne_of_gt hel)).trans hT
    have new : ObjOk X.prog X.w (upd H s.heap.objs.size (.tup [.int (i : Nat), x])) h'' s.heap.objs.size (.tup [.int (i : Nat), x]) :=
      ⟨by show 2 ≤ sizeLine; decide, [.int i tk, u], .cons ⟨_, rfl⟩ (.cons ru .nil), ⟨_, hT2, rfl, _, rfl⟩⟩
    have I1 : Inv X pins σ (upd H s.heap.objs.size (.tup [.int (i : Nat), x])) { s with heap := h'', toks := tk + 1 } :=
      I.turnedNew (ch := [e, it]) (fun b ob hb q => (sb.2 b (fun z => hb (by simp [z]))).trans (hk b ob (fun z => hb (by simp [z])) (fun z => hb (by simp [z])) q)) hf (Nat.le_refl _) new
    refine ⟨.ref s.heap.objs.size, _, I1, rfl, ⟨_, x, rfl, I.hok.fresh (Nat.le_refl _), rfl, fun ys hy => by rw [Src.inj I hy hq]; exact hx⟩, ⟨⟨u, ?_⟩, Src.cell_keep (hcell _ _ hst') fun o q => (sb.2 it (Ne.symm hne)).trans q⟩, fun b hb => ?_⟩
    · have e1 : ((i + 1 : Nat) : Int) = (i : Int) + 1 := by omega
      rw [e1]; exact he'
    · have hb' : b < s.heap.objs.size := by
        have e' : b = e ∨ b = it := by simpa using hb
        rcases e' with z | z
        · rw [z]; exact hel
        · rw [z]; exact hil
      rw [upd_ne (Nat.ne_of_lt hb')]
      exact (hf b hb).1
  done := by
    intro X hP hw hK hc i pins s σ H E I hf st hg
    subst hP hw hK
    obtain ⟨⟨old, he⟩, hit⟩ := st
    obtain ⟨xs, hq, hx⟩ := hg
    obtain ⟨fp, P, St, D, hst, hP, hcell, hmem, hfp⟩ := Src.draws I hc hq hit ai
    subst hx
    exact wpAny_pyNext_enum_endD D he hst fun h' eb => ⟨rfl, I.turnedL (t' := s.toks) (ch := [e, it]) (fun b o hb q => eb b o (fun z => hb (by simp [z])) q) hf⟩
  self := fun A i s Q E st h => let ⟨⟨_, he⟩, _⟩ := st; wpAny_pyIter_enum he h
/-! ### zip -/
def ItZ (K : PySem.W.Frag) (S S2 : Src) : It :=
  ⟨fun i H => ∃ (xs ys : List V) (x y : V), S.has K H xs ∧ S2.has K H ys ∧ xs[i]? = some x ∧ ys[i]? = some y,
    fun i H v H' => ∃ T x y, v = .ref T ∧ H T = none ∧ H' = upd H T (.tup [x, y]) ∧ (∀ xs, S.has K H xs → xs[i]? = some x) ∧ ∀ ys, S2.has K H ys → ys[i]? = some y,
    fun i H => ∃ xs ys : List V, S.has K H xs ∧ S2.has K H ys ∧ min xs.length ys.length = i⟩
theorem turn_zipS {P : Program} {w : World} {K : PySem.W.Frag} {elts : List Expr} {kk : Nat} {tpos : Pos} (S S2 : Src) (t t2 : Tok) (z TI TO i1 i2 : Addr) (hd : [z, TI, TO, i1, i2].Nodup) (ap : ∀ b ∈ [z, TI, TO, i1, i2], ¬ S.at b ∧ ¬ S2.at b) :
    Turn P w K (.Tuple elts kk tpos) (ItZ K S S2) [z, TI, TO, i1, i2] z (fun i h => IsZip h z TI TO .none ∧ IsTupOf2 h TI (.ref i1) (.ref i2) ∧ (∃ x y, IsTupOf2 h TO x y) ∧ S.cell t i1 i h ∧ S2.cell t2 i2 i h) where
  mem := by simp
  obj := fun i h st c hc => by
    obtain ⟨hz, hTI, ⟨x, y, hTO⟩, h1, h2⟩ := st
    have e' : c = z ∨ c = TI ∨ c = TO ∨ c = i1 ∨ c = i2 := by simpa using hc
    rcases e' with q | q | q | q | q
    · rw [q]; exact ⟨_, hz, fun v q => nomatch q⟩
    · rw [q]; exact ⟨_, hTI, fun v q => nomatch q⟩
    · rw [q]; exact ⟨_, hTO, fun v q => nomatch q⟩
    · rw [q]; exact Src.cell_obj h1
    · rw [q]; exact Src.cell_obj h2
  keep := fun i h h' st k => by
    obtain ⟨hz, hTI, ⟨x, y, hTO⟩, h1, h2⟩ := st
    exact ⟨k z (by simp) _ hz, k TI (by simp) _ hTI, ⟨x, y, k TO (by simp) _ hTO⟩, Src.cell_keep h1 fun o q => k i1 (by simp) o q, Src.cell_keep h2 fun o q => k i2 (by simp) o q⟩
  item := by
    intro X hP hw hK hc i pins s σ H E I hf st hg
    subst hP hw hK
    obtain ⟨hz, hTI, ⟨x0, y0, hTO⟩, h1, h2⟩ := st
    obtain ⟨xs, ys, x, y, hqx, hqy, hx, hy⟩ := hg
    obtain ⟨fp, P, St, D, hst, hP, hcell, hmem, hfp⟩ := Src.draws I hc hqx h1 (ap i1 (by simp)).1
    obtain ⟨fp2, P2, St2, D2, hst2, hP2, hcell2, hmem2, hfp2⟩ := Src.draws I hc hqy h2 (ap i2 (by simp)).2
    have sep := zsep hd ap hmem hfp hmem2 hfp2
    have hzl : z < s.heap.objs.size := Heap.lt_size hz
    simp only [List.nodup_cons, List.mem_cons, List.not_mem_nil, or_false, not_or, List.nodup_nil, and_true, not_false_eq_true] at hd
    have hi : i < xs.length := (List.getElem?_eq_some_iff.mp hx).1
    have hi2 : i < ys.length := (List.getElem?_eq_some_iff.mp hy).1
    refine wpAny_pyNext_zipD2_item sep D D2 hz hTI hTO hst hst2 hi hi2 fun u u2 h' tk hu hu2 z' TO' h1' h2' hT hsz hk => ?_
    obtain ⟨x2, hx2, ru⟩ := hP _ _ hu
    rw [hx] at hx2
    cases hx2
    obtain ⟨y2, hy2, ru2⟩ := hP2 _ _ hu2
    rw [hy] at hy2
    cases hy2
    refine ⟨_, rfl, wpAny_letOwnedTupleGo_zip (s := { s with heap := h', toks := tk }) z' fun h'' z'' sb => ?_⟩
    have hT2 : h''.get? s.heap.objs.size = some { cls := .type "tuple", data := .seq #[u, u2] } := (sb.2 _ (Nat.ne_of_gt hzl)).trans hT
    have new : ObjOk X.prog X.w (upd H s.heap.objs.size (.tup [x, y])) h'' s.heap.objs.size (.tup [x, y]) :=
      ⟨by show 2 ≤ sizeLine; decide, [u, u2], .cons ru (.cons ru2 .nil), ⟨_, hT2, rfl, _, rfl⟩⟩
    have I1 : Inv X pins σ (upd H s.heap.objs.size (.tup [x, y])) { s with heap := h'', toks := tk } :=
      I.turnedNew (t' := tk) (ch := [z, TI, TO, i1, i2]) (fun c o hb q => (sb.2 c (fun q' => hb (by simp [q']))).trans (hk c o (fun q' => hb (by simp [q'])) (fun q' => hb (by simp [q'])) (fun q' => hb (by simp [q'])) (fun q' => hb (by simp [q'])) q)) hf (Nat.le_refl _) new
    refine ⟨.ref s.heap.objs.size, _, I1, rfl, ⟨_, x, y, rfl, I.hok.fresh (Nat.le_refl _), rfl, fun l hl => by rw [Src.inj I hl hqx]; exact hx, fun l hl => by rw [Src.inj I hl hqy]; exact hy⟩, ⟨z'', ?_, ⟨u, u2, ?_⟩, ?_, ?_⟩, fun c hcm => ?_⟩
    · exact (sb.2 _ (fun q => hd.1.1 q.symm)).trans (hk _ _ sep.TIz sep.TITO sep.TIi1 sep.TIi2 hTI)
    · exact (sb.2 _ sep.TOz).trans TO'
    · exact Src.cell_keep (hcell _ _ h1') fun o q => (sb.2 _ (fun q => hd.1.2.2.1 q.symm)).trans q
    · exact Src.cell_keep (hcell2 _ _ h2') fun o q => (sb.2 _ (fun q => hd.1.2.2.2 q.symm)).trans q
    · have hlt : c < s.heap.objs.size := by
        have e' : c = z ∨ c = TI ∨ c = TO ∨ c = i1 ∨ c = i2 := by simpa using hcm
        rcases e' with q | q | q | q | q
        · rw [q]; exact hzl
        · rw [q]; exact Heap.lt_size hTI
        · rw [q]; exact Heap.lt_size hTO
        · rw [q]; obtain ⟨_, e1, _⟩ := Src.cell_obj h1; exact Heap.lt_size e1
        · rw [q]; obtain ⟨_, e2, _⟩ := Src.cell_obj h2; exact Heap.lt_size e2
      rw [upd_ne (Nat.ne_of_lt hlt)]
      exact (hf c hcm).1
  done := by
    intro X hP hw hK hc i pins s σ H E I hf st hg
    subst hP hw hK
    obtain ⟨hz, hTI, ⟨x0, y0, hTO⟩, h1, h2⟩ := st
    obtain ⟨xs, ys, hqx, hqy, hend⟩ := hg
    obtain ⟨fp, P, St, D, hst, hP, hcell, hmem, hfp⟩ := Src.draws I hc hqx h1 (ap i1 (by simp)).1
    obtain ⟨fp2, P2, St2, D2, hst2, hP2, hcell2, hmem2, hfp2⟩ := Src.draws I hc hqy h2 (ap i2 (by simp)).2
    have sep := zsep hd ap hmem hfp hmem2 hfp2
    exact wpAny_pyNext_zipD2_end sep D D2 hz hTI hTO hst hst2 (by omega) (by omega) (by omega) fun h' tk hk => ⟨rfl, I.turnedL (t' := tk) (ch := [z, TI, TO, i1, i2]) (fun c o hb q =>
      hk c o (fun q' => hb (by simp [q'])) (fun q' => hb (by simp [q'])) (fun q' => hb (by simp [q'])) (fun q' => hb (by simp [q'])) q) hf⟩
  self := fun A i s Q E st h => wpAny_pyIter_zip st.1 h
/-! ### they begin -/
theorem Src.begins {X : Cx} {pins : List (Addr × Obj)} {σ : L2.St} {H : Hp} {s : Shared} (I : Inv X pins σ H s) {S : Src} {vs : List V} (h : S.has X.K H vs) {u : Value} (r : RelV S.val u) :
    ∃ (o : Obj) (Hh : Heap → Prop) (t : Tok), Begins u o Hh ∧ Hh s.heap ∧ (∀ (h' : Heap) (it : Addr), h'.get? it = some o → S.cell t it 0 h') ∧ ∀ b, S.at b → b < s.heap.objs.size := by
  cases S with
  | str x =>
    obtain ⟨t, rfl⟩ := r
    exact ⟨_, _, t, begins_text x t, trivial, fun h' it e => ⟨_, e, rfl, rfl⟩, fun b q => q.elim⟩
  | lst a =>
    cases r
    obtain ⟨its, rv, p, _⟩ := I.list h
    refine ⟨_, _, 0, begins_list a its.toArray, p.isList, fun h' it e => ⟨_, e, rfl, rfl⟩, fun b q => ?_⟩
    obtain ⟨o, e, _⟩ := p.isList
    cases q
    exact Heap.lt_size e
  | tup a =>
    cases r
    obtain ⟨its, rv, p, _⟩ := I.tuple h
    refine ⟨_, _, 0, begins_tuple a its.toArray, p, fun h' it e => ⟨_, e, rfl, rfl⟩, fun b q => ?_⟩
    obtain ⟨o, e, _⟩ := p
    cases q
    exact Heap.lt_size e
theorem meets_enum1 {v : Value} {o : Obj} {H : Heap → Prop} (B : Begins v o H) :
    Meets (Builtin.«enumerate.__new__» ⟨[.type "enumerate", v], []⟩) (fun _ R s => H s.heap ∧
      R (.ok (.ret (.ref (s.heap.push o).objs.size))) { s with heap := (s.heap.push o).push { cls := .type "enumerate", data := .fields #[.none, .bool false, .ref s.heap.objs.size, rawInt 0, .none, .none] } }) :=
  .of_wp fun prog w A R s h => by
    obtain ⟨hp, g, d, tk, os⟩ := s; obtain ⟨h1, h⟩ := h
    have hsub := sub_enumerate
    have q1 : ∀ {A' : Around} {E : Value → Shared → Prop} {Q : Value → Shared → Prop}, Q (.ref hp.objs.size) ⟨hp.push o, g, d, tk, os⟩ → wpAny (model prog w) A' (pyIter v) Q E ⟨hp, g, d, tk, os⟩ :=
      fun q => B.iter prog w _ _ ⟨hp, g, d, tk, os⟩ _ h1 q
    wp_walk using q1
    refine wpAny_stack_any fun st => wpAny_pure ?_
    split
    · rename_i c _ _ _ _ _
      cases (c == Value.type "enumerate")
      · wp_walk using q1
        exact ⟨_, rfl, h⟩
      · wp_walk using q1
        exact ⟨_, rfl, h⟩
    · wp_walk using q1
      exact ⟨_, rfl, h⟩
theorem enum1_begins {prog : Program} {w : World} {A : Around} {E : Value → Shared → Prop} {s : Shared} {v : Value} {o : Obj} {H : Heap → Prop} {Q : Value → Shared → Prop} (B : Begins v o H) (h1 : H s.heap)
    (h : ∀ h', IsEnum h' (s.heap.objs.size + 1) s.heap.objs.size 0 .none → h'.get? s.heap.objs.size = some o → h'.objs.size = s.heap.objs.size + 2 →
      (∀ b o, s.heap.get? b = some o → h'.get? b = some o) → Q (.ref (s.heap.objs.size + 1)) { s with heap := h' }) :
    wpAny (model prog w) A (call (.type "enumerate") [v]) Q E s := by
  refine callType_new F.called_enumerate (by decide) (F.typeCall_enumerate_1 _) (F.newCall_enumerate_1 _) (fun obj => F.args_object_init_2 obj _) F.entry_enumerate_new
    (meets_enum1 B) ⟨h1, ?_⟩
  have hz : (s.heap.push o).objs.size = s.heap.objs.size + 1 := Heap.size_push ..
  show _ ∧ _
  rw [hz]
  have he : IsEnum ((s.heap.push o).push { cls := .type "enumerate", data := .fields #[.none, .bool false, .ref s.heap.objs.size, rawInt 0, .none, .none] }) (s.heap.objs.size + 1) s.heap.objs.size 0 .none := by
    have := Heap.get?_push_size (s.heap.push o) (o := { cls := .type "enumerate", data := .fields #[.none, .bool false, .ref s.heap.objs.size, rawInt 0, .none, .none] }) rfl
    rw [hz] at this; exact this
  refine ⟨⟨_, he, rfl⟩, h _ he (Heap.get?_push_of_some _ (Heap.get?_push_size _ B.free)) (by rw [Heap.size_push, hz]) fun b o x => Heap.get?_push_of_some _ (Heap.get?_push_of_some _ x)⟩
def iEnumS (K : PySem.W.Frag) (ta : TA) : TI := fun σ H R => ta σ H fun vs H1 => ∃ S xs, vs = [S.val] ∧ S.has K H1 xs ∧ R (ItE K S) H1
theorem pi_enumS {X : Cx} {e : Expr} {ta : TA} {p pos tpos : Pos} {elts : List Expr} {kk : Nat} (hg : Gl X "enumerate") (hm : X.mg "enumerate" = none) (ha : PA X [e] ta) (hs : starEach [e] X.env = [(false, eval e X.env)] := by rfl) :
    PI X (.Tuple elts kk tpos) (.Call (.Name "enumerate" p) [e] [] pos) (iEnumS X.K ta) := by
  refine ⟨fun pins s σ H R I h => ?_⟩
  refine Call_ (ld_blt I hg hm boot_enumerate (PyProof.Rows.callWith_type1 (thn (ha.run pos pins s σ H _ I h) fun us s1 ⟨vs, H1, I1, r1, q1⟩ => ?_) hs rfl))
  obtain ⟨S, xs, ex, hq, q⟩ := q1
  subst ex
  cases r1 with
  | cons r rr =>
    cases rr
    obtain ⟨o, Hh, t, B, hB, hcell, hlt⟩ := Src.begins I1 hq r
    refine enum1_begins B hB fun h' he hit hsz hk => wpAny_pyIter_enum he ?_
    have I2 : Inv X pins σ H1 { s1 with heap := h' } := I1.kept (t' := s1.toks) hk
    refine ⟨s1.heap.objs.size + 1, [s1.heap.objs.size + 1, s1.heap.objs.size], _, _, H1, rfl, I2, turn_enumS S t (s1.heap.objs.size + 1) s1.heap.objs.size (Nat.succ_ne_self _) (fun z => absurd (hlt _ z) (by show ¬ (s1.heap.objs.size + 1 < s1.heap.objs.size); omega)) (fun z => absurd (hlt _ z) (Nat.lt_irrefl _)), ⟨⟨.none, he⟩, hcell _ _ hit⟩, fun b hb => ?_, q⟩
    have e' : b = s1.heap.objs.size + 1 ∨ b = s1.heap.objs.size := by simpa using hb
    have hle : s1.heap.objs.size ≤ b := by
      rcases e' with z | z
      · rw [z]; exact Nat.le_add_right _ _
      · rw [z]; exact Nat.le_refl _
    exact I1.fpOk hle (I1.hok.fresh hle)
def iZipS (K : PySem.W.Frag) (ta : TA) : TI := fun σ H R => ta σ H fun vs H1 => ∃ S S2 xs ys, vs = [S.val, S2.val] ∧ S.has K H1 xs ∧ S2.has K H1 ys ∧ R (ItZ K S S2) H1
theorem pi_zipS {X : Cx} {e e2 : Expr} {ta : TA} {p pos tpos : Pos} {elts : List Expr} {kk : Nat} (hg : Gl X "zip") (hm : X.mg "zip" = none) (ha : PA X [e, e2] ta)
    (hs : starEach [e, e2] X.env = (false, eval e X.env) :: starEach [e2] X.env := by rfl) (hpl : (backTo pos (starEach [e2] X.env)).any (·.1) = false := by rfl) :
    PI X (.Tuple elts kk tpos) (.Call (.Name "zip" p) [e, e2] [] pos) (iZipS X.K ta) := by
  refine ⟨fun pins s σ H R I h => ?_⟩
  refine Call_ (ld_blt I hg hm PyProof.Rows.boot_zip (PyProof.Rows.callWith_type1 (thn (ha.run pos pins s σ H _ I h) fun us s1 ⟨vs, H1, I1, r1, q1⟩ => ?_) hs hpl))
  obtain ⟨S, S2, xs, ys, ex, hqx, hqy, q⟩ := q1
  subst ex
  cases r1 with
  | cons r rr =>
    cases rr with
    | cons r' rr =>
      cases rr
      obtain ⟨o, Hh, t, B, hB, hcell, hlt⟩ := Src.begins I1 hqx r
      obtain ⟨o2, Hh2, t2, B2, hB2, hcell2, hlt2⟩ := Src.begins I1 hqy r'
      have ge5 : ∀ c, c ∈ [s1.heap.objs.size + 4, s1.heap.objs.size + 2, s1.heap.objs.size + 3, s1.heap.objs.size, s1.heap.objs.size + 1] → s1.heap.objs.size ≤ c := fun c hcm => by
        have e' : c = s1.heap.objs.size + 4 ∨ c = s1.heap.objs.size + 2 ∨ c = s1.heap.objs.size + 3 ∨ c = s1.heap.objs.size ∨ c = s1.heap.objs.size + 1 := by simpa using hcm
        rcases e' with z | z | z | z | z
        · rw [z]; exact Nat.le_add_right _ _
        · rw [z]; exact Nat.le_add_right _ _
        · rw [z]; exact Nat.le_add_right _ _
        · rw [z]; exact Nat.le_refl _
        · rw [z]; exact Nat.le_add_right _ _
      refine zip_begins2 B B2 hB hB2 fun h' hz hTI hTO h1 h2 hsz hk => wpAny_pyIter_zip hz ?_
      have I2 : Inv X pins σ H1 { s1 with heap := h' } := I1.kept (t' := s1.toks) hk
      refine ⟨s1.heap.objs.size + 4, [s1.heap.objs.size + 4, s1.heap.objs.size + 2, s1.heap.objs.size + 3, s1.heap.objs.size, s1.heap.objs.size + 1], _, _, H1, rfl, I2,
        turn_zipS S S2 t t2 _ _ _ _ _ (by simp) (fun b hb => ⟨fun z => absurd (Nat.lt_of_le_of_lt (ge5 b hb) (hlt _ z)) (Nat.lt_irrefl _), fun z => absurd (Nat.lt_of_le_of_lt (ge5 b hb) (hlt2 _ z)) (Nat.lt_irrefl _)⟩),
        ⟨hz, hTI, ⟨.none, .none, hTO⟩, hcell _ _ h1, hcell2 _ _ h2⟩, fun b hb => ?_, q⟩
      exact I1.fpOk (ge5 b hb) (I1.hok.fresh (ge5 b hb))
end Tk
/-! zip whose pairs are kept under one name. -/
namespace Tk
open PySem PySem.Spec PyProof.Rows L2
/-- a zip at any turn: m tells of the pair it gave last -/
abbrev ZM (h : Heap) (z TI TO : Addr) (m : Value) (f : Bool) : Prop :=
  h.get? z = some { cls := .type "zip", dict := none, data := .fields #[m, .bool f, .bool false, .ref TI, .ref TO], slots := #[] }
def MarkOk (m : Value) : Prop := m = .none ∨ ∃ T : Nat, m = rawInt (T : Int)
section
variable {prog : Program} {w : World} {A : Around} {E : Value → Shared → Prop} {s : Shared} {z TI TO i1 i2 : Addr} {fp1 fp2 : List Addr} {n1 n2 i : Nat} {P1 P2 : Nat → Value → Prop} {St1 St2 : Nat → Heap → Prop} {a1 a2 m : Value} {f : Bool}
theorem look_alive {a : Addr} {Q : Option Obj → Shared → Prop} (h : Q (s.heap.get? a) s) : wpAny (model prog w) A (loadIfAlive a) Q E s := fun _ _ _ => h
/-- whether the last pair is gone: either answer may come -/
theorem mark_any {Q : Bool → Shared → Prop} (hm : MarkOk m) (hz : ZM s.heap z TI TO m f) (yes : Q true s) (no : ∀ h', ZM h' z TI TO m true → Heap.SameBut z s.heap h' → Q false { s with heap := h' }) :
    wpAny (model prog w) A (Builtin.SmallTypes.ownedTupleIsFree (.ref z)) Q E s := by
  rcases hm with rfl | ⟨T, rfl⟩
  · exact wpAny_bind (wpAny_field hz rfl (x := .none) rfl (wpAny_pure yes))
  · cases q : s.heap.get? T with
    | some oT => exact wpAny_tupleHeld_zip hz q no
    | none =>
      refine wpAny_bind (wpAny_field hz rfl (x := rawInt T) rfl ?_)
      show wpAny _ _ (loadIfAlive ((T : Int).toNat) >>= _) _ _ _
      rw [Int.toNat_natCast]
      refine wpAny_bind (look_alive ?_)
      rw [q]
      exact wpAny_pure yes
/-- what one more pair leaves -/
def Gave (z TI TO i1 i2 : Addr) (i : Nat) (P1 P2 : Nat → Value → Prop) (St1 St2 : Nat → Heap → Prop) (h h' : Heap) : Prop :=
  (∃ m f, MarkOk m ∧ ZM h' z TI TO m f) ∧ (∃ a b, IsTupOf2 h' TO a b) ∧ St1 (i + 1) h' ∧ St2 (i + 1) h' ∧ (∃ x y, P1 i x ∧ P2 i y ∧ IsTupOf2 h' h.objs.size x y) ∧
    ∀ c o, c ≠ z → c ≠ TO → c ≠ i1 → c ≠ i2 → h.get? c = some o → h'.get? c = some o
theorem zipM_item {Q : Value → Shared → Prop} (S : ZipSep2 z TI TO i1 i2 fp1 fp2) (D1 : Draws prog w A i1 fp1 n1 P1 St1) (D2 : Draws prog w A i2 fp2 n2 P2 St2) (hm : MarkOk m)
    (hz : ZM s.heap z TI TO m f) (hTI : IsTupOf2 s.heap TI (.ref i1) (.ref i2)) (hTO : IsTupOf2 s.heap TO a1 a2) (st1 : St1 i s.heap) (st2 : St2 i s.heap) (l1 : i < n1) (l2 : i < n2)
    (hQ : ∀ h' tk, Gave z TI TO i1 i2 i P1 P2 St1 St2 s.heap h' → Q (.ref s.heap.objs.size) { s with heap := h', toks := tk }) :
    wpAny (model prog w) A (Builtin.«zip.__next__» ⟨[.ref z], []⟩) (fun fin s' => ∃ v, fin = .done (.ret v) ∧ Q v s') E s := by
  obtain ⟨hp, g, d, tk0, os⟩ := s
  change wpAny _ _ (field (.ref z) 2 >>= _) _ _ _
  refine wpAny_bind (wpAny_field hz rfl (x := .bool false) rfl ?_)
  change wpAny _ _ (field (.ref z) 3 >>= _) _ _ _
  refine wpAny_bind (wpAny_field hz rfl (x := .ref TI) rfl (wpAny_bind (wpAny_seqItems hTI rfl ?_)))
  change wpAny _ _ (Builtin.SmallTypes.ownedTupleIsFree (.ref z) >>= _) _ _ _
  refine wpAny_bind (mark_any hm hz ?_ fun h₁ hz₁ k₁ => ?_)
  · -- the pair is made in the kept tuple
    simp only [if_true]
    refine wpAny_bind (wpAny_rule (wpAny_bind (wpAny_field hz rfl (x := .ref TO) rfl (wpAny_bind (wpAny_setField_rec hz (by simp) fun g0 z0 k0 => wpAny_bind ?_)))))
    have z0 : ZM g0 z TI TO .ellipsis f := z0
    have k0 : Heap.SameBut z hp g0 := k0
    simp only [List.zipIdx_cons, List.zipIdx_nil, List.forIn_cons, List.forIn_nil]
    refine wpAny_bind (wpAny_bind (wpAny_onRaise ?_))
    change wpAny _ _ (Builtin.SmallTypes.nextOf (.ref i1) >>= _) _ _ _
    refine wpAny_bind (D1.item i ⟨g0, g, d, tk0, os⟩ _ _ l1 (D1.over st1 k0 S.zf1) fun x p1 t1 hx d1 k1 => wpAny_pure ?_)
    have k1 : Heap.SameBut i1 g0 p1 := k1
    have T1 : IsTupOf2 p1 TO a1 a2 := k1.extBut _ _ S.Ti1 (k0.extBut _ _ S.TOz hTO)
    refine wpAny_bind (wpAny_seqItems (s := ⟨p1, g, d, t1, os⟩) T1 rfl (wpAny_bind (updateSeq_IsTupOf2 (s := ⟨p1, g, d, t1, os⟩) T1 fun g1 T2 k2 => wpAny_bind (wpAny_letGo (wpAny_pure ?_)))))
    have T2 : IsTupOf2 g1 TO x a2 := T2
    have k2 : Heap.SameBut TO p1 g1 := k2
    refine wpAny_bind (wpAny_bind (wpAny_onRaise ?_))
    change wpAny _ _ (Builtin.SmallTypes.nextOf (.ref i2) >>= _) _ _ _
    refine wpAny_bind (D2.item i ⟨g1, g, d, t1, os⟩ _ _ l2 (D2.over (D2.over (D2.over st2 k0 S.zf2) k1 S.sep1_2) k2 S.Tf2) fun y p2 t2 hy d2 k3 => wpAny_pure ?_)
    have k3 : Heap.SameBut i2 g1 p2 := k3
    have T3 : IsTupOf2 p2 TO x a2 := k3.extBut _ _ S.Ti2 T2
    refine wpAny_bind (wpAny_seqItems (s := ⟨p2, g, d, t2, os⟩) T3 rfl (wpAny_bind (updateSeq_IsTupOf2 (s := ⟨p2, g, d, t2, os⟩) T3 fun g2 T4 k4 => wpAny_bind (wpAny_letGo (wpAny_pure (wpAny_pure ?_))))))
    have T4 : IsTupOf2 g2 TO x y := T4
    have k4 : Heap.SameBut TO p2 g2 := k4
    refine wpAny_bind (wpAny_seqItems (s := ⟨g2, g, d, t2, os⟩) T4 rfl (wpAny_bind (wpAny_newTuple ?_)))
    have sz : g2.objs.size = hp.objs.size := by rw [k4.1, k3.1, k2.1, k1.1, k0.1]
    have zz : ZM g2 z TI TO .ellipsis f := k4.extBut _ _ S.TOz.symm (k3.extBut _ _ S.zi2 (k2.extBut _ _ S.TOz.symm (k1.extBut _ _ S.zi1 z0)))
    have zl : z < g2.objs.size := Heap.lt_size zz
    have e1 : St1 (i + 1) g2 := D1.over (D1.over (D1.over d1 k2 S.Tf1) k3 S.sep2_1) k4 S.Tf1
    have e2 : St2 (i + 1) g2 := D2.over d2 k4 S.Tf2
    refine wpAny_bind ?_
    unfold Builtin.SmallTypes.ownedTupleHandOut
    have zp : ZM (g2.push { cls := .type "tuple", data := .seq #[x, y] }) z TI TO .ellipsis f := Heap.get?_push_of_some _ zz
    refine wpAny_bind (wpAny_setField_rec (s := ⟨_, g, d, t2, os⟩) zp (by simp) fun h7 z7 k7 => ?_)
    have z7 : ZM h7 z TI TO (rawInt (g2.objs.size : Int)) f := z7
    have k7 : Heap.SameBut z (g2.push { cls := .type "tuple", data := .seq #[x, y] }) h7 := k7
    refine wpAny_setField_rec (s := ⟨h7, g, d, t2, os⟩) z7 (by simp) fun h8 z8 k8 => wpAny_pure ⟨_, rfl, ?_⟩
    have z8 : ZM h8 z TI TO (rawInt (g2.objs.size : Int)) false := z8
    have k8 : Heap.SameBut z h7 h8 := k8
    have up : ∀ c o, c ≠ z → g2.get? c = some o → h8.get? c = some o := fun c o n q => k8.extBut _ _ n (k7.extBut _ _ n (Heap.get?_push_of_some _ q))
    have Tn : IsTupOf2 h8 g2.objs.size x y := k8.extBut _ _ (Nat.ne_of_gt zl) (k7.extBut _ _ (Nat.ne_of_gt zl) (Heap.get?_push_size _ rfl))
    show Q (.ref g2.objs.size) ⟨h8, g, d, t2, os⟩
    rw [sz] at Tn ⊢
    exact hQ h8 t2 ⟨⟨_, _, .inr ⟨_, rfl⟩, z8⟩, ⟨x, y, up _ _ S.TOz T4⟩, D1.frame _ _ _ e1 fun b hb o q => up b o (fun r => S.zf1 (r ▸ hb)) q, D2.frame _ _ _ e2 fun b hb o q => up b o (fun r => S.zf2 (r ▸ hb)) q, ⟨x, y, hx, hy, Tn⟩,
      fun c o c0 c1 c2 c3 q => up c o c0 (k4.extBut _ _ c1 (k3.extBut _ _ c3 (k2.extBut _ _ c1 (k1.extBut _ _ c2 (k0.extBut _ _ c0 q)))))⟩
  · -- the last pair still stands: a new one
    have hz₁ : ZM h₁ z TI TO m true := hz₁
    have k₁ : Heap.SameBut z hp h₁ := k₁
    simp only [Bool.false_eq_true, if_false]
    refine wpAny_bind ?_
    rw [← Array.forIn_toList]
    simp only [List.forIn_cons, List.forIn_nil]
    refine wpAny_bind (wpAny_bind (wpAny_holding ?_))
    change wpAny _ _ (Builtin.SmallTypes.nextOf (.ref i1) >>= _) _ _ _
    refine wpAny_bind (D1.item i ⟨h₁, g, d, tk0, os⟩ _ _ l1 (D1.over st1 k₁ S.zf1) fun x p1 t1 hx d1 k1 => wpAny_pure (wpAny_pure ?_))
    have k1 : Heap.SameBut i1 h₁ p1 := k1
    refine wpAny_bind (wpAny_bind (wpAny_holding ?_))
    change wpAny _ _ (Builtin.SmallTypes.nextOf (.ref i2) >>= _) _ _ _
    refine wpAny_bind (D2.item i ⟨p1, g, d, t1, os⟩ _ _ l2 (D2.over (D2.over st2 k₁ S.zf2) k1 S.sep1_2) fun y p2 t2 hy d2 k2 => wpAny_pure (wpAny_pure (wpAny_pure ?_)))
    have k2 : Heap.SameBut i2 p1 p2 := k2
    change wpAny _ _ (newTuple [x, y] >>= _) _ _ _
    refine wpAny_bind (wpAny_newTuple (wpAny_pure ⟨_, rfl, ?_⟩))
    have sz : p2.objs.size = hp.objs.size := by rw [k2.1, k1.1, k₁.1]
    have up : ∀ c o, p2.get? c = some o → (p2.push { cls := .type "tuple", data := .seq #[x, y] }).get? c = some o := fun c o q => Heap.get?_push_of_some _ q
    have Tn : IsTupOf2 (p2.push { cls := .type "tuple", data := .seq #[x, y] }) p2.objs.size x y := Heap.get?_push_size _ rfl
    have T1 : IsTupOf2 p2 TO a1 a2 := k2.extBut _ _ S.Ti2 (k1.extBut _ _ S.Ti1 (k₁.extBut _ _ S.TOz hTO))
    show Q (.ref p2.objs.size) ⟨p2.push { cls := .type "tuple", data := .seq #[x, y] }, g, d, t2, os⟩
    rw [sz] at Tn ⊢
    exact hQ _ t2 ⟨⟨m, true, hm, up _ _ (k2.extBut _ _ S.zi2 (k1.extBut _ _ S.zi1 hz₁))⟩, ⟨a1, a2, up _ _ T1⟩, D1.frame _ _ _ (D1.over d1 k2 S.sep2_1) fun b _ o q => up b o q, D2.frame _ _ _ d2 fun b _ o q => up b o q, ⟨x, y, hx, hy, Tn⟩,
      fun c o c0 c1 c2 c3 q => up c o (k2.extBut _ _ c3 (k1.extBut _ _ c2 (k₁.extBut _ _ c0 q)))⟩
theorem zipM_end {Q : Fin → Shared → Prop} (S : ZipSep2 z TI TO i1 i2 fp1 fp2) (D1 : Draws prog w A i1 fp1 n1 P1 St1) (D2 : Draws prog w A i2 fp2 n2 P2 St2) (hm : MarkOk m)
    (hz : ZM s.heap z TI TO m f) (hTI : IsTupOf2 s.heap TI (.ref i1) (.ref i2)) (hTO : IsTupOf2 s.heap TO a1 a2) (st1 : St1 i s.heap) (st2 : St2 i s.heap) (hmin : min n1 n2 = i)
    (hE : ∀ h' tk e, (∀ c o, c ≠ z → c ≠ TO → c ≠ i1 → c ≠ i2 → s.heap.get? c = some o → h'.get? c = some o) → (∃ o, h'.get? e = some o ∧ o.cls = .type "StopIteration") → E (.ref e) { s with heap := h', toks := tk }) :
    wpAny (model prog w) A (Builtin.«zip.__next__» ⟨[.ref z], []⟩) Q E s := by
  obtain ⟨hp, g, d, tk0, os⟩ := s
  change wpAny _ _ (field (.ref z) 2 >>= _) _ _ _
  refine wpAny_bind (wpAny_field hz rfl (x := .bool false) rfl ?_)
  change wpAny _ _ (field (.ref z) 3 >>= _) _ _ _
  refine wpAny_bind (wpAny_field hz rfl (x := .ref TI) rfl (wpAny_bind (wpAny_seqItems hTI rfl ?_)))
  change wpAny _ _ (Builtin.SmallTypes.ownedTupleIsFree (.ref z) >>= _) _ _ _
  refine wpAny_bind (mark_any hm hz ?_ fun h₁ hz₁ k₁ => ?_)
  · simp only [if_true]
    refine wpAny_bind (wpAny_rule (wpAny_bind (wpAny_field hz rfl (x := .ref TO) rfl (wpAny_bind (wpAny_setField_rec hz (by simp) fun g0 z0 k0 => wpAny_bind ?_)))))
    have z0 : ZM g0 z TI TO .ellipsis f := z0
    have k0 : Heap.SameBut z hp g0 := k0
    simp only [List.zipIdx_cons, List.zipIdx_nil, List.forIn_cons, List.forIn_nil]
    refine wpAny_bind (wpAny_bind (wpAny_onRaise ?_))
    by_cases l1 : i < n1
    · have e2 : i = n2 := by omega
      change wpAny _ _ (Builtin.SmallTypes.nextOf (.ref i1) >>= _) _ _ _
      refine wpAny_bind (D1.item i ⟨g0, g, d, tk0, os⟩ _ _ l1 (D1.over st1 k0 S.zf1) fun x p1 t1 hx d1 k1 => wpAny_pure ?_)
      have k1 : Heap.SameBut i1 g0 p1 := k1
      have T1 : IsTupOf2 p1 TO a1 a2 := k1.extBut _ _ S.Ti1 (k0.extBut _ _ S.TOz hTO)
      refine wpAny_bind (wpAny_seqItems (s := ⟨p1, g, d, t1, os⟩) T1 rfl (wpAny_bind (updateSeq_IsTupOf2 (s := ⟨p1, g, d, t1, os⟩) T1 fun g1 T2 k2 => wpAny_bind (wpAny_letGo (wpAny_pure ?_)))))
      have k2 : Heap.SameBut TO p1 g1 := k2
      refine wpAny_bind (wpAny_bind (wpAny_onRaise ?_))
      change wpAny _ _ (Builtin.SmallTypes.nextOf (.ref i2) >>= _) _ _ _
      refine wpAny_bind (D2.done ⟨g1, g, d, t1, os⟩ _ _ (by rw [← e2]; exact D2.over (D2.over (D2.over st2 k0 S.zf2) k1 S.sep1_2) k2 S.Tf2) fun q e hq he => ?_)
      have hq : Heap.ExtBut i2 g1 q := hq
      obtain ⟨oe, ge, ce⟩ := he
      have ge : q.get? e = some oe := ge
      have zq : ZM q z TI TO .ellipsis f := hq _ _ S.zi2 (k2.extBut _ _ S.TOz.symm (k1.extBut _ _ S.zi1 z0))
      have ez : e ≠ z := fun r => by subst r; rw [zq] at ge; cases ge; simp at ce
      refine wpAny_setField_rec (s := ⟨q, g, d, t1, os⟩) zq (by simp) fun q' _ k' => ?_
      have k' : Heap.SameBut z q q' := k'
      exact hE q' t1 e (fun c o c0 c1 c2 c3 r => k'.extBut _ _ c0 (hq _ _ c3 (k2.extBut _ _ c1 (k1.extBut _ _ c2 (k0.extBut _ _ c0 r))))) ⟨oe, k'.extBut _ _ ez ge, ce⟩
    · have e1 : i = n1 := by omega
      change wpAny _ _ (Builtin.SmallTypes.nextOf (.ref i1) >>= _) _ _ _
      refine wpAny_bind (D1.done ⟨g0, g, d, tk0, os⟩ _ _ (by rw [← e1]; exact D1.over st1 k0 S.zf1) fun q e hq he => ?_)
      have hq : Heap.ExtBut i1 g0 q := hq
      obtain ⟨oe, ge, ce⟩ := he
      have ge : q.get? e = some oe := ge
      have zq : ZM q z TI TO .ellipsis f := hq _ _ S.zi1 z0
      have ez : e ≠ z := fun r => by subst r; rw [zq] at ge; cases ge; simp at ce
      refine wpAny_setField_rec (s := ⟨q, g, d, tk0, os⟩) zq (by simp) fun q' _ k' => ?_
      have k' : Heap.SameBut z q q' := k'
      exact hE q' tk0 e (fun c o c0 c1 c2 c3 r => k'.extBut _ _ c0 (hq _ _ c2 (k0.extBut _ _ c0 r))) ⟨oe, k'.extBut _ _ ez ge, ce⟩
  · have hz₁ : ZM h₁ z TI TO m true := hz₁
    have k₁ : Heap.SameBut z hp h₁ := k₁
    simp only [Bool.false_eq_true, if_false]
    refine wpAny_bind ?_
    rw [← Array.forIn_toList]
    simp only [List.forIn_cons, List.forIn_nil]
    refine wpAny_bind (wpAny_bind (wpAny_holding ?_))
    by_cases l1 : i < n1
    · have e2 : i = n2 := by omega
      change wpAny _ _ (Builtin.SmallTypes.nextOf (.ref i1) >>= _) _ _ _
      refine wpAny_bind (D1.item i ⟨h₁, g, d, tk0, os⟩ _ _ l1 (D1.over st1 k₁ S.zf1) fun x p1 t1 hx d1 k1 => wpAny_pure (wpAny_pure ?_))
      have k1 : Heap.SameBut i1 h₁ p1 := k1
      refine wpAny_bind (wpAny_bind (wpAny_holding ?_))
      change wpAny _ _ (Builtin.SmallTypes.nextOf (.ref i2) >>= _) _ _ _
      refine wpAny_bind (D2.done ⟨p1, g, d, t1, os⟩ _ _ (by rw [← e2]; exact D2.over (D2.over st2 k₁ S.zf2) k1 S.sep1_2) fun q e hq he => ?_)
      have hq : Heap.ExtBut i2 p1 q := hq
      exact hE q t1 e (fun c o c0 c1 c2 c3 r => hq _ _ c3 (k1.extBut _ _ c2 (k₁.extBut _ _ c0 r))) he
    · have e1 : i = n1 := by omega
      change wpAny _ _ (Builtin.SmallTypes.nextOf (.ref i1) >>= _) _ _ _
      refine wpAny_bind (D1.done ⟨h₁, g, d, tk0, os⟩ _ _ (by rw [← e1]; exact D1.over st1 k₁ S.zf1) fun q e hq he => ?_)
      have hq : Heap.ExtBut i1 h₁ q := hq
      exact hE q tk0 e (fun c o c0 c1 c2 c3 r => hq _ _ c2 (k₁.extBut _ _ c0 r)) he
theorem wpAny_next_zipM {Q : Option Value → Shared → Prop} (S : ZipSep2 z TI TO i1 i2 fp1 fp2) (D1 : Draws prog w A.in1 i1 fp1 n1 P1 St1) (D2 : Draws prog w A.in1 i2 fp2 n2 P2 St2) (hm : MarkOk m)
    (hz : ZM s.heap z TI TO m f) (hTI : IsTupOf2 s.heap TI (.ref i1) (.ref i2)) (hTO : IsTupOf2 s.heap TO a1 a2) (st1 : St1 i s.heap) (st2 : St2 i s.heap) (l1 : i < n1) (l2 : i < n2)
    (hQ : ∀ h' tk, Gave z TI TO i1 i2 i P1 P2 St1 St2 s.heap h' → Q (some (.ref s.heap.objs.size)) { s with heap := h', toks := tk }) : wpAny (model prog w) A (pyNext (.ref z)) Q E s := by
  have ht : s.TypeIs (.ref z) "zip" := ⟨_, hz, rfl⟩
  unfold pyNext
  exact wpAny_bind (wpAny_attempt (wpAny_callSpecial?_slot (name := Str.ofString "__next__") ht F.slot_zip_next
    (wpAny_call_entry F.slot_zip_next ht F.entry_zip_next (zipM_item S D1 D2 hm hz hTI hTO st1 st2 l1 l2 fun h' tk q => wpAny_pure (hQ h' tk q)) (F.args_zip_next_1 _))))
theorem wpAny_end_zipM {Q : Option Value → Shared → Prop} (S : ZipSep2 z TI TO i1 i2 fp1 fp2) (D1 : Draws prog w A.in1 i1 fp1 n1 P1 St1) (D2 : Draws prog w A.in1 i2 fp2 n2 P2 St2) (hm : MarkOk m)
    (hz : ZM s.heap z TI TO m f) (hTI : IsTupOf2 s.heap TI (.ref i1) (.ref i2)) (hTO : IsTupOf2 s.heap TO a1 a2) (st1 : St1 i s.heap) (st2 : St2 i s.heap) (hmin : min n1 n2 = i)
    (hQ : ∀ h' tk, (∀ c o, c ≠ z → c ≠ TO → c ≠ i1 → c ≠ i2 → s.heap.get? c = some o → h'.get? c = some o) → Q none { s with heap := h', toks := tk }) : wpAny (model prog w) A (pyNext (.ref z)) Q E s := by
  have ht : s.TypeIs (.ref z) "zip" := ⟨_, hz, rfl⟩
  unfold pyNext
  refine wpAny_bind (wpAny_attempt (wpAny_callSpecial?_slot (name := Str.ofString "__next__") ht F.slot_zip_next
    (wpAny_call_entry F.slot_zip_next ht F.entry_zip_next (zipM_end S D1 D2 hm hz hTI hTO st1 st2 hmin fun h' tk e k he => ?_) (F.args_zip_next_1 _))))
  obtain ⟨o, q, qc⟩ := he
  exact wpAny_bind (wpAny_isInstance (T := "StopIteration") (b := true) ⟨o, q, qc⟩ isSubtype_stop (wpAny_pure (hQ _ _ k)))
end
theorem wpAny_pyIter_zipM {prog : Program} {w : World} {A : Around} {E : Value → Shared → Prop} {s : Shared} {z TI TO : Addr} {m : Value} {f : Bool} {Q : Value → Shared → Prop} (hz : ZM s.heap z TI TO m f) (h : Q (.ref z) s) : wpAny (model prog w) A (pyIter (.ref z)) Q E s :=
  have ht : s.TypeIs (.ref z) "zip" := ⟨_, hz, rfl⟩
  wpAny_pyIter_slot ht F.slot_zip_iter (wpAny_call_entry F.slot_zip_iter ht F.entry_zip_iter (show wpAny _ _ (ret (.ref z)) _ _ s from wpAny_pure ⟨_, rfl, "zip", _, ht, F.slot_zip_next.lookup, h⟩) (F.args_zip_iter_1 _))
theorem turn_zipN {P : Program} {w : World} {K : PySem.W.Frag} {x : Str} {tpos : Pos} (S S2 : Src) (t t2 : Tok) (z TI TO i1 i2 : Addr) (hd : [z, TI, TO, i1, i2].Nodup) (ap : ∀ b ∈ [z, TI, TO, i1, i2], ¬ S.at b ∧ ¬ S2.at b) :
    Turn P w K (.Name x tpos) (ItZ K S S2) [z, TI, TO, i1, i2] z (fun i h => (∃ m f, MarkOk m ∧ ZM h z TI TO m f) ∧ IsTupOf2 h TI (.ref i1) (.ref i2) ∧ (∃ x y, IsTupOf2 h TO x y) ∧ S.cell t i1 i h ∧ S2.cell t2 i2 i h) where
  mem := by simp
  obj := fun i h ⟨⟨m, f, _, hz⟩, hTI, ⟨x, y, hTO⟩, h1, h2⟩ c hc => by
    have e' : c = z ∨ c = TI ∨ c = TO ∨ c = i1 ∨ c = i2 := by simpa using hc
    rcases e' with q | q | q | q | q
    · rw [q]; exact ⟨_, hz, fun v q => nomatch q⟩
    · rw [q]; exact ⟨_, hTI, fun v q => nomatch q⟩
    · rw [q]; exact ⟨_, hTO, fun v q => nomatch q⟩
    · rw [q]; exact Src.cell_obj h1
    · rw [q]; exact Src.cell_obj h2
  keep := fun i h h' ⟨⟨m, f, hm, hz⟩, hTI, ⟨x, y, hTO⟩, h1, h2⟩ k =>
    ⟨⟨m, f, hm, k z (by simp) _ hz⟩, k TI (by simp) _ hTI, ⟨x, y, k TO (by simp) _ hTO⟩, Src.cell_keep h1 fun o q => k i1 (by simp) o q, Src.cell_keep h2 fun o q => k i2 (by simp) o q⟩
  item := by
    intro X hP hw hK hc i pins s σ H E I hf st hg
    subst hP hw hK
    obtain ⟨⟨m, f, hm, hz⟩, hTI, ⟨x0, y0, hTO⟩, h1, h2⟩ := st
    obtain ⟨xs, ys, x, y, hqx, hqy, hx, hy⟩ := hg
    obtain ⟨fp, P, St, D, hst, hP, hcell, hmem, hfp⟩ := Src.draws I hc hqx h1 (ap i1 (by simp)).1
    obtain ⟨fp2, P2, St2, D2, hst2, hP2, hcell2, hmem2, hfp2⟩ := Src.draws I hc hqy h2 (ap i2 (by simp)).2
    have sep := zsep hd ap hmem hfp hmem2 hfp2
    have hi : i < xs.length := (List.getElem?_eq_some_iff.mp hx).1
    have hi2 : i < ys.length := (List.getElem?_eq_some_iff.mp hy).1
    refine wpAny_next_zipM sep D D2 hm hz hTI hTO hst hst2 hi hi2 fun h' tk ⟨z', TO', c1, c2, ⟨u, u2, hu, hu2, hT⟩, hk⟩ => ⟨_, rfl, ?_⟩
    obtain ⟨x2, hx2, ru⟩ := hP _ _ hu
    rw [hx] at hx2
    cases hx2
    obtain ⟨y2, hy2, ru2⟩ := hP2 _ _ hu2
    rw [hy] at hy2
    cases hy2
    have new : ObjOk X.prog X.w (upd H s.heap.objs.size (.tup [x, y])) h' s.heap.objs.size (.tup [x, y]) :=
      ⟨by show 2 ≤ sizeLine; decide, [u, u2], .cons ru (.cons ru2 .nil), ⟨_, hT, rfl, _, rfl⟩⟩
    have I1 : Inv X pins σ (upd H s.heap.objs.size (.tup [x, y])) { s with heap := h', toks := tk } :=
      I.turnedNew (t' := tk) (ch := [z, TI, TO, i1, i2]) (fun c o hb q => hk c o (fun r => hb (by simp [r])) (fun r => hb (by simp [r])) (fun r => hb (by simp [r])) (fun r => hb (by simp [r])) q) hf (Nat.le_refl _) new
    show wpAny _ _ (pure ()) _ _ _
    refine wpAny_pure ⟨.ref s.heap.objs.size, _, I1, rfl, ⟨_, x, y, rfl, I.hok.fresh (Nat.le_refl _), rfl, fun l hl => by rw [Src.inj I hl hqx]; exact hx, fun l hl => by rw [Src.inj I hl hqy]; exact hy⟩, ⟨z', hk _ _ sep.TIz sep.TITO sep.TIi1 sep.TIi2 hTI, TO', hcell _ _ c1, hcell2 _ _ c2⟩, fun c hcm => ?_⟩
    have hlt : c < s.heap.objs.size := by
      have e' : c = z ∨ c = TI ∨ c = TO ∨ c = i1 ∨ c = i2 := by simpa using hcm
      rcases e' with q | q | q | q | q
      · rw [q]; exact Heap.lt_size hz
      · rw [q]; exact Heap.lt_size hTI
      · rw [q]; exact Heap.lt_size hTO
      · rw [q]; obtain ⟨_, e1, _⟩ := Src.cell_obj h1; exact Heap.lt_size e1
      · rw [q]; obtain ⟨_, e2, _⟩ := Src.cell_obj h2; exact Heap.lt_size e2
    rw [upd_ne (Nat.ne_of_lt hlt)]
    exact (hf c hcm).1
  done := by
    intro X hP hw hK hc i pins s σ H E I hf st hg
    subst hP hw hK
    obtain ⟨⟨m, f, hm, hz⟩, hTI, ⟨x0, y0, hTO⟩, h1, h2⟩ := st
    obtain ⟨xs, ys, hqx, hqy, hend⟩ := hg
    obtain ⟨fp, P, St, D, hst, hP, hcell, hmem, hfp⟩ := Src.draws I hc hqx h1 (ap i1 (by simp)).1
    obtain ⟨fp2, P2, St2, D2, hst2, hP2, hcell2, hmem2, hfp2⟩ := Src.draws I hc hqy h2 (ap i2 (by simp)).2
    exact wpAny_end_zipM (zsep hd ap hmem hfp hmem2 hfp2) D D2 hm hz hTI hTO hst hst2 hend fun h' tk hk => ⟨rfl, I.turnedL (t' := tk) (ch := [z, TI, TO, i1, i2]) (fun c o hb q =>
      hk c o (fun r => hb (by simp [r])) (fun r => hb (by simp [r])) (fun r => hb (by simp [r])) (fun r => hb (by simp [r])) q) hf⟩
  self := fun A i s Q E st h => by
    obtain ⟨⟨m, f, hm, hz⟩, _⟩ := st
    exact wpAny_pyIter_zipM hz h
theorem pi_zipN {X : Cx} {e e2 : Expr} {ta : TA} {p pos tpos : Pos} {x : Str} (hg : Gl X "zip") (hm : X.mg "zip" = none) (ha : PA X [e, e2] ta)
    (hs : starEach [e, e2] X.env = (false, eval e X.env) :: starEach [e2] X.env := by rfl) (hpl : (backTo pos (starEach [e2] X.env)).any (·.1) = false := by rfl) :
    PI X (.Name x tpos) (.Call (.Name "zip" p) [e, e2] [] pos) (iZipS X.K ta) := by
  refine ⟨fun pins s σ H R I h => ?_⟩
  refine Call_ (ld_blt I hg hm PyProof.Rows.boot_zip (PyProof.Rows.callWith_type1 (thn (ha.run pos pins s σ H _ I h) fun us s1 ⟨vs, H1, I1, r1, q1⟩ => ?_) hs hpl))
  obtain ⟨S, S2, xs, ys, ex, hqx, hqy, q⟩ := q1
  subst ex
  cases r1 with
  | cons r rr =>
    cases rr with
    | cons r' rr =>
      cases rr
      obtain ⟨o, Hh, t, B, hB, hcell, hlt⟩ := Src.begins I1 hqx r
      obtain ⟨o2, Hh2, t2, B2, hB2, hcell2, hlt2⟩ := Src.begins I1 hqy r'
      have ge5 : ∀ c, c ∈ [s1.heap.objs.size + 4, s1.heap.objs.size + 2, s1.heap.objs.size + 3, s1.heap.objs.size, s1.heap.objs.size + 1] → s1.heap.objs.size ≤ c := fun c hcm => by
        have e' : c = s1.heap.objs.size + 4 ∨ c = s1.heap.objs.size + 2 ∨ c = s1.heap.objs.size + 3 ∨ c = s1.heap.objs.size ∨ c = s1.heap.objs.size + 1 := by simpa using hcm
        omega
      refine zip_begins2 B B2 hB hB2 fun h' hz hTI hTO h1 h2 hsz hk => wpAny_pyIter_zip hz ?_
      refine ⟨s1.heap.objs.size + 4, [s1.heap.objs.size + 4, s1.heap.objs.size + 2, s1.heap.objs.size + 3, s1.heap.objs.size, s1.heap.objs.size + 1], _, _, H1, rfl, I1.kept (t' := s1.toks) hk,
        turn_zipN S S2 t t2 _ _ _ _ _ (by simp) (fun b hb => ⟨fun z => absurd (Nat.lt_of_le_of_lt (ge5 b hb) (hlt _ z)) (Nat.lt_irrefl _), fun z => absurd (Nat.lt_of_le_of_lt (ge5 b hb) (hlt2 _ z)) (Nat.lt_irrefl _)⟩),
        ⟨⟨_, _, .inl rfl, hz⟩, hTI, ⟨.none, .none, hTO⟩, hcell _ _ h1, hcell2 _ _ h2⟩, fun b hb => I1.fpOk (ge5 b hb) (I1.hok.fresh (ge5 b hb)), q⟩
end Tk
/-! From Python's syntax to the small language, with the checks that the walk asks. -/
namespace Tk
open PySem PySem.Spec PyProof.Rows L2
open D

/-- what stands around a def: its names by slot, the module's constants, functions (number, how many parameters), built-in names that the module leaves free, classes of errors (its number; those below it) -/
structure CE where
  N : List Str
  gc : List (Str × D)
  fn : List (Str × (Nat × Nat))
  free : List Str
  ecl : List (Str × (Nat × List Nat))
  /-- methods of the text's own classes -/
  ms : List Str

def visB (sc : Scope) (x : Str) : Bool := match sc.names.lookup x with
  | some .local => true
  | some .cell => true
  | some .free => true
  | _ => false
def gloB (sc : Scope) (x : Str) : Bool := match sc.names.lookup x with
  | some .globalImplicit => true
  | _ => false
def locB (sc : Scope) (x : Str) : Bool := match sc.names.lookup x with
  | some .local => true
  | some .cell => true
  | _ => false
def loc1B (sc : Scope) (x : Str) : Bool := match sc.names.lookup x with
  | some .local => true
  | _ => false
def sOf (x : String) : Str := x
def plainName (x : Str) : Bool := !(x == ("" : Str)) && !(x == ("__debug__" : Str)) && !(x == ("__classdict__" : Str)) && !(x == ("__name__" : Str))
def slotOf (N : List Str) (x : Str) : Option Nat := N.findIdx? (· == x)
def boOf : Operator → Option Bo
  | .Add => some .add
  | .Sub => some .sub
  | .Mult => some .mul
  | .Mod => some .mod
  | .FloorDiv => some .fdiv
  | .Pow => some .pow
  | _ => none
def coOf : CmpOp → Option Co
  | .Eq => some .eq
  | .NotEq => some .ne
  | .Lt => some .lt
  | .LtE => some .le
  | .Gt => some .gt
  | .GtE => some .ge
  | .In => some .isin
  | .NotIn => some .notin
  | .Is => some .isN
  | .IsNot => some .notN
def constD : Const → Option D
  | .none => some .non
  | .bool b => some (.bl b)
  | .int i => some (.int i)
  | .str s => some (.str s.cps.toList)
  | _ => none
/-- built-in functions of one plain argument -/
def biOf (x : Str) : Option Bi :=
  if x == sOf "len" then some .len
  else if x == sOf "int" then some .int
  else if x == sOf "tuple" then some .tuple
  else if x == sOf "list" then some .list
  else if x == sOf "sum" then some .sum
  else if x == sOf "any" then some .any
  else if x == sOf "all" then some .all
  else if x == sOf "str" then some .str1
  else if x == sOf "max" then some .max1
  else if x == sOf "dict" then some .dict
  else none
def isiOf (x : Str) : Option Nat :=
  if x == sOf "str" then some 0
  else if x == sOf "int" then some 1
  else if x == sOf "bool" then some 2
  else if x == sOf "tuple" then some 3
  else if x == sOf "list" then some 4
  else none
def noStar : Expr → Bool
  | .Starred _ _ => false
  | _ => true
def noSl : Expr → Bool
  | .Slice _ _ _ _ => false
  | _ => true
def noSet : Expr → Bool
  | .Set _ _ _ => false
  | _ => true
def noLc : Expr → Bool
  | .ListComp _ _ _ _ => false
  | .SetComp _ _ _ _ => false
  | .DictComp _ _ _ _ _ => false
  | _ => true
/-- what may stand ahead of a method's name: no bare call -/
def baseOk : Expr → Bool
  | .Call _ _ _ _ => false
  | _ => true
/-- what may stand ahead of a field's name: no bare call of nothing -/
def attOk : Expr → Bool
  | .Call _ [] _ _ => false
  | _ => true
/-- a dict display of constants with text keys, all different -/
def litV : Expr → Option V
  | .Constant (.int i) _ _ => some (.int i)
  | .Constant (.str s) _ _ => some (.str s)
  | _ => none
def litP : List (Option Expr) → List Expr → Option (List (Str × V))
  | [], [] => some []
  | some (.Constant (.str s) _ _) :: ks, v :: vs => (match litV v, litP ks vs with
    | some b, some r => some ((s, b) :: r)
    | _, _ => none)
  | _, _ => none
def vD : V → D
  | .int i => .int i
  | .str x => .str x.cps.toList
  | _ => .non
def disK : List (Str × V) → Bool
  | [] => true
  | p :: r => !(r.any fun q => q.1.cps.toList == p.1.cps.toList) && disK r
def litD (ks : List (Option Expr)) (vs : List Expr) : Option D := match litP ks vs with
  | some l => if disK l && decide (l.length ≤ 15) && !l.isEmpty then some (.dic (l.map fun p => (.str p.1.cps.toList, vD p.2))) else none
  | none => none
/-- set(a) alone -/
def isSet : List Expr → Bool
  | [.Call (.Name g _) [_] [] _] => g == sOf "set"
  | _ => false
/-- range(a) alone -/
def isRng : List Expr → Bool
  | [.Call (.Name g _) [_] [] _] => g == sOf "range"
  | _ => false
/-- a name or a constant -/
def simE : Expr → Bool
  | .Name _ _ => true
  | .Constant _ _ _ => true
  | _ => false
/-- target of a for or a comprehension: its slots, one name or two -/
def tgtOf (N : List Str) (sc : Scope) : Expr → Option (List Nat × Bool)
  | .Name x _ => if locB sc x && plainName x then (slotOf N x).map fun i => ([i], true) else none
  | .Tuple [.Name x _, .Name y _] _ _ => if locB sc x && plainName x && locB sc y && plainName y then
      (match slotOf N x, slotOf N y with
        | some i, some j => if i == j then none else some ([i, j], false)
        | _, _ => none) else none
  | _ => none
def tgtNames : Expr → List Str
  | .Name x _ => [x]
  | .Tuple [.Name x _, .Name y _] _ _ => [x, y]
  | _ => []
/-- the classes of errors that C stands for -/
def exsOf (c : CE) (x : Str) : Option (List Nat) := if x == sOf "ValueError" then (if c.free.contains x then some (c.ecl.map fun p => p.2.1) else none) else (c.ecl.lookup x).map (·.2)

mutual
def cE (c : CE) (ev : Option Str) : Nat → Scope → Expr → Option SE
  | 0, _, _ => none
  | n + 1, sc, e => match e with
    | .Name x _ => if !plainName x then none else if visB sc x then (if ev == some x then none else (slotOf c.N x).map .var)
      else if gloB sc x then (c.gc.lookup x).map .con else none
    | .Constant k _ _ => (constD k).map .con
    | .Tuple es _ _ => (match cEs c ev n sc es with | some xs => if xs.length ≤ 1000 then some (.tup xs) else none | none => none)
    | .List es _ => (match cEs c ev n sc es with | some xs => if xs.length ≤ 1000 then some (.lst xs) else none | none => none)
    | .BinOp a op b _ => (match boOf op, cE c ev n sc a, cE c ev n sc b with
      | some o, some x, some y => some (.bin o x y)
      | _, _, _ => none)
    | .UnaryOp .USub a _ => (cE c ev n sc a).map .neg
    | .UnaryOp .Not a _ => (cE c ev n sc a).map .nt
    | .BoolOp .And [a] _ => cE c ev n sc a
    | .BoolOp .Or [a] _ => cE c ev n sc a
    | .BoolOp .And (a :: b :: r) p => (match cE c ev n sc a, cE c ev n sc (.BoolOp .And (b :: r) p) with
      | some x, some y => some (.an x y)
      | _, _ => none)
    | .BoolOp .Or (a :: b :: r) p => (match cE c ev n sc a, cE c ev n sc (.BoolOp .Or (b :: r) p) with
      | some x, some y => some (.orr x y)
      | _, _ => none)
    | .Compare a [op] [b] _ => (match coOf op, cE c ev n sc a, cE c ev n sc b with
      | some o, some x, some y => if noSet b then some (.cmp o x y) else none
      | _, _, _ => none)
    | .Compare a [op, op'] [b, d] _ => (match coOf op, coOf op', cE c ev n sc a, cE c ev n sc b, cE c ev n sc d with
      | some o, some o', some x, some y, some z => if noSet b && noSet d then some (.cmp2 o o' x y z) else none
      | _, _, _, _, _ => none)
    | .IfExp t a b _ => (match cE c ev n sc t, cE c ev n sc a, cE c ev n sc b with
      | some x, some y, some z => some (.ite x y z)
      | _, _, _ => none)
    | .Subscript a (.Slice none none (some (.UnaryOp .USub (.Constant (.int 1) _ _) _)) _) _ => (cE c ev n sc a).map .rev
    | .Subscript a (.Slice lo hi none _) _ => (match cE c ev n sc a, cO c ev n sc lo, cO c ev n sc hi with
      | some x, some l, some h => some (.sl x l h)
      | _, _, _ => none)
    | .Subscript a i _ => if noSl i then (match cE c ev n sc a, cE c ev n sc i with
      | some x, some y => some (.ix x y)
      | _, _ => none) else none
    | .Call (.Name f _) args [] _ => if !plainName f || !gloB sc f then none else
        (match c.fn.lookup f with
        | some (k, m) => if args.length == m && ev == none then (cEs c ev n sc args).map (.call k) else none
        | none => if !c.free.contains f then none else
          if f == sOf "isinstance" then (match args with
            | [a, .Name t _] => if !(gloB sc t && plainName t && noStar a) then none else (match ev with
              | some v => (match a with
                | .Name x _ => if x == v && visB sc x && plainName x then (exsOf c t).map .isx else none
                | _ => none)
              | none => if c.free.contains t then (match isiOf t, cE c ev n sc a with
                | some k, some x => some (.bi (.isi k) [x])
                | _, _ => none) else none)
            | _ => none)
          else if f == sOf "len" && isSet args then (match args with
            | [.Call (.Name g _) [a] [] _] => if gloB sc g && c.free.contains g && noStar a && ev == none && g == sOf "set" then (cE c ev n sc a).map fun x => .bi .lenSet [x] else none
            | _ => none)
          else if f == sOf "sorted" && isSet args then (match args with
            | [.Call (.Name g _) [a] [] _] => if gloB sc g && c.free.contains g && noStar a && ev == none && g == sOf "set" then (cE c ev n sc a).map fun x => .bi .sortedSet [x] else none
            | _ => none)
          else if f == sOf "list" && isRng args then (match args with
            | [.Call (.Name g _) [a] [] _] => if gloB sc g && c.free.contains g && noStar a && ev == none && g == sOf "range" then (cE c ev n sc a).map fun x => .bi .listR [x] else none
            | _ => none)
          else if f == sOf "min" then (match args with
            | [a, b] => if noStar a && noStar b && ev == none then (match cE c ev n sc a, cE c ev n sc b with
              | some x, some y => some (.bi .min2 [x, y])
              | _, _ => none) else none
            | _ => none)
          else (match biOf f, args with
            | some b, [a] => if noStar a && ev == none then (cE c ev n sc a).map fun x => .bi b [x] else none
            | _, _ => none))
    | .Call (.Attribute (.Dict ks vs _) m ap) [a] [] cp => if !((ap.endLine == cp.line) && noStar a && ev == none && m == sOf "get") then none else
        (match litD ks vs, cE c ev n sc a with
          | some d, some x => some (.me .get1 (.con d) [x])
          | _, _ => none)
    | .Call (.Attribute o m ap) [a] [] cp => if !(baseOk o && (ap.endLine == cp.line) && noStar a && ev == none) then none else
        (match cE c ev n sc o, cE c ev n sc a with
          | some x, some y => if m == sOf "join" then some (.me .join x [y]) else if m == sOf "index" then some (.me .sindex x [y]) else if m == sOf "get" then some (.me .getN1 x [y]) else if c.ms.contains m then some (.meth x m [y]) else none
          | _, _ => none)
    | .Call (.Attribute (.Dict ks vs _) m ap) [a, b] [] cp => if !((ap.endLine == cp.line) && noStar a && noStar b && ev == none && m == sOf "get") then none else
        (match litD ks vs, cE c ev n sc a, cE c ev n sc b with
          | some d, some x, some (.con y) => some (.me .get2 (.con d) [x, .con y])
          | _, _, _ => none)
    | .Call (.Attribute o m ap) [a, b] [] cp => if !(baseOk o && (ap.endLine == cp.line) && noStar a && noStar b && ev == none) then none else
        (match cE c ev n sc o, cE c ev n sc a, cE c ev n sc b with
          | some x, some y, some z => if m == sOf "get" then some (.me .getN x [y, z]) else if c.ms.contains m then some (.meth x m [y, z]) else none
          | _, _, _ => none)
    | .Call (.Attribute o m ap) [] [] cp => if !(baseOk o && (ap.endLine == cp.line) && ev == none && c.ms.contains m) then none else
        (cE c ev n sc o).map fun x => .meth x m []
    | .Attribute o k _ => if !(attOk o && ev == none) then none else (cE c ev n sc o).map fun x => .fld x k
    | .Dict [] [] _ => if ev == none then some (.con (.gd [])) else none
    | .Dict [some k] [v] _ => if ev == none && simE k && simE v then (match cE c ev n sc k, cE c ev n sc v with
      | some x, some y => some (.dict [x] [y])
      | _, _ => none) else none
    | .Dict ks vs _ => if ev == none then (litD ks vs).map .con else none
    | .ListComp elt [⟨tg, iter, ifs, 0⟩] scope _ =>
        (match tgtOf c.N scope tg, cI c ev n sc tg iter, cTs c ev n (relS scope sc) ifs, cE c ev n (relS scope sc) elt with
        | some (t, one), some it, some ts, some el => if noSet iter && blkC c.N sc scope ((tgtNames tg).zip t) && ev == none then some (.lc t one it ts el) else none
        | _, _, _, _ => none)
    | _ => none
def cTs (c : CE) (ev : Option Str) : Nat → Scope → List Expr → Option (List SE)
  | 0, _, _ => none
  | n + 1, sc, es => match es with
    | [] => some []
    | [e] => (cE c ev n sc e).map fun x => [x]
    | _ => none
def cEs (c : CE) (ev : Option Str) : Nat → Scope → List Expr → Option (List SE)
  | 0, _, _ => none
  | n + 1, sc, es => match es with
    | [] => some []
    | e :: r => (match cE c ev n sc e, cEs c ev n sc r with
      | some x, some y => if noStar e then some (x :: y) else none
      | _, _ => none)
def cO (c : CE) (ev : Option Str) : Nat → Scope → Option Expr → Option (Option SE)
  | 0, _, _ => none
  | n + 1, sc, e => match e with
    | none => some none
    | some e => (cE c ev n sc e).map some
/-- what is walked -/
def cI (c : CE) (ev : Option Str) : Nat → Scope → Expr → Expr → Option SI
  | 0, _, _, _ => none
  | n + 1, sc, tg, e => match e with
    | .Call (.Name f p) args [] q =>
        if gloB sc f && plainName f && c.free.contains f then
          (if f == sOf "range" then (match args with
            | [a] => if noStar a then (cE c ev n sc a).map fun x => .rng (.con (.int 0)) x else none
            | [a, b] => if noStar a && noStar b then (match cE c ev n sc a, cE c ev n sc b with
              | some x, some y => some (.rng x y)
              | _, _ => none) else none
            | _ => none)
          else if f == sOf "enumerate" then (match tg, args with
            | .Tuple _ _ _, [a] => if noStar a then (cE c ev n sc a).map .enm else none
            | _, _ => none)
          else if f == sOf "zip" then (match tg, args with
            | .Tuple _ _ _, [a, b] => if noStar a && noStar b then (match cE c ev n sc a, cE c ev n sc b with
              | some x, some y => some (.zip x y)
              | _, _ => none) else none
            | .Name _ _, [a, b] => if noStar a && noStar b then (match cE c ev n sc a, cE c ev n sc b with
              | some x, some y => some (.zip x y)
              | _, _ => none) else none
            | _, _ => none)
          else if f == sOf "reversed" then (match args with
            | [a] => if noStar a then (cE c ev n sc a).map .rev else none
            | _ => none)
          else (cE c ev n sc (.Call (.Name f p) args [] q)).map .of)
        else (cE c ev n sc (.Call (.Name f p) args [] q)).map .of
    | e => (cE c ev n sc e).map .of
end

/-! ### statements -/
/-- a new list: the name that gets it may own it -/
def frE : Expr → Bool
  | .List _ _ => true
  | .ListComp _ _ _ _ => true
  | .Dict [] [] _ => true
  | .Dict [some _] [_] _ => true
  | .Call (.Name f _) [a] [] _ => (f == sOf "list" && !isRng [a]) || f == sOf "dict"
  | _ => false
mutual
def cSt (c : CE) (sc : Scope) (ev : Option Str) : Nat → Stmt → Option SS
  | 0, _ => none
  | n + 1, st => match st with
    | .Return (some e) _ => (cE c ev n sc e).map .ret
    | .Return none _ => some .retN
    | .Pass _ => some .pass
    | .Break _ => if ev == none then some .brk else none
    | .If t a b _ => (match cE c ev n sc t, cB c sc ev n a, cB c sc ev n b with
      | some x, some y, some z => some (.ifs x y z)
      | _, _, _ => none)
    | .Assign [.Name x _] e _ => if !(plainName x && locB sc x && !(ev == some x)) then none else (match slotOf c.N x, cE c ev n sc e with
      | some i, some y => if frE e && (c.fn.lookup (sOf "list")).isNone && (c.fn.lookup (sOf "dict")).isNone then some (.asgF i y) else some (.asg i y)
      | _, _ => none)
    | .Assign [.Tuple es k p] e _ => (match tgtOf c.N sc (.Tuple es k p), cE c ev n sc e, e with
      | some (t, false), some y, .Name _ _ => if ev == none then some (.asgT t y) else none
      | _, _, _ => none)
    | .Assign [.Subscript (.Name x _) k _] e _ => if !(plainName x && locB sc x && ev == none && noSl k && noLc e) then none else (match slotOf c.N x, cE c ev n sc k, cE c ev n sc e with
      | some i, some y, some z => some (.setK i y z)
      | _, _, _ => none)
    | .For tg iter body [] _ => (match tgtOf c.N sc tg, cI c ev n sc tg iter with
      | some (t, one), some it => if !(noSet iter && ev == none) then none else (cB c sc ev n body).map (.forr t one it)
      | _, _ => none)
    | .While t body [] _ => (match cE c ev n sc t, cB c sc ev n body with
      | some x, some b => if ev == none then some (.whl x b) else none
      | _, _ => none)
    | .Raise (some (.Call (.Name x _) [.Constant (.str _) _ _] [] _)) none _ => if gloB sc x && plainName x && ev == none then (c.ecl.lookup x).map fun p => .rse p.1 else none
    | .Try body [.ExceptHandler (some (.Name x _)) nm (b0 :: suite) _] [] [] _ => (match cB c sc ev n body, c.ecl.lookup x, nm with
      | some b, some (_, cs), some y => if gloB sc x && plainName x && loc1B sc y && plainName y && ev == none then (match slotOf c.N y, cB c sc (some y) n (b0 :: suite) with
        | some i, some s => some (.tryS b cs (some i) s)
        | _, _ => none) else none
      | some b, some (_, cs), none => if gloB sc x && plainName x && ev == none then (cB c sc (some (sOf "")) n (b0 :: suite)).map fun s => .tryS b cs none s else none
      | _, _, _ => none)
    | .Expr (.Call (.Attribute (.Name x p) m ap) [a] [] cp) _ => if !(plainName x && locB sc x && (ap.endLine == cp.line) && noStar a && ev == none) then none else (match slotOf c.N x with
      | some i => if m == sOf "append" then (cE c ev n sc a).map fun y => .app i y else if m == sOf "extend" then (cE c ev n sc a).map fun y => .ext i y else none
      | none => none)
    | .Expr e _ => if noLc e && ev == none then (cE c ev n sc e).map .ex else none
    | _ => none
def cB (c : CE) (sc : Scope) (ev : Option Str) : Nat → List Stmt → Option (List SS)
  | 0, _ => none
  | n + 1, st => match st with
    | [] => some []
    | s :: r => (match cSt c sc ev n s, cB c sc ev n r with
      | some x, some y => some (x :: y)
      | _, _ => none)
end

/-! ### which slots are owned -/
def isVar : SE → Bool
  | .var _ => true
  | _ => false
mutual
/-- the slots whose objects leave an expression -/
def esc : SE → List Nat
  | .var i => [i]
  | .con _ => []
  | .tup es => escs es
  | .lst es => escs es
  | .bin _ a b => (if isVar a then [] else esc a) ++ (if isVar b then [] else esc b)
  | .neg a => esc a
  | .nt a => esc a
  | .cmp _ a b => (if isVar a then [] else esc a) ++ (if isVar b then [] else esc b)
  | .cmp2 _ _ a b c => (if isVar a then [] else esc a) ++ ((if isVar b then [] else esc b) ++ (if isVar c then [] else esc c))
  | .an a b => esc a ++ esc b
  | .orr a b => esc a ++ esc b
  | .ite c a b => esc c ++ (esc a ++ esc b)
  | .ix a i => (if isVar a then [] else esc a) ++ (if isVar i then [] else esc i)
  | .sl a lo hi => (if isVar a then [] else esc a) ++ (esco lo ++ esco hi)
  | .rev a => (if isVar a then [] else esc a)
  | .call _ es => escs es
  | .bi _ es => escSs es
  | .lc t _ it ifs elt => t ++ (esci it ++ (escs ifs ++ esc elt))
  | .dict ks vs => escs ks ++ escs vs
  | .mk _ es => escs es
  | .fld o _ => (if isVar o then [] else esc o)
  | .meth o _ es => esc o ++ escs es
  | .isx _ => []
  | .upl _ _ _ => []
  | .me b o es => (if isVar o then [] else esc o) ++ (if b = .getN then escs es else escSs es)
def escs : List SE → List Nat
  | [] => []
  | e :: es => esc e ++ escs es
def escSs : List SE → List Nat
  | [] => []
  | e :: es => (if isVar e then [] else esc e) ++ escSs es
def esco : Option SE → List Nat
  | none => []
  | some e => esc e
def esci : SI → List Nat
  | .of a => esc a
  | .rng a b => esc a ++ esc b
  | .enm a => esc a
  | .zip a b => esc a ++ esc b
  | .rev a => esc a
end
def escS (e : SE) : List Nat := if isVar e then [] else esc e
def rem (O E : List Nat) : List Nat := O.filter fun i => !E.contains i
def joinO (a b : List Nat) : List Nat := a.filter fun i => b.contains i
def subO (a b : List Nat) : Bool := a.all fun i => b.contains i
/-- the owned slots that a loop's turn keeps -/
def flL (f : List Nat → Option (List Nat)) (O : List Nat) : Option (List Nat) := match f O with
  | some O1 => if subO O O1 then some O else (match f (joinO O O1) with
    | some O2 => if subO (joinO O O1) O2 then some (joinO O O1) else none
    | none => none)
  | none => none
mutual
/-- the owned slots behind a statement; M: the slots that are written; B: those that a break is to leave -/
def fl1 (M : List Nat) : SS → Option (List Nat) → List Nat → Option (List Nat)
  | .asg i e, _, O => some (rem (rem O (esc e)) [i])
  | .asgF i e, _, O => some (if M.contains i then i :: rem (rem O (esc e)) [i] else rem (rem O (esc e)) [i])
  | .asgT t e, _, O => some (rem (rem O (esc e)) t)
  | .ret e, _, O => some (rem O (esc e))
  | .retN, _, O => some O
  | .ifs c a b, B, O => (match flB M a B (rem O (esc c)), flB M b B (rem O (esc c)) with
    | some x, some y => some (joinO x y)
    | _, _ => none)
  | .forr t _ it body, _, O => flL (fun O => flB M body (some O) O) (rem (rem O (esci it)) t)
  | .whl c body, _, O => flL (fun O => flB M body (some O) O) (rem O (esc c))
  | .brk, B, O => (match B with
    | some b => if subO b O then some O else none
    | none => none)
  | .pass, _, O => some O
  | .app i e, _, O => if (rem O (esc e)).contains i then some (rem O (esc e)) else none
  | .ext i e, _, O => if (rem O (esc e)).contains i then some (rem O (esc e)) else none
  | .setK i k e, _, O => if (rem O (esc k ++ esc e)).contains i then some (rem O (esc k ++ esc e)) else none
  | .ex e, _, O => some (rem O (esc e))
  | .rse _, _, O => some O
  | .tryS body _ _ suite, _, O => (match flB M body none O, flB M suite none [] with
    | some x, some y => some (joinO x y)
    | _, _ => none)
def flB (M : List Nat) : List SS → Option (List Nat) → List Nat → Option (List Nat)
  | [], _, O => some O
  | s :: r, B, O => (match fl1 M s B O with
    | some O1 => flB M r B O1
    | none => none)
end
mutual
def mut1 : SS → List Nat
  | .ifs _ a b => mutB a ++ mutB b
  | .forr _ _ _ b => mutB b
  | .whl _ b => mutB b
  | .app i _ => [i]
  | .ext i _ => [i]
  | .setK i _ _ => [i]
  | .tryS a _ _ b => mutB a ++ mutB b
  | _ => []
def mutB : List SS → List Nat
  | [] => []
  | s :: r => mut1 s ++ mutB r
end
end Tk
/-! The relation between states, and the operations on values. -/
namespace Tk
open PySem PySem.Spec PyProof.Rows L2
open D

/-- the heap grows from H to H', its frozen part from Z to Z'; what was not frozen stays so -/
structure Ext (Z H Z' H' : Hp) : Prop where
  hh : Same H H'
  zz : Same Z Z'
  zh : Same Z' H'
  keep : ∀ b o, H b = some o → Z' b = Z b
  new : ∀ b, H b = none → Z' b = none → H' b = none
theorem Ext.refl {Z H : Hp} (s : Same Z H) : Ext Z H Z H := ⟨.refl _, .refl _, s, fun _ _ _ => rfl, fun _ h _ => h⟩
theorem Ext.trans {Z H Z1 H1 Z2 H2 : Hp} (a : Ext Z H Z1 H1) (b : Ext Z1 H1 Z2 H2) : Ext Z H Z2 H2 :=
  ⟨a.hh.trans b.hh, a.zz.trans b.zz, b.zh, fun c o e => (b.keep c o (a.hh c o e)).trans (a.keep c o e), fun c h z => by
    cases q : H1 c with
    | none => exact b.new c q z
    | some u =>
      have z1 : Z1 c = none := (b.zz.free z)
      rw [a.new c h z1] at q
      cases q⟩
theorem same_upd {H : Hp} {p : Addr} {o : HO} (h : H p = none) : Same H (upd H p o) := fun b x e => by
  rw [upd_ne (ne_of_none e h)]
  exact e
/-- a new object, frozen at once -/
theorem Ext.mk1 {Z H : Hp} {p : Addr} {o : HO} (s : Same Z H) (hn : H p = none) : Ext Z H (upd Z p o) (upd H p o) := by
  have zn : Z p = none := s.free hn
  refine ⟨same_upd hn, same_upd zn, fun b x e => ?_, fun b x e => ?_, fun b e z => ?_⟩
  · by_cases hb : b = p
    · subst hb
      rw [upd_same] at e ⊢
      exact e
    · rw [upd_ne hb] at e ⊢
      exact s b x e
  · rw [upd_ne (ne_of_none e hn)]
  · by_cases hb : b = p
    · subst hb
      rw [upd_same] at z
      cases z
    · rw [upd_ne hb]
      exact e
section
variable (K : PySem.W.Frag) (ct : CT)
/-- an owned list (or dict): the object itself stands outside the frozen part, its items within -/
def Own (Z H : Hp) (a : Addr) (d : D) : Prop :=
  (∃ vs ds, d = .lst ds ∧ H a = some (.lst vs) ∧ DenAll K ct Z vs ds) ∨ (∃ (q : Gd.Acc × Nat) (ps : List (D × D)), d = .gd ps ∧ H a = some (Gd.gdO ct.w a q.1 q.2) ∧ DenG K ct Z q.1 ps)
def ShDen (Z H : Hp) (v : V) (d : D) : Prop := Den K ct Z v d ∨ ∃ a, v = .ref a ∧ Z a = none ∧ Own K ct Z H a d
/-- what stands outside the frozen part: lists and dicts -/
def Aside (Z H : Hp) (b : Addr) (o : HO) : Prop := (∃ xs, o = .lst xs) ∨ (∃ φ, o = .ext φ) ∨ (∃ C dx fs, o = .ins C dx fs ∧ Z dx = none ∧ H dx = some (.own b)) ∨ ∃ x C fs, o = .own x ∧ Z x = none ∧ H x = some (.ins C b fs)
def IsObj (u : HO) : Prop := (∃ C dx fs, u = .ins C dx fs) ∨ ∃ x, u = .own x
theorem Aside.to {Z H Z' H' : Hp} {b : Addr} {o : HO} (x : Aside Z H b o) (f : ∀ c u, H c = some u → Z c = none → IsObj u → H' c = some u ∧ Z' c = none) : Aside Z' H' b o := by
  rcases x with x | x | ⟨C, dx, fs, rfl, h1, h2⟩ | ⟨x, C, fs, rfl, h1, h2⟩
  · exact .inl x
  · exact .inr (.inl x)
  · obtain ⟨g1, g2⟩ := f dx _ h2 h1 (.inr ⟨_, rfl⟩)
    exact .inr (.inr (.inl ⟨C, dx, fs, rfl, g2, g1⟩))
  · obtain ⟨g1, g2⟩ := f x _ h2 h1 (.inl ⟨_, _, _, rfl⟩)
    exact .inr (.inr (.inr ⟨x, C, fs, rfl, g2, g1⟩))
def Dif (Z H : Hp) : Prop := ∀ b o, H b = some o → Z b = none → Aside Z H b o
structure RelE (Z H : Hp) (O : List Nat) (σ : L2.St) (ρ : En) : Prop where
  sub : Same Z H
  dif : Dif Z H
  len : σ.length = ρ.length
  fr : ∀ i d, i ∉ O → ρ[i]? = some (some d) → ∃ v, σ[i]? = some (some v) ∧ Den K ct Z v d
  ow : ∀ i d, i ∈ O → ρ[i]? = some (some d) → ∃ a, σ[i]? = some (some (.ref a)) ∧ Z a = none ∧ Own K ct Z H a d
  inj : ∀ i j d e a, i ∈ O → j ∈ O → i ≠ j → ρ[i]? = some (some d) → ρ[j]? = some (some e) → σ[i]? = some (some (.ref a)) → σ[j]? ≠ some (some (.ref a))
end
section
variable {K : PySem.W.Frag} {ct : CT} {Z H Z' H' : Hp} {O : List Nat} {σ : L2.St} {ρ : En} {v : V} {d : D}
theorem Own.ext {a : Addr} (x : Own K ct Z H a d) (e : Ext Z H Z' H') : Own K ct Z' H' a d := by
  rcases x with ⟨vs, ds, r, h1, h2⟩ | ⟨kvs, ps, r, h1, h2⟩
  · exact .inl ⟨vs, ds, r, e.hh _ _ h1, DenAll.mono e.zz _ _ h2⟩
  · exact .inr ⟨kvs, ps, r, e.hh _ _ h1, DenG.mono e.zz _ _ h2⟩
theorem Own.at {a : Addr} (x : Own K ct Z H a d) : ∃ o, H a = some o := by
  rcases x with ⟨vs, ds, r, h1, h2⟩ | ⟨kvs, ps, r, h1, h2⟩
  · exact ⟨_, h1⟩
  · exact ⟨_, h1⟩
theorem ShDen.ext (x : ShDen K ct Z H v d) (e : Ext Z H Z' H') : ShDen K ct Z' H' v d := by
  rcases x with x | ⟨a, r, n, o⟩
  · exact .inl (Den.mono e.zz _ _ x)
  · obtain ⟨ob, h⟩ := o.at
    exact .inr ⟨a, r, (e.keep a ob h).trans n, o.ext e⟩
theorem ShDen.den (x : ShDen K ct Z H v d) (s : Same Z H) : Den K ct H v d := by
  rcases x with x | ⟨a, r, n, o⟩
  · exact Den.mono s _ _ x
  · subst r
    rcases o with ⟨vs, ds, r, h1, h2⟩ | ⟨kvs, ps, r, h1, h2⟩
    · subst r
      exact .lst (.inl h1) (DenAll.mono s _ _ h2)
    · subst r
      exact .gd h1 (DenG.mono s _ _ h2)
theorem ShDen.lst {ds : List D} (x : ShDen K ct Z H v (.lst ds)) (s : Same Z H) : ∃ a vs, v = .ref a ∧ Rd H a (.lst vs) ∧ DenAll K ct Z vs ds := by
  rcases x with x | ⟨a, r, n, o⟩
  · cases x with
    | lst h1 h2 => exact ⟨_, _, rfl, same_rd s h1, h2⟩
  · subst r
    rcases o with ⟨vs, ds, r, h1, h2⟩ | ⟨kvs, ps, r, h1, h2⟩
    · cases r
      exact ⟨_, _, rfl, .inl h1, h2⟩
    · cases r
theorem ShDen.tup {ds : List D} (x : ShDen K ct Z H v (.tup ds)) (s : Same Z H) : ∃ a vs, v = .ref a ∧ SqT K H a vs ∧ DenAll K ct Z vs ds := by
  rcases x with x | ⟨a, r, n, o⟩
  · cases x with
    | tup h1 h2 => exact ⟨_, _, rfl, same_seqT s h1, h2⟩
  · rcases o with ⟨vs, ds, r, h1, h2⟩ | ⟨kvs, ps, r, h1, h2⟩ <;> cases r
theorem ShDen.dic {ps : List (D × D)} (x : ShDen K ct Z H v (.dic ps)) (s : Same Z H) : (∃ a kvs, v = .ref a ∧ H a = some (.dK kvs) ∧ DenK K ct Z kvs ps) ∨ ∃ a qs, v = .ref a ∧ ct.kd a = some qs ∧ ps = kdD qs := by
  rcases x with x | ⟨a, r, n, o⟩
  · cases x with
    | dK h1 h2 => exact .inl ⟨_, _, rfl, s _ _ h1, h2⟩
    | dW h1 => exact .inr ⟨_, _, rfl, h1, rfl⟩
  · rcases o with ⟨vs, ds, r, h1, h2⟩ | ⟨kvs, ps, r, h1, h2⟩ <;> cases r
theorem ShDen.gd {ps : List (D × D)} (x : ShDen K ct Z H v (.gd ps)) (s : Same Z H) : ∃ a acc ep, v = .ref a ∧ H a = some (Gd.gdO ct.w a acc ep) ∧ DenG K ct Z acc ps := by
  rcases x with x | ⟨a, r, n, o⟩
  · cases x with
    | gd h1 h2 => exact ⟨_, _, _, rfl, s _ _ h1, h2⟩
  · subst r
    rcases o with ⟨vs, ds, r, h1, h2⟩ | ⟨q, ps, r, h1, h2⟩
    · cases r
    · cases r
      exact ⟨_, _, _, rfl, h1, h2⟩
theorem ShDen.int {i : Int} (x : ShDen K ct Z H v (.int i)) : v = .int i := by
  rcases x with x | ⟨a, r, n, o⟩
  · cases x; rfl
  · rcases o with ⟨vs, ds, r, h1, h2⟩ | ⟨kvs, ps, r, h1, h2⟩ <;> cases r
theorem ShDen.bl {i : Bool} (x : ShDen K ct Z H v (.bl i)) : v = .bl i := by
  rcases x with x | ⟨a, r, n, o⟩
  · cases x; rfl
  · rcases o with ⟨vs, ds, r, h1, h2⟩ | ⟨kvs, ps, r, h1, h2⟩ <;> cases r
theorem ShDen.non (x : ShDen K ct Z H v .non) : v = .non := by
  rcases x with x | ⟨a, r, n, o⟩
  · cases x; rfl
  · rcases o with ⟨vs, ds, r, h1, h2⟩ | ⟨kvs, ps, r, h1, h2⟩ <;> cases r
theorem ShDen.str {z : List Nat} (x : ShDen K ct Z H v (.str z)) : v = .str ⟨z.toArray⟩ := by
  rcases x with x | ⟨a, r, n, o⟩
  · cases x; simp
  · rcases o with ⟨vs, ds, r, h1, h2⟩ | ⟨kvs, ps, r, h1, h2⟩ <;> cases r
theorem den_str (K : PySem.W.Frag) (ct : CT) (H : Hp) (z : List Nat) : Den K ct H (.str ⟨z.toArray⟩) (.str z) := by
  have := Den.str (K := K) (ct := ct) (H := H) ⟨z.toArray⟩
  simpa using this
theorem Dif.ext (x : Dif Z H) (e : Ext Z H Z' H') (n : ∀ b, H b = none → Z' b = none → H' b = none) : Dif Z' H' := fun b o h z => by
  cases q : H b with
  | none => rw [n b q z] at h; cases h
  | some u =>
    have h2 := e.hh b u q
    rw [h] at h2
    cases h2
    rw [e.keep b o q] at z
    exact (x b o q z).to fun c u hc hz _ => ⟨e.hh c u hc, (e.keep c u hc).trans hz⟩
theorem RelE.ext (x : RelE K ct Z H O σ ρ) (e : Ext Z H Z' H') : RelE K ct Z' H' O σ ρ := by
  refine ⟨e.zh, x.dif.ext e e.new, x.len, fun i d h q => ?_, fun i d h q => ?_, x.inj⟩
  · obtain ⟨v, a, b⟩ := x.fr i d h q
    exact ⟨v, a, Den.mono e.zz _ _ b⟩
  · obtain ⟨a, h1, h2, h3⟩ := x.ow i d h q
    obtain ⟨o, ho⟩ := h3.at
    exact ⟨a, h1, (e.keep a o ho).trans h2, h3.ext e⟩
theorem RelE.at (x : RelE K ct Z H O σ ρ) {i : Nat} {d : D} (q : ρ[i]? = some (some d)) : ∃ v, σ[i]? = some (some v) ∧ ShDen K ct Z H v d := by
  by_cases h : i ∈ O
  · obtain ⟨a, h1, h2, h3⟩ := x.ow i d h q
    exact ⟨_, h1, .inr ⟨a, rfl, h2, h3⟩⟩
  · obtain ⟨v, h1, h2⟩ := x.fr i d h q
    exact ⟨_, h1, .inl h2⟩

/-- what an operation is to reach -/
def Fin (K : PySem.W.Frag) (ct : CT) (Z H : Hp) (r : Res D) (Q : VK) : Prop := match r with
  | .ok d => ∀ v H' Z', Ext Z H Z' H' → Den K ct Z' v d → Q v H'
  | .exc _ => False
  | .bad => False
theorem Fin.ret {r : Res D} {Q : VK} (h : Fin K ct Z H r Q) (s : Same Z H) (e : r = .ok d) (q : Den K ct Z v d) : Q v H := by
  subst e
  exact h v H Z (.refl s) q
/-- a new object comes -/
theorem Fin.new {r : Res D} {Q : VK} {o : HO} (h : Fin K ct Z H r Q) (s : Same Z H) (e : r = .ok d) (q : ∀ p, Den K ct (upd Z p o) (.ref p) d ∨ H p ≠ none) : ∀ p, H p = none → Q (.ref p) (upd H p o) := fun p hn => by
  subst e
  rcases q p with q | q
  · exact h _ _ _ (.mk1 s hn) q
  · exact absurd hn q
def R2D (K : PySem.W.Frag) (ct : CT) (f : D → D → Res D) : R2 := fun x y H Q => ∃ Z dx dy, Same Z H ∧ ShDen K ct Z H x dx ∧ ShDen K ct Z H y dy ∧ Fin K ct Z H (f dx dy) Q
end
section
variable {X : Cx} {ct : CT}
theorem okN_le {n : Nat} (h : okN n = true) : n ≤ sizeLine := by
  rw [sizeLine_eq]
  exact of_decide_eq_true h
theorem inR_of {i : Int} (h : inR i = true) : -(2 ^ 64) < i ∧ i < 2 ^ 64 := by
  unfold inR at h
  simpa using h
theorem strlen (z : List Nat) : (⟨z.toArray⟩ : Str).length = z.length := by
  simp [Str.length]
theorem strapp (x y : List Nat) : (⟨x.toArray⟩ : Str) ++ ⟨y.toArray⟩ = ⟨(x ++ y).toArray⟩ := by
  show Str.append _ _ = _
  simp [Str.append]
theorem den_tupNew {K : PySem.W.Frag} {Z : Hp} {p : Addr} {vs : List V} {ds : List D} (hp : Z p = none) (h : DenAll K ct Z vs ds) : Den K ct (upd Z p (.tup vs)) (.ref p) (.tup ds) :=
  .tup (.inl (.inl upd_same)) (DenAll.mono (same_upd hp) _ _ h)
theorem den_lstNew {K : PySem.W.Frag} {Z : Hp} {p : Addr} {vs : List V} {ds : List D} (hp : Z p = none) (h : DenAll K ct Z vs ds) : Den K ct (upd Z p (.lst vs)) (.ref p) (.lst ds) :=
  .lst (.inl upd_same) (DenAll.mono (same_upd hp) _ _ h)
theorem Fin.newT {K : PySem.W.Frag} {Z H : Hp} {r : Res D} {Q : VK} {vs : List V} {ds : List D} (h : Fin K ct Z H r Q) (s : Same Z H) (e : r = .ok (.tup ds)) (q : DenAll K ct Z vs ds) : ∀ p, H p = none → Q (.ref p) (upd H p (.tup vs)) := fun p hn => by
  subst e
  exact h _ _ _ (.mk1 s hn) (den_tupNew (s.free hn) q)
theorem Fin.newL {K : PySem.W.Frag} {Z H : Hp} {r : Res D} {Q : VK} {vs : List V} {ds : List D} (h : Fin K ct Z H r Q) (s : Same Z H) (e : r = .ok (.lst ds)) (q : DenAll K ct Z vs ds) : ∀ p, H p = none → Q (.ref p) (upd H p (.lst vs)) := fun p hn => by
  subst e
  exact h _ _ _ (.mk1 s hn) (den_lstNew (s.free hn) q)
theorem DenAll.nil_iff {K : PySem.W.Frag} {H : Hp} {vs : List V} {ds : List D} (h : DenAll K ct H vs ds) : vs = [] ↔ ds = [] := by
  cases h <;> simp
theorem Inv.rdL {pins : List (Addr × Obj)} {σ : L2.St} {H : Hp} {s : Shared} {l : Addr} {xs : List V} (I : Inv X pins σ H s) (hH : Rd H l (.lst xs)) : xs.length ≤ sizeLine ∧ ∃ (its : List Value) (n : Nat), Vals xs its ∧ xs.length = its.length ∧ s.heap.get? l = some { cls := .type "list", data := .seq its.toArray n } := by
  obtain ⟨z, its, n, r, e⟩ := hH.ok I.hok
  exact ⟨z, its, n, r, r.length, e⟩
/-- list + list, both only read -/
def rCatS : R2 := fun x y H Q => ∃ l b xs zs, x = .ref l ∧ y = .ref b ∧ Rd H l (.lst xs) ∧ Rd H b (.lst zs) ∧ xs.length + zs.length ≤ sizeLine ∧ ∀ p, H p = none → Q (.ref p) (upd H p (.lst (xs ++ zs)))
theorem op_catS : OpR X (binaryOp .Add) rCatS := by
  intro pins s σ H x y v u Q I rx ry h
  obtain ⟨l, b, xs, zs, rfl, rfl, hH, hB, hz, q⟩ := h
  cases rx
  cases ry
  obtain ⟨z, its, n, r, hl, e⟩ := Inv.rdL I hH
  obtain ⟨z2, its2, n2, r2, hl2, e2⟩ := Inv.rdL I hB
  refine PySem.P.add_list e e2 ?_ (by rw [List.size_toArray, List.size_toArray]; omega)
  have ea : its.toArray ++ its2.toArray = (its ++ its2).toArray := by simp
  rw [ea]
  exact ⟨.ref _, _, I.lnew (t' := s.toks) (r.append r2) (by rw [List.length_append]; omega), rfl, q _ I.fresh⟩
theorem opr_add : OpR X (binaryOp .Add) (R2D X.K ct (binD .add)) := by
  intro pins s σ H x y v u Q I rx ry h
  obtain ⟨Z, dx, dy, sz, hx, hy, f⟩ := h
  cases dx with
  | int i => cases dy with
    | int j => exact op_add pins s σ H _ _ v u Q I rx ry ⟨i, j, hx.int, hy.int, f.ret sz rfl (.int _)⟩
    | bl j =>
      have e1 := hx.int
      have e2 := hy.bl
      subst e1 e2
      obtain ⟨t, rfl⟩ := rx
      cases ry
      exact add_int_bool ⟨.int _, H, I.tok _, ⟨_, rfl⟩, f.ret sz rfl (.int _)⟩
    | _ => exact (show False from f).elim
  | bl i => cases dy with
    | int j =>
      have e1 := hx.bl
      have e2 := hy.int
      subst e1 e2
      cases rx
      obtain ⟨t, rfl⟩ := ry
      exact PySem.IntBool.add_bool_int ⟨.int _, H, I.tok _, ⟨_, rfl⟩, f.ret sz rfl (.int _)⟩
    | _ => exact (show False from f).elim
  | str i => cases dy with
    | str j =>
      by_cases c : okN (i.length + j.length) = true
      · have e : binD .add (.str i) (.str j) = .ok (.str (i ++ j)) := if_pos c
        refine op_add_str pins s σ H _ _ v u Q I rx ry ⟨_, _, hx.str, hy.str, ?_, ?_⟩
        · rw [strlen, strlen]; exact okN_le c
        · rw [strapp]; exact f.ret sz e (den_str _ _ _ _)
      · have e : binD .add (.str i) (.str j) = .bad := if_neg c
        rw [e] at f; exact (show False from f).elim
    | _ => exact (show False from f).elim
  | lst i => cases dy with
    | lst j =>
      by_cases c : okN (i.length + j.length) = true
      · have e : binD .add (.lst i) (.lst j) = .ok (.lst (i ++ j)) := if_pos c
        obtain ⟨a, vs, rfl, h1, h2⟩ := hx.lst sz
        obtain ⟨b, ws, rfl, h3, h4⟩ := hy.lst sz
        exact op_catS pins s σ H _ _ v u Q I rx ry ⟨a, b, vs, ws, rfl, rfl, h1, h3, by rw [h2.length, h4.length]; exact okN_le c, f.newL sz e (h2.append h4)⟩
      · have e : binD .add (.lst i) (.lst j) = .bad := if_neg c
        rw [e] at f; exact (show False from f).elim
    | _ => exact (show False from f).elim
  | tup i => cases dy with
    | tup j =>
      by_cases c : okN (i.length + j.length) = true
      · have e : binD .add (.tup i) (.tup j) = .ok (.tup (i ++ j)) := if_pos c
        obtain ⟨a, vs, rfl, h1, h2⟩ := hx.tup sz
        obtain ⟨b, ws, rfl, h3, h4⟩ := hy.tup sz
        have hX : Den X.K ct Z (.ref a) (.tup i) ∧ Den X.K ct Z (.ref b) (.tup j) := by
          refine ⟨?_, ?_⟩
          · rcases hx with z | ⟨_, _, _, o⟩
            · exact z
            · rcases o with ⟨_, _, r, _⟩ | ⟨_, _, r, _⟩ <;> cases r
          · rcases hy with z | ⟨_, _, _, o⟩
            · exact z
            · rcases o with ⟨_, _, r, _⟩ | ⟨_, _, r, _⟩ <;> cases r
        refine op_catA pins s σ H _ _ v u Q I rx ry ⟨a, b, vs, ws, rfl, rfl, h1, h3, by rw [h2.length, h4.length]; exact okN_le c, fun z => ?_, fun _ z => ?_, fun _ _ => f.newT sz e (h2.append h4)⟩
        · have z2 := h2.nil_iff.mp z
          subst z2
          exact f.ret sz e hX.2
        · have z2 := h4.nil_iff.mp z
          subst z2
          exact f.ret sz (by rw [e, List.append_nil]) hX.1
      · have e : binD .add (.tup i) (.tup j) = .bad := if_neg c
        rw [e] at f; exact (show False from f).elim
    | _ => exact (show False from f).elim
  | _ => cases dy <;> exact (show False from f).elim
theorem opr_sub : OpR X (binaryOp .Sub) (R2D X.K ct (binD .sub)) := by
  intro pins s σ H x y v u Q I rx ry h
  obtain ⟨Z, dx, dy, sz, hx, hy, f⟩ := h
  cases dx with
  | int i => cases dy with
    | int j => exact op_sub pins s σ H _ _ v u Q I rx ry ⟨i, j, hx.int, hy.int, f.ret sz rfl (.int _)⟩
    | bl j =>
      have e1 := hx.int
      have e2 := hy.bl
      subst e1 e2
      obtain ⟨t, rfl⟩ := rx
      cases ry
      exact PySem.IntBool.sub_int_bool ⟨.int _, H, I.tok _, ⟨_, rfl⟩, f.ret sz rfl (.int _)⟩
    | _ => exact (show False from f).elim
  | bl i => cases dy with
    | int j =>
      have e1 := hx.bl
      have e2 := hy.int
      subst e1 e2
      cases rx
      obtain ⟨t, rfl⟩ := ry
      exact PySem.IntBool.sub_bool_int ⟨.int _, H, I.tok _, ⟨_, rfl⟩, f.ret sz rfl (.int _)⟩
    | _ => exact (show False from f).elim
  | _ => cases dy <;> exact (show False from f).elim
theorem opr_mod : OpR X (binaryOp .Mod) (R2D X.K ct (binD .mod)) := by
  intro pins s σ H x y v u Q I rx ry h
  obtain ⟨Z, dx, dy, sz, hx, hy, f⟩ := h
  cases dx with
  | int i => cases dy with
    | int j =>
      by_cases c : 0 < j
      · exact op_mod pins s σ H _ _ v u Q I rx ry ⟨i, j, hx.int, hy.int, c, f.ret sz (if_pos (decide_eq_true c)) (.int _)⟩
      · have e : binD .mod (.int i) (.int j) = .bad := if_neg (by simpa using c)
        rw [e] at f; exact (show False from f).elim
    | _ => exact (show False from f).elim
  | _ => cases dy <;> exact (show False from f).elim
theorem opr_fdiv : OpR X (binaryOp .FloorDiv) (R2D X.K ct (binD .fdiv)) := by
  intro pins s σ H x y v u Q I rx ry h
  obtain ⟨Z, dx, dy, sz, hx, hy, f⟩ := h
  cases dx with
  | int i => cases dy with
    | int j =>
      by_cases c : (decide (0 < j) && decide (j < 1073741824)) = true
      · exact op_fdiv pins s σ H _ _ v u Q I rx ry ⟨i, j, hx.int, hy.int, ⟨by simpa using (Bool.and_eq_true_iff.mp c).1, by simpa using (Bool.and_eq_true_iff.mp c).2⟩, f.ret sz (if_pos c) (.int _)⟩
      · have e : binD .fdiv (.int i) (.int j) = .bad := if_neg c
        rw [e] at f; exact (show False from f).elim
    | _ => exact (show False from f).elim
  | _ => cases dy <;> exact (show False from f).elim
theorem opr_pow : OpR X (binaryOp .Pow) (R2D X.K ct (binD .pow)) := by
  intro pins s σ H x y v u Q I rx ry h
  obtain ⟨Z, dx, dy, sz, hx, hy, f⟩ := h
  cases dx with
  | int i => cases dy with
    | int j =>
      by_cases c : (decide (0 ≤ j) && decide (j ≤ 100) && inR i) = true
      · obtain ⟨c1, c2⟩ := Bool.and_eq_true_iff.mp c
        obtain ⟨c3, c4⟩ := Bool.and_eq_true_iff.mp c1
        have r := inR_of c2
        have c3 : 0 ≤ j := of_decide_eq_true c3
        have c4 : j ≤ 100 := of_decide_eq_true c4
        exact op_pow pins s σ H _ _ v u Q I rx ry ⟨i, j, hx.int, hy.int, ⟨c3, by omega, by omega⟩, f.ret sz (if_pos c) (.int _)⟩
      · have e : binD .pow (.int i) (.int j) = .bad := if_neg c
        rw [e] at f; exact (show False from f).elim
    | _ => exact (show False from f).elim
  | _ => cases dy <;> exact (show False from f).elim
/-- list * int, the list only read -/
def rRepS : R2 := fun x y H Q => ∃ l k xs, x = .ref l ∧ y = .int k ∧ Rd H l (.lst xs) ∧ 0 ≤ k ∧ k < 1000 ∧ xs.length < 1000 ∧ ∀ p, H p = none → Q (.ref p) (upd H p (.lst (List.replicate k.toNat xs).flatten))
theorem op_repS : OpR X (binaryOp .Mult) rRepS := by
  intro pins s σ H x y v u Q I rx ry h
  obtain ⟨l, k, xs, rfl, rfl, hH, h1, h2, hz0, q⟩ := h
  have hz : xs.length * k.toNat ≤ sizeLine := by
    rw [sizeLine_eq]
    have a1 : xs.length * k.toNat ≤ 1000 * 1000 := Nat.mul_le_mul (by omega) (by omega)
    omega
  cases rx
  obtain ⟨t, rfl⟩ := ry
  obtain ⟨z, its, n, r, hl, e⟩ := Inv.rdL I hH
  have hlen : its.toArray.size * k.toNat ≤ sizeLine := by rw [List.size_toArray, ← hl]; exact hz
  have hcap : ¬ its.toArray.size * k.toNat > (2 ^ 63 - 1) / 8 := by
    have : (sizeLine : Nat) ≤ (2 ^ 63 - 1) / 8 := by decide
    omega
  have hfit : ¬ (!Builtin.List.listFitsIndex k) = true := by
    rw [fitsIndex_both (by omega) (by omega)]
    exact Bool.false_ne_true
  have hlong : ¬ Builtin.List.listTooLong (its.toArray.size * k.toNat) = true := by
    rw [notLongL hlen]
    exact Bool.false_ne_true
  have hnew : List.foldl (fun x1 x2 => x1 ++ x2) #[] (List.replicate (if its.toArray.isEmpty = true then 0 else k.toNat) its.toArray) = (List.replicate k.toNat its).flatten.toArray := by
    have f0 : ∀ m : Nat, List.foldl (fun x1 x2 => x1 ++ x2) #[] (List.replicate m its.toArray) = (List.replicate m its).flatten.toArray := fun m => by
      have := foldl_rep its m []
      rw [List.nil_append] at this
      exact this
    rw [f0]
    cases its with
    | nil => simp
    | cons a r' => rw [if_neg (by simp)]
  refine wpAny_binaryOp_repeat_ref (T := "list") (U := "int") (by decide) ⟨_, e, rfl⟩ (fun s' => typeIs_int s' k t) noFill_list_mul F.fills_int_mul F.slot_int_rmul repeat_list F.slot_int_index.lookup
    (call_meets F.slot_int_rmul (typeIs_int s k t) F.entry_int_rmul (F.args_int_rmul_2 _ _) (int___rmul___int_list k t l its.toArray n)
      ⟨e, rfl, ⟨_, e, rfl⟩, call_meets F.slot_list_mul ⟨_, e, rfl⟩ F.entry_list_mul (F.args_list_mul_2 _ _) (AutoListH.list___mul___list_int_3 l its.toArray n k t hfit hcap hlong) ⟨e, ?_⟩⟩)
  rw [hnew]
  exact ⟨.ref _, _, I.lnew (t' := s.toks) (r.rep k.toNat) (by rw [PyProof.Rows.lm_len_rep_flat, Nat.mul_comm]; exact hz), rfl, q _ I.fresh⟩
theorem DenAll.rep {K : PySem.W.Frag} {H : Hp} {vs : List V} {ds : List D} (h : DenAll K ct H vs ds) : ∀ k : Nat, DenAll K ct H (List.replicate k vs).flatten (List.replicate k ds).flatten
  | 0 => .nil
  | k + 1 => by
    rw [List.replicate_succ, List.replicate_succ, List.flatten_cons, List.flatten_cons]
    exact h.append (h.rep k)
theorem rep_arr (c : List Nat) : ∀ (n : Nat) (acc : Array Nat), (List.replicate n c.toArray).foldl (· ++ ·) acc = acc ++ (List.replicate n c).flatten.toArray
  | 0, acc => by simp
  | n + 1, acc => by
    rw [List.replicate_succ, List.foldl_cons, rep_arr c n, List.replicate_succ, List.flatten_cons]
    simp
theorem op_mulS : OpR X (binaryOp .Mult) (fun x y H Q => ∃ (z : List Nat) (k : Int), x = .str ⟨z.toArray⟩ ∧ y = .int k ∧ 2 ≤ k ∧ k ≤ 1000 ∧ z.length = 1 ∧ Q (.str ⟨(repL z k).toArray⟩) H) := by
  intro pins s σ H x y v u Q I rx ry h
  obtain ⟨z, k, rfl, rfl, k2, k3, hz, q⟩ := h
  obtain ⟨t, rfl⟩ := rx
  obtain ⟨t2, rfl⟩ := ry
  have hl : (⟨z.toArray⟩ : Str).length = 1 := by simp [Str.length, hz]
  have e1 : (k == 1 || (⟨z.toArray⟩ : Str).length == 0) = false := by
    rw [hl]
    have : (k == 1) = false := beq_eq_false_iff_ne.mpr (by omega)
    rw [this]
    rfl
  have ez : (⟨(List.replicate k.toNat z.toArray).foldl (· ++ ·) #[]⟩ : Str) = ⟨(repL z k).toArray⟩ := by
    rw [rep_arr]
    simp [repL]
  have ln : (repL z k).length = k.toNat := by simp [repL, hz]
  refine PySem.P.mul_str (by rw [decide_eq_false (by omega), decide_eq_false (by omega)]; rfl) (fun _ _ => ?_) (fun _ _ => ?_) ?_
  · rw [hl]
    have : (2 ^ 63 - 1) / k ≥ 1 := by
      have : (1 : Int) ≤ (2 ^ 63 - 1) / k := Int.le_ediv_of_mul_le (by omega) (by omega)
      exact this
    show ¬ ((1 : Nat) : Int) > _
    omega
  · rw [hl]
    unfold Builtin.Str.tooLong
    rw [sizeLine_eq]
    exact decide_eq_false (by omega)
  · rw [if_neg (by omega), if_neg (by rw [e1]; exact Bool.false_ne_true), ez]
    refine ⟨?_, .str ⟨(repL z k).toArray⟩, H, I.tok _, ⟨_, rfl⟩, q⟩
    show (repL z k).toArray.size ≤ sizeLine
    rw [List.size_toArray, ln, sizeLine_eq]
    omega
theorem opr_mul : OpR X (binaryOp .Mult) (R2D X.K ct (binD .mul)) := by
  intro pins s σ H x y v u Q I rx ry h
  obtain ⟨Z, dx, dy, sz, hx, hy, f⟩ := h
  cases dx with
  | int i => cases dy with
    | int j =>
      by_cases c : (inR i || inR j) = true
      · exact op_mul pins s σ H _ _ v u Q I rx ry ⟨i, j, hx.int, hy.int, (Bool.or_eq_true_iff.mp c).elim (fun z => .inl (inR_of z)) (fun z => .inr (inR_of z)), f.ret sz (if_pos c) (.int _)⟩
      · have e : binD .mul (.int i) (.int j) = .bad := if_neg c
        rw [e] at f; exact (show False from f).elim
    | _ => exact (show False from f).elim
  | lst i => cases dy with
    | int j =>
      by_cases c : (decide (0 ≤ j) && decide (j < 1000) && decide (i.length < 1000)) = true
      · obtain ⟨c1, c2⟩ := Bool.and_eq_true_iff.mp c
        obtain ⟨c3, c4⟩ := Bool.and_eq_true_iff.mp c1
        obtain ⟨a, vs, rfl, h1, h2⟩ := hx.lst sz
        exact op_repS pins s σ H _ _ v u Q I rx ry ⟨a, j, vs, rfl, hy.int, h1, of_decide_eq_true c3, of_decide_eq_true c4, by rw [h2.length]; exact of_decide_eq_true c2, f.newL sz (if_pos c) (h2.rep _)⟩
      · have e : binD .mul (.lst i) (.int j) = .bad := if_neg c
        rw [e] at f; exact (show False from f).elim
    | _ => exact (show False from f).elim
  | tup i => cases dy with
    | int j =>
      by_cases c : (decide (2 ≤ j) && decide (j ≤ 1000) && decide (i.length ≤ 1000) && !i.isEmpty) = true
      · obtain ⟨c0, c5⟩ := Bool.and_eq_true_iff.mp c
        obtain ⟨c1, c2⟩ := Bool.and_eq_true_iff.mp c0
        obtain ⟨c3, c4⟩ := Bool.and_eq_true_iff.mp c1
        obtain ⟨a, vs, rfl, h1, h2⟩ := hx.tup sz
        exact op_repT pins s σ H _ _ v u Q I rx ry ⟨a, j, vs, rfl, hy.int, h1, fun z => by rw [h2.nil_iff.mp z] at c5; simp at c5, of_decide_eq_true c3, of_decide_eq_true c4, by rw [h2.length]; exact of_decide_eq_true c2, f.newT sz (if_pos c) (h2.rep _)⟩
      · have e : binD .mul (.tup i) (.int j) = .bad := if_neg c
        rw [e] at f; exact (show False from f).elim
    | _ => exact (show False from f).elim
  | str i => cases dy with
    | int j =>
      by_cases c : (decide (2 ≤ j) && decide (j ≤ 1000) && decide (i.length = 1)) = true
      · obtain ⟨c1, c2⟩ := Bool.and_eq_true_iff.mp c
        obtain ⟨c3, c4⟩ := Bool.and_eq_true_iff.mp c1
        exact op_mulS pins s σ H _ _ v u Q I rx ry ⟨i, j, hx.str, hy.int, of_decide_eq_true c3, of_decide_eq_true c4, of_decide_eq_true c2, f.ret sz (if_pos c) (den_str _ _ _ _)⟩
      · have e : binD .mul (.str i) (.int j) = .bad := if_neg c
        rw [e] at f; exact (show False from f).elim
    | _ => exact (show False from f).elim
  | _ => cases dy <;> exact (show False from f).elim
theorem opr_bin {op : Operator} {b : Bo} (h : boOf op = some b) : OpR X (binaryOp op) (R2D X.K ct (binD b)) := by
  cases op <;> first | (cases h; first | exact opr_add | exact opr_sub | exact opr_mul | exact opr_mod | exact opr_fdiv | exact opr_pow) | cases h
end
end Tk
/-! Dicts with keys of any kind: look-up and store over data. -/
namespace Tk
open PySem PySem.Spec PyProof.Rows L2
open D
section
variable {K : PySem.W.Frag} {ct : CT} {H : Hp}
theorem kyB_kb {d : D} (h : kyB d = true) : d.kb = true := (Bool.and_eq_true_iff.mp h).1
theorem eq_key {a b : D} (ha : kyB a = true) (hb : kyB b = true) : eqD a b = decide (nk a = nk b) := eqD_nk a b (kyB_kb ha) (kyB_kb hb)
theorem DenG.look {kd : D} (hk : kyB kd = true) : ∀ {acc : Gd.Acc} {ps : List (D × D)}, DenG K ct H acc ps → (match Gd.lookG acc (nk kd) with
    | some u => ∃ v d, lookD kd ps = some d ∧ RelV v u ∧ Den K ct H v d
    | none => lookD kd ps = none) ∧ (ps.any fun p => eqD p.1 kd) = (Gd.lookG acc (nk kd)).isSome
  | _, _, .nil => ⟨rfl, rfl⟩
  | _, _, .cons (kd := k2) (d := d2) (v := v2) (acc := acc) (ps := ps) (e := en) h1 h2 h3 h4 h5 h6 => by
    have e := eq_key h3 hk
    obtain ⟨i1, i2⟩ := DenG.look hk h6
    by_cases q : nk k2 = nk kd
    · have e1 : eqD k2 kd = true := by rw [e]; exact decide_eq_true q
      have e2 : Gd.lookG ((nk k2, en) :: acc) (nk kd) = some en.val := by unfold Gd.lookG; rw [if_pos q]
      rw [e2]
      refine ⟨⟨_, _, ?_, h4, h5⟩, ?_⟩
      · show (if eqD k2 kd = true then _ else _) = _
        rw [if_pos e1]
      · rw [List.any_cons, e1]; rfl
    · have e1 : eqD k2 kd = false := by rw [e]; exact decide_eq_false q
      have e2 : Gd.lookG ((nk k2, en) :: acc) (nk kd) = Gd.lookG acc (nk kd) := by
        show (if nk k2 = nk kd then _ else _) = _
        rw [if_neg q]
      have e3 : lookD kd ((k2, d2) :: ps) = lookD kd ps := by
        show (if eqD k2 kd = true then _ else _) = _
        rw [if_neg (by rw [e1]; exact Bool.false_ne_true)]
      rw [e2, e3]
      refine ⟨i1, ?_⟩
      rw [List.any_cons, e1, i2]; rfl
theorem DenG.len : ∀ {acc : Gd.Acc} {ps : List (D × D)}, DenG K ct H acc ps → acc.length = ps.length
  | _, _, .nil => rfl
  | _, _, .cons _ _ _ _ _ h => by rw [List.length_cons, List.length_cons, DenG.len h]
theorem DenG.stand : ∀ {acc : Gd.Acc} {ps : List (D × D)}, DenG K ct H acc ps → ∀ p ∈ acc, ∃ y, RelV y p.2.key ∧ Gd.KyD K H y p.1
  | _, _, .nil, p, hp => by cases hp
  | _, _, .cons h1 h2 h3 h4 h5 h6, p, hp => by
    rcases List.mem_cons.mp hp with rfl | hp
    · exact ⟨_, h1, h2.kyD h3⟩
    · exact DenG.stand h6 p hp
/-- the keys, as a list -/
theorem DenG.keys : ∀ {acc : Gd.Acc} {ps : List (D × D)}, DenG K ct H acc ps → ∃ ys, Vals ys (acc.map fun p => p.2.key) ∧ DenAll K ct H ys (ps.map (·.1))
  | _, _, .nil => ⟨[], .nil, .nil⟩
  | _, _, .cons h1 h2 h3 h4 h5 h6 => by
    obtain ⟨ys, r, d⟩ := DenG.keys h6
    exact ⟨_ :: ys, .cons h1 r, .cons h2 d⟩
theorem DenG.repl {kd d : D} {v : V} {r : Value} (hk : kyB kd = true) (hr : RelV v r) (hd : Den K ct H v d) : ∀ {acc : Gd.Acc} {ps : List (D × D)}, DenG K ct H acc ps →
    DenG K ct H (acc.map fun p => if p.1 = nk kd then (p.1, { p.2 with val := r }) else p) (ps.map fun p => if eqD p.1 kd then (p.1, d) else p)
  | _, _, .nil => .nil
  | _, _, .cons (kd := k2) h1 h2 h3 h4 h5 h6 => by
    have e := eq_key h3 hk
    rw [List.map_cons, List.map_cons]
    dsimp only
    by_cases q : nk k2 = nk kd
    · rw [if_pos q, if_pos (by rw [e]; exact decide_eq_true q)]
      exact .cons h1 h2 h3 hr hd (DenG.repl hk hr hd h6)
    · rw [if_neg q, if_neg (by rw [e]; simpa using q)]
      exact .cons h1 h2 h3 h4 h5 (DenG.repl hk hr hd h6)
theorem DenG.snoc {kd d : D} {x v : V} {en : DictEntry} (hx : RelV x en.key) (hxd : Den K ct H x kd) (hk : kyB kd = true) (hr : RelV v en.val) (hd : Den K ct H v d) : ∀ {acc : Gd.Acc} {ps : List (D × D)}, DenG K ct H acc ps → DenG K ct H (acc ++ [(nk kd, en)]) (ps ++ [(kd, d)])
  | _, _, .nil => .cons hx hxd hk hr hd .nil
  | _, _, .cons h1 h2 h3 h4 h5 h6 => .cons h1 h2 h3 h4 h5 (DenG.snoc hx hxd hk hr hd h6)
theorem DenG.any {kd : D} (hk : kyB kd = true) : ∀ {acc : Gd.Acc} {ps : List (D × D)}, DenG K ct H acc ps → (ps.any fun p => eqD p.1 kd) = (acc.any fun p => decide (p.1 = nk kd))
  | _, _, .nil => rfl
  | _, _, .cons (kd := k2) h1 h2 h3 h4 h5 h6 => by rw [List.any_cons, List.any_cons, DenG.any hk h6, eq_key h3 hk]
/-- d[k] = v -/
theorem DenG.put {w : World} {kd d : D} {x v : V} {u r : Value} {acc : Gd.Acc} {ps : List (D × D)} (hx : RelV x u) (hxd : Den K ct H x kd) (hk : kyB kd = true) (hr : RelV v r) (hd : Den K ct H v d) (h : DenG K ct H acc ps) : DenG K ct H (Gd.putG w acc (nk kd) u r) (setD kd d ps) := by
  unfold Gd.putG setD
  rw [DenG.any hk h]
  cases q : acc.any fun p => decide (p.1 = nk kd) with
  | true => rw [if_pos rfl, if_pos rfl]; exact DenG.repl hk hr hd h
  | false => rw [if_neg Bool.false_ne_true, if_neg Bool.false_ne_true]; exact DenG.snoc hx hxd hk hr hd h
/-- pairs ready for dict(..) -/
theorem pairs_den {Z : Hp} (sz : Same Z H) : ∀ {vs : List V} {ds : List D} {ms : List (D × D)}, DenAll K ct Z vs ds → pairsO ds = some ms → ∃ (ps : List Addr) (ts : List (NestedKey × V × V)), vs = ps.map V.ref ∧ Paired (Gd.RelT K H) ps ts ∧
    Paired (fun (t : NestedKey × V × V) (m : D × D) => t.1 = nk m.1 ∧ kyB m.1 = true ∧ Den K ct Z t.2.1 m.1 ∧ Den K ct Z t.2.2 m.2) ts ms
  | _, _, ms, .nil, e => by cases e; exact ⟨[], [], rfl, .nil, .nil⟩
  | v :: vs, d :: ds, ms, .cons h1 h2, e => by
    unfold pairsO at e
    split at e
    · cases ‹_ :: _ = _›
    · rename_i k x r heq
      injection heq with q1 q2
      subst q1 q2
      split at e
      · rename_i hk
        obtain ⟨ms2, e2, rfl⟩ := Option.map_eq_some_iff.mp e
        obtain ⟨ps, ts, rfl, g1, g2⟩ := pairs_den sz h2 e2
        cases h1 with
        | tup t1 t2 =>
          rename_i a xs
          cases t2 with
          | cons u1 u2 =>
            cases u2 with
            | cons w1 w2 =>
              cases w2
              exact ⟨a :: ps, (nk k, _, _) :: ts, rfl, .cons ⟨same_seqT sz t1, (Den.mono sz _ _ u1).kyD hk⟩ g1, .cons ⟨rfl, hk, u1, w1⟩ g2⟩
      · cases e
    · cases e
theorem DenG.merge {w : World} : ∀ {ts : List (NestedKey × V × V)} {rs : List (NestedKey × Value × Value)} {ms : List (D × D)} {acc : Gd.Acc} {ps : List (D × D)}, Paired (fun (t : NestedKey × V × V) (m : D × D) => t.1 = nk m.1 ∧ kyB m.1 = true ∧ Den K ct H t.2.1 m.1 ∧ Den K ct H t.2.2 m.2) ts ms →
    Paired (fun (t : NestedKey × V × V) (r : NestedKey × Value × Value) => t.1 = r.1 ∧ RelV t.2.1 r.2.1 ∧ RelV t.2.2 r.2.2) ts rs → DenG K ct H acc ps → DenG K ct H (Gd.mergeG w acc rs) (mkD ms ps)
  | _, _, _, _, _, .nil, r, g => by cases r; exact g
  | _, _, _, _, _, .cons (b := m) h t, r, g => by
    cases r with
    | @cons t0 r0 _ _ r1 r2 =>
      obtain ⟨h1, h2, h3, h4⟩ := h
      obtain ⟨r0a, r0b, r0c⟩ := r0
      obtain ⟨q1, q2, q3⟩ := r1
      have e : r0a = nk m.1 := q1.symm.trans h1
      subst e
      have z := DenG.merge (w := w) t r2 (DenG.put (w := w) q2 h3 h2 q3 h4 g)
      exact z
end
end Tk
/-! Comparisons, subscripts, slices on values. -/
namespace Tk
open PySem PySem.Spec PyProof.Rows L2
open D
/-- the module's dicts are as ct tells -/
def KdOk (K : PySem.W.Frag) (w : World) (ct : CT) : Prop := ct.w = w ∧ ∀ a ps, ct.kd a = some ps → ps ≠ [] ∧ (∃ es n, KDict K w a es n) ∧ ∀ z : List Nat, ∃ r, PySem.W.nsIn K a ⟨z.toArray⟩ = some r ∧
  (match lookD (.str z) (kdD ps) with
    | some d => ∃ u v, r = some u ∧ RelV v u ∧ ∀ H, Den K ct H v d
    | none => r = none)
section
variable {X : Cx} {ct : CT}
theorem Fin.no {K : PySem.W.Frag} {Z H : Hp} {r : Res D} {Q : VK} (f : Fin K ct Z H r Q) (e : r = .bad) : False := by
  subst e
  exact f
theorem ShDen.scr {K : PySem.W.Frag} {Z H : Hp} {v : V} {ns : List Int} (x : ShDen K ct Z H v (.scr ns)) : ∃ a, v = .ref a ∧ SqL K Z a (ns.map V.int) := by
  rcases x with x | ⟨a, r, n, o⟩
  · cases x with
    | scr h1 => exact ⟨_, rfl, h1⟩
  · rcases o with ⟨vs, ds, r, h1, h2⟩ | ⟨kvs, ps, r, h1, h2⟩ <;> cases r
theorem dpInts {K : PySem.W.Frag} {H : Hp} : ∀ ns : List Int, DpAll K H (ns.map V.int) (ns.map PyData.int)
  | [] => .nil
  | n :: ns => .cons (.int n) (dpInts ns)
theorem shaped_ints (ns : List Int) : SeqAt.shaped (.list (ns.map PyData.int)) = true := by
  have h1 : ∀ ns : List Int, PyData.canLayAll0 (ns.map PyData.int) = true := by
    intro ns
    induction ns with
    | nil => rfl
    | cons n ns ih => simp [PyData.canLayAll0, PyData.canLay0, ih]
  have h2 : ∀ ns : List Int, PyData.depthAll (ns.map PyData.int) = 0 := by
    intro ns
    induction ns with
    | nil => rfl
    | cons n ns ih => simp [PyData.depthAll, PyData.depth, ih]
  unfold SeqAt.shaped
  simp [PyData.canLay0, PyData.depth, h1, h2]
theorem cmp_eq (hu : X.A.units + 64 < cLine) : OpR X (compareOp .Eq) (R2D X.K ct (cmpD .eq)) := by
  intro pins s σ H x y v u Q I rx ry h
  obtain ⟨Z, dx, dy, sz, hx, hy, f⟩ := h
  by_cases hscr : ∃ ns, dx = .scr ns ∧ dy = .lst []
  · obtain ⟨ns, rfl, rfl⟩ := hscr
    obtain ⟨a, rfl, h1⟩ := hx.scr
    obtain ⟨b, vs, rfl, h2, h3⟩ := hy.lst sz
    cases h3
    have d1 : Dp X.K H (.ref a) (.list (ns.map PyData.int)) := .lst (h1.imp (same_rd sz) id) (dpInts ns)
    have d2 : Dp X.K H (.ref b) (.list []) := .lst (.inl h2) .nil
    refine op_eqD hu pins s σ H _ _ v u Q I rx ry ⟨_, _, d1, d2, shaped_ints ns, by decide, ?_⟩
    have e : PyData.eqv (.list (ns.map PyData.int)) (.list []) = ns.isEmpty := by
      cases ns <;> simp [PyData.eqv, PyData.eqvAll]
    rw [e]
    exact f.ret sz rfl (.bl _)
  have hne : cmpD .eq dx dy = if dx.sh && dy.sh then .ok (.bl (eqD dx dy)) else .bad := by
    cases dx with
    | scr ns => cases dy with
      | lst ys => cases ys with
        | nil => exact absurd ⟨ns, rfl, rfl⟩ hscr
        | cons _ _ => rfl
      | _ => rfl
    | _ => rfl
  by_cases c : (dx.sh && dy.sh) = true
  · obtain ⟨c1, c2⟩ := Bool.and_eq_true_iff.mp c
    refine op_eqD hu pins s σ H x y v u Q I rx ry ⟨dx.py, dy.py, Den.dp _ _ (hx.den sz) (sh_pln c1), Den.dp _ _ (hy.den sz) (sh_pln c2), sh_shaped c1, sh_shaped c2, ?_⟩
    rw [eqv_py _ _ (sh_pln c1) (sh_pln c2)]
    exact f.ret sz (show cmpD .eq dx dy = _ from hne.trans (if_pos c)) (.bl _)
  · exact (f.no (show cmpD .eq dx dy = _ from hne.trans (if_neg c))).elim
theorem cmp_ne (hu : X.A.units + 64 < cLine) : OpR X (compareOp .NotEq) (R2D X.K ct (cmpD .ne)) := by
  intro pins s σ H x y v u Q I rx ry h
  obtain ⟨Z, dx, dy, sz, hx, hy, f⟩ := h
  by_cases c : (dx.sh && dy.sh) = true
  · obtain ⟨c1, c2⟩ := Bool.and_eq_true_iff.mp c
    refine op_neD hu pins s σ H x y v u Q I rx ry ⟨dx.py, dy.py, Den.dp _ _ (hx.den sz) (sh_pln c1), Den.dp _ _ (hy.den sz) (sh_pln c2), sh_shaped c1, sh_shaped c2, ?_⟩
    rw [eqv_py _ _ (sh_pln c1) (sh_pln c2)]
    exact f.ret sz (show cmpD .ne dx dy = _ from if_pos c) (.bl _)
  · exact (f.no (show cmpD .ne dx dy = _ from if_neg c)).elim
theorem cmp_lt : OpR X (compareOp .Lt) (R2D X.K ct (cmpD .lt)) := by
  intro pins s σ H x y v u Q I rx ry h
  obtain ⟨Z, dx, dy, sz, hx, hy, f⟩ := h
  cases dx with
  | int i => cases dy with
    | int j => exact op_lt pins s σ H _ _ v u Q I rx ry ⟨i, j, hx.int, hy.int, f.ret sz rfl (.bl _)⟩
    | _ => exact (f.no rfl).elim
  | str i => cases dy with
    | str j =>
      refine op_lt_str pins s σ H _ _ v u Q I rx ry ⟨_, _, hx.str, hy.str, ?_⟩
      exact f.ret sz rfl (.bl _)
    | _ => exact (f.no rfl).elim
  | _ => cases dy <;> exact (f.no rfl).elim
theorem cmp_le : OpR X (compareOp .LtE) (R2D X.K ct (cmpD .le)) := by
  intro pins s σ H x y v u Q I rx ry h
  obtain ⟨Z, dx, dy, sz, hx, hy, f⟩ := h
  cases dx with
  | int i => cases dy with
    | int j => exact op_le pins s σ H _ _ v u Q I rx ry ⟨i, j, hx.int, hy.int, f.ret sz rfl (.bl _)⟩
    | _ => exact (f.no rfl).elim
  | _ => cases dy <;> exact (f.no rfl).elim
theorem cmp_gt : OpR X (compareOp .Gt) (R2D X.K ct (cmpD .gt)) := by
  intro pins s σ H x y v u Q I rx ry h
  obtain ⟨Z, dx, dy, sz, hx, hy, f⟩ := h
  cases dx with
  | int i => cases dy with
    | int j => exact op_gt pins s σ H _ _ v u Q I rx ry ⟨i, j, hx.int, hy.int, f.ret sz rfl (.bl _)⟩
    | _ => exact (f.no rfl).elim
  | _ => cases dy <;> exact (f.no rfl).elim
theorem cmp_ge : OpR X (compareOp .GtE) (R2D X.K ct (cmpD .ge)) := by
  intro pins s σ H x y v u Q I rx ry h
  obtain ⟨Z, dx, dy, sz, hx, hy, f⟩ := h
  cases dx with
  | int i => cases dy with
    | int j => exact op_ge pins s σ H _ _ v u Q I rx ry ⟨i, j, hx.int, hy.int, f.ret sz rfl (.bl _)⟩
    | _ => exact (f.no rfl).elim
  | _ => cases dy <;> exact (f.no rfl).elim
theorem ShDen.nonB {K : PySem.W.Frag} {Z H : Hp} {v : V} {d : D} (h : ShDen K ct Z H v d) : decide (v = V.non) = (match d with | .non => true | _ => false) := by
  rcases h with h | ⟨a, rfl, _, o⟩
  · cases h <;> rfl
  · rcases o with ⟨_, _, rfl, _⟩ | ⟨_, _, rfl, _⟩ <;> rfl
theorem cmp_is : OpR X (compareOp .Is) (R2D X.K ct (cmpD .isN)) := by
  intro pins s σ H x y v u Q I rx ry h
  obtain ⟨Z, dx, dy, sz, hx, hy, f⟩ := h
  cases dy with
  | non =>
    refine op_isN pins s σ H _ _ v u Q I rx ry ⟨hy.non, ?_⟩
    rw [hx.nonB]
    exact f.ret sz (by cases dx <;> rfl) (.bl _)
  | _ => cases dx <;> exact (f.no rfl).elim
theorem cmp_isnot : OpR X (compareOp .IsNot) (R2D X.K ct (cmpD .notN)) := by
  intro pins s σ H x y v u Q I rx ry h
  obtain ⟨Z, dx, dy, sz, hx, hy, f⟩ := h
  cases dy with
  | non =>
    refine op_notN pins s σ H _ _ v u Q I rx ry ⟨hy.non, ?_⟩
    rw [hx.nonB]
    exact f.ret sz (by cases dx <;> rfl) (.bl _)
  | _ => cases dx <;> exact (f.no rfl).elim
def rInT (K : PySem.W.Frag) (neg : Bool) : R2 := fun x y H Q => ∃ d ds, Dp K H x d ∧ Dp K H y (.tuple ds) ∧ SeqAt.shaped d = true ∧ SeqAt.shaped (.tuple ds) = true ∧ Q (.bl (if neg then !ds.any (fun z => PyData.eqv z d) else ds.any fun z => PyData.eqv z d)) H
theorem op_inT (hu : X.A.units + 65 < cLine) : OpR X (compareOp .In) (rInT X.K false) := by
  intro pins s σ H x y v u Q I rx ry h
  obtain ⟨d, ds, hd, he, sd, se, q⟩ := h
  obtain ⟨as, r1⟩ := Dp.reads I d x v hd rx
  obtain ⟨bs, r2⟩ := Dp.reads I (.tuple ds) y u he ry
  exact SeqAt.in_tuple_reads r2 r1 (SeqAt.canLay_of_shaped se) (SeqAt.canLay_of_shaped sd) (room_in_shaped sd hu) ⟨.bl _, H, I, rfl, q⟩
theorem op_notInT (hu : X.A.units + 65 < cLine) : OpR X (compareOp .NotIn) (rInT X.K true) := by
  intro pins s σ H x y v u Q I rx ry h
  obtain ⟨d, ds, hd, he, sd, se, q⟩ := h
  obtain ⟨as, r1⟩ := Dp.reads I d x v hd rx
  obtain ⟨bs, r2⟩ := Dp.reads I (.tuple ds) y u he ry
  exact SeqAt.notIn_tuple_reads r2 r1 (SeqAt.canLay_of_shaped se) (SeqAt.canLay_of_shaped sd) (room_in_shaped sd hu) ⟨.bl _, H, I, rfl, q⟩
theorem den_flat {K : PySem.W.Frag} {Z H : Hp} {v : V} {d : D} (h : ShDen K ct Z H v d) (c : d.flat = true) : flatV v = true ∧ ∀ e w, Den K ct H w e → e.flat = true → eqV w v = eqD e d := by
  rcases h with h | ⟨a, rfl, _, o⟩
  · cases h <;> first | (cases c; done) | skip
    · exact ⟨rfl, fun e w hw ce => by cases hw <;> first | (cases ce; done) | rfl⟩
    · exact ⟨rfl, fun e w hw ce => by cases hw <;> first | (cases ce; done) | rfl⟩
    · exact ⟨rfl, fun e w hw ce => by cases hw <;> first | (cases ce; done) | rfl⟩
    · rename_i x
      refine ⟨rfl, fun e w hw ce => ?_⟩
      cases hw <;> first | (cases ce; done) | rfl | skip
      rename_i y
      have := str_beq y.cps.toList x.cps.toList
      simpa [eqV, eqD] using this
  · rcases o with ⟨_, _, rfl, _⟩ | ⟨_, _, rfl, _⟩ <;> cases c
theorem inV_flat {K : PySem.W.Frag} {Z H : Hp} {v : V} {d : D} (h : ShDen K ct Z H v d) (c : d.flat = true) : ∀ {ws : List V} {es : List D}, DenAll K ct H ws es → es.all D.flat = true → ws.all flatV = true ∧ inV v ws = anyEq d es
  | _, _, .nil, _ => ⟨rfl, rfl⟩
  | w :: ws, e :: es, .cons h1 h2, ce => by
    rw [List.all_cons, Bool.and_eq_true] at ce
    obtain ⟨i1, i2⟩ := inV_flat h c h2 ce.2
    have f1 := (den_flat (ct := ct) (Z := H) (H := H) (.inl h1) ce.1).1
    refine ⟨by rw [List.all_cons, f1, i1]; rfl, ?_⟩
    unfold inV anyEq at *
    rw [List.any_cons, List.any_cons, (den_flat h c).2 e w h1 ce.1, i2]
theorem any_py {d : D} (hd : d.pln = true) : ∀ {es : List D}, plnAll es = true → (pyAll es).any (fun z => PyData.eqv z d.py) = anyEq d es
  | [], _ => rfl
  | e :: es, h => by
    simp only [plnAll, Bool.and_eq_true] at h
    simp only [pyAll, List.any_cons, eqv_py _ _ h.1 hd]
    unfold anyEq
    rw [List.any_cons, any_py hd h.2]
    rfl
theorem DenK.val {K : PySem.W.Frag} {H : Hp} {k : Key} : ∀ {kvs : List (Key × V)} {ps : List (D × D)}, DenK K ct H kvs ps → (match valV kvs k with
    | some v => ∃ d, lookD (kD k) ps = some d ∧ Den K ct H v d
    | none => lookD (kD k) ps = none) ∧ (ps.any fun p => eqD p.1 (kD k)) = (valV kvs k).isSome
  | _, _, .nil => ⟨rfl, rfl⟩
  | (j, v) :: kvs, (_, d) :: ps, .cons h1 h2 => by
    have e : eqD (kD j) (kD k) = decide (j = k) := by
      cases j with
      | inl a => cases k with
        | inl b => rw [key_ll]; rfl
        | inr b => simp [kD, eqD]
      | inr a => cases k with
        | inl b => simp [kD, eqD]
        | inr b =>
          rw [key_rr]
          by_cases q : a = b
          · subst q; simp [kD, eqD]
          · have q2 : ¬ a.cps = b.cps := fun z => q (by cases a; cases b; simpa using z)
            simp [kD, eqD, q, q2]
    obtain ⟨i1, i2⟩ := DenK.val (k := k) h2
    by_cases q : j = k
    · have e1 : eqD (kD j) (kD k) = true := by rw [e]; exact decide_eq_true q
      rw [valV_pos (p := (j, v)) q]
      refine ⟨⟨d, ?_, h1⟩, ?_⟩
      · unfold lookD; rw [if_pos e1]
      · rw [List.any_cons, e1]; rfl
    · have e1 : eqD (kD j) (kD k) = false := by rw [e]; exact decide_eq_false q
      rw [valV_neg (p := (j, v)) q]
      refine ⟨?_, ?_⟩
      · have e2 : lookD (kD k) ((kD j, d) :: ps) = lookD (kD k) ps := by
          show (if eqD (kD j) (kD k) = true then _ else _) = _
          rw [if_neg (by rw [e1]; exact Bool.false_ne_true)]
        rw [e2]; exact i1
      · rw [List.any_cons, e1, i2]; rfl
theorem keyOk_is {k : D} {ps : List (D × D)} (h : keyOk k ps = true) : isStrKey k = true := by
  cases k <;> first | rfl | cases h
theorem key_den {K : PySem.W.Frag} {Z H : Hp} {v : V} {d : D} (h : ShDen K ct Z H v d) (c : isStrKey d = true) : ∃ k, v = kV k ∧ d = kD k := by
  cases d with
  | int i => exact ⟨.inl i, h.int, rfl⟩
  | str z => exact ⟨.inr ⟨z.toArray⟩, h.str, by simp [kD]⟩
  | _ => cases c
theorem dw_any {ps : List (List Nat × D)} {z : List Nat} : ((kdD ps).any fun p => eqD p.1 (.str z)) = (lookD (.str z) (kdD ps)).isSome := by
  induction ps with
  | nil => rfl
  | cons p ps ih =>
    show (eqD (.str p.1) (.str z) || ((kdD ps).any fun p => eqD p.1 (.str z))) = (if eqD (.str p.1) (.str z) = true then some p.2 else lookD (.str z) (kdD ps)).isSome
    cases e : eqD (.str p.1) (.str z) with
    | true => rfl
    | false => rw [ih]; rfl
theorem dw_int {ps : List (List Nat × D)} {i : Int} (ne : ps ≠ []) (c : keyOk (kD (.inl i)) (kdD ps) = true) : False := by
  cases ps with
  | nil => exact ne rfl
  | cons p ps => simp [keyOk, kD, kdD] at c
theorem dw_some {K : PySem.W.Frag} {ps : List (List Nat × D)} {z : List Nat} {r : Option Value} (hr : match lookD (.str z) (kdD ps) with
    | some d => ∃ u v, r = some u ∧ RelV v u ∧ ∀ H, Den K ct H v d
    | none => r = none) : r.isSome = (lookD (.str z) (kdD ps)).isSome := by
  cases q : lookD (.str z) (kdD ps) with
  | none => rw [q] at hr; rw [hr]; rfl
  | some d => rw [q] at hr; obtain ⟨u0, v0, r0, _⟩ := hr; rw [r0]; rfl
theorem cmp_in (hu : X.A.units + 65 < cLine) (kd : KdOk X.K X.w ct) : OpR X (compareOp .In) (R2D X.K ct (cmpD .isin)) := by
  intro pins s σ H x y v u Q I rx ry h
  obtain ⟨Z, dx, dy, sz, hx, hy, f⟩ := h
  cases dy with
  | str z => cases dx with
    | str i =>
      refine op_in_str pins s σ H _ _ v u Q I rx ry ⟨_, _, hx.str, hy.str, ?_⟩
      rw [strlen]
      exact f.ret sz rfl (.bl _)
    | _ => exact (f.no rfl).elim
  | lst ys =>
    by_cases c : (dx.sh && (D.lst ys).sh) = true
    · obtain ⟨c1, c2⟩ := Bool.and_eq_true_iff.mp c
      have p2 : plnAll ys = true := by have := sh_pln c2; simpa [pln] using this
      refine op_inD hu pins s σ H x y v u Q I rx ry ⟨dx.py, pyAll ys, Den.dp _ _ (hx.den sz) (sh_pln c1), Den.dp _ _ (hy.den sz) (sh_pln c2), sh_shaped c1, sh_shaped c2, ?_⟩
      rw [any_py (sh_pln c1) p2]
      exact f.ret sz (show cmpD .isin dx (.lst ys) = _ by cases dx <;> exact if_pos c) (.bl _)
    · exact (f.no (show cmpD .isin dx (.lst ys) = _ by cases dx <;> first | exact if_neg c | rfl)).elim
  | tup ys =>
    by_cases c : (dx.sh && (D.tup ys).sh) = true
    · obtain ⟨c1, c2⟩ := Bool.and_eq_true_iff.mp c
      have p2 : plnAll ys = true := by have := sh_pln c2; simpa [pln] using this
      refine op_inT hu pins s σ H x y v u Q I rx ry ⟨dx.py, pyAll ys, Den.dp _ _ (hx.den sz) (sh_pln c1), Den.dp _ _ (hy.den sz) (sh_pln c2), sh_shaped c1, sh_shaped c2, ?_⟩
      rw [any_py (sh_pln c1) p2]
      exact f.ret sz (show cmpD .isin dx (.tup ys) = _ by cases dx <;> exact if_pos c) (.bl _)
    · exact (f.no (show cmpD .isin dx (.tup ys) = _ by cases dx <;> first | exact if_neg c | rfl)).elim
  | dic ps =>
    by_cases c : keyOk dx ps = true
    · have e : cmpD .isin dx (.dic ps) = .ok (.bl (ps.any fun p => eqD p.1 dx)) := by cases dx <;> first | exact if_pos c | rfl
      obtain ⟨k, rfl, rfl⟩ := key_den hx (keyOk_is c)
      rcases hy.dic sz with ⟨a, kvs, rfl, h1, h2⟩ | ⟨a, qs, rfl, h1, rfl⟩
      · cases ry
        refine d_in (by omega) I (DGet.k h1) rx fun s' I' => ⟨.bl _, H, I', rfl, ?_⟩
        rw [← (DenK.val (k := k) h2).2]
        exact f.ret sz e (.bl _)
      · obtain ⟨ne, ⟨es, n, kD0⟩, look⟩ := kd.2 a qs h1
        cases k with
        | inl i => exact (dw_int ne c).elim
        | inr z0 =>
          obtain ⟨r, er, hr⟩ := look z0.cps.toList
          refine op_in_kd kD0 pins s σ H _ _ v u Q I rx ry ⟨_, r, rfl, rfl, by simpa using er, ?_⟩
          rw [dw_some hr, ← dw_any]
          exact f.ret sz e (.bl _)
    · exact (f.no (show cmpD .isin dx (.dic ps) = _ by cases dx <;> first | exact if_neg c | rfl)).elim
  | gd ps =>
    by_cases c : kyB dx = true
    · obtain ⟨a, acc, ep, rfl, h1, h2⟩ := hy.gd sz
      rw [kd.1] at h1
      obtain ⟨_, l2⟩ := h2.look c
      refine Gd.op_gin (by omega) pins s σ H x _ v u Q I rx ry ⟨a, acc, nk dx, rfl, ⟨⟨ep, h1⟩, (DenG.mono sz _ _ h2).stand⟩, (hx.den sz).kyD c, ?_⟩
      rw [← l2]
      have e0 : cmpD .isin dx (.gd ps) = .ok (.bl (ps.any fun p => eqD p.1 dx)) := by cases dx <;> first | exact if_pos c | rfl
      have e2 : ((ps.any fun p => eqD p.1 dx) != false) = (ps.any fun p => eqD p.1 dx) := by cases (ps.any fun p => eqD p.1 dx) <;> rfl
      rw [e2]
      exact f.ret sz e0 (.bl _)
    · exact (f.no (show cmpD .isin dx (.gd ps) = _ by cases dx <;> first | exact if_neg c | rfl)).elim
  | _ => cases dx <;> exact (f.no rfl).elim
theorem cmp_notin (hu : X.A.units + 65 < cLine) (kd : KdOk X.K X.w ct) : OpR X (compareOp .NotIn) (R2D X.K ct (cmpD .notin)) := by
  intro pins s σ H x y v u Q I rx ry h
  obtain ⟨Z, dx, dy, sz, hx, hy, f⟩ := h
  cases dy with
  | str z => cases dx with
    | str i =>
      refine op_notin_str pins s σ H _ _ v u Q I rx ry ⟨_, _, hx.str, hy.str, ?_⟩
      rw [strlen]
      exact f.ret sz rfl (.bl _)
    | _ => exact (f.no rfl).elim
  | lst ys =>
    by_cases c : (dx.sh && (D.lst ys).sh) = true
    · obtain ⟨c1, c2⟩ := Bool.and_eq_true_iff.mp c
      have p2 : plnAll ys = true := by have := sh_pln c2; simpa [pln] using this
      refine op_notInD hu pins s σ H x y v u Q I rx ry ⟨dx.py, pyAll ys, Den.dp _ _ (hx.den sz) (sh_pln c1), Den.dp _ _ (hy.den sz) (sh_pln c2), sh_shaped c1, sh_shaped c2, ?_⟩
      rw [any_py (sh_pln c1) p2]
      exact f.ret sz (show cmpD .notin dx (.lst ys) = _ by cases dx <;> exact if_pos c) (.bl _)
    · exact (f.no (show cmpD .notin dx (.lst ys) = _ by cases dx <;> first | exact if_neg c | rfl)).elim
  | tup ys =>
    by_cases c : (dx.sh && (D.tup ys).sh) = true
    · obtain ⟨c1, c2⟩ := Bool.and_eq_true_iff.mp c
      have p2 : plnAll ys = true := by have := sh_pln c2; simpa [pln] using this
      refine op_notInT hu pins s σ H x y v u Q I rx ry ⟨dx.py, pyAll ys, Den.dp _ _ (hx.den sz) (sh_pln c1), Den.dp _ _ (hy.den sz) (sh_pln c2), sh_shaped c1, sh_shaped c2, ?_⟩
      rw [any_py (sh_pln c1) p2]
      exact f.ret sz (show cmpD .notin dx (.tup ys) = _ by cases dx <;> exact if_pos c) (.bl _)
    · exact (f.no (show cmpD .notin dx (.tup ys) = _ by cases dx <;> first | exact if_neg c | rfl)).elim
  | dic ps =>
    by_cases c : keyOk dx ps = true
    · have e : cmpD .notin dx (.dic ps) = .ok (.bl (!(ps.any fun p => eqD p.1 dx))) := by cases dx <;> first | exact if_pos c | rfl
      obtain ⟨k, rfl, rfl⟩ := key_den hx (keyOk_is c)
      rcases hy.dic sz with ⟨a, kvs, rfl, h1, h2⟩ | ⟨a, qs, rfl, h1, rfl⟩
      · cases ry
        refine d_notIn (by omega) I (DGet.k h1) rx fun s' I' => ⟨.bl _, H, I', rfl, ?_⟩
        rw [← (DenK.val (k := k) h2).2]
        exact f.ret sz e (.bl _)
      · obtain ⟨ne, ⟨es, n, kD0⟩, look⟩ := kd.2 a qs h1
        cases k with
        | inl i => exact (dw_int ne c).elim
        | inr z0 =>
          obtain ⟨r, er, hr⟩ := look z0.cps.toList
          refine op_notIn_kd kD0 pins s σ H _ _ v u Q I rx ry ⟨_, r, rfl, rfl, by simpa using er, ?_⟩
          rw [dw_some hr, ← dw_any]
          exact f.ret sz e (.bl _)
    · exact (f.no (show cmpD .notin dx (.dic ps) = _ by cases dx <;> first | exact if_neg c | rfl)).elim
  | gd ps =>
    by_cases c : kyB dx = true
    · obtain ⟨a, acc, ep, rfl, h1, h2⟩ := hy.gd sz
      rw [kd.1] at h1
      obtain ⟨_, l2⟩ := h2.look c
      refine Gd.op_gnin (by omega) pins s σ H x _ v u Q I rx ry ⟨a, acc, nk dx, rfl, ⟨⟨ep, h1⟩, (DenG.mono sz _ _ h2).stand⟩, (hx.den sz).kyD c, ?_⟩
      rw [← l2]
      have e0 : cmpD .notin dx (.gd ps) = .ok (.bl (!(ps.any fun p => eqD p.1 dx))) := by cases dx <;> first | exact if_pos c | rfl
      have e2 : ((ps.any fun p => eqD p.1 dx) != true) = (!(ps.any fun p => eqD p.1 dx)) := by cases (ps.any fun p => eqD p.1 dx) <;> rfl
      rw [e2]
      exact f.ret sz e0 (.bl _)
    · exact (f.no (show cmpD .notin dx (.gd ps) = _ by cases dx <;> first | exact if_neg c | rfl)).elim
  | _ => cases dx <;> exact (f.no rfl).elim
theorem opr_cmp {op : CmpOp} {b : Co} (h : coOf op = some b) (hu : X.A.units + 65 < cLine) (kd : KdOk X.K X.w ct) : OpR X (compareOp op) (R2D X.K ct (cmpD b)) := by
  cases op <;> cases h <;> first | exact cmp_eq (by omega) | exact cmp_ne (by omega) | exact cmp_lt | exact cmp_le | exact cmp_gt | exact cmp_ge | exact cmp_is | exact cmp_isnot | exact cmp_in hu kd | exact cmp_notin hu kd
end
end Tk
/-! Subscripts, slices, built-in calls on values. -/
namespace Tk
open PySem PySem.Spec PyProof.Rows L2
open D
section
variable {X : Cx} {ct : CT}
theorem DenAll.ix {K : PySem.W.Frag} {H : Hp} {vs : List V} {ds : List D} {i : Int} {d : D} (h : DenAll K ct H vs ds) (e : atI ds i = some d) : ∃ v, atI vs i = some v ∧ Den K ct H v d := by
  unfold atI at e ⊢
  rw [h.length]
  cases q : ixN ds.length i with
  | none => rw [q] at e; cases e
  | some j =>
    rw [q] at e
    exact h.get e
theorem ix_dict (hu : X.A.units + 1 < cLine) : IxR X (fun x y H Q => ∃ a v, x = .ref a ∧ DGet H a y (some v) ∧ Q v H) := by
  intro value slice pins s σ H x y v u Q I rx ry h hs
  obtain ⟨a, w, rfl, g, q⟩ := h
  cases rx
  exact tail_any (dict_typeIs I g) PySem.F.slot_dict_getitem.lookup (d_getItem hu I g ry fun w' s' I' r' => ⟨w, H, I', r', q⟩) hs
theorem ixr (hu : X.A.units + 65 < cLine) (kd : KdOk X.K X.w ct) : IxR X (R2D X.K ct ixD) := by
  intro value slice pins s σ H x y v u Q I rx ry h hs
  obtain ⟨Z, dx, dy, sz, hx, hy, f⟩ := h
  cases dx with
  | lst ds => cases dy with
    | int i =>
      cases e : atI ds i with
      | none => exact (f.no (show (match atI ds i with | some d => Res.ok d | none => .bad) = _ by rw [e])).elim
      | some d =>
        obtain ⟨a, vs, rfl, h1, h2⟩ := hx.lst sz
        obtain ⟨w, e2, hd⟩ := h2.ix e
        exact ix_list value slice pins s σ H _ _ v u Q I rx ry ⟨a, vs, i, w, rfl, hy.int, .inl h1, e2, f.ret sz (show (match atI ds i with | some d => Res.ok d | none => .bad) = _ by rw [e]) hd⟩ hs
    | _ => exact (f.no rfl).elim
  | tup ds => cases dy with
    | int i =>
      cases e : atI ds i with
      | none => exact (f.no (show (match atI ds i with | some d => Res.ok d | none => .bad) = _ by rw [e])).elim
      | some d =>
        obtain ⟨a, vs, rfl, h1, h2⟩ := hx.tup sz
        obtain ⟨w, e2, hd⟩ := h2.ix e
        exact ix_tup value slice pins s σ H _ _ v u Q I rx ry ⟨a, vs, i, w, rfl, hy.int, h1, e2, f.ret sz (show (match atI ds i with | some d => Res.ok d | none => .bad) = _ by rw [e]) hd⟩ hs
    | _ => exact (f.no rfl).elim
  | scr ns => cases dy with
    | int i =>
      cases e : atI ns i with
      | none => exact (f.no (show (match atI ns i with | some d => Res.ok (D.int d) | none => .bad) = _ by rw [e])).elim
      | some d =>
        obtain ⟨a, rfl, h1⟩ := hx.scr
        have e2 : atI (ns.map V.int) i = some (.int d) := by
          unfold atI at e ⊢
          rw [List.length_map]
          cases q : ixN ns.length i with
          | none => rw [q] at e; cases e
          | some j =>
            rw [q] at e
            have e : ns[j]? = some d := e
            show (ns.map V.int)[j]? = _
            rw [List.getElem?_map, e]
            rfl
        exact ix_list value slice pins s σ H _ _ v u Q I rx ry ⟨a, _, i, _, rfl, hy.int, h1.imp (same_rd sz) id, e2, f.ret sz (show (match atI ns i with | some d => Res.ok (D.int d) | none => .bad) = _ by rw [e]) (.int _)⟩ hs
    | _ => exact (f.no rfl).elim
  | str z => cases dy with
    | int i =>
      by_cases c : okN z.length = true
      · have e0 : ixD (.str z) (.int i) = (match atI z i with | some c => .ok (.str [c]) | none => .bad) := if_pos c
        cases e : atI z i with
        | none => exact (f.no (by rw [e0, e])).elim
        | some d => exact ix_str value slice pins s σ H _ _ v u Q I rx ry ⟨_, i, d, hx.str, hy.int, by rw [strlen]; exact okN_le c, by simpa using e, f.ret sz (by rw [e0, e]) (den_str _ _ _ [d])⟩ hs
      · exact (f.no (show ixD (.str z) (.int i) = _ from if_neg c)).elim
    | _ => exact (f.no rfl).elim
  | dic ps =>
    by_cases c : keyOk dy ps = true
    · have e0 : ixD (.dic ps) dy = (match lookD dy ps with | some d => .ok d | none => .bad) := by cases dy <;> first | exact if_pos c | rfl
      obtain ⟨k, rfl, rfl⟩ := key_den hy (keyOk_is c)
      rcases hx.dic sz with ⟨a, kvs, rfl, h1, h2⟩ | ⟨a, qs, rfl, h1, rfl⟩
      · have z := (DenK.val (k := k) h2).1
        cases e : valV kvs k with
        | none =>
          rw [e] at z
          have z : lookD (kD k) ps = none := z
          exact (f.no (by rw [e0, z])).elim
        | some w =>
          rw [e] at z
          obtain ⟨d, z1, z2⟩ := z
          refine ix_dict (by omega) value slice pins s σ H _ _ v u Q I rx ry ⟨a, w, rfl, ?_, f.ret sz (by rw [e0, z1]) z2⟩ hs
          rw [← e]
          exact DGet.k h1
      · obtain ⟨ne, ⟨es, n, kD0⟩, look⟩ := kd.2 a qs h1
        cases k with
        | inl i => exact (dw_int ne c).elim
        | inr z0 =>
          obtain ⟨r, er, hr⟩ := look z0.cps.toList
          cases q : lookD (.str z0.cps.toList) (kdD qs) with
          | none => exact (f.no (by rw [e0]; show (match lookD (.str z0.cps.toList) (kdD qs) with | some d => Res.ok d | none => .bad) = _; rw [q])).elim
          | some d =>
            rw [q] at hr
            obtain ⟨u0, v0, r0, r1, r2⟩ := hr
            subst r0
            cases rx
            refine tail_any (kd_type kD0 I) PySem.F.slot_dict_getitem.lookup (op_item_kd kD0 pins s σ H (.ref a) _ _ u Q I (show RelV (.ref a) (.ref a) from rfl) ry ⟨z0, u0, v0, rfl, rfl, by simpa using er, r1, ?_⟩) hs
            exact f.ret sz (by rw [e0]; show (match lookD (.str z0.cps.toList) (kdD qs) with | some d => Res.ok d | none => .bad) = _; rw [q]) (r2 _)
    · exact (f.no (show ixD (.dic ps) dy = _ by cases dy <;> first | exact if_neg c | rfl)).elim
  | gd ps =>
    by_cases c : kyB dy = true
    · have e0 : ixD (.gd ps) dy = (match lookD dy ps with | some d => .ok d | none => .bad) := by cases dy <;> first | exact if_pos c | rfl
      obtain ⟨a, acc, ep, rfl, h1, h2⟩ := hx.gd sz
      rw [kd.1] at h1
      obtain ⟨l1, _⟩ := h2.look c
      cases e : Gd.lookG acc (nk dy) with
      | none => rw [e] at l1; exact (f.no (by rw [e0, l1])).elim
      | some w' =>
        rw [e] at l1
        obtain ⟨z, d, l1, l2, l3⟩ := l1
        exact Gd.ix_g (by omega) value slice pins s σ H _ _ v u Q I rx ry ⟨a, acc, nk dy, w', z, rfl, ⟨⟨ep, h1⟩, (DenG.mono sz _ _ h2).stand⟩, (hy.den sz).kyD c, e, l2, f.ret sz (by rw [e0, l1]) l3⟩ hs
    · exact (f.no (show ixD (.gd ps) dy = _ by cases dy <;> first | exact if_neg c | rfl)).elim
  | _ => exact (f.no (show ixD _ dy = _ by cases dy <;> rfl)).elim

theorem DenAll.cut {K : PySem.W.Frag} {H : Hp} {vs : List V} {ds : List D} (h : DenAll K ct H vs ds) (lo hi : Option Int) : DenAll K ct H (cutV vs lo hi) (cutL ds lo hi) := by
  unfold cutV cutL
  rw [h.length]
  exact (h.drop _).take _
theorem cutL_whole {α : Type} {ds : List α} {lo hi : Option Int} (h : HT.sIx ds.length 0 lo = 0 ∧ HT.sIx ds.length ds.length hi = ds.length) : cutL ds lo hi = ds := by
  unfold cutL
  rw [h.1, h.2]
  simp
def RSl (K : PySem.W.Frag) (ct : CT) : V → Option Int → Option Int → Hp → VK → Prop := fun x lo hi H Q => ∃ Z dx, Same Z H ∧ ShDen K ct Z H x dx ∧ Fin K ct Z H (slD dx lo hi) Q
theorem slr : SlR X (RSl X.K ct) := by
  intro pins s σ H x v vl vu lo hi sl Q I rx hs pl pu h
  obtain ⟨Z, dx, sz, hx, f⟩ := h
  cases dx with
  | lst ds =>
    obtain ⟨a, vs, rfl, h1, h2⟩ := hx.lst sz
    exact sl_list pins s σ H _ v vl vu lo hi sl Q I rx hs pl pu ⟨a, vs, rfl, .inl h1, f.newL sz rfl (h2.cut lo hi)⟩
  | tup ds =>
    obtain ⟨a, vs, rfl, h1, h2⟩ := hx.tup sz
    have hX : Den X.K ct Z (.ref a) (.tup ds) := by
      rcases hx with z | ⟨_, _, _, o⟩
      · exact z
      · rcases o with ⟨_, _, r, _⟩ | ⟨_, _, r, _⟩ <;> cases r
    refine sl_tupA pins s σ H _ v vl vu lo hi sl Q I rx hs pl pu ⟨a, vs, rfl, h1, fun w => ?_, fun _ => f.newT sz rfl (h2.cut lo hi)⟩
    rw [h2.length] at w
    exact f.ret sz (show Res.ok (D.tup (cutL ds lo hi)) = _ by rw [cutL_whole w]) hX
  | str z =>
    by_cases c : okN z.length = true
    · refine sl_str pins s σ H _ v vl vu lo hi sl Q I rx hs pl pu ⟨_, hx.str, by rw [strlen]; exact okN_le c, ?_⟩
      have e : cutS ⟨z.toArray⟩ lo hi = ⟨(cutL z lo hi).toArray⟩ := by
        unfold cutS cutL
        rw [strlen]
      rw [e]
      exact f.ret sz (show slD (.str z) lo hi = _ from if_pos c) (den_str _ _ _ _)
    · exact (f.no (show slD (.str z) lo hi = _ from if_neg c)).elim
  | _ => exact (f.no rfl).elim

/-! ### [::-1] -/
theorem rev_pick (xs : List Value) : ((List.range xs.length).filterMap fun (m : Nat) => xs.toArray[(((xs.length : Int) - 1) + (m : Int) * (-1)).toNat]?) = xs.reverse := by
  have h : ∀ (n : Nat) (hn : n ≤ xs.length), ((List.range n).filterMap fun (m : Nat) => xs.toArray[(((n : Int) - 1) + (m : Int) * (-1)).toNat]?) = (xs.take n).reverse := by
    intro n
    induction n with
    | zero => intro _; simp
    | succ n ih =>
      intro hn
      rw [List.range_succ_eq_map, List.filterMap_cons]
      have e0 : ((((n + 1 : Nat) : Int) - 1) + ((0 : Nat) : Int) * (-1)).toNat = n := by omega
      have g : xs.toArray[n]? = some xs[n] := by
        rw [List.getElem?_toArray, List.getElem?_eq_getElem (by omega)]
      rw [e0, g]
      show xs[n] :: _ = _
      rw [List.filterMap_map]
      have e1 : ((fun (m : Nat) => xs.toArray[((((n + 1 : Nat) : Int) - 1) + (m : Int) * (-1)).toNat]?) ∘ Nat.succ) = fun (m : Nat) => xs.toArray[(((n : Int) - 1) + (m : Int) * (-1)).toNat]? := by
        funext m
        have : ((((n + 1 : Nat) : Int) - 1) + ((m + 1 : Nat) : Int) * (-1)).toNat = (((n : Int) - 1) + (m : Int) * (-1)).toNat := by omega
        show xs.toArray[((((n + 1 : Nat) : Int) - 1) + ((m + 1 : Nat) : Int) * (-1)).toNat]? = _
        rw [this]
      rw [e1, ih (by omega), List.take_succ_eq_append_getElem (by omega), List.reverse_append]
      rfl
  have := h xs.length (Nat.le_refl _)
  simpa using this
theorem adjust_rev (n : Nat) : Builtin.Slice.sliceAdjust none none (-1) (n : Int) = ((n : Int) - 1, -1) := by
  unfold Builtin.Slice.sliceAdjust
  simp
theorem places_rev (n : Nat) : Builtin.Slice.slicePlaces ((n : Int) - 1) (-1) (-1) = n := by
  unfold Builtin.Slice.slicePlaces
  have h1 : ¬ ((-1 : Int) > 0) := by omega
  simp only [h1, if_false]
  have h2 : (- -1 : Int) = 1 := rfl
  rw [h2, Int.ediv_one]
  split <;> omega
theorem sliceApplied_rev {prog : Program} {w : World} {A : Around} {E : Value → Shared → Prop} {s : Shared} {sl : Addr} {vl vu vs : Value} {n : Nat} {Q : Int × Int × Nat → Shared → Prop} (hs : s.heap.IsSliceOf sl vl vu vs) (pl : IsPart vl none) (pu : IsPart vu none) (ps : IsPart vs (some (-1)))
    (h : Q ((n : Int) - 1, -1, n) s) : wpAny (model prog w) A (Builtin.Slice.sliceApplied (.ref sl) (pure (n : Int))) Q E s := by
  obtain ⟨os, hos, hcs, hds⟩ := id hs
  unfold Builtin.Slice.sliceApplied Builtin.Slice.sliceFields
  refine wpAny_bind (wpAny_bind (wpAny_field hos hds (x := vl) rfl (wpAny_bind (wpAny_field hos hds (x := vu) rfl (wpAny_bind (wpAny_field hos hds (x := vs) rfl (wpAny_pure ?_)))))))
  refine wpAny_bind (HT.slicePart_ ps ?_)
  show wpAny _ _ (if ((-1 : Int) == 0) = true then _ else _) _ _ s
  rw [if_neg (by decide)]
  refine wpAny_bind (HT.slicePart_ pl (wpAny_bind (HT.slicePart_ pu (wpAny_bind (wpAny_pure ?_)))))
  show wpAny _ _ (match Builtin.Slice.sliceAdjust none none (-1) (n : Int) with | (lo, hi) => pure (lo, (-1 : Int), Builtin.Slice.slicePlaces lo hi (-1))) _ _ s
  rw [adjust_rev n]
  show wpAny _ _ (pure ((n : Int) - 1, (-1 : Int), Builtin.Slice.slicePlaces ((n : Int) - 1) (-1) (-1))) _ _ s
  rw [places_rev]
  exact wpAny_pure h
theorem getItem_tuple_rev {prog : Program} {w : World} {A : Around} {E : Value → Shared → Prop} {s : Shared} {t sl : Addr} {its : List Value} {vl vu vs : Value} {Q : Value → Shared → Prop} (ht : IsTup s.heap t its.toArray) (hs : s.heap.IsSliceOf sl vl vu vs) (pl : IsPart vl none) (pu : IsPart vu none) (ps : IsPart vs (some (-1)))
    (h : Q (.ref s.heap.objs.size) { s with heap := s.heap.push { cls := .type "tuple", data := .seq its.reverse.toArray } })
    (hsz : its.length ≤ sizeLine) : wpAny (model prog w) A (getItem (.ref t) (.ref sl)) Q E s := by
  have htake : sizeOk (.seq its.reverse.toArray) := by
    show its.reverse.toArray.size ≤ sizeLine
    rw [List.size_toArray, List.length_reverse]
    exact hsz
  obtain ⟨os, hos, hcs, hds⟩ := id hs
  have hTs : s.TypeIs (.ref sl) "slice" := ⟨os, hos, hcs⟩
  unfold getItem
  try with_reducible refine wpAny_holding ?_
  first | refine wpAny_bind (wpAny_pure ?_) | skip
  refine wpAny_bind (wpAny_sequenceKey ht.typeIs (by decide) ?_)
  refine wpAny_bind (wpAny_callSpecial?_slot (name := Str.ofString "__getitem__") ht.typeIs PyProof.Rows.slot_tuple_getitem
    (wpAny_call_entry PyProof.Rows.slot_tuple_getitem ht.typeIs entry_tuple_getitem ?_ (args_tuple_getitem _ _)))
  show wpAny _ _ (Builtin.Tuple.tupleItemsOf (.ref t) >>= _) _ _ s
  refine wpAny_bind (tupleItemsOf_ ht ?_)
  refine wpAny_bind (wpAny_typeOf hTs ?_)
  rw [if_pos (by decide)]
  have e0 : (its.toArray.size : Int) = (its.length : Int) := by rw [List.size_toArray]
  refine wpAny_bind (sliceApplied_rev hs pl pu ps ?_)
  have hno : ¬ ((((its.toArray.size : Int) - 1) == 0 && (-1 : Int) == 1 && its.toArray.size == its.toArray.size) = true) := by
    intro q
    rw [Bool.and_eq_true, Bool.and_eq_true] at q
    exact absurd q.1.2 (by decide)
  show wpAny _ _ (if (((its.toArray.size : Int) - 1) == 0 && (-1 : Int) == 1 && its.toArray.size == its.toArray.size) = true then _ else _) _ _ s
  rw [if_neg hno]
  have epick : ((List.range its.toArray.size).filterMap fun (m : Nat) => its.toArray[(((its.toArray.size : Int) - 1) + (m : Int) * (-1)).toNat]?).toArray = its.reverse.toArray := by
    rw [List.size_toArray, rev_pick]
  rw [epick]
  first
    | exact wpAny_bind (m := Builtin.Tuple.tupleExact _) (wpAny_newObj_type (wpAny_pure ⟨_, rfl, wpAny_pure h⟩) htake)
    | exact wpAny_bind (m := Builtin.Tuple.tupleExact _) (wpAny_newObj_type (wpAny_bind (wpAny_pure (wpAny_pure ⟨_, rfl, wpAny_pure h⟩))) htake)
    | exact wpAny_bind (wpAny_bind (m := Builtin.Tuple.tupleExact _) (wpAny_newObj_type (wpAny_pure (wpAny_pure ⟨_, rfl, wpAny_pure h⟩)) htake))
    | exact wpAny_bind (wpAny_bind (m := Builtin.Tuple.tupleExact _) (wpAny_newObj_type (wpAny_pure ⟨_, rfl, wpAny_pure h⟩) htake))
end
end Tk
/-! Built-in calls on values. -/
namespace Tk
open PySem PySem.Spec PyProof.Rows L2
open D
inductive ShAll (K : PySem.W.Frag) (ct : CT) (Z H : Hp) : List V → List D → Prop
  | nil : ShAll K ct Z H [] []
  | cons {v : V} {vs : List V} {d : D} {ds : List D} : ShDen K ct Z H v d → ShAll K ct Z H vs ds → ShAll K ct Z H (v :: vs) (d :: ds)
def RBi (K : PySem.W.Frag) (ct : CT) (b : Bi) : List V → Hp → VK → Prop := fun xs H Q => ∃ Z ds, Same Z H ∧ ShAll K ct Z H xs ds ∧ Fin K ct Z H (biD b ds) Q
section
variable {X : Cx} {ct : CT}
theorem sh1 {K : PySem.W.Frag} {Z H : Hp} {xs : List V} {d : D} (h : ShAll K ct Z H xs [d]) : ∃ v, xs = [v] ∧ ShDen K ct Z H v d := by
  cases h with
  | cons h1 h2 => cases h2; exact ⟨_, rfl, h1⟩
theorem bi_one {b : Bi} {K : PySem.W.Frag} {H : Hp} {Q : VK} {xs : List V} (hb : ∀ ds, (∀ d, ds ≠ [d]) → biD b ds = .bad) (h : RBi K ct b xs H Q) : ∃ Z d v, Same Z H ∧ xs = [v] ∧ ShDen K ct Z H v d ∧ Fin K ct Z H (biD b [d]) Q := by
  obtain ⟨Z, ds, sz, hs, f⟩ := h
  by_cases q : ∃ d, ds = [d]
  · obtain ⟨d, rfl⟩ := q
    obtain ⟨v, rfl, hv⟩ := sh1 hs
    exact ⟨Z, d, v, sz, rfl, hv, f⟩
  · exact (f.no (hb ds fun d e => q ⟨d, e⟩)).elim
theorem DenK.length {K : PySem.W.Frag} {H : Hp} : ∀ {kvs : List (Key × V)} {ps : List (D × D)}, DenK K ct H kvs ps → kvs.length = ps.length
  | _, _, .nil => rfl
  | _, _, .cons _ h => by simp [DenK.length h]
theorem bi_len (kd : KdOk X.K X.w ct) : CallR X (.builtin "len") (RBi X.K ct .len) := by
  intro pins s σ H xs us Q I r h
  obtain ⟨Z, d, v, sz, rfl, hv, f⟩ := bi_one (fun ds hd => by
    cases ds with
    | nil => rfl
    | cons d r => cases r with
      | nil => exact absurd rfl (hd d)
      | cons _ _ => cases d <;> rfl) h
  cases d with
  | lst ds =>
    obtain ⟨a, vs, rfl, h1, h2⟩ := hv.lst sz
    refine call_len_seq pins s σ H _ us Q I r ⟨a, vs, rfl, .inl (.inl h1), ?_⟩
    rw [h2.length]
    exact f.ret sz rfl (.int _)
  | tup ds =>
    obtain ⟨a, vs, rfl, h1, h2⟩ := hv.tup sz
    refine call_len_seq pins s σ H _ us Q I r ⟨a, vs, rfl, .inr h1, ?_⟩
    rw [h2.length]
    exact f.ret sz rfl (.int _)
  | scr ns =>
    obtain ⟨a, rfl, h1⟩ := hv.scr
    refine call_len_seq pins s σ H _ us Q I r ⟨a, _, rfl, .inl (h1.imp (same_rd sz) id), ?_⟩
    rw [List.length_map]
    exact f.ret sz rfl (.int _)
  | str z =>
    by_cases c : okN z.length = true
    · refine call_len_str pins s σ H _ us Q I r ⟨_, by rw [hv.str], by rw [strlen]; exact okN_le c, ?_⟩
      rw [strlen]
      exact f.ret sz (show biD .len [.str z] = _ from if_pos c) (.int _)
    · exact (f.no (show biD .len [.str z] = _ from if_neg c)).elim
  | gd ps =>
    obtain ⟨a, acc, ep, rfl, h1, h2⟩ := hv.gd sz
    rw [kd.1] at h1
    refine Gd.call_glen pins s σ H _ us Q I r ⟨a, acc, rfl, ⟨ep, h1⟩, ?_⟩
    rw [h2.len]
    exact f.ret sz rfl (.int _)
  | _ => exact (f.no rfl).elim
theorem bi_int : CallR X (.type "int") (RBi X.K ct .int) := by
  intro pins s σ H xs us Q I r h
  obtain ⟨Z, d, v, sz, rfl, hv, f⟩ := bi_one (fun ds hd => by
    cases ds with
    | nil => rfl
    | cons d r => cases r with
      | nil => exact absurd rfl (hd d)
      | cons _ _ => cases d <;> rfl) h
  cases d with
  | int i => exact call_int1 pins s σ H _ us Q I r (.inl ⟨i, by rw [hv.int], f.ret sz rfl (.int _)⟩)
  | bl i => exact call_int1 pins s σ H _ us Q I r (.inr ⟨i, by rw [hv.bl], f.ret sz rfl (.int _)⟩)
  | _ => exact (f.no rfl).elim
theorem den_of_tup {K : PySem.W.Frag} {Z H : Hp} {v : V} {ds : List D} (hx : ShDen K ct Z H v (.tup ds)) : Den K ct Z v (.tup ds) := by
  rcases hx with z | ⟨_, _, _, o⟩
  · exact z
  · rcases o with ⟨_, _, r, _⟩ | ⟨_, _, r, _⟩ <;> cases r
theorem bi_tuple : CallR X (.type "tuple") (RBi X.K ct .tuple) := by
  intro pins s σ H xs us Q I r h
  obtain ⟨Z, d, v, sz, rfl, hv, f⟩ := bi_one (fun ds hd => by
    cases ds with
    | nil => rfl
    | cons d r => cases r with
      | nil => exact absurd rfl (hd d)
      | cons _ _ => cases d <;> rfl) h
  cases d with
  | lst ds =>
    obtain ⟨a, vs, rfl, h1, h2⟩ := hv.lst sz
    exact call_tuple_of pins s σ H _ us Q I r ⟨a, vs, rfl, .inl ⟨.inl h1, f.newT sz rfl h2⟩⟩
  | tup ds =>
    obtain ⟨a, vs, rfl, h1, h2⟩ := hv.tup sz
    exact call_tuple_of pins s σ H _ us Q I r ⟨a, vs, rfl, .inr ⟨h1, f.ret sz rfl (den_of_tup hv)⟩⟩
  | _ => exact (f.no rfl).elim
theorem bi_list (hc : X.calm = true) (kd : KdOk X.K X.w ct) : CallR X (.type "list") (RBi X.K ct .list) := by
  intro pins s σ H xs us Q I r h
  obtain ⟨Z, d, v, sz, rfl, hv, f⟩ := bi_one (fun ds hd => by
    cases ds with
    | nil => rfl
    | cons d r => cases r with
      | nil => exact absurd rfl (hd d)
      | cons _ _ => cases d <;> rfl) h
  cases d with
  | lst ds =>
    obtain ⟨a, vs, rfl, h1, h2⟩ := hv.lst sz
    exact call_list_of pins s σ H _ us Q I r ⟨a, vs, rfl, .inl (.inl h1), f.newL sz rfl h2⟩
  | tup ds =>
    obtain ⟨a, vs, rfl, h1, h2⟩ := hv.tup sz
    exact call_list_of pins s σ H _ us Q I r ⟨a, vs, rfl, .inr h1, f.newL sz rfl h2⟩
  | gd ps =>
    obtain ⟨a, acc, ep, rfl, h1, h2⟩ := hv.gd sz
    rw [kd.1] at h1
    obtain ⟨ys, r1, r2⟩ := h2.keys
    exact Gd.call_glist hc pins s σ H _ us Q I r ⟨a, acc, ys, rfl, ⟨ep, h1⟩, r1, f.newL sz rfl r2⟩
  | _ => exact (f.no rfl).elim
theorem bi_dict (hc : X.calm = true) (hu : X.A.units + 65 < cLine) (kd : KdOk X.K X.w ct) : CallR X (.type "dict") (RBi X.K ct .dict) := by
  intro pins s σ H xs us Q I r h
  obtain ⟨Z, d, v, sz, rfl, hv, f⟩ := bi_one (fun ds hd => by
    cases ds with
    | nil => rfl
    | cons d r => cases r with
      | nil => exact absurd rfl (hd d)
      | cons _ _ => cases d <;> rfl) h
  cases d with
  | lst ds =>
    obtain ⟨a, vs, rfl, h1, h2⟩ := hv.lst sz
    cases e : pairsO ds with
    | none => exact (f.no (show (match pairsO ds with | some ps => Res.ok (D.gd (mkD ps [])) | none => .bad) = _ by rw [e])).elim
    | some ms =>
      obtain ⟨ps, ts, rfl, g1, g2⟩ := pairs_den sz h2 e
      have er : biD .dict [.lst ds] = .ok (.gd (mkD ms [])) := by
        show (match pairsO ds with | some ps => Res.ok (D.gd (mkD ps [])) | none => .bad) = _
        rw [e]
      refine Gd.call_gdict hc (by omega) pins s σ H _ us Q I r ⟨a, ps, ts, rfl, .inl h1, g1, fun p rs ep hp rl => ?_⟩
      rw [er] at f
      have e0 : Ext Z H (upd Z p (Gd.gdO X.w p (Gd.mergeG X.w [] rs) ep)) (upd H p (Gd.gdO X.w p (Gd.mergeG X.w [] rs) ep)) := .mk1 sz hp
      refine f _ _ _ e0 (.gd (acc := Gd.mergeG X.w [] rs) (ep := ep) ?_ (DenG.mono e0.zz _ _ (DenG.merge g2 rl .nil)))
      rw [kd.1]
      exact upd_same
  | _ => exact (f.no rfl).elim
theorem den_intsO {K : PySem.W.Frag} {H : Hp} : ∀ {vs : List V} {ds : List D} {ns : List Int}, DenAll K ct H vs ds → intsO ds = some ns → vs = ns.map V.int
  | _, _, ns, .nil, e => by cases e; rfl
  | _ :: _, _ :: ds, ns, .cons h1 h2, e => by
    cases h1 <;> first | (cases e; done) | skip
    rename_i i
    simp only [intsO] at e
    cases q : intsO ds with
    | none => rw [q] at e; cases e
    | some ms =>
      rw [q] at e
      have e : i :: ms = ns := Option.some.inj e
      subst e
      rw [den_intsO h2 q]
      rfl
theorem den_blsO {K : PySem.W.Frag} {H : Hp} : ∀ {vs : List V} {ds : List D} {ns : List Bool}, DenAll K ct H vs ds → blsO ds = some ns → vs = ns.map V.bl
  | _, _, ns, .nil, e => by cases e; rfl
  | _ :: _, _ :: ds, ns, .cons h1 h2, e => by
    cases h1 <;> first | (cases e; done) | skip
    rename_i i
    simp only [blsO] at e
    cases q : blsO ds with
    | none => rw [q] at e; cases e
    | some ms =>
      rw [q] at e
      have e : i :: ms = ns := Option.some.inj e
      subst e
      rw [den_blsO h2 q]
      rfl
theorem den_strsO {K : PySem.W.Frag} {H : Hp} : ∀ {vs : List V} {ds : List D} {ns : List (List Nat)}, DenAll K ct H vs ds → strsO ds = some ns → vs = (ns.map fun z => (⟨z.toArray⟩ : Str)).map V.str
  | _, _, ns, .nil, e => by cases e; rfl
  | _ :: _, _ :: ds, ns, .cons h1 h2, e => by
    cases h1 <;> first | (cases e; done) | skip
    rename_i i
    simp only [strsO] at e
    cases q : strsO ds with
    | none => rw [q] at e; cases e
    | some ms =>
      rw [q] at e
      have e : i.cps.toList :: ms = ns := Option.some.inj e
      subst e
      rw [den_strsO h2 q]
      simp
theorem bi_sum (hc : X.calm = true) : CallR X (.builtin "sum") (RBi X.K ct .sum) := by
  intro pins s σ H xs us Q I r h
  obtain ⟨Z, d, v, sz, rfl, hv, f⟩ := bi_one (fun ds hd => by
    cases ds with
    | nil => rfl
    | cons d r => cases r with
      | nil => exact absurd rfl (hd d)
      | cons _ _ => cases d <;> rfl) h
  cases d with
  | lst ds =>
    obtain ⟨a, vs, rfl, h1, h2⟩ := hv.lst sz
    cases e : intsO ds with
    | none => exact (f.no (show (match intsO ds with | some ns => Res.ok (D.int ns.sum) | none => .bad) = _ by rw [e])).elim
    | some ns => exact cr_sum hc pins s σ H _ us Q I r ⟨a, ns, rfl, by rw [← den_intsO h2 e]; exact .inl h1, f.ret sz (show (match intsO ds with | some ns => Res.ok (D.int ns.sum) | none => .bad) = _ by rw [e]) (.int _)⟩
  | _ => exact (f.no rfl).elim
theorem foldl_max : ∀ (r : List Int) (n : Int), (r.foldl max n = n ∨ r.foldl max n ∈ r) ∧ n ≤ r.foldl max n ∧ ∀ y ∈ r, y ≤ r.foldl max n
  | [], n => ⟨.inl rfl, Int.le_refl _, fun y hy => by cases hy⟩
  | a :: r, n => by
    obtain ⟨h1, h2, h3⟩ := foldl_max r (max n a)
    refine ⟨?_, ?_, ?_⟩
    · rcases h1 with h1 | h1
      · by_cases c : n ≤ a
        · right
          show r.foldl max (max n a) ∈ a :: r
          rw [h1, Int.max_eq_right c]
          exact List.mem_cons_self
        · left
          show r.foldl max (max n a) = n
          rw [h1, Int.max_eq_left (by omega)]
      · right
        exact List.mem_cons_of_mem _ h1
    · exact Int.le_trans (Int.le_max_left n a) h2
    · intro y hy
      rcases List.mem_cons.mp hy with rfl | hy
      · exact Int.le_trans (Int.le_max_right n y) h2
      · exact h3 y hy
theorem bi_max (hc : X.calm = true) : CallR X (.builtin "max") (RBi X.K ct .max1) := by
  intro pins s σ H xs us Q I r h
  obtain ⟨Z, d, v, sz, rfl, hv, f⟩ := bi_one (fun ds hd => by
    cases ds with
    | nil => rfl
    | cons d r => cases r with
      | nil => exact absurd rfl (hd d)
      | cons _ _ => cases d <;> rfl) h
  cases d with
  | lst ds =>
    obtain ⟨a, vs, rfl, h1, h2⟩ := hv.lst sz
    cases e : intsO ds with
    | none => exact (f.no (show (match intsO ds with | some ns => (match ns with | n :: r => Res.ok (D.int (r.foldl max n)) | [] => .bad) | none => .bad) = _ by rw [e])).elim
    | some ns =>
      cases ns with
      | nil => exact (f.no (show (match intsO ds with | some ns => (match ns with | n :: r => Res.ok (D.int (r.foldl max n)) | [] => .bad) | none => .bad) = _ by rw [e])).elim
      | cons n r =>
        refine cr_max hc pins s σ H _ us Q I ‹_› ⟨a, n :: r, rfl, by rw [← den_intsO h2 e]; exact .inl h1, by simp, fun m hm hmax => ?_⟩
        obtain ⟨g1, g2, g3⟩ := foldl_max r n
        have em : m = r.foldl max n := by
          apply Int.le_antisymm
          · rcases List.mem_cons.mp hm with rfl | hm
            · exact g2
            · exact g3 m hm
          · rcases g1 with g1 | g1
            · rw [g1]; exact hmax n List.mem_cons_self
            · exact hmax _ (List.mem_cons_of_mem _ g1)
        subst em
        exact f.ret sz (show (match intsO ds with | some ns => (match ns with | n :: r => Res.ok (D.int (r.foldl max n)) | [] => .bad) | none => .bad) = _ by rw [e]) (.int _)
  | _ => exact (f.no rfl).elim
theorem bi_any (hc : X.calm = true) : CallR X (.builtin "any") (RBi X.K ct .any) := by
  intro pins s σ H xs us Q I r h
  obtain ⟨Z, d, v, sz, rfl, hv, f⟩ := bi_one (fun ds hd => by
    cases ds with
    | nil => rfl
    | cons d r => cases r with
      | nil => exact absurd rfl (hd d)
      | cons _ _ => cases d <;> rfl) h
  cases d with
  | lst ds =>
    obtain ⟨a, vs, rfl, h1, h2⟩ := hv.lst sz
    cases e : blsO ds with
    | none => exact (f.no (show (match blsO ds with | some bs => Res.ok (D.bl (bs.any id)) | none => .bad) = _ by rw [e])).elim
    | some ns => exact cr_any hc pins s σ H _ us Q I r ⟨a, ns, rfl, by rw [← den_blsO h2 e]; exact .inl h1, f.ret sz (show (match blsO ds with | some bs => Res.ok (D.bl (bs.any id)) | none => .bad) = _ by rw [e]) (.bl _)⟩
  | _ => exact (f.no rfl).elim
theorem bi_all (hc : X.calm = true) : CallR X (.builtin "all") (RBi X.K ct .all) := by
  intro pins s σ H xs us Q I r h
  obtain ⟨Z, d, v, sz, rfl, hv, f⟩ := bi_one (fun ds hd => by
    cases ds with
    | nil => rfl
    | cons d r => cases r with
      | nil => exact absurd rfl (hd d)
      | cons _ _ => cases d <;> rfl) h
  cases d with
  | lst ds =>
    obtain ⟨a, vs, rfl, h1, h2⟩ := hv.lst sz
    cases e : blsO ds with
    | none => exact (f.no (show (match blsO ds with | some bs => Res.ok (D.bl (bs.all id)) | none => .bad) = _ by rw [e])).elim
    | some ns => exact cr_all hc pins s σ H _ us Q I r ⟨a, ns, rfl, by rw [← den_blsO h2 e]; exact .inl h1, f.ret sz (show (match blsO ds with | some bs => Res.ok (D.bl (bs.all id)) | none => .bad) = _ by rw [e]) (.bl _)⟩
  | _ => exact (f.no rfl).elim
theorem bi_str1 : CallR X (.type "str") (RBi X.K ct .str1) := by
  intro pins s σ H xs us Q I r h
  obtain ⟨Z, d, v, sz, rfl, hv, f⟩ := bi_one (fun ds hd => by
    cases ds with
    | nil => rfl
    | cons d r => cases r with
      | nil => exact absurd rfl (hd d)
      | cons _ _ => cases d <;> rfl) h
  cases d with
  | int i =>
    by_cases c : decide (i.natAbs.log2 < 1920) = true
    · exact call_str_int pins s σ H _ us Q I r ⟨i, by rw [hv.int], of_decide_eq_true c, f.ret sz (show biD .str1 [.int i] = _ from if_pos c) (.str _)⟩
    · exact (f.no (show biD .str1 [.int i] = _ from if_neg c)).elim
  | bl b =>
    obtain ⟨u, rfl, r1⟩ := vals1 r
    rw [hv.bl] at r1
    cases r1
    refine P.str_of_bool ⟨.str _, H, I.tok _, ⟨_, rfl⟩, ?_⟩
    exact f.ret sz rfl (by
      cases b
      · exact Den.str ("False" : Str)
      · exact Den.str ("True" : Str))
  | _ => exact (f.no rfl).elim
/-- the type of a value -/
def tyN : D → Option String
  | .non => some "NoneType"
  | .bl _ => some "bool"
  | .int _ => some "int"
  | .str _ => some "str"
  | .tup _ => some "tuple"
  | .lst _ => some "list"
  | _ => none
theorem ty_of {K : PySem.W.Frag} {Z H : Hp} {v : V} {d : D} {T : String} (h : ShDen K ct Z H v d) (sz : Same Z H) (e : tyN d = some T) : TyX K H v (.type T) := by
  cases d with
  | non => cases e; rw [h.non]; exact .base .non
  | bl b => cases e; rw [h.bl]; exact .base (.bl b)
  | int b => cases e; rw [h.int]; exact .base (.int b)
  | str b => cases e; rw [h.str]; exact .base (.str _)
  | tup ds =>
    cases e
    obtain ⟨a, vs, rfl, h1, h2⟩ := h.tup sz
    rcases h1 with (h1 | ⟨o, h1⟩) | ⟨o, _, _, h1, h3, _⟩
    · exact .base (.tup h1)
    · exact .fTuple h1
    · exact .kTuple h1 h3
  | lst ds =>
    cases e
    obtain ⟨a, vs, rfl, h1, h2⟩ := h.lst sz
    rcases h1 with h1 | ⟨o, h1⟩
    · exact .base (.lst h1)
    · exact .base (.frz h1)
  | _ => cases e
def isiN : Nat → String
  | 0 => "str"
  | 1 => "int"
  | 2 => "bool"
  | 3 => "tuple"
  | _ => "list"
theorem kitB_all : ∀ (t : Nat), t < 5 → ∀ (d : D) (T : String) (b : Bool), tyN d = some T → isiD t d = .ok (.bl b) → kitB T (isiN t) = some b := by
  have key : ∀ t, t < 5 → kitB "NoneType" (isiN t) = some false ∧ kitB "bool" (isiN t) = some (t == 1 || t == 2) ∧ kitB "int" (isiN t) = some (t == 1) ∧ kitB "str" (isiN t) = some (t == 0) ∧ kitB "tuple" (isiN t) = some (t == 3) ∧ kitB "list" (isiN t) = some (t == 4) := by
    intro t ht
    have : t = 0 ∨ t = 1 ∨ t = 2 ∨ t = 3 ∨ t = 4 := by omega
    rcases this with rfl | rfl | rfl | rfl | rfl <;> decide +kernel
  intro t ht d T b e h
  obtain ⟨k0, k1, k2, k3, k4, k5⟩ := key t ht
  cases d <;> cases e <;> simp only [isiD, if_pos ht, Res.ok.injEq, D.bl.injEq] at h <;> subst h <;> assumption
theorem isiD_lt {t : Nat} {d : D} {r : D} (h : isiD t d = .ok r) : t < 5 ∧ ∃ b T, r = .bl b ∧ tyN d = some T := by
  by_cases c : t < 5
  · refine ⟨c, ?_⟩
    cases d <;> simp only [isiD, if_pos c, Res.ok.injEq] at h <;> first | exact ⟨_, _, h.symm, rfl⟩ | cases h
  · cases d <;> simp only [isiD, if_neg c] at h <;> cases h
theorem bi_isi {t : Nat} : CallR X (.builtin "isinstance") (fun xs H Q => ∃ v, xs = [v, .ty (isiN t)] ∧ RBi X.K ct (.isi t) [v] H Q) := by
  intro pins s σ H xs us Q I r h
  obtain ⟨v0, rfl, h⟩ := h
  obtain ⟨Z, ds, sz, hs, f⟩ := h
  cases hs with
  | cons h1 h2 =>
    cases h2
    rename_i d
    cases e : isiD t d with
    | ok r0 =>
      obtain ⟨c, b, T, rfl, hT⟩ := isiD_lt e
      exact call_isi pins s σ H _ us Q I r ⟨_, _, _, _, b, rfl, .ty _, ty_of h1 sz hT, kit_ty (kitB_all t c d T b hT e), f.ret sz (show isiD t d = _ from e) (.bl _)⟩
    | exc c =>
      have f : Fin X.K ct Z H (isiD t d) Q := f
      rw [e] at f
      exact (show False from f).elim
    | bad =>
      have f : Fin X.K ct Z H (isiD t d) Q := f
      rw [e] at f
      exact (show False from f).elim
theorem join0 : ∀ (zs : List (List Nat)), (Txt.join ⟨#[]⟩ (zs.map fun z => (⟨z.toArray⟩ : Str))) = ⟨zs.flatten.toArray⟩ := by
  intro zs
  show Builtin.Str.glued _ _ = _
  rw [StrLaws.glued_eq_join]
  induction zs with
  | nil => rfl
  | cons z r ih =>
    cases r with
    | nil => simp [Str.join]
    | cons y r =>
      have e : Str.join ⟨#[]⟩ ((z :: y :: r).map fun z => (⟨z.toArray⟩ : Str)) = (⟨z.toArray⟩ : Str) ++ (⟨#[]⟩ : Str) ++ Str.join ⟨#[]⟩ ((y :: r).map fun z => (⟨z.toArray⟩ : Str)) := by
        simp [Str.join]
      rw [e, ih]
      have e2 : ((⟨z.toArray⟩ : Str) ++ (⟨#[]⟩ : Str)) = ⟨z.toArray⟩ := by
        have := strapp z []
        simpa using this
      rw [e2, strapp]
      simp
theorem bi_join : MtR X "str.join" (fun x xs H Q => RBi X.K ct .join (x :: xs) H Q) := by
  intro pins s σ H x xs v us Q I rx rs h
  obtain ⟨Z, ds, sz, hs, f⟩ := h
  cases hs with
  | cons h1 h2 =>
    rename_i d ds
    cases d with
    | str sep =>
      cases sep with
      | cons _ _ => exact (f.no (by cases ds <;> rfl)).elim
      | nil =>
        cases h2 with
        | nil => exact (f.no rfl).elim
        | cons h3 h4 =>
          rename_i y ys e es
          cases h4 with
          | cons _ _ => exact (f.no (by cases e <;> rfl)).elim
          | nil =>
            cases e with
            | lst ws =>
              obtain ⟨a, vs, rfl, q1, q2⟩ := h3.lst sz
              cases e : strsO ws with
              | none => exact (f.no (show (match strsO ws with | some zs => if okN zs.flatten.length then Res.ok (D.str zs.flatten) else .bad | none => .bad) = _ by rw [e])).elim
              | some zs =>
                have e0 : biD .join [.str [], .lst ws] = if okN zs.flatten.length then Res.ok (D.str zs.flatten) else .bad := by
                  show (match strsO ws with | some zs => if okN zs.flatten.length then Res.ok (D.str zs.flatten) else .bad | none => .bad) = _
                  rw [e]
                by_cases c : okN zs.flatten.length = true
                · refine mt_join pins s σ H _ _ v us Q I rx rs ⟨_, a, zs.map fun z => (⟨z.toArray⟩ : Str), h1.str, rfl, .inl (by rw [← den_strsO q2 e]; exact .inl q1), ?_, ?_⟩
                  · have e1 : ((zs.map fun z => (⟨z.toArray⟩ : Str)).map (·.length)).sum = zs.flatten.length := by
                      rw [List.map_map, List.length_flatten]
                      have e3 : (Str.length ∘ fun z : List Nat => (⟨z.toArray⟩ : Str)) = List.length := funext fun z => strlen z
                      rw [e3]
                    rw [e1]
                    have := of_decide_eq_true c
                    unfold big at this
                    show zs.flatten.length + _ * (⟨#[]⟩ : Str).length ≤ 16777216
                    have e2 : (⟨#[]⟩ : Str).length = 0 := rfl
                    rw [e2]
                    first | omega | (rw [Nat.mul_zero]; omega)
                  · show Q (.str (Txt.join ⟨#[]⟩ _)) H
                    rw [join0]
                    exact f.ret sz (by rw [e0, if_pos c]) (den_str _ _ _ _)
                · exact (f.no (by rw [e0, if_neg c])).elim
            | _ => exact (f.no rfl).elim
    | _ => exact (f.no (by cases ds <;> rfl)).elim
end
end Tk
/-! A call leaves what it does not see; what a def promises over data. -/
namespace Tk
open PySem PySem.Spec PyProof.Rows L2
open D
section
variable {P : Program} {w : World} {Z H H1 : Hp}
theorem Dif.at (d : Dif Z H) (s : Same Z H) {b : Addr} {o : HO} (h : H b = some o) (n1 : ∀ xs, o ≠ .lst xs) (n2 : ∀ φ, o ≠ .ext φ) (n3 : ∀ C dx fs, o ≠ .ins C dx fs) (n4 : ∀ x, o ≠ .own x) : Z b = some o := by
  cases q : Z b with
  | none =>
    rcases d b o h q with ⟨xs, e⟩ | ⟨kvs, e⟩ | ⟨C, dx, fs, e, _⟩ | ⟨x, C, fs, e, _⟩
    · exact absurd e (n1 xs)
    · exact absurd e (n2 kvs)
    · exact absurd e (n3 _ _ _)
    · exact absurd e (n4 _)
  | some u =>
    have := s b u q
    rw [h] at this
    exact this.symm
theorem HOk.forget {h : Heap} (x : HOk P w H h) (s : Same Z H) (d : Dif Z H) : HOk P w Z h := fun a o e =>
  (x a o (s a o e)).stay (fun b u _ q => q) (fun b q => by
    cases zb : Z b with
    | some u => have := s b u zb; rw [q] at this; exact this.symm
    | none =>
      rcases d b _ q zb with ⟨xs, e2⟩ | ⟨kvs, e2⟩ | ⟨C, dx, fs, e2, _⟩ | ⟨x, C, fs, e2, z2, _⟩
      · cases e2
      · cases e2
      · cases e2
      · cases e2; rw [e] at z2; cases z2) fun b xs q => d.at s q (fun _ z => nomatch z) (fun _ z => nomatch z) (fun _ _ _ z => nomatch z) fun _ z => nomatch z
/-- the two parts put together -/
def comb (H H1 : Hp) : Hp := fun b => match H1 b with
  | some o => some o
  | none => H b
theorem comb_l {H H1 : Hp} : Same H1 (comb H H1) := fun b o e => by
  unfold comb
  rw [e]
theorem comb_n {H H1 : Hp} {b : Addr} (h : H1 b = none) : comb H H1 b = H b := by
  unfold comb
  rw [h]
/-- H1 stands over Z; what was in H outside of Z is not in H1 -/
theorem comb_ext (s : Same Z H) (z : Same Z H1) (fr : ∀ b o, H b = some o → Z b = none → H1 b = none) : Ext Z H H1 (comb H H1) := by
  have kp : ∀ b o, H b = some o → H1 b = Z b := fun b o e => by
    cases q : Z b with
    | none => exact fr b o e q
    | some u => exact z b u q
  refine ⟨fun b o e => ?_, z, comb_l, kp, fun b h n => by rw [comb_n n]; exact h⟩
  cases q : Z b with
  | none => rw [comb_n (fr b o e q)]; exact e
  | some u =>
    have := s b u q
    rw [e] at this
    cases this
    exact comb_l b o (z b o q)
theorem HOk.comb {h h' : Heap} (x : HOk P w H h) (y : HOk P w H1 h') (s : Same Z H) (z : ∀ a, H1 a = none → Z a = none) (d : Dif Z H) (kp : ∀ b o ob, H b = some o → Z b = none → h.get? b = some ob → h'.get? b = some ob) (fr : ∀ b o, H b = some o → Z b = none → H1 b = none) : HOk P w (comb H H1) h' := fun a o e => by
  cases q : H1 a with
  | some u =>
    rw [comb_l a u q] at e
    cases e
    exact (y a o q).stay (fun b u _ r => r) (fun b r => comb_l _ _ r) fun b xs r => comb_l _ _ r
  | none =>
    rw [comb_n q] at e
    have zn : Z a = none := z a q
    rcases d a o e zn with ⟨xs, rfl⟩ | ⟨kvs, rfl⟩ | ⟨C, dx, fs, rfl, z2, hdx⟩ | ⟨y, C, fs, rfl, z2, hy⟩
    · obtain ⟨l, its, n, r, g⟩ := x a _ e
      exact ⟨l, its, n, r, kp a _ _ e zn g⟩
    · obtain ⟨p, ⟨ob, g⟩, st⟩ := x a _ e
      exact ⟨st _ _ p fun ob2 g2 => kp a _ _ e zn g2, ⟨ob, kp a _ _ e zn g⟩, st⟩
    · obtain ⟨d1, d2, d3, g, mA, ⟨od, es, ep, g2, c⟩, r⟩ := x a _ e
      exact ⟨by rw [comb_n (fr dx _ hdx z2)]; exact hdx, d2, d3, kp a _ _ e zn g, mA, ⟨od, es, ep, kp dx _ _ hdx z2 g2, c⟩, r⟩
    · obtain ⟨ob, g⟩ := x a _ e
      exact ⟨ob, kp a _ _ e zn g⟩
theorem objOk_there {h : Heap} {a : Addr} {o : HO} (x : ObjOk P w H h a o) : ∃ ob, h.get? a = some ob := objOk_get x
theorem Un.comb {fs : List Addr} {h h' : Heap} (u : Un fs [] Z H1 h h') (s : Same Z H) (d : Dif Z H) : Un fs [] H (comb H H1) h h' := by
  refine ⟨fun b o e n => u.keep b o e (s.free n), fun b o e n => u.slot b o e (s.free n), fun b o e n hx => ?_, u.there, fun b xs e => ?_, fun b o xs e => ?_, fun b ps e => ?_⟩
  · rw [comb_n (u.free b o e (s.free n) hx)]; exact n
  · exact comb_l _ _ (u.tups b xs (d.at s e (fun _ z => nomatch z) (fun _ z => nomatch z) (fun _ _ _ z => nomatch z) fun _ z => nomatch z))
  · exact comb_l _ _ (u.frzs b o xs (d.at s e (fun _ z => nomatch z) (fun _ z => nomatch z) (fun _ _ _ z => nomatch z) fun _ z => nomatch z))
  · obtain ⟨m, q⟩ := u.tbls b ps (d.at s e (fun _ z => nomatch z) (fun _ z => nomatch z) (fun _ _ _ z => nomatch z) fun _ z => nomatch z)
    exact ⟨m, comb_l _ _ q⟩
theorem UB.comb {fs : List Addr} {h B h' : Heap} (u : UB fs Z H1 h B h') (s : Same Z H) (d : Dif Z H) : UB fs H (comb H H1) h B h' := by
  refine ⟨fun b o e n => u.keep b o e (s.free n), u.slot, fun b o e n => ?_, u.there, fun b xs e => ?_, fun b o xs e => ?_, fun b ps e => ?_⟩
  · rw [comb_n (u.free b o e (s.free n))]; exact n
  · exact comb_l _ _ (u.tups b xs (d.at s e (fun _ z => nomatch z) (fun _ z => nomatch z) (fun _ _ _ z => nomatch z) fun _ z => nomatch z))
  · exact comb_l _ _ (u.frzs b o xs (d.at s e (fun _ z => nomatch z) (fun _ z => nomatch z) (fun _ _ _ z => nomatch z) fun _ z => nomatch z))
  · obtain ⟨m, q⟩ := u.tbls b ps (d.at s e (fun _ z => nomatch z) (fun _ z => nomatch z) (fun _ _ _ z => nomatch z) fun _ z => nomatch z)
    exact ⟨m, comb_l _ _ q⟩
end
/-- a promise, whatever stands aside -/
def spF (sp : Sp) : Sp := fun vs H Q E => ∃ Z, Same Z H ∧ Dif Z H ∧ sp vs Z (fun v H1 => ∀ H', Ext Z H H1 H' → Q v H') (fun c d H1 => ∀ H', Ext Z H H1 H' → E c d H')
/-- what the promise must keep: what stood stands -/
def Keeps (sp : Sp) : Prop := ∀ vs H Q E, sp vs H Q E → sp vs H (fun v H1 => Same H H1 ∧ Q v H1) (fun c d H1 => Same H H1 ∧ E c d H1)
theorem FnOk.frame {P : Program} {w : World} {K : PySem.W.Frag} {mg : Str → Option Value} {base : Heap} {k : Nat} {f : Addr} {fd : FuncData} {ps : List Str} {sp : Sp} (F : FnOk P w K mg base (L2.CX P w) k f fd ps sp) (kp : Keeps sp) : FnOk P w K mg base (L2.CX P w) k f fd ps (spF sp) := by
  refine ⟨fun vs H Q E ⟨Z, _, _, h⟩ => F.len _ _ _ _ h, fun A outer s H args us vs Q E hr e0 hb r hs => ?_⟩
  obtain ⟨Z, sz, d, hs⟩ := hs
  have e1 : Env0 P w K mg base A outer s Z := ⟨e0.frames, e0.mod, fun b o e => ⟨(e0.bs b o e).1, sz.free (e0.bs b o e).2⟩, e0.bsz, e0.funs, fun b hb => sz.free (e0.frf b hb), HOk.forget e0.hok sz d, e0.bare⟩
  have nofr : ∀ b o, H b = some o → b ∉ frs outer := fun b o e hb => by rw [e0.frf b hb] at e; cases e
  refine codeAny_mono (F.run A outer s Z args us vs _ _ hr e1 hb r (kp _ _ _ _ hs)) fun r s' hq => ?_
  cases r with
  | error e =>
    obtain ⟨a, B, H1, cls, d1, rfl, fl, hok, ub, na, os, ag, same, hE⟩ := hq
    have fr : ∀ b o, H b = some o → Z b = none → H1 b = none := fun b o e n => by
      obtain ⟨ob, g⟩ := objOk_there (e0.hok b o e)
      exact ub.free b ob g n
    have na2 : comb H H1 a = none := by
      rw [comb_n na]
      cases q : H a with
      | none => rfl
      | some o =>
        obtain ⟨ob, g⟩ := objOk_there (e0.hok a o q)
        obtain ⟨o', g2⟩ := ub.there a ob g (nofr a o q)
        obtain ⟨st, nb, _⟩ := fl
        rw [nb] at g2
        cases g2
    refine ⟨a, B, comb H H1, cls, d1, rfl, fl, HOk.comb e0.hok hok sz (fun _ q => same.free q) d (fun b o ob e n g => ub.keep b ob g n (nofr b o e)) fr, UB.comb ub sz d, na2, os, ag, hE _ (comb_ext sz same fr)⟩
  | ok fl =>
    cases fl with
    | ret u =>
      obtain ⟨v, H1, os, ag, un, hok, rv, same, q⟩ := hq
      have fr : ∀ b o, H b = some o → Z b = none → H1 b = none := fun b o e n => by
        obtain ⟨ob, g⟩ := objOk_there (e0.hok b o e)
        exact un.free b ob g n (by simp)
      exact ⟨v, comb H H1, os, ag, Un.comb un sz d, HOk.comb e0.hok hok sz (fun _ q => same.free q) d (fun b o ob e n g => un.keep b ob g n (nofr b o e) (by simp)) fr, rv, q _ (comb_ext sz same fr)⟩
    | next => exact hq
    | brk => exact hq
    | cont => exact hq
/-- a def over data: m arguments, g what it tells -/
def spD (K : PySem.W.Frag) (ct : CT) (g : List D → Res D) (m : Nat) : Sp := fun vs H Q E => vs.length = m ∧ ∃ ds, DenAll K ct H vs ds ∧ (match g ds with
  | .ok d => ∀ v H', Same H H' → Den K ct H' v d → Q v H'
  | .exc c => ∀ C H', ct.ex c = some C → Same H H' → E (.ref C) none H'
  | .bad => False)
theorem spD_keeps {K : PySem.W.Frag} {ct : CT} {g : List D → Res D} {m : Nat} : Keeps (spD K ct g m) := by
  intro vs H Q E ⟨hl, ds, hd, h⟩
  refine ⟨hl, ds, hd, ?_⟩
  cases e : g ds with
  | ok d => rw [e] at h; exact fun v H' s q => ⟨s, h v H' s q⟩
  | exc c => rw [e] at h; exact fun C H' q s => ⟨s, h C H' q s⟩
  | bad => rw [e] at h; exact h
/-! ### objects in the making -/
/-- Z' has what Z has, but for the new object at p and its dict -/
structure Less (ct : CT) (Z Z' : Hp) (p dx C : Addr) : Prop where
  hp : Z p = some (.ins C dx [])
  hd : Z dx = some (.own p)
  hc : ∀ k, ct.cl k ≠ some (C, [])
  k : ∀ b o, b ≠ p → b ≠ dx → Z b = some o → Z' b = some o
section
variable {K : PySem.W.Frag} {ct : CT} {Z Z' : Hp} {p dx C : Addr}
theorem Less.at (l : Less ct Z Z' p dx C) {b : Addr} {o : HO} (h : Z b = some o) (n : ¬ IsObj o) : Z' b = some o :=
  l.k b o (fun z => n (by subst z; rw [l.hp] at h; cases h; exact .inl ⟨_, _, _, rfl⟩)) (fun z => n (by subst z; rw [l.hd] at h; cases h; exact .inr ⟨_, rfl⟩)) h
theorem Less.rd (l : Less ct Z Z' p dx C) {b : Addr} {o : HO} (h : Rd Z b o) (n : ¬ IsObj o) : Rd Z' b o := by
  rcases h with h | ⟨u, h⟩
  · exact .inl (l.at h n)
  · exact .inr ⟨u, l.at h (by rintro (⟨_, _, _, e⟩ | ⟨_, e⟩) <;> cases e)⟩
theorem no_lst {xs : List V} : ¬ IsObj (.lst xs) := by rintro (⟨_, _, _, e⟩ | ⟨_, e⟩) <;> cases e
theorem no_tup {xs : List V} : ¬ IsObj (.tup xs) := by rintro (⟨_, _, _, e⟩ | ⟨_, e⟩) <;> cases e
theorem no_frz {o : Obj} {u : HO} : ¬ IsObj (.frz o u) := by rintro (⟨_, _, _, e⟩ | ⟨_, e⟩) <;> cases e
theorem no_dK {xs : List (Key × V)} : ¬ IsObj (.dK xs) := by rintro (⟨_, _, _, e⟩ | ⟨_, e⟩) <;> cases e
theorem no_ext {φ : Heap → Prop} : ¬ IsObj (.ext φ) := by rintro (⟨_, _, _, e⟩ | ⟨_, e⟩) <;> cases e
theorem no_gd {w : World} {a : Addr} {acc : Gd.Acc} {ep : Nat} : ¬ IsObj (Gd.gdO w a acc ep) := by unfold Gd.gdO; exact no_ext
mutual
theorem Den.dropP (l : Less ct Z Z' p dx C) : ∀ (d : D) (v : V), Den K ct Z v d → Den K ct Z' v d
  | .non, _, h => by cases h; exact .non
  | .bl b, _, h => by cases h; exact .bl b
  | .int b, _, h => by cases h; exact .int b
  | .str b, _, h => by cases h; exact .str _
  | .tup ds, _, h => by
    cases h with
    | tup h1 h2 =>
      refine .tup ?_ (DenAll.dropP l ds _ h2)
      rcases h1 with (h | ⟨o, h⟩) | h
      · exact .inl (.inl (l.at h no_tup))
      · exact .inl (.inr ⟨o, l.at h no_frz⟩)
      · exact .inr h
  | .lst ds, _, h => by cases h with | lst h1 h2 => exact .lst (l.rd h1 no_lst) (DenAll.dropP l ds _ h2)
  | .dic ps, _, h => by
    cases h with
    | dK h1 h2 => exact .dK (l.at h1 no_dK) (DenK.dropP l ps _ h2)
    | dW h1 => exact .dW h1
  | .obj c ds, _, h => by
    cases h with
    | obj h1 h2 h3 h4 =>
      refine .obj (l.k _ _ (fun z => ?_) (fun z => ?_) h1) h2 h3 (DenAll.dropP l ds _ h4)
      · subst z
        rw [l.hp] at h1
        cases h1
        cases h3
        exact l.hc _ h2
      · subst z
        rw [l.hd] at h1
        cases h1
  | .scr ns, _, h => by cases h with | scr h1 => exact .scr (h1.imp (fun q => l.rd q no_lst) id)
  | .gd ps, _, h => by cases h with | gd h1 h2 => exact .gd (l.at h1 no_gd) (DenG.dropP l ps _ h2)
  | .adr a, _, h => by cases h; exact .adr a
theorem DenAll.dropP (l : Less ct Z Z' p dx C) : ∀ (ds : List D) (vs : List V), DenAll K ct Z vs ds → DenAll K ct Z' vs ds
  | [], _, h => by cases h; exact .nil
  | d :: ds, _, h => by cases h with | cons h1 h2 => exact .cons (Den.dropP l d _ h1) (DenAll.dropP l ds _ h2)
theorem DenK.dropP (l : Less ct Z Z' p dx C) : ∀ (ds : List (D × D)) (vs : List (Key × V)), DenK K ct Z vs ds → DenK K ct Z' vs ds
  | [], _, h => by cases h; exact .nil
  | (a, d) :: ds, _, h => by cases h with | cons h1 h2 => exact .cons (Den.dropP l d _ h1) (DenK.dropP l ds _ h2)
theorem DenG.dropP (l : Less ct Z Z' p dx C) : ∀ (ds : List (D × D)) (vs : Gd.Acc), DenG K ct Z vs ds → DenG K ct Z' vs ds
  | [], _, h => by cases h; exact .nil
  | (a, d) :: ds, _, h => by cases h with | cons h1 h2 h3 h4 h5 h6 => exact .cons h1 (Den.dropP l a _ h2) h3 h4 (Den.dropP l d _ h5) (DenG.dropP l ds _ h6)
end
end
/-- what __init__ promises of the object at p: its fields -/
def spI (K : PySem.W.Frag) (ct : CT) (C : Addr) (k : Nat) (ns : List Str) (g : List D → Res D) (m : Nat) : Sp := fun vs H Q _ => ∃ p dx us ds fds, vs = .ref p :: us ∧ us.length = m ∧ H p = some (.ins C dx []) ∧ H dx = some (.own p) ∧ dx ≠ p ∧ DenAll K ct H us ds ∧ g ds = .ok (.obj k fds) ∧
  ∀ H' fs, (∀ b o, b ≠ p → H b = some o → H' b = some o) → H' p = some (.ins C dx fs) → fs.map (·.1) = ns → DenAll K ct H' (fs.map (·.2)) fds → Q .non H'
/-- the same, whatever stands aside -/
def spIF (K : PySem.W.Frag) (ct : CT) (C : Addr) (k : Nat) (g : List D → Res D) (m : Nat) : Sp := fun vs H Q _ => ∃ p dx us Hc Z ds fds, vs = .ref p :: us ∧ us.length = m ∧ H = upd (upd Hc dx (.own p)) p (.ins C dx []) ∧ Hc p = none ∧ Hc dx = none ∧ dx ≠ p ∧ Same Z Hc ∧ Dif Z Hc ∧ DenAll K ct Z us ds ∧ g ds = .ok (.obj k fds) ∧
  ∀ Zf Hf, Ext Z Hc Zf Hf → Den K ct Zf (.ref p) (.obj k fds) → Q .non Hf
theorem FnOk.frameI {P : Program} {w : World} {K : PySem.W.Frag} {ct : CT} {mg : Str → Option Value} {base : Heap} {l m k : Nat} {C f : Addr} {fd : FuncData} {ps ns : List Str} {g : List D → Res D} (F : FnOk P w K mg base (L2.CX P w) l f fd ps (spI K ct C k ns g m)) (hcl : ct.cl k = some (C, ns)) : FnOk P w K mg base (L2.CX P w) l f fd ps (spIF K ct C k g m) := by
  have up : ∀ {Z Hc : Hp} {p dx : Addr}, Same Z Hc → Hc p = none → Hc dx = none → dx ≠ p → Same Z (upd (upd Z dx (.own p)) p (.ins C dx [])) := fun {Z Hc p dx} s h1 h2 h3 b o e => by
    have n1 : b ≠ p := ne_of_none e (s.free h1)
    have n2 : b ≠ dx := ne_of_none e (s.free h2)
    rw [upd_ne n1, upd_ne n2]
    exact e
  refine ⟨fun vs H Q E ⟨p, dx, us, Hc, Z, ds, fds, e1, e2, e3, e4, e5, e6, e7, e8, e9, e10, q⟩ => ?_, fun A outer s H args us vs Q E hr e0 hb r hs => ?_⟩
  · exact F.len vs (upd (upd Z dx (.own p)) p (.ins C dx [])) (fun _ _ => True) E ⟨p, dx, us, ds, fds, e1, e2, upd_same, by rw [upd_ne e6, upd_same], e6, DenAll.mono (up e7 e4 e5 e6) _ _ e9, e10, fun _ _ _ _ _ _ => trivial⟩
  obtain ⟨p, dx, us', Hc, Z0, ds, fds, e1, e2, e3, e4, e5, e6, s0, d0, e9, e10, q⟩ := hs
  generalize hZ : upd (upd Z0 dx (.own p)) p (.ins C dx []) = Z
  have zp : Z p = some (.ins C dx []) := by rw [← hZ]; exact upd_same
  have zd : Z dx = some (.own p) := by rw [← hZ, upd_ne e6, upd_same]
  have zo : ∀ b, b ≠ p → b ≠ dx → Z b = Z0 b := fun b n1 n2 => by rw [← hZ, upd_ne n1, upd_ne n2]
  have ho : ∀ b, b ≠ p → b ≠ dx → H b = Hc b := fun b n1 n2 => by rw [e3, upd_ne n1, upd_ne n2]
  have hp : H p = some (.ins C dx []) := by rw [e3]; exact upd_same
  have hd : H dx = some (.own p) := by rw [e3, upd_ne e6, upd_same]
  have sz : Same Z H := fun b o e => by
    by_cases n1 : b = p
    · subst n1; rw [zp] at e; cases e; exact hp
    · by_cases n2 : b = dx
      · subst n2; rw [zd] at e; cases e; exact hd
      · rw [zo b n1 n2] at e
        rw [ho b n1 n2]
        exact s0 b o e
  have ne1 : ∀ b o, Hc b = some o → b ≠ p ∧ b ≠ dx := fun b o e => ⟨ne_of_none e e4, ne_of_none e e5⟩
  have d : Dif Z H := fun b o e z => by
    have n1 : b ≠ p := fun h => by rw [h, zp] at z; cases z
    have n2 : b ≠ dx := fun h => by rw [h, zd] at z; cases z
    rw [ho b n1 n2] at e
    rw [zo b n1 n2] at z
    refine (d0 b o e z).to fun c u hc hz _ => ?_
    obtain ⟨m1, m2⟩ := ne1 c u hc
    exact ⟨by rw [ho c m1 m2]; exact hc, by rw [zo c m1 m2]; exact hz⟩
  have e1' : Env0 P w K mg base A outer s Z := ⟨e0.frames, e0.mod, fun b o e => ⟨(e0.bs b o e).1, sz.free (e0.bs b o e).2⟩, e0.bsz, e0.funs, fun b hb => sz.free (e0.frf b hb), HOk.forget e0.hok sz d, e0.bare⟩
  have nofr : ∀ b o, H b = some o → b ∉ frs outer := fun b o e hb => by rw [e0.frf b hb] at e; cases e
  have hsp : spI K ct C k ns g m vs Z (fun v H1 => v = .non ∧ (∀ b o, b ≠ p → Z b = some o → H1 b = some o) ∧ ∃ fs, H1 p = some (.ins C dx fs) ∧ fs.map (·.1) = ns ∧ DenAll K ct H1 (fs.map (·.2)) fds) (fun _ _ _ => False) :=
    ⟨p, dx, us', ds, fds, e1, e2, zp, zd, e6, DenAll.mono (fun b o e => by have := ne1 b o (s0 b o e); rw [zo b this.1 this.2]; exact e) _ _ e9, e10, fun H' fs k1 k2 k3 k4 => ⟨rfl, k1, fs, k2, k3, k4⟩⟩
  refine codeAny_mono (F.run A outer s Z args us vs _ _ hr e1' hb r hsp) fun r s' hq => ?_
  cases r with
  | error e =>
    obtain ⟨a, B, H1, cls, d1, rfl, fl, hok, ub, na, os, ag, hE⟩ := hq
    exact hE.elim
  | ok fl =>
    cases fl with
    | ret u =>
      obtain ⟨v, H1, os, ag, un, hok, rv, rfl, kp, fs, hf, hn, hden⟩ := hq
      have fr : ∀ b o, H b = some o → Z b = none → H1 b = none := fun b o e n => by
        obtain ⟨ob, g⟩ := objOk_there (e0.hok b o e)
        exact un.free b ob g n (by simp)
      have h1d : H1 dx = some (.own p) := kp dx _ e6 zd
      have zf : ∀ a, H1 a = none → Z a = none := fun a n => by
        cases q : Z a with
        | none => rfl
        | some o =>
          by_cases n1 : a = p
          · subst n1; rw [hf] at n; cases n
          · rw [kp a o n1 q] at n; cases n
      refine ⟨.non, comb H H1, os, ag, Un.comb un sz d, HOk.comb e0.hok hok sz zf d (fun b o ob e n g => un.keep b ob g n (nofr b o e) (by simp)) fr, rv, q H1 _ ⟨fun b o e => ?_, fun b o e => ?_, comb_l, fun b o e => ?_, fun b e z => ?_⟩ (.obj hf hcl hn hden)⟩
      · obtain ⟨n1, n2⟩ := ne1 b o e
        cases q1 : H1 b with
        | none => rw [comb_n q1, ho b n1 n2]; exact e
        | some u =>
          cases q2 : Z b with
          | none => rw [fr b o (by rw [ho b n1 n2]; exact e) q2] at q1; cases q1
          | some u2 =>
            have h3 := kp b u2 n1 q2
            have h4 := sz b u2 q2
            rw [ho b n1 n2, e] at h4
            cases h4
            exact comb_l b _ h3
      · obtain ⟨n1, n2⟩ := ne1 b o (s0 b o e)
        exact kp b o n1 (by rw [zo b n1 n2]; exact e)
      · obtain ⟨n1, n2⟩ := ne1 b o e
        cases q2 : Z0 b with
        | none => exact fr b o (by rw [ho b n1 n2]; exact e) (by rw [zo b n1 n2]; exact q2)
        | some u => exact kp b u n1 (by rw [zo b n1 n2]; exact q2)
      · have n1 : b ≠ p := fun h => by rw [h, hf] at z; cases z
        have n2 : b ≠ dx := fun h => by rw [h, h1d] at z; cases z
        rw [comb_n z, ho b n1 n2]
        exact e
    | next => exact hq
    | brk => exact hq
    | cont => exact hq
end Tk
/-! d.update(e) of dicts whose keys are texts. -/
namespace Tk
open PySem PySem.Spec PyProof.Rows L2
open D
/-- pairs of a text and a value, as data -/
def TxR (K : PySem.W.Frag) (ct : CT) (Z : Hp) : List (Key × Value) → List (D × D) → Prop := Paired fun t p => (∃ x : Str, t.1 = .inr x ∧ p.1 = .str x.cps.toList) ∧ ∃ v, RelV v t.2 ∧ Den K ct Z v p.2
section
variable {K : PySem.W.Frag} {ct : CT} {Z : Hp}
theorem str_ext {x y : Str} (h : x.cps.toList = y.cps.toList) : x = y := by
  have e : x = ⟨x.cps.toList.toArray⟩ := by simp
  rw [e, h]
theorem txr_any {x : Str} : ∀ {ts : List (Key × Value)} {ps : List (D × D)}, TxR K ct Z ts ps → (ps.any fun p => eqD p.1 (.str x.cps.toList)) = ts.any fun t => decide (t.1 = .inr x)
  | _, _, .nil => rfl
  | t :: ts, p :: ps, .cons ⟨⟨y, h1, h2⟩, _⟩ r => by
    rw [List.any_cons, List.any_cons, txr_any r, h1, h2]
    have e : eqD (.str y.cps.toList) (.str x.cps.toList) = decide ((Sum.inr y : Key) = .inr x) := by
      show (y.cps.toList == x.cps.toList) = _
      by_cases h : y = x
      · subst h; simp
      · have n1 : ¬ y.cps.toList = x.cps.toList := fun z => h (str_ext z)
        have n2 : ¬ (Sum.inr y : Key) = .inr x := fun z => h (Sum.inr.inj z)
        rw [decide_eq_false n2]
        exact beq_eq_false_iff_ne.mpr n1
    rw [e]
theorem txr_repl {x : Str} {u : Value} {v : V} {d : D} (hv : RelV v u) (hd : Den K ct Z v d) : ∀ {ts : List (Key × Value)} {ps : List (D × D)}, TxR K ct Z ts ps → TxR K ct Z (ts.map fun t => if t.1 = .inr x then (t.1, u) else t) (ps.map fun p => if eqD p.1 (.str x.cps.toList) then (p.1, d) else p)
  | _, _, .nil => .nil
  | t :: ts, p :: ps, .cons ⟨⟨y, h1, h2⟩, h3⟩ r => by
    rw [List.map_cons, List.map_cons]
    refine .cons ?_ (txr_repl hv hd r)
    by_cases h : y = x
    · subst h
      rw [if_pos h1, if_pos (by rw [h2]; show (y.cps.toList == y.cps.toList) = true; simp)]
      exact ⟨⟨y, h1, h2⟩, v, hv, hd⟩
    · rw [if_neg (fun z => h (by rw [h1] at z; exact Sum.inr.inj z)), if_neg (fun z => h (by
        rw [h2] at z
        have z : (y.cps.toList == x.cps.toList) = true := z
        exact str_ext (beq_iff_eq.mp z)))]
      exact ⟨⟨y, h1, h2⟩, h3⟩
theorem txr_stored {x : Str} {u : Value} {v : V} {d : D} {ts : List (Key × Value)} {ps : List (D × D)} (hv : RelV v u) (hd : Den K ct Z v d) (r : TxR K ct Z ts ps) : TxR K ct Z (stored ts (.inr x) u) (setD (.str x.cps.toList) d ps) := by
  unfold stored setD
  rw [txr_any r]
  split
  · exact txr_repl hv hd r
  · exact Paired.snoc r ⟨⟨x, rfl, rfl⟩, v, hv, hd⟩
theorem txr_merged : ∀ {ts2 ts : List (Key × Value)} {qs ps : List (D × D)}, TxR K ct Z ts2 qs → TxR K ct Z ts ps → TxR K ct Z (merged ts ts2) (mkD qs ps)
  | _, _, _, _, .nil, r => r
  | t :: ts2, ts, q :: qs, ps, .cons ⟨⟨y, h1, h2⟩, v, h3, h4⟩ r2, r => by
    have := txr_stored (x := y) h3 h4 r
    show TxR K ct Z (merged (stored ts t.1 t.2) ts2) (mkD qs (setD q.1 q.2 ps))
    rw [h1, h2]
    exact txr_merged r2 this
theorem isTxt_str {d : D} (h : isTxt d = true) : ∃ z, d = .str z := by
  cases d <;> first | exact ⟨_, rfl⟩ | cases h
theorem txr_one {K : PySem.W.Frag} {ct : CT} {Z : Hp} {P : Program} {w : World} {acc : Gd.Acc} {ps : List (D × D)} {e : DictEntry} {kd d : D} {x v : V} {y : Str} {ts : List (Key × Value)} (hx : x = .str y) (hkd : kd = .str y.cps.toList) (h1 : RelV x e.key) (hh : e.hash = (nk kd).hash w) (h4 : RelV v e.val) (h5 : Den K ct Z v d)
    (i1 : TxR K ct Z ts ps) (i2 : ∀ e ∈ acc.map (·.2), ∃ k, (mixKind P w).is k e.key = true ∧ e.hash = (mixKind P w).hash k) (i3 : Pairs (mixKind P w) (acc.map (·.2)) ts) (i4 : ts.map (·.1) = acc.map (fun p => match p.1 with | .text x => (.inr x : Key) | _ => .inl 0)) (i5 : ∀ p ∈ acc, ∃ x, p.1 = .text x) :
    ∃ ts : List (Key × Value), TxR K ct Z ts ((kd, d) :: ps) ∧ (∀ e' ∈ ((nk kd, e) :: acc).map (·.2), ∃ k, (mixKind P w).is k e'.key = true ∧ e'.hash = (mixKind P w).hash k) ∧ Pairs (mixKind P w) (((nk kd, e) :: acc).map (·.2)) ts ∧ ts.map (·.1) = ((nk kd, e) :: acc).map (fun p => match p.1 with | .text x => (.inr x : Key) | _ => .inl 0) ∧ ∀ p ∈ (nk kd, e) :: acc, ∃ x, p.1 = .text x := by
  subst hx hkd
  obtain ⟨t, hk⟩ : ∃ t, e.key = .str y t := h1
  have his : (mixKind P w).is (.inr y) e.key = true := by
    rw [hk]
    show Value.isStrOf y (.str y t) = true
    simp [Value.isStrOf]
  have hnk : nk (D.str y.cps.toList) = .text y := by simp [nk]
  have hha : e.hash = (mixKind P w).hash (.inr y) := by
    rw [hnk] at hh
    rw [hh]
    rfl
  refine ⟨(.inr y, e.val) :: ts, .cons ⟨⟨y, rfl, rfl⟩, v, h4, h5⟩ i1, fun e' he => ?_, .cons his rfl i3, ?_, fun p hp => ?_⟩
  · rcases List.mem_cons.mp he with rfl | he
    · exact ⟨.inr y, his, hha⟩
    · exact i2 e' he
  · rw [List.map_cons, List.map_cons, i4, hnk]
  · rcases List.mem_cons.mp hp with rfl | hp
    · exact ⟨y, hnk⟩
    · exact i5 p hp
/-- entries as pairs -/
theorem txr_of {P : Program} {w : World} : ∀ {acc : Gd.Acc} {ps : List (D × D)}, DenG K ct Z acc ps → txtK ps = true → (∀ p ∈ acc, p.2.hash = p.1.hash w) → ∃ ts : List (Key × Value), TxR K ct Z ts ps ∧ (∀ e ∈ acc.map (·.2), ∃ k, (mixKind P w).is k e.key = true ∧ e.hash = (mixKind P w).hash k) ∧ Pairs (mixKind P w) (acc.map (·.2)) ts ∧ ts.map (·.1) = acc.map (fun p => match p.1 with | .text x => (.inr x : Key) | _ => .inl 0) ∧ ∀ p ∈ acc, ∃ x, p.1 = .text x
  | _, _, .nil, _, _ => ⟨[], .nil, (fun e he => by cases he), .nil, rfl, (fun p hp => by cases hp)⟩
  | _, _, .cons (e := e) (acc := acc) (kd := kd) (d := d) (ps := ps) (x := x) (v := v) h1 h2 h3 h4 h5 h6, ht, hh => by
    have ht : isTxt kd = true ∧ txtK ps = true := by
      unfold txtK at ht
      rw [List.all_cons, Bool.and_eq_true] at ht
      exact ht
    obtain ⟨ts, i1, i2, i3, i4, i5⟩ := txr_of (P := P) (w := w) h6 ht.2 (fun p hp => hh p (List.mem_cons_of_mem _ hp))
    have key : ∀ y : Str, x = .str y → kd = .str y.cps.toList → _ := fun y hx hkd => txr_one (P := P) (w := w) (v := v) (d := d) hx hkd h1 (hh (nk kd, e) List.mem_cons_self) h4 h5 i1 i2 i3 i4 i5
    obtain ⟨z, hz⟩ := isTxt_str ht.1
    clear ht
    have : ∃ y : Str, x = .str y ∧ kd = .str y.cps.toList := by
      rw [hz] at h2
      generalize hd : D.str z = dz at h2
      cases h2 with
      | str y => exact ⟨y, rfl, hz.trans hd⟩
      | _ => cases hd
    obtain ⟨y, hx, hkd⟩ := this
    exact key y hx hkd
theorem txr_den {P : Program} {w : World} : ∀ {es : List DictEntry} {ts : List (Key × Value)} {ps : List (D × D)}, (∀ e ∈ es, ∃ k, (mixKind P w).is k e.key = true ∧ e.hash = (mixKind P w).hash k) → Pairs (mixKind P w) es ts → TxR K ct Z ts ps → (ts.map (·.1)).Nodup → ∃ acc : Gd.Acc, acc.map (·.2) = es ∧ DenG K ct Z acc ps ∧ Gd.Okay w acc ∧ ts.map (·.1) = acc.map (fun p => match p.1 with | .text x => (.inr x : Key) | _ => .inl 0) ∧ ∀ p ∈ acc, ∃ x, p.1 = .text x
  | _, _, _, _, .nil, .nil, _ => ⟨[], rfl, .nil, ⟨(fun p hp => by cases hp), by simp⟩, rfl, (fun p hp => by cases hp)⟩
  | e :: es, t :: ts, p :: ps, hk, .cons k1 k2 k3, .cons ⟨⟨y, h1, h2⟩, v, h3, h4⟩ r, hn => by
    rw [List.map_cons, List.nodup_cons] at hn
    obtain ⟨acc, i1, i2, i3, i4, i5⟩ := txr_den (P := P) (w := w) (fun e' he => hk e' (List.mem_cons_of_mem _ he)) k3 r hn.2
    obtain ⟨k, g1, g2⟩ := hk e List.mem_cons_self
    have ek : k = t.1 := (mixKind P w).inj _ _ _ g1 k1
    rw [ek, h1] at g2
    rw [h1] at k1
    have k1' : keyIs (.inr y) e.key = true := k1
    rcases keyIs_shape k1' with ⟨i, tk, z1, z2⟩ | ⟨y', tk, z1, z2⟩
    · cases z1
    · have : y = y' := by injection z1
      subst this
      have hnk : nk (D.str y.cps.toList) = .text y := by simp [nk]
      obtain ⟨pk, pd⟩ := p
      have h2 : pk = .str y.cps.toList := h2
      subst h2
      have dg : DenG K ct Z ((nk (.str y.cps.toList), e) :: acc) ((.str y.cps.toList, pd) :: ps) := .cons (x := .str y) (v := v) ⟨tk, z2⟩ (.str y) rfl (by rw [k2]; exact h3) h4 i2
      rw [hnk] at dg
      refine ⟨(.text y, e) :: acc, by rw [List.map_cons, i1], dg, ⟨fun p hp => ?_, ?_⟩, by rw [List.map_cons, List.map_cons, i4, h1], fun p hp => ?_⟩
      · rcases List.mem_cons.mp hp with rfl | hp
        · rw [g2]; rfl
        · exact i3.1 p hp
      · rw [List.map_cons, List.nodup_cons]
        refine ⟨fun hm => hn.1 ?_, i3.2⟩
        obtain ⟨p, hp, e2⟩ := List.mem_map.mp hm
        rw [i4, h1]
        exact List.mem_map.mpr ⟨p, hp, by rw [e2]⟩
      · rcases List.mem_cons.mp hp with rfl | hp
        · exact ⟨y, rfl⟩
        · exact i5 p hp
end
theorem key_nodup {acc : Gd.Acc} (hn : (acc.map (·.1)).Nodup) (hx : ∀ p ∈ acc, ∃ x, p.1 = .text x) : (acc.map (fun p => match p.1 with | .text x => (.inr x : Key) | _ => .inl 0)).Nodup := by
  induction acc with
  | nil => simp
  | cons p acc ih =>
    rw [List.map_cons, List.nodup_cons] at hn ⊢
    refine ⟨fun hm => hn.1 ?_, ih hn.2 fun q hq => hx q (List.mem_cons_of_mem _ hq)⟩
    obtain ⟨q, hq, e⟩ := List.mem_map.mp hm
    obtain ⟨x, hx1⟩ := hx p List.mem_cons_self
    obtain ⟨y, hy⟩ := hx q (List.mem_cons_of_mem _ hq)
    rw [hx1, hy] at e
    have : y = x := Sum.inr.inj e
    exact List.mem_map.mpr ⟨q, hq, by rw [hy, hx1, this]⟩
/-- x.update(y): both with texts as keys -/
def rGUpd (K : PySem.W.Frag) (ct : CT) : V → List V → Hp → VK → Prop := fun x ys H Q => ∃ (a b : Addr) (Z : Hp) (acc acc2 : Gd.Acc) (ep ep2 : Nat) (ps qs : List (D × D)), x = .ref a ∧ ys = [.ref b] ∧ a ≠ b ∧ H a = some (Gd.gdO ct.w a acc ep) ∧ H b = some (Gd.gdO ct.w b acc2 ep2) ∧ DenG K ct Z acc ps ∧ DenG K ct Z acc2 qs ∧ txtK ps = true ∧ txtK qs = true ∧ ps.length + qs.length ≤ sizeLine ∧
  ∀ acc' ep', DenG K ct Z acc' (mkD qs ps) → Q .non (upd H a (Gd.gdO ct.w a acc' ep'))
theorem mt_gupd {X : Cx} {ct : CT} (hw : ct.w = X.w) : MtM X "dict.update" (rGUpd X.K ct) := by
  intro pins s σ H x vs v us Q I rx rv h
  obtain ⟨a, b, Z, acc, acc2, ep, ep2, ps, qs, rfl, rfl, nab, ha, hb, da, db, ta, tb, hz, q⟩ := h
  cases rx
  obtain ⟨u, rfl, ru⟩ := rv.one
  cases ru
  rw [hw] at ha hb
  obtain ⟨r1, o1, z1, s1⟩ := Gd.gd_at I ha
  obtain ⟨r2, o2, z2, s2⟩ := Gd.gd_at I hb
  obtain ⟨ts, t1, t2, t3, t4, t5⟩ := txr_of (P := X.prog) (w := X.w) da ta o1.1
  obtain ⟨ts2, u1, u2, u3, u4, u5⟩ := txr_of (P := X.prog) (w := X.w) db tb o2.1
  obtain ⟨ob1, g1, c1, e1⟩ := id r1
  obtain ⟨ob2, g2, c2, e2⟩ := id r2
  have n1 : (ts.map (·.1)).Nodup := by rw [t4]; exact key_nodup o1.2 t5
  have n2 : (ts2.map (·.1)).Nodup := by rw [u4]; exact key_nodup o2.2 u5
  have d1 : s.heap.DictOf (mixKind X.prog X.w) a ts := ⟨ob1, _, ep, g1, c1, e1, fun e he => t2 e (by simpa using he), by simpa using t3, n1⟩
  have d2 : s.heap.DictOf (mixKind X.prog X.w) b ts2 := ⟨ob2, _, ep2, g2, c2, e2, fun e he => u2 e (by simpa using he), by simpa using u3, n2⟩
  have l1 : ts.length = ps.length := by
    have : ∀ {ts : List (Key × Value)} {ps : List (D × D)}, TxR X.K ct Z ts ps → ts.length = ps.length := by
      intro ts ps h
      induction h with
      | nil => rfl
      | cons _ _ ih => rw [List.length_cons, List.length_cons, ih]
    exact this t1
  have l2 : ts2.length = qs.length := by
    have : ∀ {ts : List (Key × Value)} {ps : List (D × D)}, TxR X.K ct Z ts ps → ts.length = ps.length := by
      intro ts ps h
      induction h with
      | nil => rfl
      | cons _ _ ih => rw [List.length_cons, List.length_cons, ih]
    exact this u1
  refine call_meetsIn F.slot_dict_update ⟨ob1, g1, c1.1⟩ F.entry_dict_update (F.args_dict_update_2 _ _) (meets_dict_update (mixKind X.prog X.w) a b nab s2) ⟨ts, ts2, d1, d2, by rw [l1, l2]; exact hz, fun h' m1 m2 sb => ?_⟩
  obtain ⟨o3, es, ep3, g3, c3, e3, k3, p3, n3⟩ := id m1
  obtain ⟨acc', w1, w2, w3, w4, w5⟩ := txr_den (P := X.prog) (w := X.w) (es := es.toList) (fun e he => k3 e (by simpa using he)) p3 (txr_merged u1 t1) n3
  have rd : Gd.RawD h' a (acc'.map (·.2)) ep3 := ⟨o3, g3, c3, by rw [w1, e3]⟩
  have len : acc'.length ≤ sizeLine := by
    have h1 : acc'.length = es.toList.length := by rw [← w1, List.length_map]
    have h2 : es.toList.length = (merged ts ts2).length := p3.length
    have h3 := merged_length_le ts ts2
    rw [l1, l2] at h3
    omega
  refine ⟨.non, _, ?_, rfl, q acc' ep3 w2⟩
  rw [hw]
  exact d_write (t' := s.toks) I (by rw [ha]; exact True.intro) sb ⟨o3, g3⟩ (Gd.gd_ok rd w3 len s1)
end Tk
/-! What the small language tells, the model does: readings, and their rules. -/
namespace Tk
open PySem PySem.Spec PyProof.Rows L2
open D
/-- k of what r gives, wherever the heap has grown to; of an error W, of its class at the slots σ -/
def FinG (K : PySem.W.Frag) (ct : CT) (W : WX) (σ : L2.St) (Z H : Hp) {α : Type} (r : Res α) (k : α → Hp → Hp → Prop) : Prop := match r with
  | .ok a => ∀ Z' H', Ext Z H Z' H' → k a Z' H'
  | .exc c => ∀ C Z' H', ct.ex c = some C → Ext Z H Z' H' → W (.ref C) none σ H'
  | .bad => False
section
variable {K : PySem.W.Frag} {ct : CT} {W : WX} {σ : L2.St} {Z H Z' H' : Hp} {α β : Type} {r : Res α} {k k' : α → Hp → Hp → Prop}
theorem FinG.ext (h : FinG K ct W σ Z H r k) (e : Ext Z H Z' H') : FinG K ct W σ Z' H' r k := by
  cases r with
  | ok a => exact fun Z2 H2 e2 => h Z2 H2 (e.trans e2)
  | exc c => exact fun C Z2 H2 q e2 => h C Z2 H2 q (e.trans e2)
  | bad => exact h
theorem FinG.mono (h : FinG K ct W σ Z H r k) (f : ∀ a Z' H', r = .ok a → Ext Z H Z' H' → k a Z' H' → k' a Z' H') : FinG K ct W σ Z H r k' := by
  cases r with
  | ok a => exact fun Z2 H2 e2 => f a Z2 H2 rfl e2 (h Z2 H2 e2)
  | exc c => exact h
  | bad => exact h
theorem FinG.bind {f : α → Res β} {k : β → Hp → Hp → Prop} (h : FinG K ct W σ Z H (r.bind f) k) : FinG K ct W σ Z H r (fun a Z' H' => FinG K ct W σ Z' H' (f a) k) := by
  cases r with
  | ok a => exact fun Z2 H2 e2 => FinG.ext h e2
  | exc c => exact h
  | bad => exact h
theorem FinG.here {a : α} (h : FinG K ct W σ Z H (.ok a) k) (s : Same Z H) : k a Z H := h Z H (.refl s)
theorem FinG.fin {r : Res D} {Q : VK} (h : FinG K ct W σ Z H r fun d Z' H' => ∀ v, Den K ct Z' v d → Q v H') (n : ∀ c, r ≠ .exc c) : Fin K ct Z H r Q := by
  cases r with
  | ok d => exact fun v H2 Z2 e q => h Z2 H2 e v q
  | exc c => exact absurd rfl (n c)
  | bad => exact h
end
theorem _root_.L2.PE.imp {X : Cx} {e : Expr} {t t' : TE} (h : PE X e t) (f : ∀ σ H Q, t' σ H Q → t σ H Q) : PE X e t' := ⟨fun pins s σ H Q I q => h.run pins s σ H Q I (f σ H Q q)⟩
theorem _root_.L2.PT.imp {X : Cx} {e : Expr} {t t' : TT} (h : PT X e t) (f : ∀ σ H Q, t' σ H Q → t σ H Q) : PT X e t' := ⟨fun pins s σ H Q I q => h.run pins s σ H Q I (f σ H Q q)⟩
theorem _root_.L2.PTs.imp {X : Cx} {e : List Expr} {t t' : TT} (h : PTs X e t) (f : ∀ σ H Q, t' σ H Q → t σ H Q) : PTs X e t' := ⟨fun pins s σ H Q I q => h.run pins s σ H Q I (f σ H Q q)⟩
theorem _root_.L2.PA.imp {X : Cx} {e : List Expr} {t t' : TA} (h : PA X e t) (f : ∀ σ H Q, t' σ H Q → t σ H Q) : PA X e t' := ⟨fun pos pins s σ H Q I q => h.run pos pins s σ H Q I (f σ H Q q)⟩
theorem _root_.L2.PO.imp {X : Cx} {e : Option Expr} {t t' : TO} (h : PO X e t) (f : ∀ σ H Q, t' σ H Q → t σ H Q) : PO X e t' := ⟨fun pins s σ H Q I q => h.run pins s σ H Q I (f σ H Q q)⟩
theorem _root_.L2.PI.imp {X : Cx} {tg e : Expr} {t t' : TI} (h : PI X tg e t) (f : ∀ σ H Q, t' σ H Q → t σ H Q) : PI X tg e t' := ⟨fun pins s σ H Q I q => h.run pins s σ H Q I (f σ H Q q)⟩
theorem _root_.L2.PS.imp {X : Cx} {e : Stmt} {t t' : TS} (h : PS X e t) (f : ∀ D σ H, t' D σ H → t D σ H) : PS X e t' := ⟨fun pins s σ H Q I q => h.run pins s σ H Q I (f Q σ H q)⟩
theorem _root_.L2.PSs.imp {X : Cx} {e : List Stmt} {t t' : TS} (h : PSs X e t) (f : ∀ D σ H, t' D σ H → t D σ H) : PSs X e t' := ⟨fun pins s σ H Q I q => h.run pins s σ H Q I (f Q σ H q)⟩

def HotOk (hx : Option (Nat × Addr)) (σ : L2.St) : Prop := match hx with
  | none => True
  | some (i, a) => σ[i]? = some (some (.ref a))
/-- what is walked: it gives ds, whatever grows -/
def WalkD (K : PySem.W.Frag) (ct : CT) (J : It) (ds : List D) (Z : Hp) : Prop := ∃ G Y, Walk J ds.length G Y ∧ (∀ H, Same Z H → G H) ∧
  ∀ i H x H2 Z2 d, Same Z Z2 → Same Z2 H → Y i H x H2 → ds[i]? = some d → ∃ Z3, Ext Z2 H Z3 H2 ∧ Den K ct Z3 x d
section
variable (X : Cx) (ct : CT) (A : Ar) (W : WX) (O : List Nat) (hx : Option (Nat × Addr))
/-- the reading of what gives r at the slots ρ -/
def tG {α : Type} (r : En → Res α) (k : α → Hp → Hp → Prop) : L2.St → Hp → Prop := fun σ H => HotOk hx σ ∧ ∃ Z ρ, RelE X.K ct Z H O σ ρ ∧ FinG X.K ct W σ Z H (r ρ) k
def tE (se : SE) : TE := fun σ H Q => tG X ct W O hx (ev A se) (fun d Z' H' => ∀ v, Den X.K ct Z' v d → Q v H') σ H
def tS (se : SE) : TE := fun σ H Q => tG X ct W O hx (ev A se) (fun d Z' H' => ∀ v, ShDen X.K ct Z' H' v d → Q v H') σ H
def tT (se : SE) : TT := fun σ H Q => tG X ct W O hx (fun ρ => (ev A se ρ).bind asBl) (fun b _ H' => Q b H') σ H
def tTs (ses : List SE) : TT := fun σ H Q => tG X ct W O hx (evc A ses) (fun b _ H' => Q b H') σ H
def tAs (ses : List SE) : TA := fun σ H Q => tG X ct W O hx (evs A ses) (fun ds Z' H' => ∀ vs, DenAll X.K ct Z' vs ds → Q vs H') σ H
def tASs (ses : List SE) : TA := fun σ H Q => tG X ct W O hx (evs A ses) (fun ds Z' H' => ∀ vs, ShAll X.K ct Z' H' vs ds → Q vs H') σ H
def tOp' (so : Option SE) : TO := fun σ H Q => tG X ct W O hx (evo A so) (fun o _ H' => Q o H') σ H
def tI (si : SI) : TI := fun σ H Q => tG X ct W O hx (evi A si) (fun ds Z' H' => ∀ J, WalkD X.K ct J ds Z' → Q J H') σ H
end
-- what is known of the classes of errors
structure ExcsOk (K : PySem.W.Frag) (mg : Str → Option Value) (ct : CT) (c : CE) : Prop where
  nm : ∀ x k cs, c.ecl.lookup x = some (k, cs) → ∃ C, mg x = some (.ref C) ∧ ct.ex k = some C ∧ PySem.W.excIn K C He.veBase "ValueError.__new__" = true ∧ PySem.W.keepIn K (.ref C) = true ∧ PySem.W.subIn K (.ref C) (.type "BaseException") = some true ∧ PySem.W.typeIn K (.ref C) = some (.type "type") ∧
    ∀ k' C', ct.ex k' = some C' → PySem.W.exmOne K (.ref C') (.ref C) = some (cs.contains k') ∧ PySem.W.kitOne K (.ref C') (.ref C) = some (cs.contains k')
  all : ∀ k C, ct.ex k = some C → ExcC K C ∧ PySem.W.kitOne K (.ref C) (.type "ValueError") = some true ∧ (c.ecl.map fun p => p.2.1).contains k = true
/-- what a walk of a def's body may lean on -/
structure Sit (X : Cx) (ct : CT) (c : CE) (A : Ar) (L : Nat) (W : WX) (ev : Option Str) (hx : Option (Nat × Addr)) : Prop where
  N : X.N = c.N
  nd : c.N.Nodup
  calm : ev = none → X.calm = true
  tk : Takes X W
  un : X.A.units + 65 < cLine
  room : ev = none → Room L X.A
  fns : ∀ x k m, c.fn.lookup x = some (k, m) → (∃ f fd ps, X.mg x = some (.ref f) ∧ PySem.W.keepIn X.K (.ref f) = true ∧ Binds X.K fd ps [] ∧ FnOk X.prog X.w X.K X.mg X.base (L2.CX X.prog X.w) L f fd ps (spF (spD X.K ct (A.Φ k) m))) ∨
    (∃ C fI fd ps, X.mg x = some (.ref C) ∧ Mk X.K C fI ∧ Binds X.K fd ps [] ∧ (∀ ds, A.Φ k ds = .bad ∨ ∃ fds, A.Φ k ds = .ok (.obj k fds)) ∧ (L = 0 → ∀ ds, A.Φ k ds = .bad) ∧ ∀ l, L = l + 1 → FnOk X.prog X.w X.K X.mg X.base (L2.CX X.prog X.w) l fI fd ps (spIF X.K ct C k (A.Φ k) m))
  cls : ∀ k C ns, ct.cl k = some (C, ns) → Cls X.K C ∧ (∀ f ∈ ns, NoAttr X.K C f) ∧ A.fl k = ns
  meth : ∀ k m g, A.Ψ k m = some g → ∃ C ns f fd ps, ct.cl k = some (C, ns) ∧ m ∉ ns ∧ Meth X.K C m f ∧ Binds X.K fd ps [] ∧ (∀ ds, g ds ≠ .bad → ds.length = ps.length) ∧ FnOk X.prog X.w X.K X.mg X.base (L2.CX X.prog X.w) L f fd ps (spF (spD X.K ct g ps.length))
  kd : KdOk X.K X.w ct
  gc : ∀ x d, c.gc.lookup x = some d → ∃ u v, X.mg x = some u ∧ RelV v u ∧ ∀ H, Den X.K ct H v d
  free : ∀ x, c.free.contains x = true → X.mg x = none
  hot : ∀ i a, hx = some (i, a) → ∃ y oe C, ev = some y ∧ c.N[i]? = some y ∧ (a, oe) ∈ X.pn ∧ Zc (.ref C) none oe ∧ (∃ vs, oe.data = .fields vs) ∧ (∃ k, A.hot = some k ∧ ct.ex k = some C)
  exc : ExcsOk X.K X.mg ct c
/-- the soundness of all that is turned with n -/
structure Snd (ct : CT) (c : CE) (A : Ar) (L : Nat) (ev : Option Str) (hx : Option (Nat × Addr)) (n : Nat) : Prop where
  E : ∀ X W e se O, Sit X ct c A L W ev hx → cE c ev n X.env.scope e = some se → (∀ i ∈ esc se, i ∉ O) → PE X e (tE X ct A W O hx se) ∧ PT X e (tT X ct A W O hx se)
  S : ∀ X W e se O, Sit X ct c A L W ev hx → cE c ev n X.env.scope e = some se → (∀ i ∈ escS se, i ∉ O) → PE X e (tS X ct A W O hx se)
  As : ∀ X W es ses O, Sit X ct c A L W ev hx → cEs c ev n X.env.scope es = some ses → (∀ i ∈ escs ses, i ∉ O) → PA X es (tAs X ct A W O hx ses) ∧ (∀ e ∈ es, noStar e = true)
  Ts : ∀ X W es ses O, Sit X ct c A L W ev hx → cTs c ev n X.env.scope es = some ses → (∀ i ∈ escs ses, i ∉ O) → PTs X es (tTs X ct A W O hx ses)
  Op : ∀ X W e se O, Sit X ct c A L W ev hx → cO c ev n X.env.scope e = some se → (∀ i ∈ esco se, i ∉ O) → PO X e (tOp' X ct A W O hx se)
  I : ∀ X W tg e si O, Sit X ct c A L W ev hx → cI c ev n X.env.scope tg e = some si → (∀ i ∈ esci si, i ∉ O) → PI X tg e (tI X ct A W O hx si)
section
variable {X : Cx} {ct : CT} {A : Ar} {W : WX} {O : List Nat} {hx : Option (Nat × Addr)} {σ : L2.St} {H : Hp}
theorem ShDen.of_den {K : PySem.W.Frag} {Z H : Hp} {v : V} {d : D} (h : Den K ct Z v d) : ShDen K ct Z H v d := .inl h
theorem tS.toE {e : Expr} {se : SE} (p : PE X e (tE X ct A W O hx se)) : PE X e (tS X ct A W O hx se) := p.imp fun σ H Q ⟨hh, Z, ρ, rel, fin⟩ =>
  ⟨hh, Z, ρ, rel, fin.mono fun d Z' H' _ _ q v hv => q v (.inl hv)⟩
/-- a plain expression as a test -/
theorem pt_plain {e : Expr} {se : SE} (p : PE X e (tE X ct A W O hx se)) (he : ∀ whole, isTrue e X.env whole = (do let v ← whole; standAt e.pos; holding [v] (truthy v))) : PT X e (tT X ct A W O hx se) :=
  (pt_val p he).imp fun σ H Q ⟨hh, Z, ρ, rel, fin⟩ => ⟨hh, Z, ρ, rel, fin.bind.mono fun d Z' H' _ _ q v hv => by
    cases d with
    | bl b =>
      cases hv
      exact ⟨b, rfl, q.here (by
        exact (rel.ext (by assumption)).sub)⟩
    | _ => exact (show False from q).elim⟩
theorem binD_noexc {op : Bo} {x y : D} {c : Nat} : binD op x y ≠ .exc c := by
  intro h
  unfold binD at h
  split at h <;> first | (cases h; done) | (split at h <;> cases h)
theorem cmpD_noexc {op : Co} {x y : D} {c : Nat} : cmpD op x y ≠ .exc c := by
  intro h
  unfold cmpD at h
  split at h <;> first | (cases h; done) | (split at h <;> cases h)
theorem ixD_noexc {x y : D} {c : Nat} : ixD x y ≠ .exc c := by
  intro h
  unfold ixD at h
  split at h <;> first | (cases h; done) | (split at h <;> first | (cases h; done) | (split at h <;> cases h))
theorem slD_noexc {x : D} {lo hi : Option Int} {c : Nat} : slD x lo hi ≠ .exc c := by
  intro h
  unfold slD at h
  split at h <;> first | (cases h; done) | (split at h <;> cases h)
theorem isiD_noexc {x : D} {t : Nat} {c : Nat} : isiD t x ≠ .exc c := by
  intro h
  unfold isiD at h
  split at h <;> first | (cases h; done) | (split at h <;> cases h)
theorem sortSetD_noexc {xs : List D} {c : Nat} : sortSetD xs ≠ .exc c := by
  intro h
  unfold sortSetD at h
  split at h
  · split at h <;> cases h
  · split at h
    · split at h <;> cases h
    · cases h
theorem biD_noexc {b : Bi} {ds : List D} {c : Nat} : biD b ds ≠ .exc c := by
  intro h
  unfold biD at h
  split at h <;> first | (cases h; done) | exact isiD_noexc h | exact sortSetD_noexc h | (split at h <;> first | (cases h; done) | exact sortSetD_noexc h | (split at h <;> cases h))
/-- two parts, then an operation on their values -/
theorem tOp_of {a b : SE} {f : D → D → Res D} {Q : VK} (hf : ∀ x y c, f x y ≠ .exc c) (h : tG X ct W O hx (fun ρ => (ev A a ρ).bind fun x => (ev A b ρ).bind fun y => f x y) (fun d Z' H' => ∀ v, Den X.K ct Z' v d → Q v H') σ H) :
    tOp (R2D X.K ct f) (tS X ct A W O hx a) (tS X ct A W O hx b) σ H Q := by
  obtain ⟨hh, Z, ρ, rel, fin⟩ := h
  refine ⟨hh, Z, ρ, rel, fin.bind.mono fun x Z1 H1 _ e1 f1 v hv => ?_⟩
  refine ⟨hh, Z1, ρ, rel.ext e1, f1.bind.mono fun y Z2 H2 _ e2 f2 u hu => ?_⟩
  exact ⟨Z2, x, y, ((rel.ext e1).ext e2).sub, hv.ext e2, hu, f2.fin (hf x y)⟩
theorem mem_l {a b : List Nat} (h : ∀ i ∈ a ++ b, i ∉ O) : (∀ i ∈ a, i ∉ O) ∧ ∀ i ∈ b, i ∉ O := ⟨fun i q => h i (List.mem_append_left _ q), fun i q => h i (List.mem_append_right _ q)⟩
end
end Tk
/-! Expressions, construct by construct. -/
namespace Tk
open PySem PySem.Spec PyProof.Rows L2
open D
theorem slotOf_get {N : List Str} {x : Str} {i : Nat} (h : slotOf N x = some i) : N[i]? = some x := by
  unfold slotOf at h
  obtain ⟨hi, q, _⟩ := List.findIdx?_eq_some_iff_getElem.mp h
  rw [List.getElem?_eq_getElem hi]
  exact congrArg some (beq_iff_eq.mp q)
theorem visB_vis {sc : Scope} {x : Str} (h : visB sc x = true) : Vis sc x := by
  unfold visB at h
  unfold Vis
  split at h <;> simp_all
theorem locB_loc {sc : Scope} {x : Str} (h : locB sc x = true) : L2.Loc sc x := by
  unfold locB at h
  unfold L2.Loc
  split at h <;> simp_all
theorem loc1B_loc {sc : Scope} {x : Str} (h : loc1B sc x = true) : sc.names.lookup x = some .local := by
  unfold loc1B at h
  split at h <;> simp_all
theorem gloB_gl {X : Cx} {x : Str} (h : gloB X.env.scope x = true) : Gl X x := by
  unfold gloB at h
  unfold Gl Env.kindOf
  split at h <;> simp_all
theorem plain_debug {x : Str} (h : plainName x = true) : (x == ("__debug__" : Str)) = false ∧ (x == ("__classdict__" : Str)) = false ∧ x ≠ "__name__" := by
  unfold plainName at h
  simp only [Bool.and_eq_true, Bool.not_eq_true'] at h
  exact ⟨h.1.1.2, h.1.2, fun e => by rw [e] at h; simp at h⟩
theorem noStar_each {e : Expr} {es : List Expr} {env : Env} (h : noStar e = true) : starEach (e :: es) env = (false, eval e env) :: starEach es env := by
  cases e <;> first | rfl | cases h
theorem noSet_mark {op : CmpOp} {b : Expr} (h : noSet b = true) : behindInMarks op b = false := by
  cases b <;> first | rfl | cases h
theorem noSl_plain {b : Expr} (h : noSl b = true) : PlainIx b := by
  intro o i
  cases b <;> first | rfl | cases h
theorem backTo_any {pos : Pos} {env : Env} : ∀ {es : List Expr}, (∀ e ∈ es, noStar e = true) → (backTo pos (starEach es env)).any (·.1) = false
  | [], _ => rfl
  | e :: es, h => by
    rw [noStar_each (h e List.mem_cons_self)]
    show (false || (backTo pos (starEach es env)).any (·.1)) = false
    rw [backTo_any fun e' he => h e' (List.mem_cons_of_mem _ he)]
    rfl
theorem evs_len {A : Ar} {ρ : En} : ∀ {ses : List SE} {ds : List D}, evs A ses ρ = .ok ds → ds.length = ses.length
  | [], ds, h => by cases h; rfl
  | e :: es, ds, h => by
    have h : (ev A e ρ).bind (fun x => (evs A es ρ).bind fun r => .ok (x :: r)) = .ok ds := h
    cases h1 : ev A e ρ with
    | ok x =>
      cases h2 : evs A es ρ with
      | ok r =>
        rw [h1, h2] at h
        cases h
        simp [evs_len h2]
      | _ => rw [h1, h2] at h; cases h
    | _ => rw [h1] at h; cases h
section
variable {ct : CT} {c : CE} {A : Ar} {L : Nat} {ev0 : Option Str} {hx : Option (Nat × Addr)} {n : Nat} {X : Cx} {W : WX} {O : List Nat}
/-- behind an expression's reading, as a value and as a test -/
def Both (X : Cx) (ct : CT) (A : Ar) (W : WX) (O : List Nat) (hx : Option (Nat × Addr)) (e : Expr) (se : SE) : Prop := PE X e (tE X ct A W O hx se) ∧ PT X e (tT X ct A W O hx se)
theorem Both.plain {e : Expr} {se : SE} (p : PE X e (tE X ct A W O hx se)) (he : ∀ whole, isTrue e X.env whole = (do let v ← whole; standAt e.pos; holding [v] (truthy v))) : Both X ct A W O hx e se := ⟨p, pt_plain p he⟩
theorem snd_varS (S : Sit X ct c A L W ev0 hx) {x : Str} {pos : Pos} {i : Nat} (hp : plainName x = true) (hv : visB X.env.scope x = true) (hs : slotOf c.N x = some i) : PE X (.Name x pos) (tS X ct A W O hx (.var i)) := by
  obtain ⟨p1, p2, _⟩ := plain_debug hp
  refine (pe_var (i := i) (by rw [S.N]; exact slotOf_get hs) (visB_vis hv) p1 p2).imp fun σ H Q ⟨hh, Z, ρ, rel, fin⟩ => ?_
  have fin : FinG X.K ct W σ Z H (match ρ[i]? with | some (some d) => .ok d | _ => .bad) _ := fin
  split at fin
  · rename_i d hd
    obtain ⟨v, h1, h2⟩ := rel.at hd
    exact ⟨v, h1, fin.here rel.sub v h2⟩
  · exact (show False from fin).elim
theorem snd_var (S : Sit X ct c A L W ev0 hx) {x : Str} {pos : Pos} {i : Nat} (hp : plainName x = true) (hv : visB X.env.scope x = true) (hs : slotOf c.N x = some i) (hO : i ∉ O) : Both X ct A W O hx (.Name x pos) (.var i) := by
  obtain ⟨p1, p2, _⟩ := plain_debug hp
  refine .plain ((pe_var (i := i) (by rw [S.N]; exact slotOf_get hs) (visB_vis hv) p1 p2).imp fun σ H Q ⟨hh, Z, ρ, rel, fin⟩ => ?_) fun _ => rfl
  have fin : FinG X.K ct W σ Z H (match ρ[i]? with | some (some d) => .ok d | _ => .bad) _ := fin
  split at fin
  · rename_i d hd
    obtain ⟨v, h1, h2⟩ := rel.fr i d hO hd
    exact ⟨v, h1, fin.here rel.sub v h2⟩
  · exact (show False from fin).elim
theorem snd_glob (S : Sit X ct c A L W ev0 hx) {x : Str} {pos : Pos} {d : D} (hp : plainName x = true) (hg : gloB X.env.scope x = true) (hs : c.gc.lookup x = some d) : Both X ct A W O hx (.Name x pos) (.con d) := by
  obtain ⟨p1, p2, _⟩ := plain_debug hp
  obtain ⟨u, v, h1, h2, h3⟩ := S.gc x d hs
  refine .plain ((pe_glob (gloB_gl hg) h1 h2 p1).imp fun σ H Q ⟨hh, Z, ρ, rel, fin⟩ => ?_) fun _ => rfl
  exact fin.here rel.sub v (h3 _)
theorem snd_con {k : Const} {j : Nat} {pos : Pos} {d : D} (h : constD k = some d) : Both X ct A W O hx (.Constant k j pos) (.con d) := by
  refine .plain ?_ fun _ => rfl
  cases k <;> first | (cases h; done) | (cases h)
  · exact pe_non.imp fun σ H Q ⟨hh, Z, ρ, rel, fin⟩ => fin.here rel.sub _ .non
  · exact pe_bl.imp fun σ H Q ⟨hh, Z, ρ, rel, fin⟩ => fin.here rel.sub _ (.bl _)
  · exact pe_int.imp fun σ H Q ⟨hh, Z, ρ, rel, fin⟩ => fin.here rel.sub _ (.int _)
  · exact pe_str.imp fun σ H Q ⟨hh, Z, ρ, rel, fin⟩ => fin.here rel.sub _ (.str _)
theorem snd_tup {es : List Expr} {k : Nat} {pos : Pos} {ses : List SE} (ha : PA X es (tAs X ct A W O hx ses)) (hl : ses.length ≤ 1000) : Both X ct A W O hx (.Tuple es k pos) (.tup ses) := by
  refine .plain ((pe_tup ha).imp fun σ H Q ⟨hh, Z, ρ, rel, fin⟩ => ?_) fun _ => rfl
  have fin : FinG X.K ct W σ Z H ((evs A ses ρ).bind fun ds => Res.ok (D.tup ds)) _ := fin
  refine ⟨hh, Z, ρ, rel, fin.bind.mono fun ds Z1 H1 he e1 f1 vs hv => ⟨?_, fun p hp => ?_⟩⟩
  · rw [hv.length, evs_len he, sizeLine_eq]; omega
  · have sz := (rel.ext e1).sub
    exact f1 _ _ (.mk1 sz hp) _ (den_tupNew (sz.free hp) hv)
theorem snd_lst {es : List Expr} {pos : Pos} {ses : List SE} (ha : PA X es (tAs X ct A W O hx ses)) (hl : ses.length ≤ 1000) : Both X ct A W O hx (.List es pos) (.lst ses) := by
  refine .plain ((pe_lst ha).imp fun σ H Q ⟨hh, Z, ρ, rel, fin⟩ => ?_) fun _ => rfl
  have fin : FinG X.K ct W σ Z H ((evs A ses ρ).bind fun ds => Res.ok (D.lst ds)) _ := fin
  refine ⟨hh, Z, ρ, rel, fin.bind.mono fun ds Z1 H1 he e1 f1 vs hv => ⟨?_, fun p hp => ?_⟩⟩
  · rw [hv.length, evs_len he, sizeLine_eq]; omega
  · have sz := (rel.ext e1).sub
    exact f1 _ _ (.mk1 sz hp) _ (den_lstNew (sz.free hp) hv)
theorem snd_bin {a b : Expr} {op : Operator} {pos : Pos} {o : Bo} {x y : SE} (ho : boOf op = some o) (ha : PE X a (tS X ct A W O hx x)) (hb : PE X b (tS X ct A W O hx y)) : Both X ct A W O hx (.BinOp a op b pos) (.bin o x y) :=
  .plain ((pe_op (opr_bin ho) ha hb).imp fun σ H Q h => tOp_of (fun _ _ _ => binD_noexc) h) fun _ => rfl
theorem snd_neg {a : Expr} {pos : Pos} {x : SE} (ha : PE X a (tE X ct A W O hx x)) : Both X ct A W O hx (.UnaryOp .USub a pos) (.neg x) := by
  refine .plain ((pe_un un_neg ha).imp fun σ H Q ⟨hh, Z, ρ, rel, fin⟩ => ?_) fun _ => rfl
  have fin : FinG X.K ct W σ Z H ((ev A x ρ).bind fun x => (asInt x).bind fun i => Res.ok (D.int (-i))) _ := fin
  refine ⟨hh, Z, ρ, rel, fin.bind.mono fun d Z1 H1 he e1 f1 v hv => ?_⟩
  cases d with
  | int i => cases hv; exact ⟨i, rfl, f1.here (rel.ext e1).sub _ (.int _)⟩
  | _ => exact (show False from f1).elim
theorem snd_not {a : Expr} {pos : Pos} {x : SE} (ha : Both X ct A W O hx a x) : Both X ct A W O hx (.UnaryOp .Not a pos) (.nt x) := by
  refine ⟨(pe_not ha.1).imp fun σ H Q ⟨hh, Z, ρ, rel, fin⟩ => ?_, (pt_not ha.2).imp fun σ H Q ⟨hh, Z, ρ, rel, fin⟩ => ?_⟩
  · have fin : FinG X.K ct W σ Z H ((ev A x ρ).bind fun x => (asBl x).bind fun i => Res.ok (D.bl (!i))) _ := fin
    refine ⟨hh, Z, ρ, rel, fin.bind.mono fun d Z1 H1 he e1 f1 v hv => ?_⟩
    cases d with
    | bl i => cases hv; exact ⟨i, rfl, f1.here (rel.ext e1).sub _ (.bl _)⟩
    | _ => exact (show False from f1).elim
  · have fin : FinG X.K ct W σ Z H (((ev A x ρ).bind fun x => (asBl x).bind fun i => Res.ok (D.bl (!i))).bind asBl) _ := fin
    have e : (((ev A x ρ).bind fun x => (asBl x).bind fun i => Res.ok (D.bl (!i))).bind asBl) = ((ev A x ρ).bind asBl).bind fun b => Res.ok (!b) := by
      cases ev A x ρ with
      | ok d => cases d <;> rfl
      | _ => rfl
    rw [e] at fin
    exact ⟨hh, Z, ρ, rel, fin.bind.mono fun b Z1 H1 _ e1 f1 => f1.here (rel.ext e1).sub⟩
/-- a test's reading by the value's -/
theorem tT_an {x y : SE} {ρ : En} : ((ev A (.an x y) ρ).bind asBl) = ((ev A x ρ).bind asBl).bind fun k => if k then (ev A y ρ).bind asBl else .ok false := by
  show ((ev A x ρ).bind fun x => (asBl x).bind fun k => if k then (ev A y ρ).bind fun y => (asBl y).bind fun q => Res.ok (D.bl q) else Res.ok (D.bl false)).bind asBl = _
  cases ev A x ρ with
  | ok d => cases d with
    | bl b => cases b with
      | true => cases ev A y ρ with
        | ok d => cases d <;> rfl
        | _ => rfl
      | false => rfl
    | _ => rfl
  | _ => rfl
theorem tT_orr {x y : SE} {ρ : En} : ((ev A (.orr x y) ρ).bind asBl) = ((ev A x ρ).bind asBl).bind fun k => if k then .ok true else (ev A y ρ).bind asBl := by
  show ((ev A x ρ).bind fun x => (asBl x).bind fun k => if k then Res.ok (D.bl true) else (ev A y ρ).bind fun y => (asBl y).bind fun q => Res.ok (D.bl q)).bind asBl = _
  cases ev A x ρ with
  | ok d => cases d with
    | bl b => cases b with
      | false => cases ev A y ρ with
        | ok d => cases d <;> rfl
        | _ => rfl
      | true => rfl
    | _ => rfl
  | _ => rfl
theorem snd_one {a : Expr} {op : BoolOp} {pos : Pos} {x : SE} (ha : Both X ct A W O hx a x) : Both X ct A W O hx (.BoolOp op [a] pos) x := by
  refine ⟨pe_one ha.1, ?_⟩
  cases op
  · exact (pw_and1 ha.2).pt
  · exact (pw_or1 ha.2).pt
/-- and, or: as a value, as a test whatever the whole is -/
def Trio (X : Cx) (ct : CT) (A : Ar) (W : WX) (O : List Nat) (hx : Option (Nat × Addr)) (e : Expr) (se : SE) : Prop := PE X e (tE X ct A W O hx se) ∧ PW X e (tT X ct A W O hx se)
theorem bl_of {x : SE} {ρ : En} {σ : L2.St} {Z H : Hp} {Q : VK} {f : D → Res D} (hf : ∀ d, (∀ b, d ≠ .bl b) → f d = .bad) : True := trivial
theorem _root_.L2.PW.imp {X : Cx} {e : Expr} {t t' : TT} (h : PW X e t) (f : ∀ σ H Q, t' σ H Q → t σ H Q) : PW X e t' := ⟨fun wh pins s σ H Q I q => h.run wh pins s σ H Q I (f σ H Q q)⟩
theorem snd_and {a b : Expr} {r : List Expr} {pos : Pos} {x y : SE} (ha : Both X ct A W O hx a x) (hb : Trio X ct A W O hx (.BoolOp .And (b :: r) pos) y) : Trio X ct A W O hx (.BoolOp .And (a :: b :: r) pos) (.an x y) := by
  refine ⟨(pe_and ha.1 hb.1).imp fun σ H Q ⟨hh, Z, ρ, rel, fin⟩ => ?_, (pw_and ha.2 hb.2).imp fun σ H Q ⟨hh, Z, ρ, rel, fin⟩ => ?_⟩
  · have fin : FinG X.K ct W σ Z H ((ev A x ρ).bind fun x => (asBl x).bind fun k => if k then (ev A y ρ).bind fun y => (asBl y).bind fun q => Res.ok (D.bl q) else Res.ok (D.bl false)) _ := fin
    refine ⟨hh, Z, ρ, rel, fin.bind.mono fun d Z1 H1 he e1 f1 v hv => ?_⟩
    cases d with
    | bl i =>
      cases hv
      refine ⟨i, rfl, ?_⟩
      cases i with
      | true =>
        rw [if_pos rfl]
        refine ⟨hh, Z1, ρ, rel.ext e1, ?_⟩
        have f1 : FinG X.K ct W σ Z1 H1 ((ev A y ρ).bind fun y => (asBl y).bind fun q => Res.ok (D.bl q)) _ := f1
        refine f1.bind.mono fun d2 Z2 H2 _ e2 f2 v2 hv2 => ?_
        cases d2 with
        | bl j => cases hv2; exact f2.here ((rel.ext e1).ext e2).sub _ (.bl _)
        | _ => exact (show False from f2).elim
      | false =>
        rw [if_neg Bool.false_ne_true]
        exact FinG.here (a := D.bl false) f1 (rel.ext e1).sub _ (.bl _)
    | _ => exact (show False from f1).elim
  · have fin : FinG X.K ct W σ Z H ((ev A (.an x y) ρ).bind asBl) _ := fin
    rw [tT_an] at fin
    refine ⟨hh, Z, ρ, rel, fin.bind.mono fun i Z1 H1 he e1 f1 => ?_⟩
    cases i with
    | true => rw [if_pos rfl]; exact ⟨hh, Z1, ρ, rel.ext e1, f1⟩
    | false => rw [if_neg Bool.false_ne_true]; exact FinG.here (a := false) f1 (rel.ext e1).sub
theorem snd_or {a b : Expr} {r : List Expr} {pos : Pos} {x y : SE} (ha : Both X ct A W O hx a x) (hb : Trio X ct A W O hx (.BoolOp .Or (b :: r) pos) y) : Trio X ct A W O hx (.BoolOp .Or (a :: b :: r) pos) (.orr x y) := by
  refine ⟨(pe_or ha.1 hb.1).imp fun σ H Q ⟨hh, Z, ρ, rel, fin⟩ => ?_, (pw_or ha.2 hb.2).imp fun σ H Q ⟨hh, Z, ρ, rel, fin⟩ => ?_⟩
  · have fin : FinG X.K ct W σ Z H ((ev A x ρ).bind fun x => (asBl x).bind fun k => if k then Res.ok (D.bl true) else (ev A y ρ).bind fun y => (asBl y).bind fun q => Res.ok (D.bl q)) _ := fin
    refine ⟨hh, Z, ρ, rel, fin.bind.mono fun d Z1 H1 he e1 f1 v hv => ?_⟩
    cases d with
    | bl i =>
      cases hv
      refine ⟨i, rfl, ?_⟩
      cases i with
      | false =>
        rw [if_neg Bool.false_ne_true]
        refine ⟨hh, Z1, ρ, rel.ext e1, ?_⟩
        have f1 : FinG X.K ct W σ Z1 H1 ((ev A y ρ).bind fun y => (asBl y).bind fun q => Res.ok (D.bl q)) _ := f1
        refine f1.bind.mono fun d2 Z2 H2 _ e2 f2 v2 hv2 => ?_
        cases d2 with
        | bl j => cases hv2; exact f2.here ((rel.ext e1).ext e2).sub _ (.bl _)
        | _ => exact (show False from f2).elim
      | true =>
        rw [if_pos rfl]
        exact FinG.here (a := D.bl true) f1 (rel.ext e1).sub _ (.bl _)
    | _ => exact (show False from f1).elim
  · have fin : FinG X.K ct W σ Z H ((ev A (.orr x y) ρ).bind asBl) _ := fin
    rw [tT_orr] at fin
    refine ⟨hh, Z, ρ, rel, fin.bind.mono fun i Z1 H1 he e1 f1 => ?_⟩
    cases i with
    | false => rw [if_neg Bool.false_ne_true]; exact ⟨hh, Z1, ρ, rel.ext e1, f1⟩
    | true => rw [if_pos rfl]; exact FinG.here (a := true) f1 (rel.ext e1).sub
theorem Trio.one {a : Expr} {op : BoolOp} {pos : Pos} {x : SE} (ha : Both X ct A W O hx a x) : Trio X ct A W O hx (.BoolOp op [a] pos) x := by
  refine ⟨pe_one ha.1, ?_⟩
  cases op
  · exact pw_and1 ha.2
  · exact pw_or1 ha.2
theorem tTest_of {e : Expr} {se : SE} {t : TE} (f : ∀ σ H Q, tE X ct A W O hx se σ H Q → t σ H Q) (p : PT X e (tTest t)) : PT X e (tT X ct A W O hx se) := p.imp fun σ H Q ⟨hh, Z, ρ, rel, fin⟩ => f σ H _ ⟨hh, Z, ρ, rel, fin.bind.mono fun d Z' H' _ e1 q v hv => by
    cases d with
    | bl b => cases hv; exact ⟨b, rfl, q.here (rel.ext e1).sub⟩
    | _ => exact (show False from q).elim⟩
theorem snd_cmp (S : Sit X ct c A L W ev0 hx) {a b : Expr} {op : CmpOp} {pos : Pos} {o : Co} {x y : SE} (ho : coOf op = some o) (ha : PE X a (tS X ct A W O hx x)) (hb : PE X b (tS X ct A W O hx y)) (hm : noSet b = true) : Both X ct A W O hx (.Compare a [op] [b] pos) (.cmp o x y) :=
  ⟨(pe_cmpR (opr_cmp ho S.un S.kd) ha hb (noSet_mark hm)).imp fun σ H Q h => tOp_of (fun _ _ _ => cmpD_noexc) h, tTest_of (fun σ H Q h => tOp_of (fun _ _ _ => cmpD_noexc) h) (pt_cmpR (opr_cmp ho S.un S.kd) ha hb (noSet_mark hm))⟩
theorem tChain_of {o o' : Co} {x y z : SE} {σ : L2.St} {H : Hp} {Q : VK} (h : tE X ct A W O hx (.cmp2 o o' x y z) σ H Q) :
    tChain (R2D X.K ct (cmpD o)) (R2D X.K ct (cmpD o')) (tS X ct A W O hx x) (tS X ct A W O hx y) (tS X ct A W O hx z) σ H Q := by
  obtain ⟨hh, Z, ρ, rel, fin⟩ := h
  have fin : FinG X.K ct W σ Z H ((ev A x ρ).bind fun x => (ev A y ρ).bind fun y => (cmpD o x y).bind fun r => (asBl r).bind fun k => if k then (ev A z ρ).bind fun z => cmpD o' y z else Res.ok (D.bl false)) _ := fin
  refine ⟨hh, Z, ρ, rel, fin.bind.mono fun dx Z1 H1 _ e1 f1 v hv => ?_⟩
  refine ⟨hh, Z1, ρ, rel.ext e1, f1.bind.mono fun dy Z2 H2 _ e2 f2 u hu => ?_⟩
  have rel2 := (rel.ext e1).ext e2
  refine ⟨Z2, dx, dy, rel2.sub, hv.ext e2, hu, ?_⟩
  cases q : cmpD o dx dy with
  | ok r =>
    intro w H3 Z3 e3 hw
    rw [q] at f2
    have f2 : FinG X.K ct W σ Z2 H2 ((asBl r).bind fun k => if k then (ev A z ρ).bind fun z => cmpD o' dy z else Res.ok (D.bl false)) _ := f2
    cases r with
    | bl k =>
      cases hw
      refine ⟨k, rfl, ?_⟩
      have rel3 := rel2.ext e3
      have f3 := f2.ext e3
      cases k with
      | true =>
        rw [if_pos rfl]
        have f3 : FinG X.K ct W σ Z3 H3 ((ev A z ρ).bind fun z => cmpD o' dy z) _ := f3
        refine ⟨hh, Z3, ρ, rel3, f3.bind.mono fun dz Z4 H4 _ e4 f4 t ht => ?_⟩
        exact ⟨Z4, dy, dz, (rel3.ext e4).sub, (hu.ext e3).ext e4, ht, f4.fin fun _ => cmpD_noexc⟩
      | false =>
        rw [if_neg Bool.false_ne_true]
        exact FinG.here (a := D.bl false) f3 rel3.sub _ (.bl _)
    | _ => exact (show False from f2).elim
  | exc c => exact (cmpD_noexc q).elim
  | bad => rw [q] at f2; exact (show False from f2).elim
theorem snd_cmp2 (S : Sit X ct c A L W ev0 hx) {a b d : Expr} {op op' : CmpOp} {pos : Pos} {o o' : Co} {x y z : SE} (ho : coOf op = some o) (ho' : coOf op' = some o') (ha : PE X a (tS X ct A W O hx x)) (hb : PE X b (tS X ct A W O hx y)) (hd : PE X d (tS X ct A W O hx z)) (hm : noSet d = true) : Both X ct A W O hx (.Compare a [op, op'] [b, d] pos) (.cmp2 o o' x y z) := by
  have hl : lastMarks [op, op'] [b, d] = false := noSet_mark hm
  exact ⟨(pe_chain (opr_cmp ho S.un S.kd) (opr_cmp ho' S.un S.kd) ha hb hd hl).imp fun σ H Q h => tChain_of h, tTest_of (fun σ H Q h => tChain_of h) (pt_chain (opr_cmp ho S.un S.kd) (opr_cmp ho' S.un S.kd) ha hb hd hl)⟩
end
end Tk
/-! Expressions, construct by construct: ifs, subscripts, slices, calls. -/
namespace Tk
open PySem PySem.Spec PyProof.Rows L2
open D
section
variable {ct : CT} {c : CE} {A : Ar} {L : Nat} {ev0 : Option Str} {hx : Option (Nat × Addr)} {n : Nat} {X : Cx} {W : WX} {O : List Nat}
theorem tT_ite {x y z : SE} {ρ : En} : ((ev A (.ite x y z) ρ).bind asBl) = ((ev A x ρ).bind asBl).bind fun k => if k then (ev A y ρ).bind asBl else (ev A z ρ).bind asBl := by
  show ((ev A x ρ).bind fun x => (asBl x).bind fun k => if k then ev A y ρ else ev A z ρ).bind asBl = _
  cases ev A x ρ with
  | ok d => cases d with
    | bl b => cases b <;> rfl
    | _ => rfl
  | _ => rfl
theorem ite_bind {x y z : SE} {ρ : En} : ev A (.ite x y z) ρ = ((ev A x ρ).bind asBl).bind fun k => if k then ev A y ρ else ev A z ρ := by
  show ((ev A x ρ).bind fun x => (asBl x).bind fun k => if k then ev A y ρ else ev A z ρ) = _
  cases ev A x ρ with
  | ok d => cases d <;> rfl
  | _ => rfl
theorem isTrue_ifExp {M : Model} {A : Around} {E : Value → Shared → Prop} {s : Shared} {t a b : Expr} {pos : Pos} {env : Env} {wh : Sem Value} {Q : Bool → Shared → Prop}
    (h : wpAny M A (isTrue t env (eval t env)) (fun d s1 => wpAny M A (if d = true then isTrue a env (eval a env) else isTrue b env (eval b env)) Q E s1) E s) : wpAny M A (isTrue (.IfExp t a b pos) env wh) Q E s := by
  show wpAny M A (do if ← isTrue t env (eval t env) then isTrue a env (eval a env) else isTrue b env (eval b env)) Q E s
  exact wpAny_bind h
theorem pt_ifExp {t a b : Expr} {pos : Pos} {tt ta tb : TT} (ht : PT X t tt) (ha : PT X a ta) (hb : PT X b tb) : PT X (.IfExp t a b pos) (fun σ H Q => tt σ H fun d H1 => if d = true then ta σ H1 Q else tb σ H1 Q) := by
  refine ⟨fun pins s σ H Q I h => ?_⟩
  refine isTrue_ifExp (thn (ht.run pins s σ H _ I h) fun d s1 ⟨H1, I1, q1⟩ => ?_)
  cases d with
  | true => exact ha.run pins s1 σ H1 Q I1 q1
  | false => exact hb.run pins s1 σ H1 Q I1 q1
theorem snd_ite {t a b : Expr} {pos : Pos} {x y z : SE} (ht : Both X ct A W O hx t x) (ha : Both X ct A W O hx a y) (hb : Both X ct A W O hx b z) : Both X ct A W O hx (.IfExp t a b pos) (.ite x y z) := by
  refine ⟨(pe_ifExp ht.2 ha.1 hb.1).imp fun σ H Q ⟨hh, Z, ρ, rel, fin⟩ => ?_, (pt_ifExp ht.2 ha.2 hb.2).imp fun σ H Q ⟨hh, Z, ρ, rel, fin⟩ => ?_⟩
  · rw [ite_bind] at fin
    refine ⟨hh, Z, ρ, rel, fin.bind.mono fun d Z1 H1 he e1 f1 => ?_⟩
    cases d with
    | true => rw [if_pos rfl]; exact ⟨hh, Z1, ρ, rel.ext e1, f1⟩
    | false => rw [if_neg Bool.false_ne_true]; exact ⟨hh, Z1, ρ, rel.ext e1, f1⟩
  · have fin : FinG X.K ct W σ Z H ((ev A (.ite x y z) ρ).bind asBl) _ := fin
    rw [tT_ite] at fin
    refine ⟨hh, Z, ρ, rel, fin.bind.mono fun d Z1 H1 he e1 f1 => ?_⟩
    cases d with
    | true => rw [if_pos rfl]; exact ⟨hh, Z1, ρ, rel.ext e1, f1⟩
    | false => rw [if_neg Bool.false_ne_true]; exact ⟨hh, Z1, ρ, rel.ext e1, f1⟩
theorem snd_ix (S : Sit X ct c A L W ev0 hx) {a i : Expr} {pos : Pos} {x y : SE} (ha : PE X a (tS X ct A W O hx x)) (hi : PE X i (tS X ct A W O hx y)) (hs : noSl i = true) : Both X ct A W O hx (.Subscript a i pos) (.ix x y) :=
  .plain ((pe_ix (ixr S.un S.kd) ha hi (noSl_plain hs)).imp fun σ H Q h => tOp_of (fun _ _ _ => ixD_noexc) h) fun _ => rfl
theorem snd_po {e : Option Expr} {o : Option SE} (h : match e, o with | none, none => True | some e, some x => PE X e (tE X ct A W O hx x) | _, _ => False) : PO X e (tOp' X ct A W O hx o) := by
  cases e with
  | none => cases o with
    | none => exact po_none.imp fun σ H Q ⟨hh, Z, ρ, rel, fin⟩ => FinG.here (a := (none : Option Int)) fin rel.sub
    | some _ => exact h.elim
  | some e => cases o with
    | none => exact h.elim
    | some x =>
      refine (po_some (show PE X e (tE X ct A W O hx x) from h)).imp fun σ H Q ⟨hh, Z, ρ, rel, fin⟩ => ?_
      have fin : FinG X.K ct W σ Z H ((ev A x ρ).bind fun x => (asInt x).bind fun i => Res.ok (some i)) _ := fin
      refine ⟨hh, Z, ρ, rel, fin.bind.mono fun d Z1 H1 he e1 f1 v hv => ?_⟩
      cases d with
      | int i => cases hv; exact ⟨i, rfl, FinG.here (a := some i) f1 (rel.ext e1).sub⟩
      | _ => exact (show False from f1).elim
theorem snd_sl {a : Expr} {lo hi : Option Expr} {p pos : Pos} {x : SE} {l h : Option SE} (ha : PE X a (tS X ct A W O hx x)) (hl : PO X lo (tOp' X ct A W O hx l)) (hh : PO X hi (tOp' X ct A W O hx h)) : Both X ct A W O hx (.Subscript a (.Slice lo hi none p) pos) (.sl x l h) := by
  refine .plain ((pe_slice (slr (ct := ct)) ha hl hh).imp fun σ H Q ⟨hh, Z, ρ, rel, fin⟩ => ?_) fun _ => rfl
  have fin : FinG X.K ct W σ Z H ((ev A x ρ).bind fun x => (evo A l ρ).bind fun l => (evo A h ρ).bind fun h => slD x l h) _ := fin
  refine ⟨hh, Z, ρ, rel, fin.bind.mono fun d Z1 H1 he e1 f1 v hv => ?_⟩
  refine ⟨hh, Z1, ρ, rel.ext e1, f1.bind.mono fun l Z2 H2 he e2 f2 => ?_⟩
  refine ⟨hh, Z2, ρ, (rel.ext e1).ext e2, f2.bind.mono fun h Z3 H3 he e3 f3 => ?_⟩
  exact ⟨Z3, d, (((rel.ext e1).ext e2).ext e3).sub, (hv.ext e2).ext e3, f3.fin fun _ => slD_noexc⟩
/-! ### [::-1] -/
theorem rev_pickS (z : List Nat) : ((Builtin.Str.strSliceIndices none none (-1) z.length).filterMap (z.toArray[·]?)) = z.reverse := by
  rw [picked_rev, filterMap_get]
  · rw [List.map_map]
    apply List.ext_getElem
    · simp
    · intro i h1 h2
      simp at h1
      have e : z.toArray.getD (z.length - 1 - i) 0 = z[z.length - 1 - i]'(by omega) := by
        simp [Array.getD, show z.length - 1 - i < z.length by omega]
      simp only [List.getElem_map, Function.comp, List.getElem_range, List.getElem_reverse]
      exact e
  · intro i hi
    obtain ⟨k, hk, rfl⟩ := List.mem_map.mp hi
    have := List.mem_range.mp hk
    rw [List.size_toArray]
    omega
theorem getItem_str_rev {prog : Program} {w : World} {A : Around} {E : Value → Shared → Prop} {s : Shared} {z : List Nat} {t : Tok} {sl : Addr} {vl vu vs : Value} {Q : Value → Shared → Prop} (hs : s.heap.IsSliceOf sl vl vu vs) (pl : IsPart vl none) (pu : IsPart vu none) (ps : IsPart vs (some (-1))) (hl : z.length ≤ sizeLine)
    (h : Q (.str ⟨z.reverse.toArray⟩ s.toks) { s with toks := s.toks + 1 }) : wpAny (model prog w) A (getItem (.str ⟨z.toArray⟩ t) (.ref sl)) Q E s := by
  cases pl
  cases pu
  obtain ⟨k, e1, e2⟩ := IsPart.raw ps
  subst e1
  cases k with
  | none => cases e2
  | some k =>
    obtain ⟨k1, k2⟩ := k
    have e2 : some k1 = some (-1) := e2
    cases e2
    obtain ⟨os, hos, hcs, hds⟩ := hs
    refine wpAny_getItem_str_slice (l := none) (u := none) (st := some (-1, k2)) ⟨os, hos, hcs, hds⟩ rfl ?_
    have e : sliceMade ⟨z.toArray⟩ t none none (some (-1, k2)) = Made.str ⟨z.reverse.toArray⟩ := by
      show (if ((-1 : Int) == 1 && _) = true then _ else Made.str ⟨((Builtin.Str.strSliceIndices none none (-1) (⟨z.toArray⟩ : Str).length).filterMap (z.toArray[·]?)).toArray⟩) = _
      rw [if_neg (by rw [show ((-1 : Int) == 1) = false from rfl]; simp), strlen, rev_pickS]
    rw [e]
    exact ⟨by rw [strlen, List.length_reverse]; exact hl, h⟩
def RRev (K : PySem.W.Frag) (ct : CT) : V → Hp → VK → Prop := fun x H Q => ∃ Z dx, Same Z H ∧ ShDen K ct Z H x dx ∧ Fin K ct Z H (revD dx) Q
theorem pe_rev {e : Expr} {te : TE} {k : Nat} {p1 p2 p3 pos : Pos} (he : PE X e te) : PE X (.Subscript e (.Slice none none (some (.UnaryOp .USub (.Constant (.int 1) k p1) p2)) p3) pos) (fun σ H Q => te σ H fun x H1 => RRev X.K ct x H1 Q) := by
  refine ⟨fun pins s σ H Q I h => ?_⟩
  refine Subscript_ (thn (he.run pins s σ H _ I h) fun v s1 ⟨x, H1, I1, r1, q1⟩ => ?_)
  have hst : PO X (some (.UnaryOp .USub (.Constant (.int 1) k p1) p2)) (tPart (tUn (rU fun i => .int (-i)) (tC (.int 1)))) := po_some (pe_un un_neg pe_int)
  refine wpAny_Slice (thn (po_none.run pins s1 σ H1 (fun o H2 => o = none ∧ H2 = H1) I1 ⟨rfl, rfl⟩) fun vl s2 ⟨l, H2, I2, pl, el, e2⟩ => ?_)
  subst el e2
  refine thn (po_none.run pins s2 σ H2 (fun o H3 => o = none ∧ H3 = H2) I2 ⟨rfl, rfl⟩) fun vu s3 ⟨u, H3, I3, pu, eu, e3⟩ => ?_
  subst eu e3
  refine thn (hst.run pins s3 σ H3 (fun o H4 => o = some (-1) ∧ H4 = H3) I3 ⟨1, rfl, -1, rfl, rfl, rfl⟩) fun vs s4 ⟨o, H4, I4, ps, eo, e4⟩ => ?_
  subst eo e4
  have I5 : Inv X pins σ H4 { s4 with heap := s4.heap.push { cls := .type "slice", data := .fields #[vl, vu, vs] } } := I4.kept (t' := s4.toks) fun b ob q => Heap.get?_push_of_some _ q
  obtain ⟨Z, d, sz, hx, f⟩ := q1
  cases d with
  | lst ds =>
    obtain ⟨a, xs, ex, h1, h2⟩ := hx.lst sz
    subst ex
    cases r1
    obtain ⟨its, r, ht, hz⟩ := I5.list (.inl h1)
    have hlen := r.length
    show wpAny (model X.prog X.w) X.A (subscriptTail e (.Slice none none (some (.UnaryOp .USub (.Constant (.int 1) k p1) p2)) p3) (.ref a) (.ref s4.heap.objs.size)) (EP X pins σ Q) X.xe { s4 with heap := s4.heap.push { cls := .type "slice", data := .fields #[vl, vu, vs] } }
    refine tail_any (ops := [.ref a, .ref s4.heap.objs.size]) ht.isList.typeIs (PySem.slot_list_getitem.lookup) ?_ (by with_unfolding_all rfl)
    refine wpAny_getItem_list_slice ht.isList (Heap.IsSliceOf.new _ vl vu vs) pl pu ps (by decide) ?_ (by rw [List.size_toArray]; omega)
    rw [PySem.W.krv_pick]
    refine ⟨.ref _, _, I5.laid (t' := s4.toks) (o := .lst xs.reverse) (fun b ob q => Heap.get?_push_of_some _ q) (Nat.le_refl _) ?_, rfl, f.newL sz rfl h2.reverse _ (I5.hok.fresh (Nat.le_refl _))⟩
    exact ⟨by rw [List.length_reverse]; exact hz, _, 0, r.reverse, Heap.get?_push_size _ rfl⟩
  | tup ds =>
    obtain ⟨a, xs, ex, h1, h2⟩ := hx.tup sz
    subst ex
    cases r1
    obtain ⟨its, r, ht, hz⟩ := I5.tuple h1
    have hlen := r.length
    show wpAny (model X.prog X.w) X.A (subscriptTail e (.Slice none none (some (.UnaryOp .USub (.Constant (.int 1) k p1) p2)) p3) (.ref a) (.ref s4.heap.objs.size)) (EP X pins σ Q) X.xe { s4 with heap := s4.heap.push { cls := .type "slice", data := .fields #[vl, vu, vs] } }
    refine tail_any (ops := [.ref a, .ref s4.heap.objs.size]) ht.typeIs PyProof.Rows.slot_tuple_getitem.lookup ?_ (by with_unfolding_all rfl)
    refine getItem_tuple_rev ht (Heap.IsSliceOf.new _ vl vu vs) pl pu ps ?_ (by omega)
    refine ⟨.ref _, _, I5.laid (t' := s4.toks) (o := .tup xs.reverse) (fun b ob q => Heap.get?_push_of_some _ q) (Nat.le_refl _) ?_, rfl, f.newT sz rfl h2.reverse _ (I5.hok.fresh (Nat.le_refl _))⟩
    exact ⟨by rw [List.length_reverse]; exact hz, _, r.reverse, ⟨_, Heap.get?_push_size _ rfl, rfl, _, rfl⟩⟩
  | str z =>
    have ex := hx.str
    subst ex
    obtain ⟨t, rfl⟩ := r1
    by_cases cz : okN z.length = true
    · show wpAny (model X.prog X.w) X.A (subscriptTail e (.Slice none none (some (.UnaryOp .USub (.Constant (.int 1) k p1) p2)) p3) (.str ⟨z.toArray⟩ t) (.ref s4.heap.objs.size)) (EP X pins σ Q) X.xe { s4 with heap := s4.heap.push { cls := .type "slice", data := .fields #[vl, vu, vs] } }
      refine tail_any (ops := [.str ⟨z.toArray⟩ t, .ref s4.heap.objs.size]) (typeIs_str _ _ _) F.slot_str_getitem.lookup ?_ (by with_unfolding_all rfl)
      refine getItem_str_rev (Heap.IsSliceOf.new _ vl vu vs) pl pu ps (okN_le cz) ?_
      exact ⟨.str _, H4, I5.tok _, ⟨_, rfl⟩, f.ret sz (show revD (.str z) = _ from if_pos cz) (den_str _ _ _ _)⟩
    · exact (f.no (show revD (.str z) = _ from if_neg cz)).elim
  | _ => exact (f.no rfl).elim
theorem revD_noexc {x : D} {c : Nat} : revD x ≠ .exc c := by
  intro h
  unfold revD at h
  split at h <;> first | (cases h; done) | (split at h <;> cases h)
theorem snd_rev {a : Expr} {k : Nat} {p1 p2 p3 pos : Pos} {x : SE} (ha : PE X a (tS X ct A W O hx x)) : Both X ct A W O hx (.Subscript a (.Slice none none (some (.UnaryOp .USub (.Constant (.int 1) k p1) p2)) p3) pos) (.rev x) := by
  refine .plain ((pe_rev (ct := ct) ha).imp fun σ H Q ⟨hh, Z, ρ, rel, fin⟩ => ?_) fun _ => rfl
  have fin : FinG X.K ct W σ Z H ((ev A x ρ).bind revD) _ := fin
  exact ⟨hh, Z, ρ, rel, fin.bind.mono fun d Z1 H1 he e1 f1 v hv => ⟨Z1, d, (rel.ext e1).sub, hv, f1.fin fun _ => revD_noexc⟩⟩
/-! ### calls of defs -/
theorem den_of_all {K : PySem.W.Frag} {Z H : Hp} {vs : List V} {ds : List D} (h : DenAll K ct Z vs ds) : ShAll K ct Z H vs ds := by
  induction ds generalizing vs with
  | nil => cases h; exact .nil
  | cons d ds ih => cases h with | cons h1 h2 => exact .cons (.inl h1) (ih h2)
theorem spF_of {K : PySem.W.Frag} {σ : L2.St} {Z H : Hp} {g : List D → Res D} {m : Nat} {vs : List V} {ds : List D} {Q : VK} (hm : vs.length = m) (s : Same Z H) (df : Dif Z H) (hv : DenAll K ct Z vs ds) (f : FinG K ct W σ Z H (g ds) fun d Z' H' => ∀ v, Den K ct Z' v d → Q v H') :
    spF (spD K ct g m) vs H Q (WE W σ) := by
  refine ⟨Z, s, df, hm, ds, hv, ?_⟩
  cases q : g ds with
  | ok d => rw [q] at f; exact fun v H1 _ hd H' e => f H1 H' e v hd
  | exc k => rw [q] at f; exact fun C H1 hc _ H' e => f C H1 H' hc e
  | bad => rw [q] at f; exact f
theorem pe_callS0 {CX : CXT} {k : Nat} {f : Addr} {fd : FuncData} {ps : List Str} {sp : Sp} {E : L2.St → XK} {x : Str} {p pos : Pos} (F : FnOk X.prog X.w X.K X.mg X.base CX k f fd ps sp) (hr : Room k X.A) (hg : Gl X x) (hm : X.mg x = some (.ref f)) (hk : PySem.W.keepIn X.K (.ref f) = true) (hb : Binds X.K fd ps []) (hx : ∀ σ, PassesAt CX X σ (E σ))
    (hdb : (x == ("__debug__" : Str)) = false) : PE X (.Call (.Name x p) [] [] pos) (tCallS sp E tNil) := by
  refine ⟨fun pins s σ H Q I h => ?_⟩
  refine wpAny_Call_Name_kw (ld_glob I hg hm ?_ hdb)
  exact PySem.W.callWith_K0 I.kIn hk (run_fnS (us := []) F hr hb (hx σ) I .nil h)
theorem pe_makeX {C f : Addr} {x : Str} {p pos : Pos} {e : Expr} {es : List Expr} {t : TA} (M : Mk X.K C f) (hg : Gl X x) (hm : X.mg x = some (.ref C)) (ha : PA X (e :: es) t) (hdb : (x == ("__debug__" : Str)) = false) (he : starEach (e :: es) X.env = (false, eval e X.env) :: starEach es X.env) (hpl : (backTo pos (starEach es X.env)).any (·.1) = false) :
    PE X (.Call (.Name x p) (e :: es) [] pos) (fun σ H _ => t σ H fun _ _ => False) := by
  refine ⟨fun pins s σ H Q I h => ?_⟩
  refine wpAny_Call_Name_kw (ld_glob I hg hm ?_ hdb)
  exact PySem.W.callWith_K (h₀ := X.base) I.ok.mod.kin M.kp (thn (ha.run pos pins s σ H _ I h) fun us s1 ⟨vs, H1, I1, r, q⟩ => ⟨I1.kIn, q.elim⟩) he hpl
theorem snd_call (S : Sit X ct c A L W ev0 hx) (h0 : ev0 = none) {f : Str} {p pos : Pos} {args : List Expr} {ses : List SE} {k m : Nat} (hp : plainName f = true) (hg : gloB X.env.scope f = true) (hf : c.fn.lookup f = some (k, m)) (hl : ses.length = m) (ha : PA X args (tAs X ct A W O hx ses)) (hst : ∀ e ∈ args, noStar e = true) (hnil : args = [] → ses = []) : Both X ct A W O hx (.Call (.Name f p) args [] pos) (.call k ses) := by
  obtain ⟨p1, p2, _⟩ := plain_debug hp
  refine .plain ?_ fun _ => rfl
  rcases S.fns f k m hf with ⟨fa, fd, ps, h1, h2, h3, h4⟩ | ⟨C, fI, fd, ps, h1, hM, h3, hob, hz, h4⟩
  · have key : ∀ σ H Q, tE X ct A W O hx (.call k ses) σ H Q → tCallS (spF (spD X.K ct (A.Φ k) m)) (WE W) (tAs X ct A W O hx ses) σ H Q := fun σ H Q ⟨hh, Z, ρ, rel, fin⟩ => by
      have fin : FinG X.K ct W σ Z H ((evs A ses ρ).bind fun ds => A.Φ k ds) _ := fin
      refine ⟨hh, Z, ρ, rel, fin.bind.mono fun ds Z1 H1 he e1 f1 vs hv => ?_⟩
      have r1 := rel.ext e1
      exact spF_of (by rw [hv.length, evs_len he, hl]) r1.sub r1.dif hv f1
    cases args with
    | nil =>
      refine (pe_callS0 h4 (S.room h0) (gloB_gl hg) h1 h2 h3 (fun σ => passAt S.tk σ) p1).imp fun σ H Q ⟨hh, Z, ρ, rel, fin⟩ => ?_
      have e := hnil rfl
      subst e
      exact spF_of (vs := []) (ds := []) (by rw [← hl]; rfl) rel.sub rel.dif .nil fin
    | cons e es => exact (pe_callS h4 (S.room h0) (gloB_gl hg) h1 h2 h3 (fun σ => passAt S.tk σ) ha p1 (noStar_each (hst e List.mem_cons_self)) (backTo_any fun e' he => hst e' (List.mem_cons_of_mem _ he))).imp key
  · cases hL : L with
    | zero =>
      have hz := hz hL
      cases args with
      | nil =>
        have e := hnil rfl
        subst e
        refine ⟨fun pins s σ H Q I ⟨hh, Z, ρ, rel, fin⟩ => ?_⟩
        have fin : FinG X.K ct W σ Z H (A.Φ k []) _ := fin
        rw [hz] at fin
        exact (show False from fin).elim
      | cons e es =>
        refine (pe_makeX hM (gloB_gl hg) h1 ha p1 (noStar_each (hst e List.mem_cons_self)) (backTo_any fun e' he => hst e' (List.mem_cons_of_mem _ he))).imp fun σ H Q ⟨hh, Z, ρ, rel, fin⟩ => ?_
        have fin : FinG X.K ct W σ Z H ((evs A ses ρ).bind fun ds => A.Φ k ds) _ := fin
        refine ⟨hh, Z, ρ, rel, fin.bind.mono fun ds Z1 H1 he e1 f1 vs hv => ?_⟩
        rw [hz] at f1
        exact f1
    | succ l =>
    have h4 := h4 l hL
    have hr : Room (l + 1) X.A := by rw [← hL]; exact S.room h0
    have px := passes_call (E := fun _ _ _ => False) S.tk fun _ _ _ _ h => h.elim
    have made : ∀ {σ : L2.St} {Z1 H1 : Hp} {ρ : En} {vs : List V} {ds : List D} {Q : VK}, RelE X.K ct Z1 H1 O σ ρ → DenAll X.K ct Z1 vs ds → ds.length = m → FinG X.K ct W σ Z1 H1 (A.Φ k ds) (fun d Z' H' => ∀ v, Den X.K ct Z' v d → Q v H') →
        ∀ x dx, H1 x = none → H1 dx = none → dx ≠ x → spIF X.K ct C k (A.Φ k) m (.ref x :: (vs ++ [])) (upd (upd H1 dx (.own x)) x (.ins C dx [])) (fun v H2 => v = .non ∧ Q (.ref x) H2) (fun _ _ _ => False) := by
      intro σ Z1 H1 ρ vs ds Q r1 hv hm f1 x dx n1 n2 n3
      rcases hob ds with e | ⟨fds, e⟩
      · rw [e] at f1; exact (show False from f1).elim
      · rw [e] at f1
        rw [List.append_nil]
        exact ⟨x, dx, vs, H1, Z1, ds, fds, rfl, hv.length.trans hm, rfl, n1, n2, n3, r1.sub, r1.dif, hv, e, fun Zf Hf ex hd => ⟨rfl, f1 Zf Hf ex _ hd⟩⟩
    have key : ∀ σ H Q, tE X ct A W O hx (.call k ses) σ H Q → tMake C (spIF X.K ct C k (A.Φ k) m) [] (fun _ _ _ => False) (tAs X ct A W O hx ses) σ H Q := fun σ H Q ⟨hh, Z, ρ, rel, fin⟩ => by
      have fin : FinG X.K ct W σ Z H ((evs A ses ρ).bind fun ds => A.Φ k ds) _ := fin
      refine ⟨hh, Z, ρ, rel, fin.bind.mono fun ds Z1 H1 he e1 f1 vs hv => ?_⟩
      exact made (rel.ext e1) hv (by rw [evs_len he, hl]) f1
    cases args with
    | nil =>
      refine (pe_make0 hM h4 hr (gloB_gl hg) h1 h3 .nil px p1).imp fun σ H Q ⟨hh, Z, ρ, rel, fin⟩ => ?_
      have e := hnil rfl
      subst e
      exact made (vs := []) (ds := []) rel .nil (by rw [← hl]; rfl) fin
    | cons e es => exact (pe_make hM h4 hr (gloB_gl hg) h1 h3 .nil px ha p1 (noStar_each (hst e List.mem_cons_self)) (backTo_any fun e' he => hst e' (List.mem_cons_of_mem _ he))).imp key
end
end Tk
/-! Expressions, construct by construct: built-in calls, methods, what is walked, comprehensions. -/
namespace Tk
open PySem PySem.Spec PyProof.Rows L2
open D
theorem sOf_eq {x : Str} {y : String} (h : (x == sOf y) = true) : x = (y : Str) := beq_iff_eq.mp h
section
variable {ct : CT} {c : CE} {A : Ar} {L : Nat} {ev0 : Option Str} {hx : Option (Nat × Addr)} {n : Nat} {X : Cx} {W : WX} {O : List Nat}
theorem ShAll.ext {K : PySem.W.Frag} {Z H Z' H' : Hp} (e : Ext Z H Z' H') : ∀ {vs : List V} {ds : List D}, ShAll K ct Z H vs ds → ShAll K ct Z' H' vs ds
  | _, _, .nil => .nil
  | _, _, .cons h1 h2 => .cons (h1.ext e) (ShAll.ext e h2)
/-! ### one argument, only looked at -/
theorem tOne_of {x : SE} {f : D → Res D} {σ : L2.St} {H : Hp} {Q : VK} {b : Bi} (h : tG X ct W O hx (fun ρ => (ev A x ρ).bind fun d => biD b [d]) (fun d Z' H' => ∀ v, Den X.K ct Z' v d → Q v H') σ H) :
    tCB (RBi X.K ct b) (tCons (tS X ct A W O hx x) tNil) σ H Q := by
  obtain ⟨hh, Z, ρ, rel, fin⟩ := h
  refine ⟨hh, Z, ρ, rel, fin.bind.mono fun d Z1 H1 _ e1 f1 v hv => ?_⟩
  exact ⟨Z1, [d], (rel.ext e1).sub, .cons hv .nil, f1.fin fun _ => biD_noexc⟩
theorem bi1_eq {b : Bi} {x : SE} {ρ : En} : ev A (.bi b [x]) ρ = (ev A x ρ).bind fun d => biD b [d] := by
  show ((ev A x ρ).bind fun x => (Res.ok []).bind fun r => Res.ok (x :: r)).bind (fun ds => biD b ds) = _
  cases ev A x ρ <;> rfl
theorem snd_bi1 (S : Sit X ct c A L W ev0 hx) (h0 : ev0 = none) {f : Str} {p pos : Pos} {a : Expr} {x : SE} {b : Bi} (hp : plainName f = true) (hg : gloB X.env.scope f = true) (hfr : c.free.contains f = true) (hb : biOf f = some b) (hs : noStar a = true) (ha : PE X a (tS X ct A W O hx x)) : Both X ct A W O hx (.Call (.Name f p) [a] [] pos) (.bi b [x]) := by
  obtain ⟨p1, p2, p3⟩ := plain_debug hp
  have hm := S.free f hfr
  have hA : PA X [a] (tCons (tS X ct A W O hx x) tNil) := pa_cons ha pa_nil (noStar_each hs)
  have hst := noStar_each (es := []) (env := X.env) hs
  refine .plain ?_ fun _ => rfl
  have key : ∀ σ H Q, tE X ct A W O hx (.bi b [x]) σ H Q → tCB (RBi X.K ct b) (tCons (tS X ct A W O hx x) tNil) σ H Q := fun σ H Q h => tOne_of (f := fun d => biD b [d]) (by
    obtain ⟨hh, Z, ρ, rel, fin⟩ := h
    rw [bi1_eq] at fin
    exact ⟨hh, Z, ρ, rel, fin⟩)
  unfold biOf at hb
  have hc := S.calm h0
  split at hb
  · rename_i q; cases hb; have e := sOf_eq q; subst e
    exact (pe_callB (bi_len S.kd) (gloB_gl hg) hm (by decide +kernel) hA p3 p1 hst rfl).imp key
  split at hb
  · rename_i q; cases hb; have e := sOf_eq q; subst e
    exact (pe_callTy bi_int (gloB_gl hg) hm (by decide +kernel) hA p3 p1 hst rfl).imp key
  split at hb
  · rename_i q; cases hb; have e := sOf_eq q; subst e
    exact (pe_callTy bi_tuple (gloB_gl hg) hm (by decide +kernel) hA p3 p1 hst rfl).imp key
  split at hb
  · rename_i q; cases hb; have e := sOf_eq q; subst e
    exact (pe_callTy (bi_list hc S.kd) (gloB_gl hg) hm (by decide +kernel) hA p3 p1 hst rfl).imp key
  split at hb
  · rename_i q; cases hb; have e := sOf_eq q; subst e
    exact (pe_callB (bi_sum hc) (gloB_gl hg) hm (by decide +kernel) hA p3 p1 hst rfl).imp key
  split at hb
  · rename_i q; cases hb; have e := sOf_eq q; subst e
    exact (pe_callB (bi_any hc) (gloB_gl hg) hm (by decide +kernel) hA p3 p1 hst rfl).imp key
  split at hb
  · rename_i q; cases hb; have e := sOf_eq q; subst e
    exact (pe_callB (bi_all hc) (gloB_gl hg) hm (by decide +kernel) hA p3 p1 hst rfl).imp key
  split at hb
  · rename_i q; cases hb; have e := sOf_eq q; subst e
    exact (pe_callTy bi_str1 (gloB_gl hg) hm (by decide +kernel) hA p3 p1 hst rfl).imp key
  split at hb
  · rename_i q; cases hb; have e := sOf_eq q; subst e
    exact (pe_callB (bi_max hc) (gloB_gl hg) hm (by decide +kernel) hA p3 p1 hst rfl).imp key
  split at hb
  · rename_i q; cases hb; have e := sOf_eq q; subst e
    exact (pe_callTy (bi_dict hc S.un S.kd) (gloB_gl hg) hm (by decide +kernel) hA p3 p1 hst rfl).imp key
  · cases hb
theorem snd_isi (S : Sit X ct c A L W ev0 hx) {p q pos : Pos} {a : Expr} {x : SE} {t : Str} {k : Nat} (hg : gloB X.env.scope (sOf "isinstance") = true) (hfr : c.free.contains (sOf "isinstance") = true) (hg2 : gloB X.env.scope t = true) (hp2 : plainName t = true) (hfr2 : c.free.contains t = true) (hk : isiOf t = some k) (hs : noStar a = true) (ha : PE X a (tS X ct A W O hx x)) : Both X ct A W O hx (.Call (.Name (sOf "isinstance") p) [a, .Name t q] [] pos) (.bi (.isi k) [x]) := by
  obtain ⟨p1, p2, p3⟩ := plain_debug hp2
  have hm := S.free _ hfr
  have hm2 := S.free _ hfr2
  have hty : bootBuiltins t = some (.type (isiN k)) := by
    unfold isiOf at hk
    split at hk
    · rename_i q; cases hk; rw [sOf_eq q]; decide +kernel
    split at hk
    · rename_i q; cases hk; rw [sOf_eq q]; decide +kernel
    split at hk
    · rename_i q; cases hk; rw [sOf_eq q]; decide +kernel
    split at hk
    · rename_i q; cases hk; rw [sOf_eq q]; decide +kernel
    split at hk
    · rename_i q; cases hk; rw [sOf_eq q]; decide +kernel
    · cases hk
  have hT : PE X (.Name t q) (tC (.ty (isiN k))) := pe_bltn (gloB_gl hg2) hm2 hty rfl p3 p1
  have hA : PA X [a, .Name t q] (tCons (tS X ct A W O hx x) (tCons (tC (.ty (isiN k))) tNil)) := pa_cons ha (pa_cons hT pa_nil) (noStar_each hs)
  refine .plain ((pe_callB (bi_isi (ct := ct) (t := k)) (gloB_gl hg) hm (by decide +kernel) hA (by decide) (by decide) (noStar_each hs) rfl).imp fun σ H Q ⟨hh, Z, ρ, rel, fin⟩ => ?_) fun _ => rfl
  rw [bi1_eq] at fin
  refine ⟨hh, Z, ρ, rel, fin.bind.mono fun d Z1 H1 _ e1 f1 v hv => ?_⟩
  exact ⟨v, rfl, Z1, [d], (rel.ext e1).sub, .cons hv .nil, f1.fin fun _ => biD_noexc⟩
/-! ### len(set(xs)), ints -/
def tLenSetG (K : PySem.W.Frag) (ta : TE) : TE := fun σ H Q => ta σ H fun x H1 => ∃ (l : Addr) (ns : List Int), x = V.ref l ∧ SqL K H1 l (ns.map V.int) ∧ ns.length < 1000 ∧ Q (.int (firstMet (fun i => ns.getD i 0) ns.length).length) H1
theorem firstMet_le (g : Nat → Int) : ∀ n, (firstMet g n).length ≤ n
  | 0 => by simp [firstMet]
  | n + 1 => by
    have ih := firstMet_le g n
    rw [firstMet_succ]
    unfold step_dedup
    split
    · omega
    · simp; omega
theorem pe_lenSetG {a : Expr} {ta : TE} {p p2 q pos : Pos} (hc : X.calm = true) (hg : Gl X "len") (hm : X.mg "len" = none) (hg2 : Gl X "set") (hm2 : X.mg "set" = none) (ha : PE X a ta)
    (na : starEach [a] X.env = (false, eval a X.env) :: starEach [] X.env) : PE X (.Call (.Name "len" p) [.Call (.Name "set" p2) [a] [] q] [] pos) (tLenSetG X.K ta) := by
  refine ⟨fun pins s σ H Q I h => ?_⟩
  refine Call_ (ld_blt I hg hm PySem.boot_len ?_)
  refine PyProof.Rows.callWith_builtin1 (PyProof.Rows.args_cons ?_ rfl) rfl rfl
  refine Call_ (ld_blt I hg2 hm2 PyProof.Rows.boot_set ?_)
  refine PyProof.Rows.callWith_type1 (PyProof.Rows.args_cons (thn (ha.run pins s σ H _ I h) fun v s1 ⟨x, H1, I1, r1, q1⟩ => PyProof.Rows.args_nil ?_) na) na rfl
  obtain ⟨l, ns, rfl, hq, h1, q1⟩ := q1
  cases r1
  obtain ⟨its, r, pl, hz⟩ := I1.list hq
  have hl : its.toArray.size = ns.length := by rw [List.size_toArray, ← r.length, List.length_map]
  refine call_set_list (I1.ok.hd hc) pl.isList (ns := ns) (by simpa using r.ints) (by unfold scanBound; omega) fun h' tk hS hk => ?_
  rw [hl] at hS
  refine PyProof.Rows.args_nil ?_
  obtain ⟨o, es, ep, t, ho, hex, hd, _, _, _, hf, hn⟩ := hS
  have I2 : Inv X pins σ H1 { s1 with heap := h', toks := tk } := I1.kept fun b o e => hk b o (Heap.lt_size e) e
  have := firstMet_le (fun i => ns.getD i 0) ns.length
  refine call_len_set ho hex hd hf (by rw [hn] <;> omega) ⟨.int _, H1, I2.tok _, ⟨_, by rw [hn]⟩, q1⟩
theorem snd_lenSet (S : Sit X ct c A L W ev0 hx) (h0 : ev0 = none) {p p2 q pos : Pos} {a : Expr} {x : SE} (hg : gloB X.env.scope (sOf "len") = true) (hfr : c.free.contains (sOf "len") = true) (hg2 : gloB X.env.scope (sOf "set") = true) (hfr2 : c.free.contains (sOf "set") = true) (hs : noStar a = true) (ha : PE X a (tS X ct A W O hx x)) : Both X ct A W O hx (.Call (.Name (sOf "len") p) [.Call (.Name (sOf "set") p2) [a] [] q] [] pos) (.bi .lenSet [x]) := by
  refine .plain ((pe_lenSetG (S.calm h0) (gloB_gl hg) (S.free _ hfr) (gloB_gl hg2) (S.free _ hfr2) ha (noStar_each hs)).imp fun σ H Q ⟨hh, Z, ρ, rel, fin⟩ => ?_) fun _ => rfl
  rw [bi1_eq] at fin
  refine ⟨hh, Z, ρ, rel, fin.bind.mono fun d Z1 H1 _ e1 f1 v hv => ?_⟩
  have sz := (rel.ext e1).sub
  cases d with
  | lst ds =>
    obtain ⟨l, vs, rfl, h1, h2⟩ := hv.lst sz
    have f1 : FinG X.K ct W σ Z1 H1 (match intsO ds with | some ns => if decide (ns.length < 1000) then Res.ok (D.int (firstMet (fun i => ns.getD i 0) ns.length).length) else Res.bad | none => Res.bad) _ := f1
    cases e : intsO ds with
    | none => rw [e] at f1; exact (show False from f1).elim
    | some ns =>
      rw [e] at f1
      by_cases hn : ns.length < 1000
      · simp only [hn, decide_true, if_true] at f1
        exact ⟨l, ns, rfl, by rw [← den_intsO h2 e]; exact .inl h1, hn, FinG.here f1 sz _ (.int _)⟩
      · simp only [hn, decide_false] at f1
        exact (show False from f1).elim
  | _ => exact (show False from f1).elim
/-! ### methods of built-in types -/
theorem base_eq {o : Expr} {m : Str} {env : Env} {wh : Sem Value} (h : baseOk o = true) : attributeBase o m env wh = wh := by
  cases o <;> first | rfl | cases h
theorem few1 {a : Expr} {cp : Pos} {env : Env} (h : noStar a = true) : ((backTo cp (starEach [a] env)).all (fun x => !x.1) && (backToKw cp (keywordEach [] env)).all (fun x => x.1.isSome) && decide (([a] : List Expr).length + ([] : List Keyword).length + (if ([] : List Keyword).isEmpty then 0 else 1) < 30)) = true := by
  rw [noStar_each h]
  rfl
theorem bi_sindex : MtR X "str.index" (fun x xs H Q => ∃ Z z ds, Same Z H ∧ ShDen X.K ct Z H x (.str z) ∧ ShAll X.K ct Z H xs ds ∧ Fin X.K ct Z H (biD .sindex (.str z :: ds)) Q) := by
  intro pins s σ H x xs v us Q I rx rs h
  obtain ⟨Z, z, ds, sz, h1, h2, f⟩ := h
  cases h2 with
  | nil => exact (f.no rfl).elim
  | cons h3 h4 =>
    rename_i y ys e es
    cases h4 with
    | cons _ _ => exact (f.no (by cases e <;> rfl)).elim
    | nil =>
      cases e with
      | str w =>
        have e1 := h1.str
        have e2 := h3.str
        subst e1 e2
        obtain ⟨t, rfl⟩ := rx
        cases rs with
        | cons r1 rs =>
          cases rs
          obtain ⟨u, rfl⟩ := r1
          cases q : Builtin.Str.occurrences ⟨z.toArray⟩ ⟨w.toArray⟩ 0 z.length 1 with
          | nil => exact (f.no (show (match Builtin.Str.occurrences ⟨z.toArray⟩ ⟨w.toArray⟩ 0 z.length 1 with | i :: _ => Res.ok (D.int i) | [] => .bad) = _ by rw [q])).elim
          | cons k rest =>
            refine PySem.SC.index (by rw [strlen]; exact q) ⟨.int (k : Nat), H, I.tok _, ⟨_, rfl⟩, ?_⟩
            exact f.ret sz (show (match Builtin.Str.occurrences ⟨z.toArray⟩ ⟨w.toArray⟩ 0 z.length 1 with | i :: _ => Res.ok (D.int i) | [] => .bad) = _ by rw [q]) (.int _)
      | _ => exact (f.no rfl).elim
theorem findD_spec {d : D} : ∀ {xs : List D} {m j : Nat}, findD d xs m = some j → m ≤ j ∧ ∃ x, xs[j - m]? = some x ∧ eqD x d = true ∧ ∀ i y, i < j - m → xs[i]? = some y → eqD y d = false
  | [], m, j, h => by cases h
  | x :: xs, m, j, h => by
    unfold findD at h
    split at h
    · rename_i c
      cases h
      exact ⟨Nat.le_refl _, x, by simp, c, fun i y hi _ => by omega⟩
    · rename_i c
      obtain ⟨h1, y, h2, h3, h4⟩ := findD_spec h
      have e : j - m = (j - (m + 1)) + 1 := by omega
      refine ⟨by omega, y, ?_, h3, fun i z hi hz => ?_⟩
      · rw [e, List.getElem?_cons_succ]; exact h2
      · cases i with
        | zero => simp at hz; subst hz; simpa using c
        | succ i => exact h4 i z (by omega) (by simpa using hz)
theorem py_get {xs : List D} {i : Nat} {z : PyData} (h : (pyAll xs)[i]? = some z) : ∃ x, xs[i]? = some x ∧ z = x.py := by
  induction xs generalizing i with
  | nil => simp [pyAll] at h
  | cons x xs ih =>
    cases i with
    | zero => simp [pyAll] at h; exact ⟨x, rfl, h.symm⟩
    | succ i => exact (ih (i := i) (by simpa [pyAll] using h)).imp fun y hy => ⟨by simpa using hy.1, hy.2⟩
theorem py_get' {xs : List D} {i : Nat} {x : D} (h : xs[i]? = some x) : (pyAll xs)[i]? = some x.py := by
  induction xs generalizing i with
  | nil => simp at h
  | cons y xs ih =>
    cases i with
    | zero => simp at h; subst h; simp [pyAll]
    | succ i => simpa [pyAll] using ih (i := i) (by simpa using h)
theorem pln_get {xs : List D} (hp : plnAll xs = true) {i : Nat} {x : D} (h : xs[i]? = some x) : x.pln = true := by
  induction xs generalizing i with
  | nil => simp at h
  | cons y xs ih =>
    simp only [plnAll, Bool.and_eq_true] at hp
    cases i with
    | zero => simp at h; subst h; exact hp.1
    | succ i => exact ih hp.2 (i := i) (by simpa using h)
theorem bi_lindex (hu : X.A.units + 65 < cLine) : MtR X "list.index" (fun x xs H Q => ∃ Z z ds, Same Z H ∧ ShDen X.K ct Z H x (.lst z) ∧ ShAll X.K ct Z H xs ds ∧ Fin X.K ct Z H (biD .sindex (.lst z :: ds)) Q) := by
  intro pins s σ H x xs v us Q I rx rs h
  obtain ⟨Z, z, ds, sz, h1, h2, f⟩ := h
  cases h2 with
  | nil => exact (f.no rfl).elim
  | cons h3 h4 =>
    rename_i y ys e es
    cases h4 with
    | cons _ _ => exact (f.no rfl).elim
    | nil =>
      by_cases c : (e.sh && (D.lst z).sh) = true
      · have e0 : biD .sindex [.lst z, e] = (match findD e z 0 with | some k => .ok (.int k) | none => .bad) := if_pos c
        obtain ⟨c1, c2⟩ := Bool.and_eq_true_iff.mp c
        cases q : findD e z 0 with
        | none => exact (f.no (by rw [e0, q])).elim
        | some j =>
          obtain ⟨_, x0, g1, g2, g3⟩ := findD_spec q
          rw [Nat.sub_zero] at g1 g3
          have p2 : plnAll z = true := by have := sh_pln c2; simpa [pln] using this
          obtain ⟨a, vs, rfl, w1, w2⟩ := h1.lst sz
          refine mt_indexD hu pins s σ H _ _ v us Q I rx rs ⟨a, y, e.py, pyAll z, j, x0.py, rfl, rfl, Den.dp _ _ (h1.den sz) (sh_pln c2), Den.dp _ _ (h3.den sz) (sh_pln c1), sh_shaped c2, sh_shaped c1, py_get' g1, ?_, fun m z' hm hz => ?_, ?_⟩
          · rw [eqv_py _ _ (pln_get p2 g1) (sh_pln c1)]; exact g2
          · obtain ⟨x1, k1, rfl⟩ := py_get hz
            rw [eqv_py _ _ (pln_get p2 k1) (sh_pln c1)]
            exact g3 m x1 hm k1
          · exact f.ret sz (by rw [e0, q]) (.int _)
      · exact (f.no (show biD .sindex [.lst z, e] = _ from if_neg c)).elim
/-- a method whose type is known when the receiver is there -/
theorem pe_gm {o e : Expr} {es : List Expr} {to : TE} {t : TA} {name : Str} {ap cp : Pos} (ho : PE X o to) (ha : PA X (e :: es) t) (hbase : attributeBase o name X.env (eval o X.env) = eval o X.env)
    (hfew : ((backTo cp (starEach (e :: es) X.env)).all (fun x => !x.1) && (backToKw cp (keywordEach [] X.env)).all (fun x => x.1.isSome) && decide ((e :: es).length + ([] : List Keyword).length + (if ([] : List Keyword).isEmpty then 0 else 1) < 30)) = true)
    (hline : (ap.endLine == cp.line) = true) (hs : starEach (e :: es) X.env = (false, eval e X.env) :: starEach es X.env) (hplain : (backTo cp (starEach es X.env)).any (·.1) = false) :
    PE X (.Call (.Attribute o name ap) (e :: es) [] cp) (fun σ H Q => to σ H fun x H1 => ∃ T id r, PlainAttrs T ∧ Slot T name id ∧ typeOf (.builtin id) = pure (.type "method_descriptor") ∧ MtR X id r ∧
      (∀ pins s σ v, Inv X pins σ H1 s → RelV x v → s.TypeIs v T ∧ ∀ a, v = .ref a → ∃ ob, s.heap.get? a = some ob ∧ ob.dict = none) ∧ t σ H1 fun xs H2 => r x xs H2 Q) := by
  refine ⟨fun pins s σ H Q I h => ?_⟩
  refine wpAny_Call_method_late hbase hfew hline rfl (thn (ho.run pins s σ H _ I h) fun v s1 ⟨x, H1, I1, r1, T, id, r, pa, slot, hty, hm, ty, q1⟩ => ?_)
  obtain ⟨t1, t2⟩ := ty pins s1 σ v I1 r1
  refine ⟨T, id, pa, slot, hty, t1, t2, ?_⟩
  have hA := ha.run cp pins s1 σ H1 _ I1 q1
  rw [hs] at hA ⊢
  refine Calls.callWith_builtin (by show (false || (backTo cp (starEach es X.env)).any (·.1)) = false; rw [hplain] <;> rfl) (Calls.evalArgs_plain ?_)
  exact thn hA fun us s2 ⟨vs, H2, I2, r2, q2⟩ => hm pins s2 σ H2 x vs v us Q I2 r1 r2 q2
theorem tMe_of {b : Bi} {T : String} {x y : SE} {σ : L2.St} {H : Hp} {Q : VK} (hT : ∀ d Z H v, recv b d = true → ShDen X.K ct Z H v d → Same Z H → tyV X.K T v H) (h : tE X ct A W O hx (.me b x [y]) σ H Q) :
    tBM X.K T (fun v vs H Q => RBi X.K ct b (v :: vs) H Q) (tS X ct A W O hx x) (tCons (tS X ct A W O hx y) tNil) σ H Q := by
  obtain ⟨hh, Z, ρ, rel, fin⟩ := h
  have fin : FinG X.K ct W σ Z H ((ev A x ρ).bind fun x => if recv b x then (((ev A y ρ).bind fun y => (Res.ok []).bind fun r => Res.ok (y :: r)).bind fun ds => biD b (x :: ds)) else .bad) _ := fin
  refine ⟨hh, Z, ρ, rel, fin.bind.mono fun d Z1 H1 _ e1 f1 v hv => ?_⟩
  by_cases q : recv b d = true
  · rw [if_pos q] at f1
    refine ⟨hT d Z1 H1 v q hv (rel.ext e1).sub, hh, Z1, ρ, rel.ext e1, f1.bind.bind.mono fun d2 Z2 H2 _ e2 f2 u hu => ?_⟩
    have f3 : FinG X.K ct W σ Z2 H2 (biD b [d, d2]) _ := FinG.here (a := [d2]) f2 ((rel.ext e1).ext e2).sub
    exact ⟨Z2, [d, d2], ((rel.ext e1).ext e2).sub, .cons (hv.ext e2) (.cons hu .nil), f3.fin fun _ => biD_noexc⟩
  · rw [if_neg q] at f1; exact (show False from f1).elim
theorem snd_join {o a : Expr} {ap cp : Pos} {x y : SE} (hb : baseOk o = true) (hl : (ap.endLine == cp.line) = true) (hs : noStar a = true) (ho : PE X o (tS X ct A W O hx x)) (ha : PE X a (tS X ct A W O hx y)) : Both X ct A W O hx (.Call (.Attribute o (sOf "join") ap) [a] [] cp) (.me .join x [y]) :=
  .plain ((pe_bm PySem.F.plainAttrs_str PySem.F.slot_str_join PySem.F.type_str_join bi_join ho (pa_cons ha pa_nil (noStar_each hs)) (base_eq hb) (few1 hs) hl (noStar_each hs) rfl).imp fun σ H Q h => tMe_of (fun d Z H v hr hv _ => by
    cases d with
    | str z => rw [hv.str]; rfl
    | _ => cases hr) h) fun _ => rfl
theorem me1_eq {b : Bi} {x y : SE} {ρ : En} : ev A (.me b x [y]) ρ = (ev A x ρ).bind fun d => if recv b d then (ev A y ρ).bind fun e => biD b [d, e] else .bad := by
  show (ev A x ρ).bind (fun x => if recv b x then (((ev A y ρ).bind fun y => (Res.ok []).bind fun r => Res.ok (y :: r)).bind fun ds => biD b (x :: ds)) else .bad) = _
  congr 1
  funext d
  split
  · cases ev A y ρ <;> rfl
  · rfl
theorem snd_sindex (S : Sit X ct c A L W ev0 hx) {o a : Expr} {ap cp : Pos} {x y : SE} (hb : baseOk o = true) (hl : (ap.endLine == cp.line) = true) (hs : noStar a = true) (ho : PE X o (tS X ct A W O hx x)) (ha : PE X a (tS X ct A W O hx y)) : Both X ct A W O hx (.Call (.Attribute o (sOf "index") ap) [a] [] cp) (.me .sindex x [y]) := by
  refine .plain ((pe_gm ho (pa_cons ha pa_nil (noStar_each hs)) (base_eq hb) (few1 hs) hl (noStar_each hs) rfl).imp fun σ H Q ⟨hh, Z, ρ, rel, fin⟩ => ?_) fun _ => rfl
  rw [me1_eq] at fin
  refine ⟨hh, Z, ρ, rel, fin.bind.mono fun d Z1 H1 _ e1 f1 v hv => ?_⟩
  cases d with
  | str z =>
    have f1 : FinG X.K ct W σ Z1 H1 ((ev A y ρ).bind fun e => biD .sindex [.str z, e]) _ := f1
    refine ⟨"str", "str.index", _, PySem.F.plainAttrs_str, PySem.F.slot_str_index, PySem.F.type_str_index, bi_sindex (ct := ct), fun pins s σ u I r => ?_, hh, Z1, ρ, rel.ext e1, f1.bind.mono fun d2 Z2 H2 _ e2 f2 u hu => ?_⟩
    · refine tyV_is I r ?_
      rw [hv.str]; rfl
    · exact ⟨Z2, z, [d2], ((rel.ext e1).ext e2).sub, hv.ext e2, .cons hu .nil, f2.fin fun _ => biD_noexc⟩
  | lst z =>
    have f1 : FinG X.K ct W σ Z1 H1 ((ev A y ρ).bind fun e => biD .sindex [.lst z, e]) _ := f1
    refine ⟨"list", "list.index", _, PySem.F.plainAttrs_list, PySem.F.slot_list_index, PySem.F.type_list_index, bi_lindex (ct := ct) S.un, fun pins s σ u I r => ?_, hh, Z1, ρ, rel.ext e1, f1.bind.mono fun d2 Z2 H2 _ e2 f2 u hu => ?_⟩
    · refine tyV_is I r ?_
      obtain ⟨a, vs, rfl, h1, _⟩ := hv.lst (rel.ext e1).sub
      exact .inl ⟨rfl, vs, .inl h1⟩
    · exact ⟨Z2, z, [d2], ((rel.ext e1).ext e2).sub, hv.ext e2, .cons hu .nil, f2.fin fun _ => biD_noexc⟩
  | _ => exact (show False from f1).elim
/-- d.get(k), d.get(k, x) -/
theorem gd_ty {H1 : Hp} {a : Addr} {acc : Gd.Acc} {ep : Nat} (h : H1 a = some (Gd.gdO X.w a acc ep)) : ∀ pins s σ v, Inv X pins σ H1 s → RelV (.ref a) v → s.TypeIs v "dict" ∧ ∀ b, v = .ref b → ∃ ob, s.heap.get? b = some ob ∧ ob.dict = none := fun pins s σ v I r => by
  cases r
  exact ⟨(Gd.gd_at I h).1.typeIs, Gd.gd_noDict I h⟩
theorem snd_getN1 (S : Sit X ct c A L W ev0 hx) {o a : Expr} {ap cp : Pos} {x y : SE} (hb : baseOk o = true) (hl : (ap.endLine == cp.line) = true) (hs : noStar a = true) (ho : PE X o (tS X ct A W O hx x)) (ha : PE X a (tS X ct A W O hx y)) : Both X ct A W O hx (.Call (.Attribute o (sOf "get") ap) [a] [] cp) (.me .getN1 x [y]) := by
  refine .plain ((pe_gm ho (pa_cons ha pa_nil (noStar_each hs)) (base_eq hb) (few1 hs) hl (noStar_each hs) rfl).imp fun σ H Q ⟨hh, Z, ρ, rel, fin⟩ => ?_) fun _ => rfl
  rw [me1_eq] at fin
  refine ⟨hh, Z, ρ, rel, fin.bind.mono fun d Z1 H1 _ e1 f1 v hv => ?_⟩
  cases d with
  | gd ps =>
    have f1 : FinG X.K ct W σ Z1 H1 ((ev A y ρ).bind fun e => biD .getN1 [.gd ps, e]) _ := f1
    obtain ⟨ad, acc, ep, rfl, h1, h2⟩ := hv.gd (rel.ext e1).sub
    rw [S.kd.1] at h1
    refine ⟨"dict", "dict.get", _, PySem.F.plainAttrs_dict, PySem.F.slot_dict_get, PySem.F.type_dict_get, Gd.mt_gget (by have := S.un; omega), gd_ty h1, hh, Z1, ρ, rel.ext e1, f1.bind.mono fun d2 Z2 H2 _ e2 f2 u hu => ?_⟩
    have rel2 := (rel.ext e1).ext e2
    by_cases q : kyB d2 = true
    · have h3 := DenG.mono e2.zz _ _ h2
      obtain ⟨l1, _⟩ := h3.look q
      have eb : biD .getN1 [.gd ps, d2] = .ok ((lookD d2 ps).getD .non) := if_pos q
      rw [eb] at f2
      refine ⟨ad, acc, nk d2, u, rfl, ⟨⟨ep, e2.hh _ _ h1⟩, (DenG.mono rel2.sub _ _ h3).stand⟩, (hu.den rel2.sub).kyD q, .inr ⟨rfl, ?_⟩⟩
      cases c : Gd.lookG acc (nk d2) with
      | none => rw [c] at l1; rw [l1] at f2; exact FinG.here f2 rel2.sub _ .non
      | some w' => rw [c] at l1; obtain ⟨z, d3, k1, k2, k3⟩ := l1; rw [k1] at f2; exact ⟨z, k2, FinG.here f2 rel2.sub _ k3⟩
    · have eb : biD .getN1 [.gd ps, d2] = .bad := if_neg q
      rw [eb] at f2; exact (show False from f2).elim
  | _ => exact (show False from f1).elim
theorem few2 {a b : Expr} {cp : Pos} {env : Env} (h : noStar a = true) (h2 : noStar b = true) : ((backTo cp (starEach [a, b] env)).all (fun x => !x.1) && (backToKw cp (keywordEach [] env)).all (fun x => x.1.isSome) && decide (([a, b] : List Expr).length + ([] : List Keyword).length + (if ([] : List Keyword).isEmpty then 0 else 1) < 30)) = true := by
  rw [noStar_each h, noStar_each h2]
  rfl
theorem plain2 {b : Expr} {cp : Pos} {env : Env} (h2 : noStar b = true) : (backTo cp (starEach [b] env)).any (·.1) = false := by
  rw [noStar_each h2]
  rfl
theorem snd_getN (S : Sit X ct c A L W ev0 hx) {o a b : Expr} {ap cp : Pos} {x y z : SE} (hb : baseOk o = true) (hl : (ap.endLine == cp.line) = true) (hs : noStar a = true) (hs2 : noStar b = true) (ho : PE X o (tS X ct A W O hx x)) (ha : PE X a (tS X ct A W O hx y)) (hz : PE X b (tE X ct A W O hx z)) : Both X ct A W O hx (.Call (.Attribute o (sOf "get") ap) [a, b] [] cp) (.me .getN x [y, z]) := by
  refine .plain ((pe_gm ho (pa_cons ha (pa_cons hz pa_nil (noStar_each hs2)) (noStar_each hs)) (base_eq hb) (few2 hs hs2) hl (noStar_each hs) (plain2 hs2)).imp fun σ H Q ⟨hh, Z, ρ, rel, fin⟩ => ?_) fun _ => rfl
  have fin : FinG X.K ct W σ Z H ((ev A x ρ).bind fun d => if recv .getN d then (((ev A y ρ).bind fun y => ((ev A z ρ).bind fun z => (Res.ok []).bind fun r => Res.ok (z :: r)).bind fun r => Res.ok (y :: r)).bind fun ds => biD .getN (d :: ds)) else .bad) _ := fin
  refine ⟨hh, Z, ρ, rel, fin.bind.mono fun d Z1 H1 _ e1 f1 v hv => ?_⟩
  cases d with
  | gd ps =>
    have f1 : FinG X.K ct W σ Z1 H1 (((ev A y ρ).bind fun y => ((ev A z ρ).bind fun z => (Res.ok []).bind fun r => Res.ok (z :: r)).bind fun r => Res.ok (y :: r)).bind fun ds => biD .getN (.gd ps :: ds)) _ := f1
    obtain ⟨ad, acc, ep, rfl, h1, h2⟩ := hv.gd (rel.ext e1).sub
    rw [S.kd.1] at h1
    refine ⟨"dict", "dict.get", _, PySem.F.plainAttrs_dict, PySem.F.slot_dict_get, PySem.F.type_dict_get, Gd.mt_gget (by have := S.un; omega), gd_ty h1, hh, Z1, ρ, rel.ext e1, f1.bind.bind.mono fun d2 Z2 H2 _ e2 f2 u hu => ?_⟩
    refine ⟨hh, Z2, ρ, (rel.ext e1).ext e2, f2.bind.bind.mono fun d3 Z3 H3 _ e3 f3 u3 hu3 => ?_⟩
    have rel3 := ((rel.ext e1).ext e2).ext e3
    have f4 : FinG X.K ct W σ Z3 H3 (biD .getN [.gd ps, d2, d3]) _ := FinG.here (a := [d2, d3]) (FinG.here (a := [d3]) f3 rel3.sub) rel3.sub
    by_cases q : kyB d2 = true
    · have h3 := DenG.mono (e2.zz.trans e3.zz) _ _ h2
      obtain ⟨l1, _⟩ := h3.look q
      have eb : biD .getN [.gd ps, d2, d3] = .ok ((lookD d2 ps).getD d3) := if_pos q
      rw [eb] at f4
      refine ⟨ad, acc, nk d2, u, rfl, ⟨⟨ep, e3.hh _ _ (e2.hh _ _ h1)⟩, (DenG.mono rel3.sub _ _ h3).stand⟩, ((hu.ext e3).den rel3.sub).kyD q, .inl ⟨u3, rfl, ?_⟩⟩
      cases c : Gd.lookG acc (nk d2) with
      | none => rw [c] at l1; rw [l1] at f4; exact FinG.here f4 rel3.sub _ hu3
      | some w' => rw [c] at l1; obtain ⟨z, d3, k1, k2, k3⟩ := l1; rw [k1] at f4; exact ⟨z, k2, FinG.here f4 rel3.sub _ k3⟩
    · have eb : biD .getN [.gd ps, d2, d3] = .bad := if_neg q
      rw [eb] at f4; exact (show False from f4).elim
  | _ => exact (show False from f1).elim
/-! ### lists of expressions -/
theorem snd_asNil : PA X [] (tAs X ct A W O hx []) := pa_nil.imp fun σ H Q ⟨hh, Z, ρ, rel, fin⟩ => FinG.here (a := ([] : List D)) fin rel.sub [] .nil
theorem snd_asCons {e : Expr} {es : List Expr} {x : SE} {xs : List SE} (he : PE X e (tE X ct A W O hx x)) (hr : PA X es (tAs X ct A W O hx xs)) (hs : noStar e = true) : PA X (e :: es) (tAs X ct A W O hx (x :: xs)) := by
  refine (pa_cons he hr (noStar_each hs)).imp fun σ H Q ⟨hh, Z, ρ, rel, fin⟩ => ?_
  have fin : FinG X.K ct W σ Z H ((ev A x ρ).bind fun x => (evs A xs ρ).bind fun r => Res.ok (x :: r)) _ := fin
  refine ⟨hh, Z, ρ, rel, fin.bind.mono fun d Z1 H1 _ e1 f1 v hv => ⟨hh, Z1, ρ, rel.ext e1, f1.bind.mono fun ds Z2 H2 _ e2 f2 vs hvs => ?_⟩⟩
  exact FinG.here (a := d :: ds) f2 ((rel.ext e1).ext e2).sub (v :: vs) (.cons (Den.mono e2.zz _ _ hv) hvs)
theorem snd_tsNil : PTs X [] (tTs X ct A W O hx []) := pts_nil.imp fun σ H Q ⟨hh, Z, ρ, rel, fin⟩ => FinG.here (a := true) fin rel.sub
end
end Tk
/-! Fields and methods of the text's own classes. -/
namespace Tk
open PySem PySem.Spec PyProof.Rows L2
open D
section
variable {X : Cx} {ct : CT} {c : CE} {A : Ar} {L : Nat} {W : WX} {O : List Nat} {ev0 : Option Str} {hx : Option (Nat × Addr)}
theorem att_eq {o : Expr} {m : Str} {env : Env} {wh : Sem Value} (h : attOk o = true) : attributeBase o m env wh = wh := by
  cases o with
  | Call f args kw p =>
    cases args with
    | nil => cases h
    | cons a r => cases f <;> rfl
  | _ => rfl
theorem lookup_zip {fs : List (Str × V)} {k : Str} : ∀ {i : Nat}, (fs.map (·.1)).findIdx? (· == k) = some i → ∃ v, fs.lookup k = some v ∧ (fs.map (·.2))[i]? = some v := by
  induction fs with
  | nil => intro i h; cases h
  | cons a r ih =>
    intro i h
    rw [List.map_cons, List.findIdx?_cons] at h
    obtain ⟨n, v⟩ := a
    by_cases e : (n == k) = true
    · rw [if_pos e] at h
      cases h
      exact ⟨v, by rw [List.lookup_cons, BEq.comm, e], rfl⟩
    · rw [if_neg e] at h
      cases q : (r.map (·.1)).findIdx? (· == k) with
      | none => rw [q] at h; cases h
      | some j =>
        rw [q] at h
        cases h
        obtain ⟨v2, g1, g2⟩ := ih q
        refine ⟨v2, ?_, ?_⟩
        · have e2 : (k == n) = false := by rw [BEq.comm]; exact Bool.eq_false_iff.mpr e
          rw [List.lookup_cons, e2]
          exact g1
        · rw [List.map_cons, List.getElem?_cons_succ]
          exact g2
theorem lookup_no {fs : List (Str × V)} {k : Str} (h : k ∉ fs.map (·.1)) : fs.lookup k = none := by
  induction fs with
  | nil => rfl
  | cons a r ih =>
    rw [List.map_cons, List.mem_cons, not_or] at h
    have e : (k == a.1) = false := Bool.eq_false_iff.mpr fun z => h.1 (beq_iff_eq.mp z)
    obtain ⟨n, v⟩ := a
    rw [List.lookup_cons, e]
    exact ih h.2
theorem ShDen.obj {K : PySem.W.Frag} {Z H : Hp} {v : V} {k : Nat} {ds : List D} (x : ShDen K ct Z H v (.obj k ds)) (s : Same Z H) : ∃ a C dx ns fs, v = .ref a ∧ H a = some (.ins C dx fs) ∧ ct.cl k = some (C, ns) ∧ fs.map (·.1) = ns ∧ DenAll K ct Z (fs.map (·.2)) ds := by
  rcases x with x | ⟨a, r, n, o⟩
  · cases x with
    | obj h1 h2 h3 h4 => exact ⟨_, _, _, _, _, rfl, s _ _ h1, h2, h3, h4⟩
  · rcases o with ⟨vs, ds, r, h1, h2⟩ | ⟨kvs, ps, r, h1, h2⟩ <;> cases r
theorem snd_fld (S : Sit X ct c A L W ev0 hx) {o : Expr} {k : Str} {p : Pos} {x : SE} (hb : attOk o = true) (ho : PE X o (tS X ct A W O hx x)) : Both X ct A W O hx (.Attribute o k p) (.fld x k) := by
  refine .plain ((pe_fld ho (att_eq hb)).imp fun σ H Q ⟨hh, Z, ρ, rel, fin⟩ => ?_) fun _ => rfl
  have fin : FinG X.K ct W σ Z H ((ev A x ρ).bind fun x => match x with
    | .obj c fs => (match (A.fl c).findIdx? (· == k) with
      | some i => (match fs[i]? with | some d => .ok d | none => .bad)
      | none => .bad)
    | _ => .bad) _ := fin
  refine ⟨hh, Z, ρ, rel, fin.bind.mono fun d Z1 H1 _ e1 f1 v hv => ?_⟩
  have sz := (rel.ext e1).sub
  cases d with
  | obj cn ds =>
    obtain ⟨a, C, dx, ns, fs, rfl, g1, g2, g3, g4⟩ := hv.obj sz
    obtain ⟨c1, c2, c3⟩ := S.cls cn C ns g2
    dsimp only at f1
    rw [c3] at f1
    split at f1
    · rename_i i hi
      split at f1
      · rename_i d hd
        have hk : k ∈ ns := by
          obtain ⟨hi2, q, _⟩ := List.findIdx?_eq_some_iff_getElem.mp hi
          rw [← beq_iff_eq.mp q]
          exact List.getElem_mem hi2
        rw [← g3] at hi
        obtain ⟨v, l1, l2⟩ := lookup_zip hi
        obtain ⟨v2, l3, l4⟩ := g4.get hd
        rw [l2] at l3
        cases l3
        exact ⟨a, C, dx, fs, v, rfl, g1, c1, c2 k hk, l1, FinG.here f1 sz v l4⟩
      · exact (show False from f1).elim
    · exact (show False from f1).elim
  | _ => exact (show False from f1).elim
theorem meth_ev {o : Expr} {m : Str} {apos pos : Pos} {args : List Expr} {env : Env} (hb : baseOk o = true) (hl : (apos.endLine == pos.line) = true) (hs : ∀ e ∈ args, noStar e = true) (hn : args.length < 29) : eval (.Call (.Attribute o m apos) args [] pos) env = (do
      let ov ← eval o env
      standAt apos.atName
      let (f, first) ← holding [ov] (getMethod ov m (do return (← importBound o env).getD true))
      callWith pos f first (backTo pos (starEach args env)) (backToKw pos (keywordEach [] env))) := by
  have few : methodCallForm (args.length + ([] : List Keyword).length) (backTo pos (starEach args env)) (backToKw pos (keywordEach [] env)) = true := by
    unfold methodCallForm
    have e1 : (backTo pos (starEach args env)).all (fun x => !x.1) = true := by
      have := backTo_any (pos := pos) (env := env) hs
      rw [List.any_eq_false] at this
      rw [List.all_eq_true]
      intro x hx
      have := this x hx
      simpa using this
    rw [e1]
    show (true && decide (args.length + 0 + 0 < 30)) = true
    rw [decide_eq_true (by omega)]
    rfl
  have e0 : eval (.Call (.Attribute o m apos) args [] pos) env = (do
      let ov ← attributeBase o m env (eval o env)
      standAt apos.atName
      let (f, first) ← holding [ov] (calleeOf (methodCallForm (args.length + ([] : List Keyword).length) (backTo pos (starEach args env)) (backToKw pos (keywordEach [] env))) o env ov m)
      let callPos ← methodCallPos (methodCallForm (args.length + ([] : List Keyword).length) (backTo pos (starEach args env)) (backToKw pos (keywordEach [] env))) o env apos pos
      callWith callPos f first (backTo pos (starEach args env)) (backToKw pos (keywordEach [] env))) := rfl
  rw [e0, few, base_eq hb]
  have e2 : methodCallPos true o env apos pos = pure pos := by
    unfold methodCallPos
    rw [hl]
    rfl
  rw [e2]
  rfl
theorem noEx_ok {r : Res D} {d : D} (h : noEx r = .ok d) : r = .ok d := by
  cases r <;> first | exact h | cases h
theorem meth_of (S : Sit X ct c A L W ev0 hx) (h0 : ev0 = none) {k : Nat} {m : Str} {g : List D → Res D} {ses : List SE} {σ : L2.St} {H : Hp} {Q : VK} {Z : Hp} {ρ : En} {x : SE} {fds : List D} {C : Addr} {ns : List Str} {n : Nat} (hc : ct.cl k = some (C, ns)) (hm : m ∉ ns) (hg : A.Ψ k m = some g) (hlen : ∀ ds, g ds ≠ .bad → ds.length = n) (hh : HotOk hx σ) (rel : RelE X.K ct Z H O σ ρ) (he : ev A x ρ = .ok (.obj k fds))
    (fin : FinG X.K ct W σ Z H (ev A (.meth x m ses) ρ) (fun d Z' H' => ∀ v, Den X.K ct Z' v d → Q v H')) : tMeth C m (spF (spD X.K ct g n)) [] (fun _ _ _ => False) (tE X ct A W O hx x) (tAs X ct A W O hx ses) σ H Q := by
  have e0 : ev A (.meth x m ses) ρ = (noEx (ev A x ρ)).bind fun x => match x with
    | .obj c fs => (match A.Ψ c m with
      | some g => (evs A ses ρ).bind fun ds => noEx (g (.obj c fs :: ds))
      | none => .bad)
    | _ => .bad := rfl
  rw [e0, he] at fin
  have fin : FinG X.K ct W σ Z H (match A.Ψ k m with
      | some g => (evs A ses ρ).bind fun ds => noEx (g (.obj k fds :: ds))
      | none => .bad) (fun d Z' H' => ∀ v, Den X.K ct Z' v d → Q v H') := fin
  rw [hg] at fin
  refine ⟨hh, Z, ρ, rel, ?_⟩
  rw [he]
  intro Z1 H1 e1 v hv
  have f1 := FinG.ext fin e1
  have sz := (rel.ext e1).sub
  obtain ⟨a, C', dx, ns', fs, rfl, g1, g2, g3, g4⟩ := (ShDen.of_den (H := H1) hv).obj sz
  rw [hc] at g2
  cases g2
  refine ⟨a, dx, fs, rfl, g1, lookup_no (by rw [g3]; exact hm), hh, Z1, ρ, rel.ext e1, FinG.bind f1 |>.mono fun ds Z2 H2 _ e2 f2 vs hvs => ?_⟩
  have r2 := (rel.ext e1).ext e2
  show spF (spD X.K ct g n) (V.ref a :: (vs ++ [])) H2 Q fun _ _ _ => False
  rw [List.append_nil]
  refine ⟨Z2, r2.sub, r2.dif, ?_, .obj k fds :: ds, .cons (Den.mono e2.zz _ _ hv) hvs, ?_⟩
  · have : g (.obj k fds :: ds) ≠ .bad := fun z => by rw [z] at f2; exact f2
    have := hlen _ this
    rw [← this, List.length_cons, List.length_cons, hvs.length]
  · cases q : g (.obj k fds :: ds) with
    | ok d => rw [q] at f2; exact fun v H3 _ hd H' e => f2 H3 H' e v hd
    | exc z => rw [q] at f2; exact (show False from f2).elim
    | bad => rw [q] at f2; exact (show False from f2).elim
theorem snd_meth (S : Sit X ct c A L W ev0 hx) (h0 : ev0 = none) {o : Expr} {m : Str} {ap cp : Pos} {args : List Expr} {x : SE} {ses : List SE} (hb : baseOk o = true) (hl : (ap.endLine == cp.line) = true) (ho : PE X o (tE X ct A W O hx x)) (ha : PA X args (tAs X ct A W O hx ses)) (hst : ∀ e ∈ args, noStar e = true) (hn : args.length < 29) (hnil : args = [] → ses = []) : Both X ct A W O hx (.Call (.Attribute o m ap) args [] cp) (.meth x m ses) := by
  refine .plain ⟨fun pins s σ H Q I ⟨hh, Z, ρ, rel, fin⟩ => ?_⟩ fun _ => rfl
  have px := passes_call (E := fun _ _ _ => False) S.tk fun _ _ _ _ h => h.elim
  have e0 : ev A (.meth x m ses) ρ = (noEx (ev A x ρ)).bind fun x => match x with
    | .obj c fs => (match A.Ψ c m with
      | some g => (evs A ses ρ).bind fun ds => noEx (g (.obj c fs :: ds))
      | none => .bad)
    | _ => .bad := rfl
  have gen : ∀ k fds g, ev A x ρ = .ok (.obj k fds) → A.Ψ k m = some g → wpAny (model X.prog X.w) X.A (eval (.Call (.Attribute o m ap) args [] cp) X.env) (EP X pins σ Q) X.xe s := by
    intro k fds g he hg
    obtain ⟨C, ns, f, fd, ps, hc, hm, hM, h3, hlen, h4⟩ := S.meth k m g hg
    obtain ⟨c1, _, _⟩ := S.cls k C ns hc
    have key := meth_of S h0 hc hm hg hlen hh rel he fin
    cases args with
    | nil =>
      have e := hnil rfl
      subst e
      refine (pe_meth0 ho c1 hM h4 (S.room h0) h3 .nil px (meth_ev hb hl hst hn)).run pins s σ H Q I ?_
      obtain ⟨_, Z', ρ', rel', fin'⟩ := key
      exact ⟨hh, Z', ρ', rel', fin'.mono fun d Z1 H1 _ e1 q v hv => by
        obtain ⟨a, dx, fs, q1, q2, q3, _, Z2, ρ2, r2, f2⟩ := q v hv
        exact ⟨a, dx, fs, q1, q2, q3, FinG.here (a := ([] : List D)) f2 r2.sub [] .nil⟩⟩
    | cons e es => exact (pe_meth ho c1 hM h4 (S.room h0) h3 .nil px ha (noStar_each (hst e List.mem_cons_self)) (backTo_any fun e' he => hst e' (List.mem_cons_of_mem _ he)) (meth_ev hb hl hst hn)).run pins s σ H Q I key
  cases q : ev A x ρ with
  | bad => rw [e0, q] at fin; exact (show False from fin).elim
  | exc k =>
    rw [e0, q] at fin
    exact (show False from fin).elim
  | ok d =>
    cases d with
    | obj k fds =>
      cases hg : A.Ψ k m with
      | none => rw [e0, q] at fin; dsimp only [noEx, Res.bind] at fin; rw [hg] at fin; exact (show False from fin).elim
      | some g => exact gen k fds g q hg
    | _ => rw [e0, q] at fin; exact (show False from fin).elim
theorem snd_min2 (S : Sit X ct c A L W ev0 hx) (h0 : ev0 = none) {p pos : Pos} {a b : Expr} {x y : SE} (hg : gloB X.env.scope (sOf "min") = true) (hfr : c.free.contains (sOf "min") = true) (hs : noStar a = true) (hs2 : noStar b = true) (ha : PE X a (tS X ct A W O hx x)) (hb : PE X b (tS X ct A W O hx y)) : Both X ct A W O hx (.Call (.Name (sOf "min") p) [a, b] [] pos) (.bi .min2 [x, y]) := by
  refine .plain ((pe_callB (call_min2 (S.calm h0)) (gloB_gl hg) (S.free _ hfr) PyProof.Rows.boot_min (pa_cons ha (pa_cons hb pa_nil (noStar_each hs2)) (noStar_each hs)) (he := noStar_each hs) (hpl := plain2 hs2)).imp fun σ H Q ⟨hh, Z, ρ, rel, fin⟩ => ?_) fun _ => rfl
  have fin : FinG X.K ct W σ Z H (((ev A x ρ).bind fun x => ((ev A y ρ).bind fun y => (Res.ok []).bind fun r => Res.ok (y :: r)).bind fun r => Res.ok (x :: r)).bind fun ds => biD .min2 ds) _ := fin
  refine ⟨hh, Z, ρ, rel, fin.bind.bind.mono fun d1 Z1 H1 _ e1 f1 v hv => ?_⟩
  refine ⟨hh, Z1, ρ, rel.ext e1, f1.bind.bind.mono fun d2 Z2 H2 _ e2 f2 u hu => ?_⟩
  have rel2 := (rel.ext e1).ext e2
  have f3 : FinG X.K ct W σ Z2 H2 (biD .min2 [d1, d2]) _ := FinG.here (a := [d1, d2]) (FinG.here (a := [d2]) f2 rel2.sub) rel2.sub
  cases d1 with
  | int i =>
    cases d2 with
    | int j =>
      have e3 := hv.int
      have e4 := hu.int
      subst e3 e4
      exact ⟨i, j, rfl, FinG.here (a := D.int (if j < i then j else i)) f3 rel2.sub _ (.int _)⟩
    | _ => exact (show False from f3).elim
  | _ => exact (show False from f3).elim
end
end Tk
/-! sorted(set(xs)); list(range(n)); {} and {k: v}. -/
namespace Tk
open PySem PySem.Spec PyProof.Rows L2
open D
/-! ### ascending lists -/
structure Strict {α : Type} (lt : α → α → Bool) : Prop where
  irr : ∀ a, lt a a = false
  tr : ∀ a b c, lt a b = true → lt b c = true → lt a c = true
  tot : ∀ a b, lt a b = true ∨ a = b ∨ lt b a = true
section
variable {α : Type} {lt : α → α → Bool}
theorem mem_insU (s : Strict lt) (x y : α) : ∀ l : List α, y ∈ insU lt x l ↔ y = x ∨ y ∈ l
  | [] => by simp [insU]
  | z :: r => by
    unfold insU
    split
    · simp
    · split
      · rw [List.mem_cons, mem_insU s x y r, List.mem_cons]
        constructor
        · rintro (h | h | h)
          · exact .inr (.inl h)
          · exact .inl h
          · exact .inr (.inr h)
        · rintro (h | h | h)
          · exact .inr (.inl h)
          · exact .inl h
          · exact .inr (.inr h)
      · rename_i c1 c2
        have e : x = z := by
          rcases s.tot x z with h | h | h
          · exact absurd h c1
          · exact h
          · exact absurd h c2
        subst e
        simp
theorem mem_sortU (s : Strict lt) (y : α) : ∀ l : List α, y ∈ sortU lt l ↔ y ∈ l
  | [] => by simp [sortU]
  | x :: l => by
    show y ∈ insU lt x (sortU lt l) ↔ _
    rw [mem_insU s, mem_sortU s y l, List.mem_cons]
theorem pw_insU (s : Strict lt) (x : α) : ∀ l : List α, l.Pairwise (fun a b => lt a b = true) → (insU lt x l).Pairwise (fun a b => lt a b = true)
  | [], _ => by simp [insU]
  | z :: r, h => by
    obtain ⟨h1, h2⟩ := List.pairwise_cons.mp h
    unfold insU
    split
    · rename_i c
      refine List.pairwise_cons.mpr ⟨fun y hy => ?_, h⟩
      rcases List.mem_cons.mp hy with rfl | hy
      · exact c
      · exact s.tr _ _ _ c (h1 y hy)
    · split
      · rename_i c
        refine List.pairwise_cons.mpr ⟨fun y hy => ?_, pw_insU s x r h2⟩
        rcases (mem_insU s x y r).mp hy with rfl | hy
        · exact c
        · exact h1 y hy
      · exact h
theorem pw_sortU (s : Strict lt) : ∀ l : List α, (sortU lt l).Pairwise (fun a b => lt a b = true)
  | [] => by simp [sortU]
  | x :: l => pw_insU s x _ (pw_sortU s l)
/-- one ascending list for the same members -/
theorem asc_uniq (s : Strict lt) : ∀ {a b : List α}, a.Pairwise (fun a b => lt a b = true) → b.Pairwise (fun a b => lt a b = true) → (∀ y, y ∈ a ↔ y ∈ b) → a = b
  | [], [], _, _, _ => rfl
  | [], y :: b, _, _, h => by have := (h y).mpr (by simp); simp at this
  | x :: a, [], _, _, h => by have := (h x).mp (by simp); simp at this
  | x :: a, y :: b, ha, hb, h => by
    obtain ⟨a1, a2⟩ := List.pairwise_cons.mp ha
    obtain ⟨b1, b2⟩ := List.pairwise_cons.mp hb
    have e : x = y := by
      rcases List.mem_cons.mp ((h x).mp (by simp)) with e | e
      · exact e
      rcases List.mem_cons.mp ((h y).mpr (by simp)) with e2 | e2
      · exact e2.symm
      have := s.tr _ _ _ (a1 y e2) (b1 x e)
      rw [s.irr] at this
      cases this
    subst e
    rw [asc_uniq s a2 b2 fun z => ?_]
    constructor
    · intro hz
      rcases List.mem_cons.mp ((h z).mp (by simp [hz])) with e | e
      · subst e
        have := a1 z hz
        rw [s.irr] at this; cases this
      · exact e
    · intro hz
      rcases List.mem_cons.mp ((h z).mpr (by simp [hz])) with e | e
      · subst e
        have := b1 z hz
        rw [s.irr] at this; cases this
      · exact e
theorem asc_nodup (s : Strict lt) {a : List α} (h : a.Pairwise (fun a b => lt a b = true)) : a.Nodup := by
  refine List.Pairwise.imp (fun {x y} hxy e => ?_) h
  subst e
  rw [s.irr] at hxy; cases hxy
end
theorem ltI_strict : Strict ltI := ⟨fun a => by simp [ltI], fun a b c h1 h2 => by simp [ltI] at *; omega, fun a b => by simp only [ltI, decide_eq_true_eq]; omega⟩
theorem ltL_irr : ∀ a, ltL a a = false
  | [] => rfl
  | x :: xs => by simp [ltL, ltL_irr xs]
theorem ltL_tr : ∀ a b c, ltL a b = true → ltL b c = true → ltL a c = true
  | [], _, [], h, h2 => by
    rename_i b
    cases b with
    | nil => exact h
    | cons _ _ => cases h2
  | [], _, _ :: _, h, h2 => rfl
  | x :: xs, [], _, h, _ => by cases h
  | x :: xs, y :: ys, [], _, h => by cases h
  | x :: xs, y :: ys, z :: zs, h, h2 => by
    simp only [ltL, Bool.or_eq_true, Bool.and_eq_true, decide_eq_true_eq] at h h2 ⊢
    rcases h with h | ⟨h, k⟩
    · rcases h2 with h2 | ⟨h2, k2⟩
      · exact .inl (by omega)
      · exact .inl (by omega)
    · rcases h2 with h2 | ⟨h2, k2⟩
      · exact .inl (by omega)
      · exact .inr ⟨by omega, ltL_tr xs ys zs k k2⟩
theorem ltL_tot : ∀ a b, ltL a b = true ∨ a = b ∨ ltL b a = true
  | [], [] => .inr (.inl rfl)
  | [], _ :: _ => .inl rfl
  | _ :: _, [] => .inr (.inr rfl)
  | x :: xs, y :: ys => by
    simp only [ltL, Bool.or_eq_true, Bool.and_eq_true, decide_eq_true_eq]
    rcases Int.lt_trichotomy x y with h | h | h
    · exact .inl (.inl h)
    · subst h
      rcases ltL_tot xs ys with k | k | k
      · exact .inl (.inr ⟨rfl, k⟩)
      · exact .inr (.inl (by rw [k]))
      · exact .inr (.inr (.inr ⟨rfl, k⟩))
    · exact .inr (.inr (.inl h))
theorem ltL_strict : Strict ltL := ⟨ltL_irr, ltL_tr, ltL_tot⟩
theorem code_bd {B : Int} (hB : 0 < B) : ∀ {a : List Int}, TS.Bd B a → 0 ≤ TS.code B a ∧ TS.code B a < B ^ a.length
  | [], _ => by simp [TS.code]
  | x :: xs, h => by
    obtain ⟨h1, h2⟩ := code_bd hB h.tail
    obtain ⟨k1, k2⟩ := TS.num1 h1 h2 h.head.1 h.head.2
    refine ⟨k1, ?_⟩
    show x * B ^ xs.length + TS.code B xs < B ^ (xs.length + 1)
    rw [Int.pow_succ]
    exact k2
theorem code_lt {B : Int} (hB : 0 < B) : ∀ {a b : List Int}, a.length = b.length → TS.Bd B a → TS.Bd B b → ltL a b = true → TS.code B a < TS.code B b
  | [], [], _, _, _, h => by cases h
  | x :: xs, y :: ys, hl, ha, hb, h => by
    have hl' : xs.length = ys.length := by simpa using hl
    simp only [ltL, Bool.or_eq_true, Bool.and_eq_true, decide_eq_true_eq] at h
    show x * B ^ xs.length + TS.code B xs < y * B ^ ys.length + TS.code B ys
    rw [← hl']
    rcases h with h | ⟨rfl, k⟩
    · obtain ⟨a1, a2⟩ := code_bd hB ha.tail
      obtain ⟨b1, b2⟩ := code_bd hB hb.tail
      have e : (x + 1) * B ^ xs.length ≤ y * B ^ xs.length := Int.mul_le_mul_of_nonneg_right (by omega) (by omega)
      rw [Int.add_mul, Int.one_mul] at e
      omega
    · have := code_lt hB hl' ha.tail hb.tail k
      omega
  | [], _ :: _, h, _, _, _ => by simp at h
  | _ :: _, [], h, _, _, _ => by simp at h
/-! ### the rule -/
section
variable {ct : CT} {c : CE} {A : Ar} {L : Nat} {ev0 : Option Str} {hx : Option (Nat × Addr)} {n : Nat} {X : Cx} {W : WX} {O : List Nat}
theorem den_rows {K : PySem.W.Frag} {Z : Hp} : ∀ {vs : List V} {ds : List D} {rs : List (List Int)}, DenAll K ct Z vs ds → rowsO ds = some rs → ∃ ks : List (Addr × List Int), vs = (ks.map fun p => V.ref p.1) ∧ ks.map (·.2) = rs ∧ ∀ p ∈ ks, SqT K Z p.1 (p.2.map V.int)
  | _, _, rs, .nil, e => by cases e; exact ⟨[], rfl, rfl, fun p hp => by cases hp⟩
  | _ :: _, d :: ds, rs, .cons h1 h2, e => by
    cases d with
    | tup xs =>
      simp only [rowsO] at e
      split at e
      · rename_i ns rs2 e1 e2
        cases e
        obtain ⟨ks, rfl, k1, k2⟩ := den_rows h2 e2
        cases h1 with
        | tup t1 t2 =>
          rename_i a vs
          rw [den_intsO t2 e1] at t1
          refine ⟨(a, ns) :: ks, rfl, by simp [k1], fun p hp => ?_⟩
          rcases List.mem_cons.mp hp with rfl | hp
          · exact t1
          · exact k2 p hp
      · cases e
    | _ => cases e
theorem den_ints {K : PySem.W.Frag} {Z : Hp} : ∀ ns : List Int, DenAll K ct Z (ns.map V.int) (ns.map D.int)
  | [] => .nil
  | n :: ns => .cons (.int n) (den_ints ns)
theorem den_refs {K : PySem.W.Frag} {Z : Hp} : ∀ (L : List (Addr × List Int)), (∀ p ∈ L, SqT K Z p.1 (p.2.map V.int)) → DenAll K ct Z (L.map fun p => V.ref p.1) (L.map fun p => D.tup (p.2.map D.int))
  | [], _ => .nil
  | p :: L, h => .cons (.tup (h p (by simp)) (den_ints p.2)) (den_refs L fun q hq => h q (by simp [hq]))
theorem perm_len {a b : List Int} (ha : a.Nodup) (hb : b.Nodup) (h : ∀ k, k ∈ a ↔ k ∈ b) : a.length = b.length := by
  refine (List.perm_iff_count.mpr fun x => ?_).length_eq
  rw [List.Nodup.count ha, List.Nodup.count hb]
  simp [h x]
theorem snd_sortedSet (S : Sit X ct c A L W ev0 hx) (h0 : ev0 = none) {p p2 q pos : Pos} {a : Expr} {x : SE} (hg : gloB X.env.scope (sOf "sorted") = true) (hfr : c.free.contains (sOf "sorted") = true) (hg2 : gloB X.env.scope (sOf "set") = true) (hfr2 : c.free.contains (sOf "set") = true) (hs : noStar a = true) (ha : PE X a (tS X ct A W O hx x)) : Both X ct A W O hx (.Call (.Name (sOf "sorted") p) [.Call (.Name (sOf "set") p2) [a] [] q] [] pos) (.bi .sortedSet [x]) := by
  have hc := S.calm h0
  have hu := S.un
  have p1 : PE X (.Call (.Name (sOf "set") p2) [a] [] q) _ := pe_callTy ((Gs.cr_setI hc).or (cr_setOfT hc (by omega))) (gloB_gl hg2) (S.free _ hfr2) (by decide +kernel) (pa_cons ha pa_nil (noStar_each hs)) (by decide) (by decide) (noStar_each hs) rfl
  have p3 := pe_callB ((cr_sortedSet hc).or (cr_sortedT hc)) (p := p) (pos := pos) (gloB_gl hg) (S.free _ hfr) (by decide +kernel) (pa_cons p1 pa_nil rfl) (by decide) (by decide) rfl rfl
  refine .plain (p3.imp fun σ H Q ⟨hh, Z, ρ, rel, fin⟩ => ?_) fun _ => rfl
  rw [bi1_eq] at fin
  refine ⟨hh, Z, ρ, rel, fin.bind.mono fun d Z1 H1 _ e1 f1 v hv => ?_⟩
  have sz := (rel.ext e1).sub
  have onI : ∀ (l : Addr) (vs : List V) (ds : List D) (ns : List Int), (SqL X.K H1 l vs ∨ SqT X.K H1 l vs) → DenAll X.K ct Z1 vs ds → intsO ds = some ns → FinG X.K ct W σ Z1 H1 (sortSetD ds) (fun d Z' H' => ∀ v, Den X.K ct Z' v d → Q v H') →
      (Gs.rSetI X.K X.w [V.ref l] H1 (fun x H2 => rSortedSet X.w [x] H2 Q ∨ rSortedT X.K X.prog X.w [x] H2 Q) ∨ rSetOfT X.K X.prog X.w [V.ref l] H1 (fun x H2 => rSortedSet X.w [x] H2 Q ∨ rSortedT X.K X.prog X.w [x] H2 Q)) := by
    intro l vs ds ns hl hd e f
    have ev : vs = ns.map V.int := den_intsO hd e
    subst ev
    have es : sortSetD ds = (if decide (ns.length < 4000) && decide ((sortU ltI ns).length < 64) then .ok (.lst ((sortU ltI ns).map .int)) else .bad) := by unfold sortSetD; rw [e]
    rw [es] at f
    by_cases cc : (decide (ns.length < 4000) && decide ((sortU ltI ns).length < 64)) = true
    · rw [if_pos cc] at f
      obtain ⟨c1, c2⟩ := Bool.and_eq_true_iff.mp cc
      refine .inl ⟨l, ns, rfl, hl, of_decide_eq_true c1, fun b k hb ⟨ks, k1, k2, k3⟩ => ?_⟩
      have hk : k < 64 := by
        rw [← k2, perm_len k1 (asc_nodup ltI_strict (pw_sortU ltI_strict ns)) fun y => by rw [k3, mem_sortU ltI_strict]]
        exact of_decide_eq_true c2
      refine .inl ⟨b, _, k, rfl, upd_same, hk, fun zs pp z1 z2 _ hp => ?_⟩
      have ez : zs = sortU ltI ns := asc_uniq ltI_strict (List.Pairwise.imp (fun {x y} h => by simpa [ltI] using h) z1) (pw_sortU ltI_strict ns) fun y => by rw [z2, mem_sortU ltI_strict]; simp
      subst ez
      have x1 : Ext Z1 H1 (upd Z1 b (SetO X.w b (fun j => decide (j ∈ ns)) k)) (upd H1 b (SetO X.w b (fun j => decide (j ∈ ns)) k)) := .mk1 sz hb
      have x2 := x1.trans (Ext.mk1 (o := .lst ((sortU ltI ns).map V.int)) x1.zh hp)
      exact f _ _ x2 _ (den_lstNew (x1.zh.free hp) (den_ints _))
    · rw [if_neg cc] at f; exact (show False from f).elim
  cases d with
  | tup ds =>
    obtain ⟨l, vs, rfl, h1, h2⟩ := hv.tup sz
    have f1 : FinG X.K ct W σ Z1 H1 (if (intsO ds).isSome then sortSetD ds else .bad) _ := f1
    cases e : intsO ds with
    | none => rw [e] at f1; exact (show False from f1).elim
    | some ns =>
      rw [e] at f1
      exact onI l vs ds ns (.inr h1) h2 e f1
  | lst ds =>
    obtain ⟨l, vs, rfl, h1, h2⟩ := hv.lst sz
    have f1 : FinG X.K ct W σ Z1 H1 (sortSetD ds) _ := f1
    cases e : intsO ds with
    | some ns => exact onI l vs ds ns (.inl (.inl h1)) h2 e f1
    | none =>
      have es : sortSetD ds = (match rowsO ds with | some rs => if rowsOk rs then .ok (.lst ((sortU ltL rs).map fun r => .tup (r.map .int))) else .bad | none => .bad) := by simp only [sortSetD, e] <;> (cases rowsO ds <;> rfl)
      rw [es] at f1
      cases e2 : rowsO ds with
      | none => rw [e2] at f1; exact (show False from f1).elim
      | some rs =>
        rw [e2] at f1
        have f1 : FinG X.K ct W σ Z1 H1 (if rowsOk rs then Res.ok (D.lst ((sortU ltL rs).map fun r => D.tup (r.map D.int))) else .bad) _ := f1
        by_cases cc : rowsOk rs = true
        · rw [if_pos cc] at f1
          obtain ⟨ks, rfl, rfl, k2⟩ := den_rows h2 e2
          have hne : ks ≠ [] := by
            intro z
            subst z
            cases h2
            cases e
          obtain ⟨k0, kr, rfl⟩ : ∃ k0 kr, ks = k0 :: kr := by
            cases ks with
            | nil => exact absurd rfl hne
            | cons a b => exact ⟨a, b, rfl⟩
          have cc : (!k0.2.isEmpty && ((k0 :: kr).map (·.2)).all (fun q => q.length == k0.2.length && q.all fun n => decide (0 ≤ n)) && decide (((k0 :: kr).map (·.2)).length < 64)) = true := cc
          generalize hks : k0 :: kr = ks at *
          obtain ⟨cc1, cc2⟩ := Bool.and_eq_true_iff.mp cc
          obtain ⟨cc3, cc4⟩ := Bool.and_eq_true_iff.mp cc1
          have few : ks.length < 64 := by simpa using cc2
          -- a bound on all
          obtain ⟨B, hB, hbd⟩ : ∃ B : Int, 0 < B ∧ ∀ r ∈ ks.map (·.2), ∀ m ∈ r, m < B := by
            have bl : ∀ r : List Int, ∃ B : Int, 0 < B ∧ ∀ m ∈ r, m < B := fun r => by
              induction r with
              | nil => exact ⟨1, by omega, fun m hm => by cases hm⟩
              | cons y r ih =>
                obtain ⟨B, b1, b2⟩ := ih
                refine ⟨max B (y + 1), by omega, fun m hm => ?_⟩
                rcases List.mem_cons.mp hm with rfl | hm
                · omega
                · have := b2 m hm; omega
            have : ∀ rs : List (List Int), ∃ B : Int, 0 < B ∧ ∀ r ∈ rs, ∀ m ∈ r, m < B := fun rs => by
              induction rs with
              | nil => exact ⟨1, by omega, fun r hr => by cases hr⟩
              | cons r rs ih =>
                obtain ⟨B, b1, b2⟩ := ih
                obtain ⟨B2, b3, b4⟩ := bl r
                refine ⟨max B B2, by omega, fun r' hr m hm => ?_⟩
                rcases List.mem_cons.mp hr with rfl | hr
                · have := b4 m hm; omega
                · have := b2 r' hr m hm; omega
            exact this _
          have row : ∀ p ∈ ks, p.2.length = k0.2.length ∧ TS.Bd B p.2 := fun p hp => by
            have hm : p.2 ∈ ks.map (·.2) := List.mem_map.mpr ⟨p, hp, rfl⟩
            have := List.all_eq_true.mp cc4 p.2 hm
            obtain ⟨q1, q2⟩ := Bool.and_eq_true_iff.mp this
            exact ⟨beq_iff_eq.mp q1, fun m hm2 => ⟨of_decide_eq_true (List.all_eq_true.mp q2 m hm2), hbd _ hm m hm2⟩⟩
          refine .inr ⟨l, ks, rfl, .inl h1, fun p hp => same_seqT sz (k2 p hp), few, fun b M hb m1 m2 => ?_⟩
          have x1 : Ext Z1 H1 (upd Z1 b (SetTO X.prog X.w b M)) (upd H1 b (SetTO X.prog X.w b M)) := .mk1 sz hb
          refine .inr ⟨b, M, k0.2.length, B, rfl, upd_same, fun p hp => same_seqT (sz.trans x1.hh) (k2 p (m1 p hp)), ?_, fun p hp => row p (m1 p hp), fun M' pp pm nd _ pw hp => ?_⟩
          · cases q : k0.2 with
            | nil => rw [q] at cc3; cases cc3
            | cons _ _ => simp
          · have x2 := x1.trans (Ext.mk1 (o := .lst (M'.map fun q => V.ref q.1)) x1.zh hp)
            have inM : ∀ p ∈ M', p ∈ ks := fun p hp => m1 p (pm.mem_iff.mp hp)
            have e3 : M'.map (·.2) = sortU ltL (ks.map (·.2)) := by
              refine asc_uniq ltL_strict ?_ (pw_sortU ltL_strict _) fun y => ?_
              · rw [List.pairwise_map]
                have nd2 : M'.Pairwise (fun a b => a.2 ≠ b.2) := List.pairwise_map.mp nd
                refine List.Pairwise.imp_of_mem (fun {u v} hu hv huv => ?_) (pw.and nd2)
                obtain ⟨h3, h4⟩ := huv
                rcases ltL_tot u.2 v.2 with k | k | k
                · exact k
                · exact absurd k h4
                · have r1 := row u (inM u hu)
                  have r2 := row v (inM v hv)
                  have := code_lt hB (r2.1.trans r1.1.symm) r2.2 r1.2 k
                  omega
              · rw [mem_sortU ltL_strict]
                constructor
                · intro hy
                  obtain ⟨p, hp, rfl⟩ := List.mem_map.mp hy
                  exact List.mem_map.mpr ⟨p, inM p hp, rfl⟩
                · intro hy
                  obtain ⟨p, hp, rfl⟩ := List.mem_map.mp hy
                  have := m2 p hp
                  obtain ⟨p', hp', e⟩ := List.mem_map.mp this
                  exact List.mem_map.mpr ⟨p', pm.mem_iff.mpr hp', e⟩
            rw [← e3, List.map_map] at f1
            exact f1 _ _ x2 _ (den_lstNew (x1.zh.free hp) (den_refs M' fun p hp => same_seqT x1.zz (k2 p (inM p hp))))
        · rw [if_neg cc] at f1; exact (show False from f1).elim
  | _ => exact (show False from f1).elim
end
end Tk
/-! {..}.get(k, d) of a display of constants. -/
namespace Tk
open PySem PySem.Spec PyProof.Rows L2
open D
section
variable {ct : CT} {c : CE} {A : Ar} {L : Nat} {ev0 : Option Str} {hx : Option (Nat × Addr)} {n : Nat} {X : Cx} {W : WX} {O : List Nat}
def kvL (l : List (Str × V)) : List (Key × V) := l.map fun p => (.inr p.1, p.2)
theorem mergeK_all : ∀ (l acc : List (Key × V)), (∀ p ∈ l, ∀ q ∈ acc, q.1 ≠ p.1) → (l.map (·.1)).Nodup → mergeK acc l = acc ++ l
  | [], acc, _, _ => by simp [mergeK]
  | p :: l, acc, h, nd => by
    have e : putK acc p.1 p.2 = acc ++ [p] := by
      unfold putK
      rw [if_neg]
      intro q
      obtain ⟨x, hx, hq⟩ := List.any_eq_true.mp q
      exact h p (by simp) x hx (of_decide_eq_true hq)
    show mergeK (putK acc p.1 p.2) l = _
    rw [e, mergeK_all l (acc ++ [p])]
    · simp
    · intro a ha b hb
      rcases List.mem_append.mp hb with hb | hb
      · exact h a (by simp [ha]) b hb
      · have : b = p := by simpa using hb
        subst this
        rw [List.map_cons, List.nodup_cons] at nd
        intro z
        exact nd.1 (z ▸ List.mem_map_of_mem ha)
    · rw [List.map_cons, List.nodup_cons] at nd
      exact nd.2
theorem dis_nodup : ∀ {l : List (Str × V)}, disK l = true → ((kvL l).map (·.1)).Nodup
  | [], _ => by simp [kvL]
  | p :: l, h => by
    unfold disK at h
    obtain ⟨h1, h2⟩ := Bool.and_eq_true_iff.mp h
    have ih := dis_nodup h2
    show (Sum.inr p.1 :: (kvL l).map (·.1)).Nodup
    rw [List.nodup_cons]
    refine ⟨fun q => ?_, ih⟩
    obtain ⟨x, hx, e⟩ := List.mem_map.mp q
    obtain ⟨y, hy, rfl⟩ := List.mem_map.mp hx
    have e : y.1 = p.1 := by simpa using e
    rw [Bool.not_eq_true', List.any_eq_false] at h1
    exact h1 y hy (by rw [e]; simp)
theorem lit_den {K : PySem.W.Frag} {Z : Hp} : ∀ {ks : List (Option Expr)} {vs : List Expr} {l : List (Str × V)}, litP ks vs = some l → DenK K ct Z (kvL l) (l.map fun p => (D.str p.1.cps.toList, vD p.2)) := by
  intro ks vs l h
  induction l generalizing ks vs with
  | nil => exact .nil
  | cons p l ih =>
    unfold litP at h
    split at h
    · cases h
    · rename_i s _ _ ks v vs
      split at h
      · rename_i b r e1 e2
        cases h
        refine .cons ?_ (ih e2)
        unfold litV at e1
        split at e1
        · cases e1; exact .int _
        · cases e1; exact .str _
        · cases e1
      · cases h
    · cases h
def trsOf (l : List (Str × V)) : List (TE × TE) := l.map fun p => (tC (.str p.1), tC p.2)
theorem lit_pps {pos : Pos} : ∀ {ks : List (Option Expr)} {vs : List Expr} {l : List (Str × V)}, litP ks vs = some l → PPs X pos ks vs (trsOf l) ∧ ks.all (·.isSome) = true ∧ ks.length = l.length ∧ vs.length = l.length := by
  intro ks vs l h
  induction l generalizing ks vs with
  | nil =>
    unfold litP at h
    split at h
    · exact ⟨pps_nil, rfl, rfl, rfl⟩
    · split at h <;> cases h
    · cases h
  | cons p l ih =>
    unfold litP at h
    split at h
    · cases h
    · rename_i s _ _ ks v vs
      split at h
      · rename_i b r e1 e2
        cases h
        obtain ⟨i1, i2, i3, i4⟩ := ih e2
        refine ⟨pps_cons pe_str ?_ i1, by simpa using i2, by simp [i3], by simp [i4]⟩
        unfold litV at e1
        split at e1
        · cases e1; exact pe_int
        · cases e1; exact pe_str
        · cases e1
      · cases h
    · cases h
theorem tPairs_lit {σ : L2.St} {H : Hp} : ∀ {l : List (Str × V)} {Q : List (V × V) → Hp → Prop}, Q (l.map fun p => (.str p.1, p.2)) H → tPairs (trsOf l) σ H Q
  | [], Q, h => h
  | p :: l, Q, h => tPairs_lit (l := l) h
theorem upd_upd {H : Hp} {p : Addr} {o o2 : HO} : upd (upd H p o) p o2 = upd H p o2 := by
  funext b
  by_cases e : b = p
  · subst e; rw [upd_same, upd_same]
  · rw [upd_ne e, upd_ne e, upd_ne e]
theorem snd_dlit {ks : List (Option Expr)} {vs : List Expr} {dp : Pos} {d : D} (hd : litD ks vs = some d) : Both X ct A W O hx (.Dict ks vs dp) (.con d) := by
  unfold litD at hd
  split at hd
  case h_2 => cases hd
  case h_1 l el =>
  split at hd
  case isFalse => cases hd
  case isTrue q =>
  cases hd
  simp only [Bool.and_eq_true, decide_eq_true_eq] at q
  obtain ⟨⟨q1, q2⟩, q3⟩ := q
  obtain ⟨p1, p2, p3, p4⟩ := lit_pps (X := X) (pos := dp) el
  have hne : ks ≠ [] := by
    intro z
    subst z
    have : l = [] := List.length_eq_zero_iff.mp p3.symm
    subst this
    simp at q3
  refine .plain ((pe_disp p1 p2 (p3.trans p4.symm) hne (by omega)).imp fun σ H Q ⟨hh, Z, ρ, rel, fin⟩ => ?_) fun _ => rfl
  intro p hp
  refine tPairs_lit ⟨upd_same, kvL l, by simp [kvL, kV], by simpa [kvL] using q2, ?_⟩
  rw [mergeK_all _ _ (by simp) (dis_nodup q1), List.nil_append, upd_upd]
  have sz := rel.sub
  have e0 : Ext Z H (upd Z p (.dK (kvL l))) (upd H p (.dK (kvL l))) := .mk1 sz hp
  have fin : FinG X.K ct W σ Z H (Res.ok (D.dic (l.map fun p => (D.str p.1.cps.toList, vD p.2)))) _ := fin
  exact fin _ _ e0 _ (.dK upd_same (lit_den el))
theorem snd_dget2 (S : Sit X ct c A L W ev0 hx) {ks : List (Option Expr)} {vs : List Expr} {dp ap cp : Pos} {a b : Expr} {d d0 : D} {x : SE} (hl : (ap.endLine == cp.line) = true) (hs : noStar a = true) (hs2 : noStar b = true) (hd : litD ks vs = some d) (ha : PE X a (tS X ct A W O hx x)) (hb : PE X b (tE X ct A W O hx (.con d0))) : Both X ct A W O hx (.Call (.Attribute (.Dict ks vs dp) (sOf "get") ap) [a, b] [] cp) (.me .get2 (.con d) [x, .con d0]) := by
  unfold litD at hd
  split at hd
  case h_2 => cases hd
  case h_1 l el =>
  split at hd
  case isFalse => cases hd
  case isTrue q =>
  cases hd
  simp only [Bool.and_eq_true, decide_eq_true_eq] at q
  obtain ⟨⟨q1, q2⟩, q3⟩ := q
  obtain ⟨p1, p2, p3, p4⟩ := lit_pps (X := X) (pos := dp) el
  have hne : ks ≠ [] := by
    intro z
    subst z
    have : l = [] := List.length_eq_zero_iff.mp p3.symm
    subst this
    simp at q3
  have hm : M2 X (.Dict ks vs dp) (sOf "get") ap a b cp := ⟨rfl, by rw [noStar_each hs, noStar_each hs2]; rfl, hl, by rw [noStar_each hs, noStar_each hs2]; rfl⟩
  refine .plain ((pe_dget2 (by have := S.un; omega) (pe_disp p1 p2 (p3.trans p4.symm) hne (by omega)) ha hb hm).imp fun σ H Q ⟨hh, Z, ρ, rel, fin⟩ => ?_) fun _ => rfl
  intro p hp
  refine tPairs_lit ⟨upd_same, kvL l, by simp [kvL, kV], by simpa [kvL] using q2, p, rfl, .inl ⟨_, .inl upd_same⟩, ?_⟩
  rw [mergeK_all _ _ (by simp) (dis_nodup q1), List.nil_append, upd_upd]
  have sz := rel.sub
  have e0 : Ext Z H (upd Z p (.dK (kvL l))) (upd H p (.dK (kvL l))) := .mk1 sz hp
  have fin : FinG X.K ct W σ Z H (((ev A x ρ).bind fun y => (Res.ok [d0]).bind fun r => Res.ok (y :: r)).bind fun ds => biD .get2 (D.dic (l.map fun p => (D.str p.1.cps.toList, vD p.2)) :: ds)) _ := fin
  refine ⟨hh, _, ρ, rel.ext e0, (fin.ext e0).bind.bind.mono fun k Z2 H2 _ e2 f2 u hu => ?_⟩
  have rel2 := (rel.ext e0).ext e2
  refine ⟨hh, Z2, ρ, rel2, fun Z3 H3 e3 w hw => ?_⟩
  have f3 : FinG X.K ct W σ Z2 H2 (biD .get2 [D.dic (l.map fun p => (D.str p.1.cps.toList, vD p.2)), k, d0]) _ := FinG.here (a := [k, d0]) f2 rel2.sub
  have f4 := f3.ext e3
  by_cases c : keyOk k (l.map fun p => (D.str p.1.cps.toList, vD p.2)) = true
  · have eb : biD .get2 [D.dic (l.map fun p => (D.str p.1.cps.toList, vD p.2)), k, d0] = .ok ((lookD k (l.map fun p => (D.str p.1.cps.toList, vD p.2))).getD d0) := if_pos c
    rw [eb] at f4
    obtain ⟨k, rfl, rfl⟩ := key_den hu (keyOk_is c)
    have hz : H3 p = some (.dK (kvL l)) := e3.hh _ _ (e2.hh _ _ upd_same)
    have z := (DenK.val (k := k) (lit_den (K := X.K) (ct := ct) (Z := Z3) el)).1
    refine ⟨valV (kvL l) k, DGet.k hz, ?_⟩
    have rel3 := rel2.ext e3
    cases e : valV (kvL l) k with
    | none =>
      rw [e] at z
      have z : lookD (kD k) _ = none := z
      rw [z] at f4
      exact FinG.here f4 rel3.sub _ hw
    | some v =>
      rw [e] at z
      obtain ⟨d, z1, z2⟩ := z
      rw [z1] at f4
      exact FinG.here f4 rel3.sub _ z2
  · have eb : biD .get2 [D.dic (l.map fun p => (D.str p.1.cps.toList, vD p.2)), k, d0] = .bad := if_neg c
    rw [eb] at f4
    exact (show False from f4).elim
theorem snd_dget1 (S : Sit X ct c A L W ev0 hx) {ks : List (Option Expr)} {vs : List Expr} {dp ap cp : Pos} {a : Expr} {d : D} {x : SE} (hl : (ap.endLine == cp.line) = true) (hs : noStar a = true) (hd : litD ks vs = some d) (ha : PE X a (tS X ct A W O hx x)) : Both X ct A W O hx (.Call (.Attribute (.Dict ks vs dp) (sOf "get") ap) [a] [] cp) (.me .get1 (.con d) [x]) := by
  unfold litD at hd
  split at hd
  case h_2 => cases hd
  case h_1 l el =>
  split at hd
  case isFalse => cases hd
  case isTrue q =>
  cases hd
  simp only [Bool.and_eq_true, decide_eq_true_eq] at q
  obtain ⟨⟨q1, q2⟩, q3⟩ := q
  obtain ⟨p1, p2, p3, p4⟩ := lit_pps (X := X) (pos := dp) el
  have hne : ks ≠ [] := by
    intro z
    subst z
    have : l = [] := List.length_eq_zero_iff.mp p3.symm
    subst this
    simp at q3
  have hm : M1 X (.Dict ks vs dp) (sOf "get") ap a cp := ⟨rfl, by rw [noStar_each hs]; rfl, hl, by rw [noStar_each hs]; rfl⟩
  refine .plain ((pe_dget1 (by have := S.un; omega) (pe_disp p1 p2 (p3.trans p4.symm) hne (by omega)) ha hm).imp fun σ H Q ⟨hh, Z, ρ, rel, fin⟩ => ?_) fun _ => rfl
  intro p hp
  refine tPairs_lit ⟨upd_same, kvL l, by simp [kvL, kV], by simpa [kvL] using q2, p, rfl, .inl ⟨_, .inl upd_same⟩, ?_⟩
  rw [mergeK_all _ _ (by simp) (dis_nodup q1), List.nil_append, upd_upd]
  have sz := rel.sub
  have e0 : Ext Z H (upd Z p (.dK (kvL l))) (upd H p (.dK (kvL l))) := .mk1 sz hp
  have fin : FinG X.K ct W σ Z H (((ev A x ρ).bind fun y => (Res.ok []).bind fun r => Res.ok (y :: r)).bind fun ds => biD .get1 (D.dic (l.map fun p => (D.str p.1.cps.toList, vD p.2)) :: ds)) _ := fin
  refine ⟨hh, _, ρ, rel.ext e0, (fin.ext e0).bind.bind.mono fun k Z2 H2 _ e2 f2 u hu => ?_⟩
  have rel2 := (rel.ext e0).ext e2
  have f4 : FinG X.K ct W σ Z2 H2 (biD .get1 [D.dic (l.map fun p => (D.str p.1.cps.toList, vD p.2)), k]) _ := FinG.here (a := [k]) f2 rel2.sub
  by_cases c : keyOk k (l.map fun p => (D.str p.1.cps.toList, vD p.2)) = true
  · have eb : biD .get1 [D.dic (l.map fun p => (D.str p.1.cps.toList, vD p.2)), k] = .ok ((lookD k (l.map fun p => (D.str p.1.cps.toList, vD p.2))).getD .non) := if_pos c
    rw [eb] at f4
    obtain ⟨k, rfl, rfl⟩ := key_den hu (keyOk_is c)
    have hz : H2 p = some (.dK (kvL l)) := e2.hh _ _ upd_same
    have z := (DenK.val (k := k) (lit_den (K := X.K) (ct := ct) (Z := Z2) el)).1
    refine ⟨valV (kvL l) k, DGet.k hz, ?_⟩
    cases e : valV (kvL l) k with
    | none =>
      rw [e] at z
      have z : lookD (kD k) _ = none := z
      rw [z] at f4
      exact FinG.here f4 rel2.sub _ .non
    | some v =>
      rw [e] at z
      obtain ⟨d, z1, z2⟩ := z
      rw [z1] at f4
      exact FinG.here f4 rel2.sub _ z2
  · have eb : biD .get1 [D.dic (l.map fun p => (D.str p.1.cps.toList, vD p.2)), k] = .bad := if_neg c
    rw [eb] at f4
    exact (show False from f4).elim
end
end Tk
/-! What is walked; targets; comprehensions. -/
namespace Tk
open PySem PySem.Spec PyProof.Rows L2
open D
section
variable {ct : CT} {c : CE} {A : Ar} {L : Nat} {ev0 : Option Str} {hx : Option (Nat × Addr)} {n : Nat} {X : Cx} {W : WX} {O : List Nat}
theorem snd_tsOne {e : Expr} {x : SE} (h : PT X e (tT X ct A W O hx x)) : PTs X [e] (tTs X ct A W O hx [x]) := by
  refine (pts_one h).imp fun σ H Q ⟨hh, Z, ρ, rel, fin⟩ => ⟨hh, Z, ρ, rel, ?_⟩
  have e : evc A [x] ρ = (ev A x ρ).bind asBl := by
    show ((ev A x ρ).bind fun x => (asBl x).bind fun k => if k then Res.ok true else .ok false) = _
    cases ev A x ρ with
    | ok d => cases d with
      | bl b => cases b <;> rfl
      | _ => rfl
    | _ => rfl
  rw [e] at fin
  exact fin
/-! ### what is walked -/
theorem YAt_get {K : PySem.W.Frag} {Z : Hp} {vs : List V} {ds : List D} (hd : DenAll K ct Z vs ds) : ∀ i H x H2 Z2 d, Same Z Z2 → Same Z2 H → YAt vs i H x H2 → ds[i]? = some d → ∃ Z3, Ext Z2 H Z3 H2 ∧ Den K ct Z3 x d := by
  intro i H x H2 Z2 d z1 z2 y hi
  obtain ⟨rfl, y⟩ := y
  obtain ⟨v, h1, h2⟩ := hd.get hi
  rw [y] at h1
  cases h1
  exact ⟨Z2, .refl z2, Den.mono z1 _ _ h2⟩
theorem walk_of_lst {K : PySem.W.Frag} {Z : Hp} {a : Addr} {vs : List V} {ds : List D} (h : Rd Z a (.lst vs)) (hd : DenAll K ct Z vs ds) : WalkD K ct (Itl K a) ds Z :=
  ⟨_, _, hd.length ▸ walk_list (xs := vs), fun H s => .inl (same_rd s h), YAt_get hd⟩
theorem walk_of_tup {K : PySem.W.Frag} {Z : Hp} {a : Addr} {vs : List V} {ds : List D} (h : SqT K Z a vs) (hd : DenAll K ct Z vs ds) : WalkD K ct (Itt K a) ds Z :=
  ⟨_, _, hd.length ▸ walk_tup (xs := vs), fun H s => same_seqT s h, YAt_get hd⟩
theorem walk_of_str {K : PySem.W.Frag} {Z : Hp} {z : List Nat} : WalkD K ct (Its ⟨z.toArray⟩) (z.map fun c => D.str [c]) Z := by
  have w := walk_str (z := ⟨z.toArray⟩)
  have e : (⟨z.toArray⟩ : Str).cps.size = (z.map fun c => D.str [c]).length := by simp
  rw [e] at w
  refine ⟨_, _, w, fun H s => trivial, ?_⟩
  intro i H x H2 Z2 d z1 z2 y hi
  obtain ⟨rfl, k, y1, rfl⟩ := y
  refine ⟨Z2, .refl z2, ?_⟩
  have y1 : z[i]? = some k := by simpa using y1
  rw [List.getElem?_map, y1] at hi
  cases hi
  exact den_str _ _ _ [k]
theorem walk_of_range {K : PySem.W.Frag} {Z : Hp} {lo hi : Int} : WalkD K ct (Itr lo (hi - lo).toNat) (rangeL lo hi) Z := by
  have w := walk_range (lo := lo) (n := (hi - lo).toNat)
  have e : (hi - lo).toNat = (rangeL lo hi).length := by simp [rangeL]
  have w2 : Walk (Itr lo (hi - lo).toNat) (rangeL lo hi).length (fun _ => True) (YFn fun i => V.int (lo + (i : Nat))) := by rw [← e]; exact w
  refine ⟨_, _, w2, fun H s => trivial, ?_⟩
  intro i H x H2 Z2 d z1 z2 y hi2
  obtain ⟨rfl, rfl⟩ := y
  refine ⟨Z2, .refl z2, ?_⟩
  unfold rangeL at hi2
  rw [List.getElem?_map] at hi2
  cases q : (List.range (hi - lo).toNat)[i]? with
  | none => rw [q] at hi2; cases hi2
  | some k =>
    rw [q] at hi2
    have : k = i := by
      have := List.getElem?_eq_some_iff.mp q
      obtain ⟨h1, h2⟩ := this
      simpa using h2.symm
    subst this
    cases hi2
    exact .int _
theorem DenG.get {K : PySem.W.Frag} {H : Hp} : ∀ {acc : Gd.Acc} {ps : List (D × D)} {i : Nat} {p : NestedKey × DictEntry}, DenG K ct H acc ps → acc[i]? = some p → ∃ kd y, (ps.map (·.1))[i]? = some kd ∧ RelV y p.2.key ∧ Den K ct H y kd
  | _, _, i, p, .nil, e => by simp at e
  | _, _, 0, p, .cons h1 h2 h3 h4 h5 h6, e => by simp at e; subst e; exact ⟨_, _, rfl, h1, h2⟩
  | _, _, i + 1, p, .cons h1 h2 h3 h4 h5 h6, e => by
    obtain ⟨kd, y, g⟩ := DenG.get (i := i) h6 (by simpa using e)
    exact ⟨kd, y, by simpa using g.1, g.2⟩
theorem walk_of_gd {K : PySem.W.Frag} {w : World} {Z : Hp} {a : Addr} {acc : Gd.Acc} {ep : Nat} {ps : List (D × D)} (h1 : Z a = some (Gd.gdO w a acc ep)) (h2 : DenG K ct Z acc ps) : WalkD K ct (Gd.ItG w a acc ep) (ps.map (·.1)) Z := by
  have hl : (ps.map (·.1)).length = acc.length := by rw [List.length_map, h2.len]
  refine ⟨fun H => H a = some (Gd.gdO w a acc ep), fun i H x H' => H' = H ∧ ∃ p, acc[i]? = some p ∧ RelV x p.2.key, ⟨fun i H hi q => ⟨q, by omega⟩, fun H q => ⟨q, by omega⟩, fun i H x H' _ _ y => y⟩, fun H s => s _ _ h1, ?_⟩
  rintro i H x H2 Z2 d z1 z2 ⟨rfl, p, hp, rx⟩ hi
  obtain ⟨kd, y, g1, g2, g3⟩ := h2.get hp
  rw [hi] at g1
  cases g1
  rw [rx.inj g2]
  exact ⟨Z2, .refl z2, Den.mono z1 _ _ g3⟩
theorem rev_get {α : Type} {xs : List α} {i : Nat} (hi : i < xs.length) : xs.reverse[i]? = xs[xs.length - 1 - i]? := by
  rw [List.getElem?_reverse hi]
theorem walk_of_rev {K : PySem.W.Frag} {Z : Hp} {a : Addr} {vs : List V} {ds : List D} (h1 : Rd Z a (.lst vs)) (h2 : DenAll K ct Z vs ds) : WalkD K ct (Itv K a vs.length) ds.reverse Z := by
  refine ⟨fun H => SqL K H a vs, fun i H x H' => H' = H ∧ vs[vs.length - 1 - i]? = some x, ⟨fun i H hi q => ?_, fun H q => ?_, fun i H x H' hi q y => ⟨y.1, y.2 vs q⟩⟩, fun H s => .inl (same_rd s h1), ?_⟩
  · rw [List.length_reverse, ← h2.length] at hi
    exact ⟨hi, vs, vs[vs.length - 1 - i], q, List.getElem?_eq_getElem (by omega)⟩
  · show vs.length ≤ ds.reverse.length
    rw [List.length_reverse, h2.length]
    exact Nat.le_refl _
  · rintro i H x H2 Z2 d z1 z2 ⟨rfl, hx⟩ hi
    have hlt : i < ds.length := by
      have := (List.getElem?_eq_some_iff.mp hi).1
      simpa using this
    rw [rev_get hlt] at hi
    obtain ⟨w, hw, hden⟩ := h2.get hi
    rw [← h2.length, hx] at hw
    cases hw
    exact ⟨Z2, .refl z2, Den.mono z1 _ _ hden⟩
theorem walk_of_revT {K : PySem.W.Frag} {Z : Hp} {a : Addr} {vs : List V} {ds : List D} (h1 : SqT K Z a vs) (h2 : DenAll K ct Z vs ds) : WalkD K ct (RT.ItvT K a vs.length) ds.reverse Z := by
  refine ⟨fun H => SqT K H a vs, fun i H x H' => H' = H ∧ vs[vs.length - 1 - i]? = some x, ⟨fun i H hi q => ?_, fun H q => ?_, fun i H x H' hi q y => ⟨y.1, y.2 vs q⟩⟩, fun H s => same_seqT s h1, ?_⟩
  · rw [List.length_reverse, ← h2.length] at hi
    exact ⟨hi, vs, vs[vs.length - 1 - i], q, List.getElem?_eq_getElem (by omega)⟩
  · show vs.length ≤ ds.reverse.length
    rw [List.length_reverse, h2.length]
    exact Nat.le_refl _
  · rintro i H x H2 Z2 d z1 z2 ⟨rfl, hx⟩ hi
    have hlt : i < ds.length := by
      have := (List.getElem?_eq_some_iff.mp hi).1
      simpa using this
    rw [rev_get hlt] at hi
    obtain ⟨w, hw, hden⟩ := h2.get hi
    rw [← h2.length, hx] at hw
    cases hw
    exact ⟨Z2, .refl z2, Den.mono z1 _ _ hden⟩
theorem snd_reversed (S : Sit X ct c A L W ev0 hx) {tg a : Expr} {p pos : Pos} {x : SE} (hg : gloB X.env.scope (sOf "reversed") = true) (hfr : c.free.contains (sOf "reversed") = true) (hs : noStar a = true) (ha : PE X a (tE X ct A W O hx x)) : PI X tg (.Call (.Name (sOf "reversed") p) [a] [] pos) (tI X ct A W O hx (.rev x)) := by
  refine (RT.pi_revA (gloB_gl hg) (S.free _ hfr) ha (noStar_each hs)).imp fun σ H R ⟨hh, Z, ρ, rel, fin⟩ => ?_
  have fin : FinG X.K ct W σ Z H ((ev A x ρ).bind fun x => match x with | .lst xs => Res.ok xs.reverse | .tup xs => .ok xs.reverse | _ => .bad) _ := fin
  refine ⟨hh, Z, ρ, rel, fin.bind.mono fun d Z1 H1 _ e1 f1 v hv => ?_⟩
  have sz := (rel.ext e1).sub
  cases d with
  | lst ds =>
    cases hv with
    | lst h1 h2 => exact ⟨_, _, rfl, .inl ⟨.inl (same_rd sz h1), (FinG.here (a := ds.reverse) f1 sz) _ (walk_of_rev h1 h2)⟩⟩
  | tup ds =>
    cases hv with
    | tup h1 h2 => exact ⟨_, _, rfl, .inr ⟨same_seqT sz h1, (FinG.here (a := ds.reverse) f1 sz) _ (walk_of_revT h1 h2)⟩⟩
  | _ => exact (show False from f1).elim
theorem snd_of (S : Sit X ct c A L W ev0 hx) {tg e : Expr} {x : SE} (he : PE X e (tE X ct A W O hx x)) : PI X tg e (tI X ct A W O hx (.of x)) := by
  refine ⟨fun pins s σ H R I ⟨hh, Z, ρ, rel, fin⟩ => ?_⟩
  have fin : FinG X.K ct W σ Z H ((ev A x ρ).bind itemsG) _ := fin
  have go : ∀ (wi : TI), PI X tg e wi → wi σ H R → wpAny (model X.prog X.w) X.A (eval e X.env) (fun v s1 => wpAny (model X.prog X.w) X.A (pyIter v) (PIE X pins σ tg R) X.xe s1) X.xe s := fun wi p q => p.run pins s σ H R I q
  cases q : ev A x ρ with
  | ok d =>
    rw [q] at fin
    cases d with
    | lst ds =>
      refine go _ (pi_list he) ⟨hh, Z, ρ, rel, ?_⟩
      rw [q]
      intro Z1 H1 e1 v hv
      cases hv with
      | lst h1 h2 =>
        have sz := (rel.ext e1).sub
        exact ⟨_, rfl, ⟨_, .inl (same_rd sz h1)⟩, (FinG.here (a := ds) (fin.ext e1) sz) _ (walk_of_lst h1 h2)⟩
    | tup ds =>
      refine go _ (pi_tup he) ⟨hh, Z, ρ, rel, ?_⟩
      rw [q]
      intro Z1 H1 e1 v hv
      cases hv with
      | tup h1 h2 =>
        have sz := (rel.ext e1).sub
        exact ⟨_, rfl, ⟨_, same_seqT sz h1⟩, (FinG.here (a := ds) (fin.ext e1) sz) _ (walk_of_tup h1 h2)⟩
    | str z =>
      refine go _ (pi_str he) ⟨hh, Z, ρ, rel, ?_⟩
      rw [q]
      intro Z1 H1 e1 v hv
      have e2 := ShDen.str (H := H1) (.inl hv)
      subst e2
      have sz := (rel.ext e1).sub
      exact ⟨_, rfl, (FinG.here (a := z.map fun c => D.str [c]) (fin.ext e1) sz) _ walk_of_str⟩
    | gd ps =>
      refine go _ (Gd.pi_g he) ⟨hh, Z, ρ, rel, ?_⟩
      rw [q]
      intro Z1 H1 e1 v hv
      cases hv with
      | gd h1 h2 =>
        rename_i a acc ep
        have sz := (rel.ext e1).sub
        rw [S.kd.1] at h1
        have hs : ∀ p ∈ acc, ∃ x, RelV x p.2.key := fun p hp => by
          obtain ⟨y, r, _⟩ := h2.stand p hp
          exact ⟨y, r⟩
        exact ⟨a, acc, ep, rfl, sz _ _ h1, hs, (FinG.here (a := (ps.map fun (r : D × D) => r.1 : List D)) (fin.ext e1) sz) _ (walk_of_gd h1 h2)⟩
    | _ => exact (show False from fin).elim
  | exc k =>
    rw [q] at fin
    exact go _ (pi_list he) ⟨hh, Z, ρ, rel, by rw [q]; exact fin⟩
  | bad => rw [q] at fin; exact (show False from fin).elim
theorem snd_rng1 (S : Sit X ct c A L W ev0 hx) {tg a : Expr} {p pos : Pos} {x : SE} (hg : gloB X.env.scope (sOf "range") = true) (hfr : c.free.contains (sOf "range") = true) (hs : noStar a = true) (ha : PE X a (tE X ct A W O hx x)) : PI X tg (.Call (.Name (sOf "range") p) [a] [] pos) (tI X ct A W O hx (.rng (.con (.int 0)) x)) := by
  refine (pi_range1 (gloB_gl hg) (S.free _ hfr) (pa_cons ha pa_nil (noStar_each hs)) (noStar_each hs)).imp fun σ H R ⟨hh, Z, ρ, rel, fin⟩ => ?_
  have fin : FinG X.K ct W σ Z H ((ev A x ρ).bind fun y => (asInt y).bind fun j => if small62 0 && small62 j then Res.ok (rangeL 0 j) else .bad) _ := fin
  refine ⟨hh, Z, ρ, rel, fin.bind.mono fun d Z1 H1 _ e1 f1 v hv => ?_⟩
  cases d with
  | int j =>
    cases hv
    have f1 : FinG X.K ct W σ Z1 H1 (if small62 0 && small62 j then Res.ok (rangeL 0 j) else .bad) _ := f1
    by_cases q : (small62 0 && small62 j) = true
    · rw [if_pos q] at f1
      have q2 := (Bool.and_eq_true_iff.mp q).2
      unfold small62 at q2
      simp only [Bool.and_eq_true, decide_eq_true_eq] at q2
      refine ⟨j, rfl, q2.1, q2.2, ?_⟩
      have := (FinG.here f1 (rel.ext e1).sub) _ walk_of_range
      rw [Int.sub_zero] at this
      exact this
    · rw [if_neg q] at f1; exact (show False from f1).elim
  | _ => exact (show False from f1).elim
theorem snd_rng2 (S : Sit X ct c A L W ev0 hx) {tg a b : Expr} {p pos : Pos} {x y : SE} (hg : gloB X.env.scope (sOf "range") = true) (hfr : c.free.contains (sOf "range") = true) (hs : noStar a = true) (hs2 : noStar b = true) (ha : PE X a (tE X ct A W O hx x)) (hb : PE X b (tE X ct A W O hx y)) : PI X tg (.Call (.Name (sOf "range") p) [a, b] [] pos) (tI X ct A W O hx (.rng x y)) := by
  refine (pi_range2 (gloB_gl hg) (S.free _ hfr) (pa_cons ha (pa_cons hb pa_nil (noStar_each hs2)) (noStar_each hs)) (by rw [noStar_each hs, noStar_each hs2]; rfl) (noStar_each hs2)).imp fun σ H R ⟨hh, Z, ρ, rel, fin⟩ => ?_
  have fin : FinG X.K ct W σ Z H ((ev A x ρ).bind fun x => (ev A y ρ).bind fun y => (asInt x).bind fun i => (asInt y).bind fun j => if small62 i && small62 j then Res.ok (rangeL i j) else .bad) _ := fin
  refine ⟨hh, Z, ρ, rel, fin.bind.mono fun d Z1 H1 _ e1 f1 v hv => ?_⟩
  refine ⟨hh, Z1, ρ, rel.ext e1, f1.bind.mono fun d2 Z2 H2 _ e2 f2 u hu => ?_⟩
  cases d with
  | int i =>
    cases hv
    cases d2 with
    | int j =>
      cases hu
      have f2 : FinG X.K ct W σ Z2 H2 (if small62 i && small62 j then Res.ok (rangeL i j) else .bad) _ := f2
      by_cases q : (small62 i && small62 j) = true
      · rw [if_pos q] at f2
        obtain ⟨q1, q2⟩ := Bool.and_eq_true_iff.mp q
        unfold small62 at q1 q2
        simp only [Bool.and_eq_true, decide_eq_true_eq] at q1 q2
        exact ⟨i, j, rfl, ⟨q1.1, q1.2, q2.1, q2.2⟩, (FinG.here f2 ((rel.ext e1).ext e2).sub) _ walk_of_range⟩
      · rw [if_neg q] at f2; exact (show False from f2).elim
    | _ => exact (show False from f2).elim
  | _ => exact (show False from f2).elim
/-! ### targets -/
def gT (K : PySem.W.Frag) (t : List Nat) (one : Bool) : TG := match one, t with
  | true, [i] => gName i
  | false, [i, j] => gTup K 2 (gCons (gName i) (gCons (gName j) gNil))
  | _, _ => fun _ _ _ _ => False
theorem RelE.bind {K : PySem.W.Frag} {Z H : Hp} {σ σ2 : L2.St} {ρ ρ2 : En} {t : List Nat} (rel : RelE K ct Z H O σ ρ) (hl : σ2.length = σ.length) (hl2 : ρ2.length = ρ.length) (hO : ∀ i ∈ t, i ∉ O) (h1 : ∀ k, k ∉ t → σ2[k]? = σ[k]? ∧ ρ2[k]? = ρ[k]?) (h2 : ∀ k ∈ t, ∀ d, ρ2[k]? = some (some d) → ∃ v, σ2[k]? = some (some v) ∧ Den K ct Z v d) : RelE K ct Z H O σ2 ρ2 := by
  have hO' : ∀ i ∈ O, i ∉ t := fun i hi ht => hO i ht hi
  refine ⟨rel.sub, rel.dif, by rw [hl, hl2, rel.len], fun i d hi e => ?_, fun i d hi e => ?_, fun i j d e a hi hj ne q1 q2 q3 => ?_⟩
  · by_cases ht : i ∈ t
    · exact h2 i ht d e
    · rw [(h1 i ht).2] at e
      rw [(h1 i ht).1]
      exact rel.fr i d hi e
  · rw [(h1 i (hO' i hi)).2] at e
    rw [(h1 i (hO' i hi)).1]
    exact rel.ow i d hi e
  · rw [(h1 i (hO' i hi)).2] at q1
    rw [(h1 j (hO' j hj)).2] at q2
    rw [(h1 i (hO' i hi)).1] at q3
    rw [(h1 j (hO' j hj)).1]
    exact rel.inj i j d e a hi hj ne q1 q2 q3
/-- what a target leaves -/
structure Bound (K : PySem.W.Frag) (ct : CT) (Z : Hp) (t : List Nat) (σ σ2 : L2.St) (ρ ρ2 : En) : Prop where
  len : σ2.length = σ.length
  len2 : ρ2.length = ρ.length
  out : ∀ k, k ∉ t → σ2[k]? = σ[k]? ∧ ρ2[k]? = ρ[k]?
  ins : ∀ k ∈ t, ∀ d, ρ2[k]? = some (some d) → ∃ v, σ2[k]? = some (some v) ∧ Den K ct Z v d
theorem bind_ok {K : PySem.W.Frag} {Z H : Hp} {t : List Nat} {one : Bool} {d : D} {v : V} {σ : L2.St} {ρ ρ2 : En} {Q : L2.St → Hp → Prop} (hl : σ.length = ρ.length) (s : Same Z H) (hv : Den K ct Z v d) (hb : bindT t one d ρ = some ρ2) (h : ∀ σ2, Bound K ct Z t σ σ2 ρ ρ2 → Q σ2 H) : gT K t one v σ H Q := by
  unfold bindT at hb
  split at hb
  · rename_i i
    cases hb
    refine h _ ⟨by simp, by simp, fun k hk => ?_, fun k hk e he => ?_⟩
    · have : i ≠ k := fun e => hk (by simp [e])
      rw [List.getElem?_set_ne this, List.getElem?_set_ne this]
      exact ⟨rfl, rfl⟩
    · have : k = i := by simpa using hk
      subst this
      by_cases hi : k < ρ.length
      · rw [List.getElem?_set_self hi] at he
        cases he
        exact ⟨v, List.getElem?_set_self (by omega), hv⟩
      · rw [List.getElem?_eq_none (by simpa using hi)] at he
        cases he
  · rename_i i j
    split at hb
    · rename_i x y
      cases hb
      cases hv with
      | tup h1 h2 =>
        cases h2 with
        | cons g1 g2 => cases g2 with
          | cons g3 g4 =>
            cases g4
            rename_i u w
            refine ⟨_, _, rfl, same_seqT s h1, rfl, u, [w], rfl, w, [], rfl, rfl, ?_⟩
            refine h _ ⟨by simp, by simp, fun k hk => ?_, fun k hk e he => ?_⟩
            · have n1 : i ≠ k := fun e => hk (by simp [e])
              have n2 : j ≠ k := fun e => hk (by simp [e])
              rw [List.getElem?_set_ne n2, List.getElem?_set_ne n1, List.getElem?_set_ne n2, List.getElem?_set_ne n1]
              exact ⟨rfl, rfl⟩
            · by_cases hj : k = j
              · subst hj
                by_cases hi : k < ρ.length
                · rw [List.getElem?_set_self (by simpa using hi)] at he
                  cases he
                  exact ⟨w, List.getElem?_set_self (by simp; omega), g3⟩
                · rw [List.getElem?_eq_none (by simpa using hi)] at he
                  cases he
              · have : k = i := by
                  rcases List.mem_cons.mp hk with e | e
                  · exact e
                  · exact absurd (by simpa using e) hj
                subst this
                have n2 : j ≠ k := fun e => hj e.symm
                rw [List.getElem?_set_ne n2] at he
                by_cases hi : k < ρ.length
                · rw [List.getElem?_set_self (by simpa using hi)] at he
                  cases he
                  exact ⟨u, by rw [List.getElem?_set_ne n2]; exact List.getElem?_set_self (by omega), g1⟩
                · rw [List.getElem?_eq_none (by simpa using hi)] at he
                  cases he
    · cases hb
  · cases hb
theorem Bound.rel {K : PySem.W.Frag} {Z H : Hp} {t : List Nat} {σ σ0 σ2 : L2.St} {ρ ρ2 : En} (b : Bound K ct Z t σ0 σ2 ρ ρ2) (rel : RelE K ct Z H O σ ρ) (h0 : σ0.length = σ.length) (h1 : ∀ k, k ∉ t → σ0[k]? = σ[k]?) (hO : ∀ i ∈ t, i ∉ O) : RelE K ct Z H O σ2 ρ2 :=
  rel.bind (by rw [b.len, h0]) b.len2 hO (fun k hk => ⟨(b.out k hk).1.trans (h1 k hk), (b.out k hk).2⟩) b.ins
theorem wipe_get {σ : L2.St} : ∀ {vs : List Nat} {k : Nat}, (wipe σ vs)[k]? = if k ∈ vs ∧ k < σ.length then some none else σ[k]?
  | [], k => by simp [wipe]
  | v :: vs, k => by
    show ((wipe σ vs).set v none)[k]? = _
    by_cases h : v = k
    · subst h
      by_cases hk : v < σ.length
      · rw [List.getElem?_set_self (by rw [wipe_length]; exact hk), if_pos ⟨by simp, hk⟩]
      · rw [List.getElem?_eq_none (by simp [wipe_length]; omega), if_neg (fun z => hk z.2), List.getElem?_eq_none (by omega)]
    · rw [List.getElem?_set_ne h, wipe_get]
      have : k ∈ v :: vs ↔ k ∈ vs := by simp [Ne.symm h]
      simp only [this]
theorem wipe_same {σ σ2 : L2.St} {vs : List Nat} (hl : σ2.length = σ.length) (h : ∀ k, k ∉ vs → σ2[k]? = σ[k]?) : wipe σ2 vs = wipe σ vs := by
  apply List.ext_getElem?
  intro k
  rw [wipe_get, wipe_get, hl]
  by_cases hk : k ∈ vs
  · by_cases h2 : k < σ.length
    · rw [if_pos ⟨hk, h2⟩, if_pos ⟨hk, h2⟩]
    · rw [if_neg (fun z => h2 z.2), if_neg (fun z => h2 z.2), List.getElem?_eq_none (by omega), List.getElem?_eq_none (by omega)]
  · rw [if_neg (fun z => hk z.1), if_neg (fun z => hk z.1), h k hk]
theorem pg_of {X' : Cx} {N : List Str} {sc : Scope} {tg : Expr} {t : List Nat} {one : Bool} (hN : X'.N = N) (nd : N.Nodup) (hc : X'.calm = true) (hl : ∀ x, locB sc x = true → L2.Loc X'.env.scope x ∧ (X'.fn x = true ∨ X'.env.scope.names.lookup x = some .local)) (h : tgtOf N sc tg = some (t, one)) : PG X' tg (gT X'.K t one) := by
  unfold tgtOf at h
  split at h
  · rename_i x p
    split at h
    · rename_i q
      have q := Bool.and_eq_true_iff.mp q
      cases e : slotOf N x with
      | none => rw [e] at h; cases h
      | some i =>
        rw [e] at h
        cases h
        exact pg_name (by rw [hN]; exact nd) (by rw [hN]; exact slotOf_get e) (hl x q.1).1 (hl x q.1).2
    · cases h
  · rename_i x p y p2 k pos
    split at h
    · rename_i q
      simp only [Bool.and_eq_true] at q
      obtain ⟨⟨⟨q1, q2⟩, q3⟩, q4⟩ := q
      split at h
      · rename_i i j e1 e2
        split at h
        · cases h
        · cases h
          exact pg_tup hc (pgs_cons (pg_name (by rw [hN]; exact nd) (by rw [hN]; exact slotOf_get e1) (hl x q1).1 (hl x q1).2) (pgs_cons (pg_name (by rw [hN]; exact nd) (by rw [hN]; exact slotOf_get e2) (hl y q3).1 (hl y q3).2) pgs_nil))
      · cases h
    · cases h
  · cases h
end
end Tk
/-! enumerate and zip are sound. -/
namespace Tk
open PySem PySem.Spec PyProof.Rows L2
open D
section
variable {ct : CT} {c : CE} {A : Ar} {L : Nat} {ev0 : Option Str} {hx : Option (Nat × Addr)} {n : Nat} {X : Cx} {W : WX} {O : List Nat}
theorem denAll_chars {K : PySem.W.Frag} {Z : Hp} : ∀ z : List Nat, DenAll K ct Z (z.map fun c => V.str ⟨#[c]⟩) (z.map fun c => D.str [c])
  | [] => .nil
  | c :: z => .cons (den_str _ _ _ [c]) (denAll_chars z)
theorem src_of {K : PySem.W.Frag} {Z : Hp} {v : V} {d : D} {ds : List D} (h : Den K ct Z v d) (hi : itemsD d = .ok ds) : ∃ S vs, v = Src.val S ∧ (∀ H, Same Z H → S.has K H vs) ∧ DenAll K ct Z vs ds := by
  cases d with
  | lst xs =>
    cases hi
    cases h with
    | lst h1 h2 => exact ⟨.lst _, _, rfl, fun H s => .inl (same_rd s h1), h2⟩
  | tup xs =>
    cases hi
    cases h with
    | tup h1 h2 => exact ⟨.tup _, _, rfl, fun H s => same_seqT s h1, h2⟩
  | str z =>
    cases hi
    have e2 := ShDen.str (H := Z) (.inl h)
    subst e2
    exact ⟨.str ⟨z.toArray⟩, _, rfl, fun H s => rfl, denAll_chars z⟩
  | _ => cases hi
theorem enumL_get : ∀ {ds : List D} {k i : Nat} {d : D}, (enumL k ds)[i]? = some d → ∃ x, ds[i]? = some x ∧ d = .tup [.int ((k + i : Nat) : Int), x]
  | [], k, i, d, h => by simp [enumL] at h
  | x :: xs, k, 0, d, h => by simp [enumL] at h; exact ⟨x, rfl, by rw [← h]; simp⟩
  | x :: xs, k, i + 1, d, h => by
    obtain ⟨y, h1, h2⟩ := enumL_get (ds := xs) (k := k + 1) (i := i) (by simpa [enumL] using h)
    exact ⟨y, by simpa using h1, by rw [h2]; congr 4; omega⟩
theorem enumL_len : ∀ (ds : List D) (k : Nat), (enumL k ds).length = ds.length
  | [], _ => rfl
  | x :: xs, k => by simp [enumL, enumL_len xs]
theorem zipL_get : ∀ {ds es : List D} {i : Nat} {d : D}, (zipL ds es)[i]? = some d → ∃ x y, ds[i]? = some x ∧ es[i]? = some y ∧ d = .tup [x, y]
  | [], es, i, d, h => by simp [zipL] at h
  | x :: xs, [], i, d, h => by simp [zipL] at h
  | x :: xs, y :: ys, 0, d, h => by simp [zipL] at h; exact ⟨x, y, rfl, rfl, h.symm⟩
  | x :: xs, y :: ys, i + 1, d, h => by
    obtain ⟨a, b, h1, h2, h3⟩ := zipL_get (ds := xs) (es := ys) (i := i) (by simpa [zipL] using h)
    exact ⟨a, b, by simpa using h1, by simpa using h2, h3⟩
theorem zipL_len : ∀ (ds es : List D), (zipL ds es).length = min ds.length es.length
  | [], es => by simp [zipL]
  | x :: xs, [] => by simp [zipL]
  | x :: xs, y :: ys => by simp [zipL, zipL_len xs ys]
theorem walk_of_enm {K : PySem.W.Frag} {Z : Hp} {S : Src} {vs : List V} {ds : List D} (h : ∀ H, Same Z H → S.has K H vs) (hd : DenAll K ct Z vs ds) : WalkD K ct (ItE K S) (enumL 0 ds) Z := by
  refine ⟨fun H => S.has K H vs, YPair (fun i => some (.int (i : Nat))) (fun i => vs[i]?), ⟨fun i H hi q => ?_, fun H q => ⟨vs, q, ?_⟩, fun i H v H' _ q y => ?_⟩, h, ?_⟩
  · rw [enumL_len, ← hd.length] at hi
    exact ⟨vs, vs[i], q, by simp [hi]⟩
  · rw [enumL_len, hd.length]
  · obtain ⟨T, x, h1, h2, h3, h4⟩ := y
    exact ⟨T, .int (i : Nat), x, h1, h2, h3, rfl, h4 vs q⟩
  · rintro i H v H2 Z2 d z1 z2 ⟨T, x, y, rfl, hT, rfl, hx, hy⟩ hi
    cases hx
    obtain ⟨e, he, rfl⟩ := enumL_get hi
    obtain ⟨w, hw, hden⟩ := hd.get he
    rw [show vs[i]? = some y from hy] at hw
    cases hw
    refine ⟨_, .mk1 z2 hT, ?_⟩
    rw [Nat.zero_add]
    exact den_tupNew (z2.free hT) (.cons (.int _) (.cons (Den.mono z1 _ _ hden) .nil))
theorem walk_of_zip {K : PySem.W.Frag} {Z : Hp} {S S2 : Src} {vs ws : List V} {ds es : List D} (h : ∀ H, Same Z H → S.has K H vs) (hd : DenAll K ct Z vs ds) (h2 : ∀ H, Same Z H → S2.has K H ws) (hd2 : DenAll K ct Z ws es) : WalkD K ct (ItZ K S S2) (zipL ds es) Z := by
  refine ⟨fun H => S.has K H vs ∧ S2.has K H ws, YPair (fun i => vs[i]?) (fun i => ws[i]?), ⟨fun i H hi q => ?_, fun H q => ⟨vs, ws, q.1, q.2, ?_⟩, fun i H v H' _ q y => ?_⟩, fun H s => ⟨h H s, h2 H s⟩, ?_⟩
  · rw [zipL_len, ← hd.length, ← hd2.length] at hi
    have h1 : i < vs.length := by omega
    have h2 : i < ws.length := by omega
    exact ⟨vs, ws, vs[i], ws[i], q.1, q.2, by simp [h1], by simp [h2]⟩
  · rw [zipL_len, hd.length, hd2.length]
  · obtain ⟨T, x, z, h1, h2, h3, h4, h5⟩ := y
    exact ⟨T, x, z, h1, h2, h3, h4 vs q.1, h5 ws q.2⟩
  · rintro i H v H2 Z2 d z1 z2 ⟨T, x, y, rfl, hT, rfl, hx, hy⟩ hi
    obtain ⟨e, f, he, hf, rfl⟩ := zipL_get hi
    obtain ⟨w, hw, hden⟩ := hd.get he
    rw [show vs[i]? = some x from hx] at hw
    cases hw
    obtain ⟨w, hw, hden2⟩ := hd2.get hf
    rw [show ws[i]? = some y from hy] at hw
    cases hw
    exact ⟨_, .mk1 z2 hT, den_tupNew (z2.free hT) (.cons (Den.mono z1 _ _ hden) (.cons (Den.mono z1 _ _ hden2) .nil))⟩
theorem snd_enm (S : Sit X ct c A L W ev0 hx) {a : Expr} {p pos tpos : Pos} {elts : List Expr} {kk : Nat} {x : SE} (hg : gloB X.env.scope (sOf "enumerate") = true) (hfr : c.free.contains (sOf "enumerate") = true) (hs : noStar a = true) (ha : PE X a (tE X ct A W O hx x)) : PI X (.Tuple elts kk tpos) (.Call (.Name (sOf "enumerate") p) [a] [] pos) (tI X ct A W O hx (.enm x)) := by
  refine (pi_enumS (gloB_gl hg) (S.free _ hfr) (pa_cons ha pa_nil (noStar_each hs)) (noStar_each hs)).imp fun σ H R ⟨hh, Z, ρ, rel, fin⟩ => ?_
  have fin : FinG X.K ct W σ Z H ((ev A x ρ).bind fun d => (itemsD d).bind fun ds => Res.ok (enumL 0 ds)) _ := fin
  refine ⟨hh, Z, ρ, rel, fin.bind.mono fun d Z1 H1 _ e1 f1 v hv => ?_⟩
  cases q : itemsD d with
  | ok ds =>
    rw [q] at f1
    obtain ⟨Sr, vs, rfl, h1, h2⟩ := src_of hv q
    exact ⟨Sr, vs, rfl, h1 _ (rel.ext e1).sub, (FinG.here (a := enumL 0 ds) f1 (rel.ext e1).sub) _ (walk_of_enm h1 h2)⟩
  | bad => rw [q] at f1; exact (show False from f1).elim
  | exc k => exfalso; unfold itemsD at q; split at q <;> cases q
theorem snd_zip (S : Sit X ct c A L W ev0 hx) {a b : Expr} {p pos tpos : Pos} {elts : List Expr} {kk : Nat} {x y : SE} (hg : gloB X.env.scope (sOf "zip") = true) (hfr : c.free.contains (sOf "zip") = true) (hs : noStar a = true) (hs2 : noStar b = true) (ha : PE X a (tE X ct A W O hx x)) (hb : PE X b (tE X ct A W O hx y)) : PI X (.Tuple elts kk tpos) (.Call (.Name (sOf "zip") p) [a, b] [] pos) (tI X ct A W O hx (.zip x y)) := by
  refine (pi_zipS (gloB_gl hg) (S.free _ hfr) (pa_cons ha (pa_cons hb pa_nil (noStar_each hs2)) (noStar_each hs)) (noStar_each hs) (by rw [noStar_each hs2]; rfl)).imp fun σ H R ⟨hh, Z, ρ, rel, fin⟩ => ?_
  have fin : FinG X.K ct W σ Z H ((ev A x ρ).bind fun d => (ev A y ρ).bind fun e => (itemsD d).bind fun ds => (itemsD e).bind fun es => Res.ok (zipL ds es)) _ := fin
  refine ⟨hh, Z, ρ, rel, fin.bind.mono fun d Z1 H1 _ e1 f1 v hv => ?_⟩
  refine ⟨hh, Z1, ρ, rel.ext e1, f1.bind.mono fun d2 Z2 H2 _ e2 f2 u hu => ?_⟩
  cases q : itemsD d with
  | ok ds =>
    cases q2 : itemsD d2 with
    | ok es =>
      rw [q, Res.bind_ok, q2] at f2
      obtain ⟨Sr, vs, rfl, h1, h2⟩ := src_of (Den.mono e2.zz _ _ hv) q
      obtain ⟨Sr2, vs2, rfl, h3, h4⟩ := src_of hu q2
      have sz := ((rel.ext e1).ext e2).sub
      exact ⟨Sr, Sr2, vs, vs2, rfl, h1 _ sz, h3 _ sz, (FinG.here (a := zipL ds es) f2 sz) _ (walk_of_zip h1 h2 h3 h4)⟩
    | bad => rw [q, Res.bind_ok, q2] at f2; exact (show False from f2).elim
    | exc k => exfalso; unfold itemsD at q2; split at q2 <;> cases q2
  | bad => rw [q] at f2; exact (show False from f2).elim
  | exc k => exfalso; unfold itemsD at q; split at q <;> cases q
theorem snd_zipN (S : Sit X ct c A L W ev0 hx) {a b : Expr} {p pos tpos : Pos} {tn : Str} {x y : SE} (hg : gloB X.env.scope (sOf "zip") = true) (hfr : c.free.contains (sOf "zip") = true) (hs : noStar a = true) (hs2 : noStar b = true) (ha : PE X a (tE X ct A W O hx x)) (hb : PE X b (tE X ct A W O hx y)) : PI X (.Name tn tpos) (.Call (.Name (sOf "zip") p) [a, b] [] pos) (tI X ct A W O hx (.zip x y)) := by
  refine (pi_zipN (gloB_gl hg) (S.free _ hfr) (pa_cons ha (pa_cons hb pa_nil (noStar_each hs2)) (noStar_each hs)) (noStar_each hs) (by rw [noStar_each hs2]; rfl)).imp fun σ H R ⟨hh, Z, ρ, rel, fin⟩ => ?_
  have fin : FinG X.K ct W σ Z H ((ev A x ρ).bind fun d => (ev A y ρ).bind fun e => (itemsD d).bind fun ds => (itemsD e).bind fun es => Res.ok (zipL ds es)) _ := fin
  refine ⟨hh, Z, ρ, rel, fin.bind.mono fun d Z1 H1 _ e1 f1 v hv => ?_⟩
  refine ⟨hh, Z1, ρ, rel.ext e1, f1.bind.mono fun d2 Z2 H2 _ e2 f2 u hu => ?_⟩
  cases q : itemsD d with
  | ok ds =>
    cases q2 : itemsD d2 with
    | ok es =>
      rw [q, Res.bind_ok, q2] at f2
      obtain ⟨Sr, vs, rfl, h1, h2⟩ := src_of (Den.mono e2.zz _ _ hv) q
      obtain ⟨Sr2, vs2, rfl, h3, h4⟩ := src_of hu q2
      have sz := ((rel.ext e1).ext e2).sub
      exact ⟨Sr, Sr2, vs, vs2, rfl, h1 _ sz, h3 _ sz, (FinG.here (a := zipL ds es) f2 sz) _ (walk_of_zip h1 h2 h3 h4)⟩
    | bad => rw [q, Res.bind_ok, q2] at f2; exact (show False from f2).elim
    | exc k => exfalso; unfold itemsD at q2; split at q2 <;> cases q2
  | bad => rw [q] at f2; exact (show False from f2).elim
  | exc k => exfalso; unfold itemsD at q; split at q <;> cases q
end
end Tk
/-! Comprehensions; all expressions. -/
namespace Tk
open PySem PySem.Spec PyProof.Rows L2
open D
/-- as Ext, the list at Dd (new) aside -/
structure ExtD (Dd : Addr) (Z1 H1 Z H : Hp) : Prop where
  hh : Same H1 H
  zz : Same Z1 Z
  zh : Same Z H
  keep : ∀ b o, H1 b = some o → Z b = Z1 b
  new : ∀ b, b ≠ Dd → H1 b = none → Z b = none → H b = none
  zd : Z Dd = none
section
variable {ct : CT} {c : CE} {A : Ar} {L : Nat} {ev0 : Option Str} {hx : Option (Nat × Addr)} {n : Nat} {X : Cx} {W : WX} {O : List Nat}
theorem ExtD.start {Dd : Addr} {Z1 H1 : Hp} {o : HO} (s : Same Z1 H1) (h : H1 Dd = none) : ExtD Dd Z1 H1 Z1 (upd H1 Dd o) :=
  ⟨same_upd h, .refl _, s.trans (same_upd h), fun _ _ _ => rfl, fun b nb e _ => by rw [upd_ne nb]; exact e, s.free h⟩
theorem ExtD.step {Dd : Addr} {Z1 H1 Z H Z2 H2 : Hp} (x : ExtD Dd Z1 H1 Z H) {o : HO} (hd : H Dd = some o) (e : Ext Z H Z2 H2) : ExtD Dd Z1 H1 Z2 H2 := by
  refine ⟨x.hh.trans e.hh, x.zz.trans e.zz, e.zh, fun b o q => (e.keep b o (x.hh b o q)).trans (x.keep b o q), fun b nb h1 z2 => ?_, (e.keep Dd o hd).trans x.zd⟩
  exact e.new b (x.new b nb h1 (e.zz.free z2)) z2
theorem ExtD.put {Dd : Addr} {Z1 H1 Z H : Hp} (x : ExtD Dd Z1 H1 Z H) (h1 : H1 Dd = none) (o : HO) : ExtD Dd Z1 H1 Z (upd H Dd o) := by
  refine ⟨fun b u q => ?_, x.zz, fun b u q => ?_, x.keep, fun b nb q z => ?_, x.zd⟩
  · rw [upd_ne (ne_of_none q h1)]; exact x.hh b u q
  · rw [upd_ne (ne_of_none q x.zd)]; exact x.zh b u q
  · rw [upd_ne nb]; exact x.new b nb q z
theorem ExtD.done {Dd : Addr} {Z1 H1 Z H : Hp} (x : ExtD Dd Z1 H1 Z H) (h1 : H1 Dd = none) {o : HO} (hd : H Dd = some o) : Ext Z1 H1 (upd Z Dd o) H := by
  refine ⟨x.hh, x.zz.trans (same_upd x.zd), fun b u q => ?_, fun b u q => ?_, fun b q z => ?_⟩
  · by_cases hb : b = Dd
    · subst hb; rw [upd_same] at q; cases q; exact hd
    · rw [upd_ne hb] at q; exact x.zh b u q
  · rw [upd_ne (ne_of_none q h1)]; exact x.keep b u q
  · by_cases hb : b = Dd
    · subst hb; rw [upd_same] at z; cases z
    · rw [upd_ne hb] at z; exact x.new b hb q z
theorem ExtD.rel {K : PySem.W.Frag} {Dd : Addr} {Z1 H1 Z H : Hp} {σ : L2.St} {ρ : En} (x : ExtD Dd Z1 H1 Z H) {o0 : HO} (hd : H Dd = some o0) (h0 : (∃ xs, o0 = .lst xs) ∨ ∃ φ, o0 = .ext φ) (rel : RelE K ct Z1 H1 O σ ρ) : RelE K ct Z H O σ ρ := by
  refine ⟨x.zh, fun b o h z => ?_, rel.len, fun i d h q => ?_, fun i d h q => ?_, rel.inj⟩
  · by_cases hb : b = Dd
    · subst hb; rw [hd] at h; cases h; exact h0.imp id .inl
    · cases q : H1 b with
      | none => rw [x.new b hb q z] at h; cases h
      | some u =>
        have h2 := x.hh b u q
        rw [h] at h2
        cases h2
        rw [x.keep b o q] at z
        exact (rel.dif b o q z).to fun c u hc hz _ => ⟨x.hh c u hc, (x.keep c u hc).trans hz⟩
  · obtain ⟨v, a, b⟩ := rel.fr i d h q
    exact ⟨v, a, Den.mono x.zz _ _ b⟩
  · obtain ⟨a, h1, h2, h3⟩ := rel.ow i d h q
    obtain ⟨o, ho⟩ := h3.at
    refine ⟨a, h1, (x.keep a o ho).trans h2, ?_⟩
    rcases h3 with ⟨vs, ds, r, g1, g2⟩ | ⟨kvs, ps, r, g1, g2⟩
    · exact .inl ⟨vs, ds, r, x.hh _ _ g1, DenAll.mono x.zz _ _ g2⟩
    · exact .inr ⟨kvs, ps, r, x.hh _ _ g1, DenG.mono x.zz _ _ g2⟩
/-- one turn's part of a comprehension -/
def turnF (A : Ar) (t : List Nat) (one : Bool) (ifs : List SE) (elt : SE) (ρ : En) : D → Res (Option D) := fun d => match bindT t one d ρ with
  | some ρ' => (evc A ifs ρ').bind fun k => if k then (ev A elt ρ').bind fun x => .ok (some x) else .ok none
  | none => .bad
theorem compL_cons {f : D → Res (Option D)} {d : D} {ds r : List D} (h : compL f (d :: ds) = .ok r) : ∃ o r2, f d = .ok o ∧ compL f ds = .ok r2 ∧ r = (match o with | some x => x :: r2 | none => r2) := by
  unfold compL at h
  cases q : f d with
  | ok o =>
    rw [q] at h
    cases q2 : compL f ds with
    | ok r2 =>
      rw [q2] at h
      cases h
      exact ⟨o, r2, rfl, rfl, rfl⟩
    | _ => rw [q2] at h; cases h
  | _ => rw [q] at h; cases h
theorem snd_lcG {t : List Nat} {one : Bool} {it : SI} {ts : List SE} {el : SE} (hO : ∀ i ∈ t, i ∉ O) (σ : L2.St) (H : Hp) (Q : VK) {kk : D → Hp → Hp → Prop} (last : ∀ (r : List D) (Z1 H1 : Hp) (Dd : Addr) (Z2 H2 : Hp) (acc : List V), (∀ Z' H', Ext Z1 H1 Z' H' → kk (.lst r) Z' H') → ExtD Dd Z1 H1 Z2 H2 → H1 Dd = none → H2 Dd = some (.lst acc) → DenAll X.K ct Z2 acc r → Q (.ref Dd) H2)
    (h : tG X ct W O hx (ev A (.lc t one it ts el)) kk σ H) : tLc (tI X ct A W O hx it) (gT X.K t one) (tTs X ct A (fun _ _ _ _ => False) O none ts) (tE X ct A (fun _ _ _ _ => False) O none el) t σ H Q := by
  obtain ⟨hh, Z, ρ, rel, fin⟩ := h
  have fin : FinG X.K ct W σ Z H ((evi A it ρ).bind fun ds => (compL (turnF A t one ts el ρ) ds).bind fun r => if okN r.length then Res.ok (D.lst r) else .bad) _ := fin
  refine ⟨hh, Z, ρ, rel, fin.bind.mono fun ds Z1 H1 _ e1 f1 J hJ => ?_⟩
  have rel1 := rel.ext e1
  intro Dd hD
  obtain ⟨G, Y, wk, hG, hY⟩ := hJ
  cases q : compL (turnF A t one ts el ρ) ds with
  | ok r =>
    rw [q] at f1
    have f1 : FinG X.K ct W σ Z1 H1 (if okN r.length then Res.ok (D.lst r) else .bad) _ := f1
    by_cases hr : okN r.length = true
    · rw [if_pos hr] at f1
      refine lc_it wk (fun i H => ∃ Z2 acc pre rest, ExtD Dd Z1 H1 Z2 H ∧ H Dd = some (.lst acc) ∧ DenAll X.K ct Z2 acc pre ∧ compL (turnF A t one ts el ρ) (ds.drop i) = .ok rest ∧ r = pre ++ rest) ?_ ?_ ?_ ?_
      · exact ⟨Z1, [], [], r, .start rel1.sub hD, upd_same, .nil, by simpa using q, rfl⟩
      · rintro i H2 _ ⟨Z2, acc, pre, rest, x, _, _, _, _⟩
        exact hG H2 (x.zz.trans x.zh)
      · rintro i x H2 H3 hi ⟨Z2, acc, pre, rest, xd, hd, hden, hc, hr2⟩ y
        have hi' : ds[i]? = some ds[i] := List.getElem?_eq_getElem hi
        obtain ⟨Z3, e3, hx3⟩ := hY i H2 x H3 Z2 ds[i] xd.zz xd.zh y hi'
        rw [List.drop_eq_getElem_cons hi] at hc
        obtain ⟨o, r2, ho, hc2, hre⟩ := compL_cons hc
        have xd3 := xd.step hd e3
        have hd3 := e3.hh _ _ hd
        have rel3 := xd3.rel hd3 (.inl ⟨_, rfl⟩) rel1
        unfold turnF at ho
        cases hb : bindT t one ds[i] ρ with
        | none => rw [hb] at ho; cases ho
        | some ρ2 =>
          rw [hb] at ho
          have ho : (evc A ts ρ2).bind (fun k => if k then (ev A el ρ2).bind fun x => Res.ok (some x) else .ok none) = .ok o := ho
          refine bind_ok (by rw [wipe_length]; exact rel.len) xd3.zh hx3 hb fun σ2 bd => ?_
          have rel4 := bd.rel rel3 (wipe_length _ _) (fun k hk => wipe_out hk) hO
          refine ⟨?_, ?_⟩
          · have : ∀ k, k ∉ t → σ2[k]? = σ[k]? := fun k hk => (bd.out k hk).1.trans (wipe_out hk)
            rw [wipe_same (by rw [bd.len, wipe_length]) this]
          cases hk : evc A ts ρ2 with
          | ok k =>
            rw [hk] at ho
            refine ⟨trivial, Z3, ρ2, rel4, ?_⟩
            rw [hk]
            intro Z4 H4 e4
            have xd4 := xd3.step hd3 e4
            have hd4 := e4.hh _ _ hd3
            have den4 := DenAll.mono (e3.zz.trans e4.zz) _ _ hden
            cases k with
            | true =>
              simp only [↓reduceIte]
              refine ⟨trivial, Z4, ρ2, rel4.ext e4, ?_⟩
              have ho : (ev A el ρ2).bind (fun x => Res.ok (some x)) = .ok o := ho
              cases hv : ev A el ρ2 with
              | ok d =>
                rw [hv] at ho
                cases ho
                intro Z5 H5 e5 u hu
                have xd5 := xd4.step hd4 e5
                have hd5 := e5.hh _ _ hd4
                have hlen : acc.length < r.length := by
                  rw [hr2, hre, hden.length]
                  simp
                have hb := of_decide_eq_true hr
                refine ⟨acc, hd5, by rw [sizeLine_eq]; unfold big at hb; omega, Z5, acc ++ [u], pre ++ [d], r2, xd5.put hD _, upd_same, (DenAll.mono e5.zz _ _ den4).append (.cons hu .nil), hc2, ?_⟩
                rw [hr2, hre]
                simp
              | _ => rw [hv] at ho; cases ho
            | false =>
              simp only [Bool.false_eq_true, ↓reduceIte]
              have ho : Res.ok none = Res.ok o := ho
              cases ho
              exact ⟨Z4, acc, pre, r2, xd4, hd4, den4, hc2, by rw [hr2, hre]⟩
          | _ => rw [hk] at ho; cases ho
      · rintro H2 ⟨Z2, acc, pre, rest, xd, hd, hden, hc, hr2⟩
        rw [List.drop_length] at hc
        cases hc
        rw [List.append_nil] at hr2
        subst hr2
        exact last _ _ _ _ _ _ _ f1 xd hD hd hden
    · rw [if_neg hr] at f1; exact (show False from f1).elim
  | exc k =>
    exfalso
    have : ∀ ds, compL (turnF A t one ts el ρ) ds ≠ .exc k := by
      intro ds
      cases ds with
      | nil => intro z; cases z
      | cons d ds =>
        intro z
        unfold compL at z
        split at z
        · split at z <;> cases z
        · cases z
    exact this ds q
  | bad => rw [q] at f1; exact (show False from f1).elim
theorem snd_lc {t : List Nat} {one : Bool} {it : SI} {ts : List SE} {el : SE} (hO : ∀ i ∈ t, i ∉ O) (σ : L2.St) (H : Hp) (Q : VK)
    (h : tE X ct A W O hx (.lc t one it ts el) σ H Q) : tLc (tI X ct A W O hx it) (gT X.K t one) (tTs X ct A (fun _ _ _ _ => False) O none ts) (tE X ct A (fun _ _ _ _ => False) O none el) t σ H Q :=
  snd_lcG (kk := fun d Z' H' => ∀ v, Den X.K ct Z' v d → Q v H') hO σ H Q (fun r Z1 H1 Dd Z2 H2 acc f1 xd hD hd hden => f1 _ _ (xd.done hD hd) _ (den_lstNew xd.zd hden)) h
theorem tgt_len {N : List Str} {sc : Scope} {tg : Expr} {t : List Nat} {one : Bool} (h : tgtOf N sc tg = some (t, one)) : ((tgtNames tg).zip t).map (·.2) = t := by
  unfold tgtOf at h
  split at h
  · split at h
    · rename_i x p q
      cases e : slotOf N x with
      | none => rw [e] at h; cases h
      | some i => rw [e] at h; cases h; rfl
    · cases h
  · split at h
    · split at h
      · split at h
        · cases h
        · cases h; rfl
      · cases h
    · cases h
  · cases h
theorem noSet_fold {e : Expr} {env : Env} (h : noSet e = true) : ∀ x, foldedSetIterable e env x = pure x := by
  intro x
  cases e <;> first | rfl | cases h
theorem Sit.blk (S : Sit X ct c A L W none hx) (s : Shared) (H : Hp) (scope : Scope) (cl : List (Str × Addr)) (C : Addr) (fp : List Addr) : Sit (X.blk s H scope (compEnvC scope cl C X.env) fp) ct c A L (fun _ _ _ _ => False) none none :=
  ⟨S.N, S.nd, S.calm, fun u s' ⟨a, B, sI, pins, σ, H, cls, d, e, I, nb, up, sky, na, os, ag, w⟩ => w, S.un, S.room, S.fns, S.cls, S.meth, S.kd, S.gc, S.free, (fun i a h => nomatch h), S.exc⟩
theorem loc_blk {s : Shared} {H : Hp} {scope : Scope} {cl : List (Str × Addr)} {C : Addr} {fp : List Addr} {x : Str} (h : locB scope x = true) : L2.Loc (X.blk s H scope (compEnvC scope cl C X.env) fp).env.scope x ∧ ((X.blk s H scope (compEnvC scope cl C X.env) fp).fn x = true ∨ (X.blk s H scope (compEnvC scope cl C X.env) fp).env.scope.names.lookup x = some .local) := by
  have key : ∀ k, k ≠ NameKind.free → scope.names.lookup x = some k → (relS scope X.env.scope).names.lookup x = some k := fun k hk e => lookup_relS_keep hk e
  rcases locB_loc h with e | e
  · exact ⟨.inl (key _ (by decide) e), .inr (key _ (by decide) e)⟩
  · refine ⟨.inr (key _ (by decide) e), .inl ?_⟩
    show (scope.names.lookup x == some .cell) = true
    rw [e]
    rfl
theorem lc_rules {elt tg iter : Expr} {ifs : List Expr} {scope : Scope} {pos : Pos} {t : List Nat} {one : Bool} {it : SI} {ts : List SE} {el : SE} (S : Sit X ct c A L W none hx) (hO : ∀ i ∈ t, i ∉ O) (hs : noSet iter = true) (hb : blkC c.N X.env.scope scope ((tgtNames tg).zip t) = true)
    (ht : tgtOf c.N scope tg = some (t, one)) (hi : PI X tg iter (tI X ct A W O hx it))
    (hts : ∀ X', Sit X' ct c A L (fun _ _ _ _ => False) none none → X'.K = X.K → X'.env.scope = relS scope X.env.scope → PTs X' ifs (tTs X' ct A (fun _ _ _ _ => False) O none ts))
    (hel : ∀ X', Sit X' ct c A L (fun _ _ _ _ => False) none none → X'.K = X.K → X'.env.scope = relS scope X.env.scope → PE X' elt (tE X' ct A (fun _ _ _ _ => False) O none el)) :
    ∀ {t' : TE}, (∀ σ H Q, t' σ H Q → tLc (tI X ct A W O hx it) (gT X.K t one) (tTs X ct A (fun _ _ _ _ => False) O none ts) (tE X ct A (fun _ _ _ _ => False) O none el) t σ H Q) → PE X (.ListComp elt [⟨tg, iter, ifs, 0⟩] scope pos) t' ∧ ∀ {i : Nat} {y : Str} {py spos : Pos}, X.N[i]? = some y → X.env.scope.names.lookup y = some .local → swapsWith (.ListComp elt [⟨tg, iter, ifs, 0⟩] scope pos) (some (.Name y py)) spos.line X.env = pure true → PS X (.Assign [.Name y py] (.ListComp elt [⟨tg, iter, ifs, 0⟩] scope pos) spos) (tAsg t' (gName i)) := by
  intro t' imp
  have nd : X.N.Nodup := by rw [S.N]; exact S.nd
  have ok : BlkOk X.N X.env.scope scope ((tgtNames tg).zip t) := blkOk_by (by rw [S.N]; exact hb)
  have hg : ∀ (s : Shared) (H : Hp) (C : Addr) (cl : List (Str × Addr)) (fp : List Addr), PG (X.blk s H scope (compEnvC scope cl C X.env) fp) tg (gT X.K t one) := fun s H C cl fp => pg_of (X' := X.blk s H scope (compEnvC scope cl C X.env) fp) S.N S.nd (S.calm rfl) (fun x hx => loc_blk hx) ht
  have hT : ∀ (s : Shared) (H : Hp) (C : Addr) (cl : List (Str × Addr)) (fp : List Addr), PTs (X.blk s H scope (compEnvC scope cl C X.env) fp) ifs (tTs X ct A (fun _ _ _ _ => False) O none ts) := fun s H C cl fp => hts (X.blk s H scope (compEnvC scope cl C X.env) fp) (S.blk s H scope cl C fp) rfl rfl
  have hE : ∀ (s : Shared) (H : Hp) (C : Addr) (cl : List (Str × Addr)) (fp : List Addr), PE (X.blk s H scope (compEnvC scope cl C X.env) fp) elt (tE X ct A (fun _ _ _ _ => False) O none el) := fun s H C cl fp => hel (X.blk s H scope (compEnvC scope cl C X.env) fp) (S.blk s H scope cl C fp) rfl rfl
  refine ⟨?_, fun {i y py spos} hy hyl hsw => ?_⟩
  · refine (pe_lc (own := (tgtNames tg).zip t) (S.calm rfl) nd hi ok hg hT hE (noSet_fold hs)).imp fun σ H Q h => ?_
    rw [tgt_len ht]
    exact imp σ H Q h
  · refine (ps_setLc (own := (tgtNames tg).zip t) (S.calm rfl) nd hy hyl hsw hi ok hg hT hE (noSet_fold hs)).imp fun D σ H h => ?_
    rw [tgt_len ht]
    exact imp σ H _ h
end
end Tk
/-! {} and {k: v}; list(range(n)). -/
namespace Tk
open PySem PySem.Spec PyProof.Rows L2
open D
section
variable {ct : CT} {c : CE} {A : Ar} {L : Nat} {ev0 : Option Str} {hx : Option (Nat × Addr)} {n : Nat} {X : Cx} {W : WX} {O : List Nat}
theorem den_gdNew {K : PySem.W.Frag} {w : World} {Z : Hp} {p : Addr} {acc : Gd.Acc} {ep : Nat} {ps : List (D × D)} (hw : ct.w = w) (hp : Z p = none) (h : DenG K ct Z acc ps) : Den K ct (upd Z p (Gd.gdO w p acc ep)) (.ref p) (.gd ps) := by
  refine .gd (acc := acc) (ep := ep) ?_ (DenG.mono (same_upd hp) _ _ h)
  rw [hw]; exact upd_same
theorem snd_dnil (S : Sit X ct c A L W ev0 hx) {dp : Pos} : Both X ct A W O hx (.Dict [] [] dp) (.con (.gd [])) := by
  refine .plain (Gd.pe_gnew.imp fun σ H Q ⟨hh, Z, ρ, rel, fin⟩ => ?_) fun _ => rfl
  intro p hp
  have fin : FinG X.K ct W σ Z H (Res.ok (D.gd [])) _ := fin
  exact fin _ _ (.mk1 rel.sub hp) _ (den_gdNew S.kd.1 (rel.sub.free hp) .nil)
/-- {k: v}, whatever is to come of it -/
theorem done_of (S : Sit X ct c A L W ev0 hx) {x y : SE} {σ : L2.St} {H : Hp} {Q : VK} {kk : D → Hp → Hp → Prop}
    (last : ∀ (d e : D) (Z1 H1 : Hp) (p : Addr) (Z2 H2 : Hp) (acc : Gd.Acc) (ep : Nat), (∀ Z' H', Ext Z1 H1 Z' H' → kk (.gd [(d, e)]) Z' H') → ExtD p Z1 H1 Z2 (upd H2 p (Gd.gdO X.w p acc ep)) → H1 p = none → DenG X.K ct Z2 acc [(d, e)] → Q (.ref p) (upd H2 p (Gd.gdO X.w p acc ep)))
    (h : tG X ct W O hx (ev A (.dict [x] [y])) kk σ H) : ∀ p, H p = none → tE X ct A W O hx x σ (upd H p (Gd.gdO X.w p [] 0)) fun u H1 => tE X ct A W O hx y σ H1 fun v H2 => H2 p = some (Gd.gdO X.w p [] 0) ∧ ∃ q, Gd.KyD X.K H2 u q ∧
      ∀ a b ep, RelV u a → RelV v b → Q (.ref p) (upd H2 p (Gd.gdO X.w p [(q, ⟨q.hash X.w, a, b⟩)] ep)) := by
  obtain ⟨hh, Z, ρ, rel, fin⟩ := h
  intro p hp
  have fin : FinG X.K ct W σ Z H (((ev A x ρ).bind fun x => (Res.ok []).bind fun r => Res.ok (x :: r)).bind fun xs => ((ev A y ρ).bind fun x => (Res.ok []).bind fun r => Res.ok (x :: r)).bind fun ys => match xs, ys with | [x], [y] => if kyB x then Res.ok (D.gd [(x, y)]) else .bad | _, _ => .bad) kk := fin
  have x0 : ExtD p Z H Z (upd H p (Gd.gdO X.w p [] 0)) := .start rel.sub hp
  have rel0 : RelE X.K ct Z (upd H p (Gd.gdO X.w p [] 0)) O σ ρ := x0.rel upd_same (.inr ⟨_, rfl⟩) rel
  refine ⟨hh, Z, ρ, rel0, ?_⟩
  cases q : ev A x ρ with
  | bad => rw [q] at fin; exact (show False from fin).elim
  | exc k =>
    rw [q] at fin
    exact fun C Z' H' e z => fin C _ H' e ((x0.step upd_same z).done hp (z.hh _ _ upd_same))
  | ok d =>
    rw [q] at fin
    intro Z1 H1 e1 u hu
    have x1 := x0.step upd_same e1
    have p1 := e1.hh _ _ (upd_same (H := H) (a := p) (o := Gd.gdO X.w p [] 0))
    have fin : FinG X.K ct W σ Z H (((ev A y ρ).bind fun x => (Res.ok []).bind fun r => Res.ok (x :: r)).bind fun ys => match [d], ys with | [x], [y] => if kyB x then Res.ok (D.gd [(x, y)]) else .bad | _, _ => .bad) kk := fin
    refine ⟨hh, Z1, ρ, rel0.ext e1, ?_⟩
    cases q2 : ev A y ρ with
    | bad => rw [q2] at fin; exact (show False from fin).elim
    | exc k =>
      rw [q2] at fin
      exact fun C Z' H' e z => fin C _ H' e ((x1.step p1 z).done hp (z.hh _ _ p1))
    | ok e =>
      rw [q2] at fin
      intro Z2 H2 e2 v hv
      have x2 := x1.step p1 e2
      have p2 := e2.hh _ _ p1
      have fin : FinG X.K ct W σ Z H (if kyB d then Res.ok (D.gd [(d, e)]) else .bad) kk := fin
      by_cases c : kyB d = true
      · rw [if_pos c] at fin
        refine ⟨p2, nk d, (Den.mono ((rel0.ext e1).ext e2).sub _ _ (Den.mono e2.zz _ _ hu)).kyD c, fun a b ep ra rb => ?_⟩
        exact last d e Z H p Z2 H2 _ ep fin (x2.put hp _) hp (.cons ra (Den.mono e2.zz _ _ hu) c rb hv .nil)
      · rw [if_neg c] at fin; exact (show False from fin).elim
theorem snd_done (S : Sit X ct c A L W ev0 hx) {k v : Expr} {x y : SE} {dp : Pos} (hk : PE X k (tE X ct A W O hx x)) (hv : PE X v (tE X ct A W O hx y)) : Both X ct A W O hx (.Dict [some k] [v] dp) (.dict [x] [y]) := by
  refine .plain ((Gd.pe_gone (by have := S.un; omega) hk hv).imp fun σ H Q h => ?_) fun _ => rfl
  refine done_of S (kk := fun d Z' H' => ∀ v, Den X.K ct Z' v d → Q v H') (fun d e Z1 H1 p Z2 H2 acc ep f xd hp hd => ?_) h
  exact f _ _ (xd.done hp upd_same) _ (den_gdNew S.kd.1 xd.zd hd)
theorem rg_len {b : Int} : (rgV 0 b).length = b.toNat := by
  rw [rgV_length]; simp
theorem den_rg {K : PySem.W.Frag} {Z : Hp} {b : Int} : DenAll K ct Z (rgV 0 b) (rangeL 0 b) := by
  have e : rgV 0 b = ((List.range (b - 0).toNat).map fun (k : Nat) => (0 : Int) + (k : Int)).map V.int := by
    unfold rgV; simp [List.map_map, Function.comp_def]
  have e2 : rangeL 0 b = ((List.range (b - 0).toNat).map fun (k : Nat) => (0 : Int) + (k : Int)).map D.int := by
    unfold rangeL; simp [List.map_map, Function.comp_def]
  rw [e, e2]
  exact den_ints _
theorem snd_listR (S : Sit X ct c A L W ev0 hx) (h0 : ev0 = none) {p p2 q pos : Pos} {a : Expr} {x : SE} (hg : gloB X.env.scope (sOf "list") = true) (hfr : c.free.contains (sOf "list") = true) (hg2 : gloB X.env.scope (sOf "range") = true) (hfr2 : c.free.contains (sOf "range") = true) (hs : noStar a = true) (ha : PE X a (tS X ct A W O hx x)) : Both X ct A W O hx (.Call (.Name (sOf "list") p) [.Call (.Name (sOf "range") p2) [a] [] q] [] pos) (.bi .listR [x]) := by
  refine .plain ((pe_listRg (S.calm h0) (gloB_gl hg) (S.free _ hfr) (prg_1 (p := p2) (pos := q) (gloB_gl hg2) (S.free _ hfr2) ha (noStar_each hs)) rfl).imp fun σ H Q ⟨hh, Z, ρ, rel, fin⟩ => ?_) fun _ => rfl
  rw [bi1_eq] at fin
  refine ⟨hh, Z, ρ, rel, fin.bind.mono fun d Z1 H1 _ e1 f1 v hv => ?_⟩
  have sz := (rel.ext e1).sub
  cases d with
  | int b =>
    have f1 : FinG X.K ct W σ Z1 H1 (if decide (0 ≤ b) && decide (b ≤ 1000000) then Res.ok (D.lst (rangeL 0 b)) else .bad) _ := f1
    by_cases cc : (decide (0 ≤ b) && decide (b ≤ 1000000)) = true
    · rw [if_pos cc] at f1
      obtain ⟨c1, c2⟩ := Bool.and_eq_true_iff.mp cc
      have c1 := of_decide_eq_true c1
      have c2 := of_decide_eq_true c2
      refine ⟨b, hv.int, .of_le (by omega) (by omega) (by omega) c1, fun p hp => ?_⟩
      exact f1 _ _ (.mk1 sz hp) _ (den_lstNew (sz.free hp) den_rg)
    · rw [if_neg cc] at f1; exact (show False from f1).elim
  | _ => exact (show False from f1).elim
end
end Tk
/-! All expressions. -/
namespace Tk
open PySem PySem.Spec PyProof.Rows L2
open D
/-- isinstance of the error that is handled -/
def IsxOk (ct : CT) (c : CE) (A : Ar) (ev : Option Str) (hx : Option (Nat × Addr)) : Prop := ∀ (X : Cx) (W : WX) (L : Nat) (O : List Nat) (v t : Str) (p q q2 pos : Pos) (cs : List Nat), Sit X ct c A L W ev hx → ev = some v → visB X.env.scope v = true → plainName v = true → gloB X.env.scope (sOf "isinstance") = true → c.free.contains (sOf "isinstance") = true → gloB X.env.scope t = true → plainName t = true → exsOf c t = some cs →
  PE X (.Call (.Name (sOf "isinstance") p) [.Name v q, .Name t q2] [] pos) (tE X ct A W O hx (.isx cs))
section
variable {ct : CT} {c : CE} {A : Ar} {L : Nat} {ev0 : Option Str} {hx : Option (Nat × Addr)} {n : Nat} {X : Cx} {W : WX} {O : List Nat}
theorem ShS {e : Expr} {se : SE} (h : Both X ct A W O hx e se) : PE X e (tS X ct A W O hx se) := tS.toE h.1
theorem cEs_len {sc : Scope} : ∀ {n : Nat} {es : List Expr} {ses : List SE}, cEs c ev0 n sc es = some ses → ses.length = es.length
  | 0, _, _, h => by cases h
  | n + 1, [], _, h => by cases h; rfl
  | n + 1, e :: es, ses, h => by
    have h : (match cE c ev0 n sc e, cEs c ev0 n sc es with | some x, some y => if noStar e then some (x :: y) else none | _, _ => none) = some ses := h
    split at h
    · rename_i x y e1 e2
      split at h
      · cases h
        simp [cEs_len e2]
      · cases h
    · cases h
theorem sndE_step (hi : IsxOk ct c A ev0 hx) (ih : Snd ct c A L ev0 hx n) (S : Sit X ct c A L W ev0 hx) {e : Expr} {se : SE} (h : cE c ev0 (n + 1) X.env.scope e = some se) (hO : ∀ i ∈ esc se, i ∉ O) : Both X ct A W O hx e se := by
  unfold cE at h
  split at h
  · -- Name
    rename_i x p
    split at h
    · cases h
    rename_i hp
    have hp : plainName x = true := by simpa using hp
    split at h
    · rename_i hv
      split at h
      · cases h
      · cases e1 : slotOf c.N x with
        | none => rw [e1] at h; cases h
        | some i =>
          rw [e1] at h
          cases h
          exact snd_var S hp hv e1 (hO i (by simp [esc]))
    · split at h
      · rename_i hg
        cases e1 : c.gc.lookup x with
        | none => rw [e1] at h; cases h
        | some d =>
          rw [e1] at h
          cases h
          exact snd_glob S hp hg e1
      · cases h
  · -- Constant
    rename_i k j p
    cases e1 : constD k with
    | none => rw [e1] at h; cases h
    | some d => rw [e1] at h; cases h; exact snd_con e1
  · -- Tuple
    rename_i es k p
    split at h
    · rename_i xs e1
      split at h
      · rename_i hl
        cases h
        exact snd_tup (ih.As X W es xs O S e1 hO).1 hl
      · cases h
    · cases h
  · -- List
    rename_i es p
    split at h
    · rename_i xs e1
      split at h
      · rename_i hl
        cases h
        exact snd_lst (ih.As X W es xs O S e1 hO).1 hl
      · cases h
    · cases h
  · -- BinOp
    rename_i a op b p
    split at h
    · rename_i o x y e0 e1 e2
      cases h
      obtain ⟨o1, o2⟩ := mem_l hO
      exact snd_bin e0 (ih.S X W a x O S e1 o1) (ih.S X W b y O S e2 o2)
    · cases h
  · -- USub
    rename_i a p
    cases e1 : cE c ev0 n X.env.scope a with
    | none => rw [e1] at h; cases h
    | some x => rw [e1] at h; cases h; exact snd_neg (ih.E X W a x O S e1 hO).1
  · -- Not
    rename_i a p
    cases e1 : cE c ev0 n X.env.scope a with
    | none => rw [e1] at h; cases h
    | some x => rw [e1] at h; cases h; exact snd_not (ih.E X W a x O S e1 hO)
  · exact snd_one (ih.E X W _ se O S h hO)
  · exact snd_one (ih.E X W _ se O S h hO)
  · -- And
    rename_i a b r p
    split at h
    · rename_i x y e1 e2
      cases h
      obtain ⟨o1, o2⟩ := mem_l hO
      have hb := ih.E X W _ y O S e2 o2
      have hp : ∀ whole, isTrue (.BoolOp .And (b :: r) p) X.env whole = isTrue (.BoolOp .And (b :: r) p) X.env (eval (.BoolOp .And (b :: r) p) X.env) := fun _ => rfl
      have := snd_and (pos := p) (ih.E X W a x O S e1 o1) ⟨hb.1, ⟨fun wh pins s σ H Q I q => by rw [hp wh]; exact hb.2.run pins s σ H Q I q⟩⟩
      exact ⟨this.1, this.2.pt⟩
    · cases h
  · -- Or
    rename_i a b r p
    split at h
    · rename_i x y e1 e2
      cases h
      obtain ⟨o1, o2⟩ := mem_l hO
      have hb := ih.E X W _ y O S e2 o2
      have hp : ∀ whole, isTrue (.BoolOp .Or (b :: r) p) X.env whole = isTrue (.BoolOp .Or (b :: r) p) X.env (eval (.BoolOp .Or (b :: r) p) X.env) := fun _ => rfl
      have := snd_or (pos := p) (ih.E X W a x O S e1 o1) ⟨hb.1, ⟨fun wh pins s σ H Q I q => by rw [hp wh]; exact hb.2.run pins s σ H Q I q⟩⟩
      exact ⟨this.1, this.2.pt⟩
    · cases h
  · -- Compare
    rename_i a op b p
    split at h
    · rename_i o x y e0 e1 e2
      split at h
      · rename_i hm
        cases h
        obtain ⟨o1, o2⟩ := mem_l hO
        exact snd_cmp S e0 (ih.S X W a x O S e1 o1) (ih.S X W b y O S e2 o2) hm
      · cases h
    · cases h
  · -- Compare2
    rename_i a op op' b d p
    split at h
    · rename_i o o' x y z e0 e0' e1 e2 e3
      split at h
      · rename_i hm
        cases h
        obtain ⟨o1, o2⟩ := mem_l hO
        obtain ⟨o3, o4⟩ := mem_l o2
        exact snd_cmp2 S e0 e0' (ih.S X W a x O S e1 o1) (ih.S X W b y O S e2 o3) (ih.S X W d z O S e3 o4) (Bool.and_eq_true_iff.mp hm).2
      · cases h
    · cases h
  · -- IfExp
    rename_i t a b p
    split at h
    · rename_i x y z e1 e2 e3
      cases h
      obtain ⟨o1, o2⟩ := mem_l hO
      obtain ⟨o3, o4⟩ := mem_l o2
      exact snd_ite (ih.E X W t x O S e1 o1) (ih.E X W a y O S e2 o3) (ih.E X W b z O S e3 o4)
    · cases h
  · -- [::-1]
    rename_i a j p1 p2 p3 p
    cases e1 : cE c ev0 n X.env.scope a with
    | none => rw [e1] at h; cases h
    | some x => rw [e1] at h; cases h; exact snd_rev (ih.S X W a x O S e1 hO)
  · -- slices
    rename_i a lo hi q p
    split at h
    · rename_i x l r e1 e2 e3
      cases h
      obtain ⟨o1, o2⟩ := mem_l hO
      obtain ⟨o3, o4⟩ := mem_l o2
      exact snd_sl (ih.S X W a x O S e1 o1) (ih.Op X W lo l O S e2 o3) (ih.Op X W hi r O S e3 o4)
    · cases h
  · -- a[i]
    rename_i a i p _ _
    split at h
    · rename_i hs
      split at h
      · rename_i x y e1 e2
        cases h
        obtain ⟨o1, o2⟩ := mem_l hO
        exact snd_ix S (ih.S X W a x O S e1 o1) (ih.S X W i y O S e2 o2) hs
      · cases h
    · cases h
  · -- f(..)
    rename_i f p args q
    split at h
    · cases h
    rename_i hc
    have hc : plainName f = true ∧ gloB X.env.scope f = true := by simpa using hc
    split at h
    · rename_i k m e0
      split at h
      · rename_i hl
        have hl := Bool.and_eq_true_iff.mp hl
        have h0 : ev0 = none := beq_iff_eq.mp hl.2
        cases e1 : cEs c ev0 n X.env.scope args with
        | none => rw [e1] at h; cases h
        | some ses =>
          rw [e1] at h
          cases h
          obtain ⟨g1, g2⟩ := ih.As X W args ses O S e1 hO
          exact snd_call S h0 hc.1 hc.2 e0 ((cEs_len e1).trans (beq_iff_eq.mp hl.1)) g1 g2 fun z => by
            have := cEs_len e1
            rw [z] at this
            exact List.length_eq_zero_iff.mp this
      · cases h
    · split at h
      · cases h
      rename_i hfr
      have hfr : c.free.contains f = true := by simpa using hfr
      split at h
      · rename_i hf
        have hf := sOf_eq hf
        subst hf
        split at h
        · rename_i a t q2
          split at h
          · cases h
          rename_i hg
          have hg : gloB X.env.scope t = true ∧ plainName t = true ∧ noStar a = true := by
            simp at hg
            exact ⟨hg.1.1, hg.1.2, hg.2⟩
          split at h
          · rename_i v
            split at h
            · rename_i x q3 z3
              split at h
              · rename_i hv
                simp only [Bool.and_eq_true, beq_iff_eq] at hv
                cases e1 : exsOf c t with
                | none => rw [e1] at h; cases h
                | some cs =>
                  rw [e1] at h
                  cases h
                  obtain ⟨⟨v1, v2⟩, v3⟩ := hv
                  subst v1
                  exact .plain (hi X W L O x t p q3 q2 q cs S rfl v2 v3 hc.2 hfr hg.1 hg.2.1 e1) fun _ => rfl
              · cases h
            · cases h
          · split at h
            · rename_i hft
              split at h
              · rename_i k x e1 e2
                cases h
                have : escSs [x] = escS x := by simp [escSs, escS]
                exact snd_isi S hc.2 hfr hg.1 hg.2.1 hft e1 hg.2.2 (ih.S X W a x O S e2 (by rw [← this]; exact hO))
              · cases h
            · cases h
        · cases h
      split at h
      · rename_i hls
        obtain ⟨hl1, hl2⟩ := Bool.and_eq_true_iff.mp hls
        have hf := sOf_eq hl1
        clear hls hl2 hl1
        subst hf
        split at h
        · rename_i g p2 a q2
          split at h
          · rename_i hs
            have hs : (((gloB X.env.scope g = true ∧ c.free.contains g = true) ∧ noStar a = true) ∧ ev0 = none) ∧ (g == sOf "set") = true := by simpa using hs
            obtain ⟨⟨⟨⟨s1, s2⟩, s3⟩, s4⟩, s5⟩ := hs
            have s5 := sOf_eq s5
            subst s5
            cases e1 : cE c ev0 n X.env.scope a with
            | none => rw [e1] at h; cases h
            | some x =>
              rw [e1] at h
              cases h
              have : esc (.bi .lenSet [x]) = escS x := by simp [esc, escSs, escS]
              exact snd_lenSet S s4 hc.2 hfr s1 s2 s3 (ih.S X W a x O S e1 (by rw [← this]; exact hO))
          · cases h
        · cases h
      rename_i hn0
      clear hn0
      split at h
      · rename_i hls
        obtain ⟨hl1, hl2⟩ := Bool.and_eq_true_iff.mp hls
        have hf := sOf_eq hl1
        clear hls hl2 hl1
        subst hf
        split at h
        · rename_i g p2 a q2
          split at h
          · rename_i hs
            have hs : (((gloB X.env.scope g = true ∧ c.free.contains g = true) ∧ noStar a = true) ∧ ev0 = none) ∧ (g == sOf "set") = true := by simpa using hs
            obtain ⟨⟨⟨⟨s1, s2⟩, s3⟩, s4⟩, s5⟩ := hs
            have s5 := sOf_eq s5
            subst s5
            cases e1 : cE c ev0 n X.env.scope a with
            | none => rw [e1] at h; cases h
            | some x =>
              rw [e1] at h
              cases h
              have : esc (.bi .sortedSet [x]) = escS x := by simp [esc, escSs, escS]
              exact snd_sortedSet S s4 hc.2 hfr s1 s2 s3 (ih.S X W a x O S e1 (by rw [← this]; exact hO))
          · cases h
        · cases h
      rename_i hn0
      clear hn0
      split at h
      · rename_i hls
        obtain ⟨hl1, hl2⟩ := Bool.and_eq_true_iff.mp hls
        have hf := sOf_eq hl1
        clear hls hl2 hl1
        subst hf
        split at h
        · rename_i g p2 a q2
          split at h
          · rename_i hs
            have hs : (((gloB X.env.scope g = true ∧ c.free.contains g = true) ∧ noStar a = true) ∧ ev0 = none) ∧ (g == sOf "range") = true := by simpa using hs
            obtain ⟨⟨⟨⟨s1, s2⟩, s3⟩, s4⟩, s5⟩ := hs
            have s5 := sOf_eq s5
            subst s5
            cases e1 : cE c ev0 n X.env.scope a with
            | none => rw [e1] at h; cases h
            | some x =>
              rw [e1] at h
              cases h
              have : esc (.bi .listR [x]) = escS x := by simp [esc, escSs, escS]
              exact snd_listR S s4 hc.2 hfr s1 s2 s3 (ih.S X W a x O S e1 (by rw [← this]; exact hO))
          · cases h
        · cases h
      rename_i hn0
      clear hn0
      split at h
      · rename_i hf
        have hf := sOf_eq hf
        subst hf
        split at h
        · rename_i a b
          split at h
          · rename_i hs
            have hs : (noStar a = true ∧ noStar b = true) ∧ ev0 = none := by simpa using hs
            split at h
            · rename_i x y e1 e2
              cases h
              have o1 : ∀ i ∈ escS x, i ∉ O := fun i hi => hO i (by simp only [esc, escSs, List.mem_append]; exact .inl hi)
              have o2 : ∀ i ∈ escS y, i ∉ O := fun i hi => hO i (by simp only [esc, escSs, List.mem_append]; exact .inr (.inl hi))
              exact snd_min2 S hs.2 hc.2 hfr hs.1.1 hs.1.2 (ih.S X W a x O S e1 o1) (ih.S X W b y O S e2 o2)
            · cases h
          · cases h
        · cases h
      · rename_i hnls
        clear hnls
        split at h
        · rename_i b a e0
          split at h
          · rename_i hs
            have hs := Bool.and_eq_true_iff.mp hs
            cases e1 : cE c ev0 n X.env.scope a with
            | none => rw [e1] at h; cases h
            | some x =>
              rw [e1] at h
              cases h
              have : esc (.bi b [x]) = escS x := by simp [esc, escSs, escS]
              exact snd_bi1 S (beq_iff_eq.mp hs.2) hc.1 hc.2 hfr e0 hs.1 (ih.S X W a x O S e1 (by rw [← this]; exact hO))
          · cases h
        · cases h
  · -- {..}.get(a)
    rename_i ks vs dp m ap a cp
    split at h
    · cases h
    rename_i hb
    have hb : (((ap.endLine == cp.line) = true ∧ noStar a = true) ∧ ev0 = none) ∧ (m == sOf "get") = true := by simpa using hb
    obtain ⟨⟨⟨hb1, hb2⟩, hb4⟩, hb5⟩ := hb
    split at h
    · rename_i d x e1 e2
      have hm := sOf_eq hb5
      subst hm
      cases h
      obtain ⟨o1, o2⟩ := mem_l hO
      exact snd_dget1 S hb1 hb2 e1 (ih.S X W a x O S e2 (by
        have : escSs [x] = escS x := by simp [escSs, escS]
        rw [← this]; exact o2))
    · cases h
  · -- o.m(a)
    rename_i o m ap a cp _
    split at h
    · cases h
    rename_i hb
    have hb : ((baseOk o = true ∧ (ap.endLine == cp.line) = true) ∧ noStar a = true) ∧ ev0 = none := by simpa using hb
    split at h
    · rename_i x y e1 e2
      split at h
      · rename_i hm
        have hm := sOf_eq hm
        subst hm
        cases h
        obtain ⟨o1, o2⟩ := mem_l hO
        exact snd_join hb.1.1.1 hb.1.1.2 hb.1.2 (ih.S X W o x O S e1 o1) (ih.S X W a y O S e2 (by
          have : escSs [y] = escS y := by simp [escSs, escS]
          rw [← this]; exact o2))
      · split at h
        · rename_i hm
          have hm := sOf_eq hm
          subst hm
          cases h
          obtain ⟨o1, o2⟩ := mem_l hO
          exact snd_sindex S hb.1.1.1 hb.1.1.2 hb.1.2 (ih.S X W o x O S e1 o1) (ih.S X W a y O S e2 (by
            have : escSs [y] = escS y := by simp [escSs, escS]
            rw [← this]; exact o2))
        · split at h
          · rename_i hm
            have hm := sOf_eq hm
            subst hm
            cases h
            obtain ⟨o1, o2⟩ := mem_l hO
            exact snd_getN1 S hb.1.1.1 hb.1.1.2 hb.1.2 (ih.S X W o x O S e1 o1) (ih.S X W a y O S e2 (by
              have : escSs [y] = escS y := by simp [escSs, escS]
              rw [← this]; exact o2))
          · split at h
            · cases h
              obtain ⟨o1, o2⟩ := mem_l hO
              have o3 : ∀ i ∈ esc y, i ∉ O := fun i hi => o2 i (by simp [escs, hi])
              exact snd_meth S hb.2 hb.1.1.1 hb.1.1.2 (ih.E X W o x O S e1 o1).1 (snd_asCons (ih.E X W a y O S e2 o3).1 snd_asNil hb.1.2) (fun e he => by rw [List.mem_singleton.mp he]; exact hb.1.2) (by simp) (fun z => by cases z)
            · cases h
    · cases h
  · -- {..}.get(a, b)
    rename_i ks vs dp m ap a b cp
    split at h
    · cases h
    rename_i hb
    have hb : ((((ap.endLine == cp.line) = true ∧ noStar a = true) ∧ noStar b = true) ∧ ev0 = none) ∧ (m == sOf "get") = true := by simpa using hb
    obtain ⟨⟨⟨⟨hb1, hb2⟩, hb3⟩, hb4⟩, hb5⟩ := hb
    split at h
    · rename_i d x y e1 e2 e3
      have hm := sOf_eq hb5
      subst hm
      cases h
      obtain ⟨o1, o2⟩ := mem_l hO
      exact snd_dget2 S hb1 hb2 hb3 e1 (ih.S X W a x O S e2 (by
        have : escSs [x, .con y] = escS x := by simp [escSs, escS, esc, isVar]
        rw [← this]; exact o2)) (ih.E X W b (.con y) O S e3 (by simp [esc])).1
    · cases h
  · -- o.get(a, b)
    rename_i o m ap a b cp _
    split at h
    · cases h
    rename_i hb
    have hb : (((baseOk o = true ∧ (ap.endLine == cp.line) = true) ∧ noStar a = true) ∧ noStar b = true) ∧ ev0 = none := by simpa using hb
    obtain ⟨⟨⟨⟨hb0, hb1⟩, hb2⟩, hb3⟩, hb4⟩ := hb
    split at h
    · rename_i x y z e1 e2 e3
      have o0 : ∀ i ∈ esc x ++ escs [y, z], i ∉ O → True := fun _ _ _ => trivial
      split at h
      rotate_left
      · split at h
        · cases h
          obtain ⟨o1, o2⟩ := mem_l hO
          have o3 : ∀ i ∈ esc y, i ∉ O := fun i hi => o2 i (by simp [escs, hi])
          have o4 : ∀ i ∈ esc z, i ∉ O := fun i hi => o2 i (by simp [escs, hi])
          exact snd_meth S hb4 hb0 hb1 (ih.E X W o x O S e1 o1).1 (snd_asCons (ih.E X W a y O S e2 o3).1 (snd_asCons (ih.E X W b z O S e3 o4).1 snd_asNil hb3) hb2) (fun e he => by
            rcases List.mem_cons.mp he with rfl | he
            · exact hb2
            · rw [List.mem_singleton.mp he]; exact hb3) (by simp) (fun z => by cases z)
        · cases h
      rename_i hb5
      have hm := sOf_eq hb5
      subst hm
      cases h
      obtain ⟨o1, o2⟩ := mem_l hO
      have o2 : ∀ i ∈ escs [y, z], i ∉ O := o2
      have o3 : ∀ i ∈ esc y, i ∉ O := fun i hi => o2 i (by simp [escs, hi])
      have o4 : ∀ i ∈ esc z, i ∉ O := fun i hi => o2 i (by simp [escs, hi])
      have o5 : ∀ i ∈ escS y, i ∉ O := fun i hi => by
        unfold escS at hi
        split at hi
        · cases hi
        · exact o3 i hi
      exact snd_getN S hb0 hb1 hb2 hb3 (ih.S X W o x O S e1 o1) (ih.S X W a y O S e2 o5) (ih.E X W b z O S e3 o4).1
    · cases h
  · -- o.m()
    rename_i o m ap cp
    split at h
    · cases h
    rename_i hb
    have hb : ((baseOk o = true ∧ (ap.endLine == cp.line) = true) ∧ ev0 = none) ∧ c.ms.contains m = true := by simpa using hb
    cases e1 : cE c ev0 n X.env.scope o with
    | none => rw [e1] at h; cases h
    | some x =>
      rw [e1] at h
      cases h
      obtain ⟨o1, o2⟩ := mem_l hO
      exact snd_meth S hb.1.2 hb.1.1.1 hb.1.1.2 (ih.E X W o x O S e1 o1).1 snd_asNil (fun e he => by cases he) (by simp) (fun _ => rfl)
  · -- o.k
    rename_i o k p
    split at h
    · cases h
    rename_i hb
    have hb : attOk o = true ∧ ev0 = none := by simpa using hb
    cases e1 : cE c ev0 n X.env.scope o with
    | none => rw [e1] at h; cases h
    | some x =>
      rw [e1] at h
      cases h
      exact snd_fld S hb.1 (ih.S X W o x O S e1 hO)
  · -- {}
    split at h
    · cases h; exact snd_dnil S
    · cases h
  · -- {k: v}
    rename_i k v p
    split at h
    · split at h
      · rename_i x y e1 e2
        cases h
        have o1 : ∀ i ∈ esc x, i ∉ O := fun i hi => hO i (by simp [esc, escs, hi])
        have o2 : ∀ i ∈ esc y, i ∉ O := fun i hi => hO i (by simp [esc, escs, hi])
        exact snd_done S (ih.E X W k x O S e1 o1).1 (ih.E X W v y O S e2 o2).1
      · cases h
    · cases h
  · -- {..}
    rename_i ks vs p _ _
    split at h
    · cases e1 : litD ks vs with
      | none => rw [e1] at h; cases h
      | some d => rw [e1] at h; cases h; exact snd_dlit e1
    · cases h
  · -- comprehension
    rename_i elt tg iter ifs scope p
    split at h
    · rename_i t one it ts el e1 e2 e3 e4
      split at h
      · rename_i hc
        simp only [Bool.and_eq_true, beq_iff_eq] at hc
        obtain ⟨⟨c1, c2⟩, c3⟩ := hc
        subst c3
        cases h
        have hn : hx = none := by
          cases q : hx with
          | none => rfl
          | some z =>
            obtain ⟨y, _, _, h1, _⟩ := S.hot z.1 z.2 q
            cases h1
        subst hn
        obtain ⟨o1, o2⟩ := mem_l hO
        obtain ⟨o3, o4⟩ := mem_l o2
        obtain ⟨o5, o6⟩ := mem_l o4
        exact .plain (lc_rules S o1 c1 c2 e1 (ih.I X W tg iter it O S e2 o3) (fun X' S' _ es => ih.Ts X' _ ifs ts O S' (by rw [es]; exact e3) o5) (fun X' S' _ es => (ih.E X' _ elt el O S' (by rw [es]; exact e4) o6).1) (fun σ H Q h => snd_lc o1 σ H Q h)).1 fun _ => rfl
      · cases h
    · cases h
  · cases h
end
end Tk
/-! All expressions: the induction. -/
namespace Tk
open PySem PySem.Spec PyProof.Rows L2
open D
section
variable {ct : CT} {c : CE} {A : Ar} {L : Nat} {ev0 : Option Str} {hx : Option (Nat × Addr)} {n : Nat} {X : Cx} {W : WX} {O : List Nat}
theorem escS_of {se : SE} (h : isVar se = false) : escS se = esc se := by
  unfold escS
  rw [h]
  rfl
theorem sndS_step (hi : IsxOk ct c A ev0 hx) (ih : Snd ct c A L ev0 hx n) (S : Sit X ct c A L W ev0 hx) {e : Expr} {se : SE} (h : cE c ev0 (n + 1) X.env.scope e = some se) (hO : ∀ i ∈ escS se, i ∉ O) : PE X e (tS X ct A W O hx se) := by
  cases hv : isVar se with
  | false => exact ShS (sndE_step hi ih S h (by rw [← escS_of hv]; exact hO))
  | true =>
    cases se with
    | var i =>
      unfold cE at h
      split at h
      · rename_i x p
        split at h
        · cases h
        rename_i hp
        have hp : plainName x = true := by simpa using hp
        split at h
        · rename_i hv
          split at h
          · cases h
          · cases e1 : slotOf c.N x with
            | none => rw [e1] at h; cases h
            | some j =>
              rw [e1] at h
              cases h
              exact snd_varS S hp hv e1
        · split at h
          · cases e1 : c.gc.lookup x with
            | none => rw [e1] at h; cases h
            | some d => rw [e1] at h; cases h
          · cases h
      · rename_i k j p
        cases e1 : constD k with
        | none => rw [e1] at h; cases h
        | some d => rw [e1] at h; cases h
      · split at h
        · split at h <;> cases h
        · cases h
      · split at h
        · split at h <;> cases h
        · cases h
      · split at h <;> cases h
      · rename_i a p
        cases e1 : cE c ev0 n X.env.scope a with
        | none => rw [e1] at h; cases h
        | some x => rw [e1] at h; cases h
      · rename_i a p
        cases e1 : cE c ev0 n X.env.scope a with
        | none => rw [e1] at h; cases h
        | some x => rw [e1] at h; cases h
      · exact pe_one (ih.S X W _ (.var i) O S h hO)
      · exact pe_one (ih.S X W _ (.var i) O S h hO)
      · split at h <;> cases h
      · split at h <;> cases h
      · split at h
        · split at h <;> cases h
        · cases h
      · split at h
        · split at h <;> cases h
        · cases h
      · split at h <;> cases h
      · rename_i a j p1 p2 p3 p
        cases e1 : cE c ev0 n X.env.scope a with
        | none => rw [e1] at h; cases h
        | some x => rw [e1] at h; cases h
      · split at h <;> cases h
      · split at h
        · split at h <;> cases h
        · cases h
      · rename_i f p args q
        split at h
        · cases h
        split at h
        · split at h
          · cases e1 : cEs c ev0 n X.env.scope args with
            | none => rw [e1] at h; cases h
            | some x => rw [e1] at h; cases h
          · cases h
        · split at h
          · cases h
          split at h
          · split at h
            · split at h
              · cases h
              split at h
              · split at h
                · rename_i t _ _ _ _ _ _ _
                  split at h
                  · rename_i t q2 _ _ _ _ _ _
                    first
                    | (cases e1 : exsOf c t with
                      | none => rw [e1] at h; cases h
                      | some x => rw [e1] at h; cases h)
                    | (exfalso; revert h; generalize exsOf c _ = z; intro h; cases z <;> cases h)
                  · cases h
                · cases h
              · split at h
                · split at h <;> cases h
                · cases h
            · cases h
          split at h
          · rename_i hls
            clear hls
            split at h
            · rename_i g p2 a q2
              split at h
              · cases e1 : cE c ev0 n X.env.scope a with
                | none => rw [e1] at h; cases h
                | some x => rw [e1] at h; cases h
              · cases h
            · cases h
          rename_i hn0
          clear hn0
          split at h
          · rename_i hls
            clear hls
            split at h
            · rename_i g p2 a q2
              split at h
              · cases e1 : cE c ev0 n X.env.scope a with
                | none => rw [e1] at h; cases h
                | some x => rw [e1] at h; cases h
              · cases h
            · cases h
          rename_i hn0
          clear hn0
          split at h
          · rename_i hls
            clear hls
            split at h
            · rename_i g p2 a q2
              split at h
              · cases e1 : cE c ev0 n X.env.scope a with
                | none => rw [e1] at h; cases h
                | some x => rw [e1] at h; cases h
              · cases h
            · cases h
          rename_i hn0
          clear hn0
          split at h
          · rename_i hls
            clear hls
            split at h
            · split at h
              · split at h <;> cases h
              · cases h
            · cases h
          · rename_i hls
            clear hls
            split at h
            · rename_i b a e0
              split at h
              · cases e1 : cE c ev0 n X.env.scope a with
                | none => rw [e1] at h; cases h
                | some x => rw [e1] at h; cases h
              · cases h
            · cases h
      · split at h
        · cases h
        split at h <;> cases h
      · split at h
        · cases h
        split at h
        · split at h
          · cases h
          · split at h
            · cases h
            · split at h
              · cases h
              · split at h <;> cases h
        · cases h
      · split at h
        · cases h
        split at h <;> cases h
      · split at h
        · cases h
        split at h
        · split at h
          · cases h
          · split at h <;> cases h
        · cases h
      · split at h
        · cases h
        rename_i o m ap cp _
        cases e1 : cE c ev0 n X.env.scope o with
        | none => rw [e1] at h; cases h
        | some x => rw [e1] at h; cases h
      · split at h
        · cases h
        rename_i o k p _
        cases e1 : cE c ev0 n X.env.scope o with
        | none => rw [e1] at h; cases h
        | some x => rw [e1] at h; cases h
      · split at h <;> cases h
      · split at h
        · split at h <;> cases h
        · cases h
      · rename_i ks vs p _ _
        split at h
        · cases e1 : litD ks vs with
          | none => rw [e1] at h; cases h
          | some d => rw [e1] at h; cases h
        · cases h
      · split at h
        · split at h <;> cases h
        · cases h
      · cases h
    | _ => cases hv
theorem snd (hi : IsxOk ct c A ev0 hx) : ∀ n, Snd ct c A L ev0 hx n
  | 0 => by
    refine ⟨?_, ?_, ?_, ?_, ?_, ?_⟩
    all_goals (intros; rename_i h _; cases h)
  | n + 1 => by
    have ih := snd hi n
    refine ⟨fun X W e se O S h hO => sndE_step hi ih S h hO, fun X W e se O S h hO => sndS_step hi ih S h hO, fun X W es ses O S h hO => ?_, fun X W es ses O S h hO => ?_, fun X W e se O S h hO => ?_, fun X W tg e si O S h hO => ?_⟩
    · unfold cEs at h
      split at h
      · cases h; exact ⟨snd_asNil, fun e he => by cases he⟩
      · rename_i e r
        split at h
        · rename_i x y e1 e2
          split at h
          · rename_i hs
            cases h
            obtain ⟨o1, o2⟩ := mem_l hO
            obtain ⟨g1, g2⟩ := ih.As X W r y O S e2 o2
            refine ⟨snd_asCons (ih.E X W e x O S e1 o1).1 g1 hs, fun e' he => ?_⟩
            rcases List.mem_cons.mp he with z | z
            · rw [z]; exact hs
            · exact g2 e' z
          · cases h
        · cases h
    · unfold cTs at h
      split at h
      · cases h; exact snd_tsNil
      · rename_i e
        cases e1 : cE c ev0 n X.env.scope e with
        | none => rw [e1] at h; cases h
        | some x =>
          rw [e1] at h
          cases h
          exact snd_tsOne (ih.E X W e x O S e1 (by
            have : escs [x] = esc x := by simp [escs]
            rw [← this]; exact hO)).2
      · cases h
    · unfold cO at h
      split at h
      · cases h; exact snd_po (e := none) (o := none) trivial
      · rename_i e
        cases e1 : cE c ev0 n X.env.scope e with
        | none => rw [e1] at h; cases h
        | some x =>
          rw [e1] at h
          cases h
          exact snd_po (e := some e) (o := some x) (ih.E X W e x O S e1 hO).1
    · unfold cI at h
      split at h
      · rename_i f p args q
        split at h
        · rename_i hg
          simp only [Bool.and_eq_true] at hg
          obtain ⟨⟨g1, g2⟩, g3⟩ := hg
          split at h
          · rename_i hf
            have hf := sOf_eq hf
            subst hf
            split at h
            · rename_i a
              split at h
              · rename_i hs
                cases e1 : cE c ev0 n X.env.scope a with
                | none => rw [e1] at h; cases h
                | some x =>
                  rw [e1] at h
                  cases h
                  exact snd_rng1 S g1 g3 hs (ih.E X W a x O S e1 (mem_l hO).2).1
              · cases h
            · rename_i a b
              split at h
              · rename_i hs
                have hs := Bool.and_eq_true_iff.mp hs
                split at h
                · rename_i x y e1 e2
                  cases h
                  obtain ⟨o1, o2⟩ := mem_l hO
                  exact snd_rng2 S g1 g3 hs.1 hs.2 (ih.E X W a x O S e1 o1).1 (ih.E X W b y O S e2 o2).1
                · cases h
              · cases h
            · cases h
          · split at h
            · rename_i hf
              have hf := sOf_eq hf
              subst hf
              split at h
              · rename_i a
                split at h
                · rename_i hs
                  cases e1 : cE c ev0 n X.env.scope a with
                  | none => rw [e1] at h; cases h
                  | some x =>
                    rw [e1] at h
                    cases h
                    exact snd_enm S g1 g3 hs (ih.E X W a x O S e1 hO).1
                · cases h
              · cases h
            split at h
            · rename_i hf
              have hf := sOf_eq hf
              subst hf
              split at h
              · rename_i a b
                split at h
                · rename_i hs
                  have hs := Bool.and_eq_true_iff.mp hs
                  split at h
                  · rename_i x y e1 e2
                    cases h
                    obtain ⟨o1, o2⟩ := mem_l hO
                    exact snd_zip S g1 g3 hs.1 hs.2 (ih.E X W a x O S e1 o1).1 (ih.E X W b y O S e2 o2).1
                  · cases h
                · cases h
              · rename_i a b
                split at h
                · rename_i hs
                  have hs := Bool.and_eq_true_iff.mp hs
                  split at h
                  · rename_i x y e1 e2
                    cases h
                    obtain ⟨o1, o2⟩ := mem_l hO
                    exact snd_zipN S g1 g3 hs.1 hs.2 (ih.E X W a x O S e1 o1).1 (ih.E X W b y O S e2 o2).1
                  · cases h
                · cases h
              · cases h
            split at h
            · rename_i hf
              have hf := sOf_eq hf
              subst hf
              split at h
              · rename_i a
                split at h
                · rename_i hs
                  cases e1 : cE c ev0 n X.env.scope a with
                  | none => rw [e1] at h; cases h
                  | some x =>
                    rw [e1] at h
                    cases h
                    exact snd_reversed S g1 g3 hs (ih.E X W a x O S e1 hO).1
                · cases h
              · cases h
            cases e1 : cE c ev0 n X.env.scope (.Call (.Name f p) args [] q) with
            | none => rw [e1] at h; cases h
            | some x => rw [e1] at h; cases h; exact snd_of S (ih.E X W _ x O S e1 hO).1
        · cases e1 : cE c ev0 n X.env.scope (.Call (.Name f p) args [] q) with
          | none => rw [e1] at h; cases h
          | some x => rw [e1] at h; cases h; exact snd_of S (ih.E X W _ x O S e1 hO).1
      · cases e1 : cE c ev0 n X.env.scope e with
        | none => rw [e1] at h; cases h
        | some x => rw [e1] at h; cases h; exact snd_of S (ih.E X W _ x O S e1 hO).1
end
end Tk
/-! Statements: readings; what is owned; new objects that a name owns. -/
namespace Tk
open PySem PySem.Spec PyProof.Rows L2
open D
theorem mem_rem {O E : List Nat} {i : Nat} : i ∈ rem O E ↔ i ∈ O ∧ i ∉ E := by
  unfold rem
  simp [List.mem_filter, List.contains_iff_mem]
theorem mem_joinO {a b : List Nat} {i : Nat} : i ∈ joinO a b ↔ i ∈ a ∧ i ∈ b := by
  unfold joinO
  simp [List.mem_filter, List.contains_iff_mem]
theorem subO_iff {a b : List Nat} : subO a b = true ↔ ∀ i ∈ a, i ∈ b := by
  unfold subO
  simp [List.all_eq_true, List.contains_iff_mem]
section
variable {ct : CT} {c : CE} {A : Ar} {L : Nat} {ev0 : Option Str} {hx : Option (Nat × Addr)} {n : Nat} {X : Cx} {W : WX} {O : List Nat}
open Classical in
/-- fewer slots are owned: the objects of the others are frozen -/
theorem RelE.freeze {K : PySem.W.Frag} {Z H : Hp} {σ : L2.St} {ρ : En} {O2 : List Nat} (rel : RelE K ct Z H O σ ρ) (h : ∀ i ∈ O2, i ∈ O) : ∃ Z2, Same Z Z2 ∧ RelE K ct Z2 H O2 σ ρ := by
  let P : Addr → Prop := fun b => ∃ i d, i ∈ O ∧ i ∉ O2 ∧ ρ[i]? = some (some d) ∧ σ[i]? = some (some (.ref b))
  let Z2 : Hp := fun b => if P b then H b else Z b
  have zz : Same Z Z2 := fun b o e => by
    show (if P b then H b else Z b) = some o
    split
    · exact rel.sub b o e
    · exact e
  refine ⟨Z2, zz, ⟨fun b o e => ?_, fun b o e z => ?_, rel.len, fun i d hi e => ?_, fun i d hi e => ?_, fun i j d e a hi hj => rel.inj i j d e a (h i hi) (h j hj)⟩⟩
  · have e : (if P b then H b else Z b) = some o := e
    split at e
    · exact e
    · exact rel.sub b o e
  · have z : (if P b then H b else Z b) = none := z
    split at z
    · rw [e] at z; cases z
    · refine (rel.dif b o e z).to fun c u hc hz hu => ⟨hc, ?_⟩
      show (if P c then H c else Z c) = none
      rw [if_neg, hz]
      rintro ⟨j, e2, hj, nj, q1, q2⟩
      obtain ⟨a, h1, h2, h3⟩ := rel.ow j e2 hj q1
      rw [q2] at h1
      cases h1
      rcases h3 with ⟨vs, ds, rfl, g1, g2⟩ | ⟨kvs, ps, rfl, g1, g2⟩
      · rw [hc] at g1; cases g1; rcases hu with ⟨_, _, _, hu⟩ | ⟨_, hu⟩ <;> cases hu
      · rw [hc] at g1; cases g1; rcases hu with ⟨_, _, _, hu⟩ | ⟨_, hu⟩ <;> cases hu
  · by_cases hO : i ∈ O
    · obtain ⟨a, h1, h2, h3⟩ := rel.ow i d hO e
      refine ⟨_, h1, ?_⟩
      have za : Z2 a = H a := if_pos (show P a from ⟨i, d, hO, hi, e, h1⟩)
      rcases h3 with ⟨vs, ds, rfl, g1, g2⟩ | ⟨kvs, ps, rfl, g1, g2⟩
      · exact .lst (.inl (za.trans g1)) (DenAll.mono zz _ _ g2)
      · exact .gd (za.trans g1) (DenG.mono zz _ _ g2)
    · obtain ⟨v, h1, h2⟩ := rel.fr i d hO e
      exact ⟨v, h1, Den.mono zz _ _ h2⟩
  · obtain ⟨a, h1, h2, h3⟩ := rel.ow i d (h i hi) e
    refine ⟨a, h1, ?_, ?_⟩
    · show (if P a then H a else Z a) = none
      rw [if_neg, h2]
      rintro ⟨j, e2, hj, nj, q1, q2⟩
      have ne : i ≠ j := fun z => nj (z ▸ hi)
      exact rel.inj i j d e2 a (h i hi) hj ne e q1 h1 q2
    · rcases h3 with ⟨vs, ds, r, g1, g2⟩ | ⟨kvs, ps, r, g1, g2⟩
      · exact .inl ⟨vs, ds, r, g1, DenAll.mono zz _ _ g2⟩
      · exact .inr ⟨kvs, ps, r, g1, DenG.mono zz _ _ g2⟩
/-- what is wanted behind a statement that runs so -/
def Out (K : PySem.W.Frag) (ct : CT) (W : WX) (hx : Option (Nat × Addr)) (B : Option (List Nat)) (O' : List Nat) (Z : Hp) (D : Ends) : Fl → Prop
  | .nx ρ' => ∀ σ' H' Z', Same Z Z' → HotOk hx σ' → RelE K ct Z' H' O' σ' ρ' → D.nx σ' H'
  | .rt d => ∀ v H' Z', Same Z Z' → Same Z' H' → Den K ct Z' v d → D.rt v H'
  | .bk ρ' => match B with
    | some b => ∀ σ' H' Z', Same Z Z' → HotOk hx σ' → RelE K ct Z' H' b σ' ρ' → D.bk σ' H'
    | none => False
  | .exc k ρ' => ∀ C σ' H' Z', ct.ex k = some C → Same Z Z' → HotOk hx σ' → RelE K ct Z' H' [] σ' ρ' → W (.ref C) none σ' H'
  | .bad => False
theorem Out.grow {K : PySem.W.Frag} {B : Option (List Nat)} {Z Z2 : Hp} {D : Ends} {f : Fl} (h : Out K ct W hx B O Z D f) (s : Same Z Z2) : Out K ct W hx B O Z2 D f := by
  cases f with
  | nx ρ => exact fun σ' H' Z' z => h σ' H' Z' (s.trans z)
  | rt d => exact fun v H' Z' z => h v H' Z' (s.trans z)
  | bk ρ =>
    cases B with
    | none => exact h
    | some b => exact fun σ' H' Z' z => h σ' H' Z' (s.trans z)
  | exc k ρ => exact fun C σ' H' Z' e z => h C σ' H' Z' e (s.trans z)
  | bad => exact h
theorem Out.sub {K : PySem.W.Frag} {B : Option (List Nat)} {O2 : List Nat} {Z : Hp} {D : Ends} {f : Fl} (h : Out K ct W hx B O Z D f) (s : ∀ i ∈ O, i ∈ O2) : Out K ct W hx B O2 Z D f := by
  cases f with
  | nx ρ =>
    intro σ' H' Z' z hh r
    obtain ⟨Z2, z2, r2⟩ := r.freeze s
    exact h σ' H' Z2 (z.trans z2) hh r2
  | _ => exact h
def tSS (X : Cx) (ct : CT) (W : WX) (hx : Option (Nat × Addr)) (B : Option (List Nat)) (O O' : List Nat) (r : En → Fl) : TS := fun D σ H => HotOk hx σ ∧ ∃ Z ρ, RelE X.K ct Z H O σ ρ ∧ Out X.K ct W hx B O' Z D (r ρ)
/-- an expression ahead of a statement's rest -/
theorem fin_withR {α : Type} {B : Option (List Nat)} {O' : List Nat} {Z H : Hp} {D : Ends} {σ : L2.St} {ρ : En} {r : Res α} {f : α → Fl} (rel : RelE X.K ct Z H O σ ρ) (hh : HotOk hx σ) (h : Out X.K ct W hx B O' Z D (withR ρ r f)) :
    FinG X.K ct W σ Z H r fun a Z' H' => RelE X.K ct Z' H' O σ ρ ∧ Out X.K ct W hx B O' Z' D (f a) := by
  cases r with
  | ok a => exact fun Z' H' e => ⟨rel.ext e, Out.grow h e.zz⟩
  | exc k =>
    intro C Z' H' e x
    obtain ⟨Z2, z2, r2⟩ := (rel.ext x).freeze (O2 := []) (fun i hi => by cases hi)
    exact h C σ H' Z2 e (x.zz.trans z2) hh r2
  | bad => exact h
/-! ### a new object that a name gets -/
def OwnO (K : PySem.W.Frag) (ct : CT) (Z : Hp) (a : Addr) (o : HO) (d : D) : Prop := (∃ vs ds, o = .lst vs ∧ d = .lst ds ∧ DenAll K ct Z vs ds) ∨ (∃ (q : Gd.Acc × Nat) (ps : List (D × D)), o = Gd.gdO ct.w a q.1 q.2 ∧ d = .gd ps ∧ DenG K ct Z q.1 ps)
def tF (X : Cx) (ct : CT) (A : Ar) (W : WX) (O : List Nat) (hx : Option (Nat × Addr)) (se : SE) : TE := fun σ H Q => tG X ct W O hx (ev A se) (fun d Z' H' => ∀ a o, H' a = none → OwnO X.K ct Z' a o d → Q (.ref a) (upd H' a o)) σ H
theorem fr_lst {es : List Expr} {pos : Pos} {ses : List SE} (ha : PA X es (tAs X ct A W O hx ses)) (hl : ses.length ≤ 1000) : PE X (.List es pos) (tF X ct A W O hx (.lst ses)) := by
  refine (pe_lst ha).imp fun σ H Q ⟨hh, Z, ρ, rel, fin⟩ => ?_
  have fin : FinG X.K ct W σ Z H ((evs A ses ρ).bind fun ds => Res.ok (D.lst ds)) _ := fin
  refine ⟨hh, Z, ρ, rel, fin.bind.mono fun ds Z1 H1 he e1 f1 vs hv => ⟨?_, fun p hp => ?_⟩⟩
  · rw [hv.length, evs_len he, sizeLine_eq]; omega
  · exact f1.here (rel.ext e1).sub p _ hp (.inl ⟨vs, ds, rfl, rfl, hv⟩)
theorem fr_list (S : Sit X ct c A L W ev0 hx) (h0 : ev0 = none) {p pos : Pos} {a : Expr} {x : SE} (hg : gloB X.env.scope (sOf "list") = true) (hfr : c.free.contains (sOf "list") = true) (hs : noStar a = true) (ha : PE X a (tS X ct A W O hx x)) : PE X (.Call (.Name (sOf "list") p) [a] [] pos) (tF X ct A W O hx (.bi .list [x])) := by
  have hm := S.free _ hfr
  have hA : PA X [a] (tCons (tS X ct A W O hx x) tNil) := pa_cons ha pa_nil (noStar_each hs)
  refine (pe_callTy (call_list_of.or (Gd.call_glist (S.calm h0))) (gloB_gl hg) hm (by decide +kernel) hA (by decide) (by decide) (noStar_each hs) rfl).imp fun σ H Q ⟨hh, Z, ρ, rel, fin⟩ => ?_
  rw [bi1_eq] at fin
  refine ⟨hh, Z, ρ, rel, fin.bind.mono fun d Z1 H1 _ e1 f1 v hv => ?_⟩
  have sz := (rel.ext e1).sub
  cases d with
  | lst ds =>
    obtain ⟨a, vs, rfl, h1, h2⟩ := hv.lst sz
    exact .inl ⟨a, vs, rfl, .inl (.inl h1), fun p hp => FinG.here (a := D.lst ds) f1 sz p _ hp (.inl ⟨vs, ds, rfl, rfl, h2⟩)⟩
  | tup ds =>
    obtain ⟨a, vs, rfl, h1, h2⟩ := hv.tup sz
    exact .inl ⟨a, vs, rfl, .inr h1, fun p hp => FinG.here (a := D.lst ds) f1 sz p _ hp (.inl ⟨vs, ds, rfl, rfl, h2⟩)⟩
  | gd ps =>
    obtain ⟨a, acc, ep, rfl, h1, h2⟩ := hv.gd sz
    rw [S.kd.1] at h1
    obtain ⟨ys, r1, r2⟩ := h2.keys
    exact .inr ⟨a, acc, ys, rfl, ⟨ep, h1⟩, r1, fun p hp => FinG.here (a := D.lst (ps.map fun (r : D × D) => r.1)) f1 sz p _ hp (.inl ⟨ys, _, rfl, rfl, r2⟩)⟩
  | _ => exact (show False from f1).elim
theorem fr_dnil (S : Sit X ct c A L W ev0 hx) {dp : Pos} : PE X (.Dict [] [] dp) (tF X ct A W O hx (.con (.gd []))) := by
  refine Gd.pe_gnew.imp fun σ H Q ⟨hh, Z, ρ, rel, fin⟩ => ?_
  intro p hp
  have fin : FinG X.K ct W σ Z H (Res.ok (D.gd [])) _ := fin
  exact fin.here rel.sub p _ hp (.inr ⟨([], 0), [], by rw [S.kd.1], rfl, .nil⟩)
theorem fr_dict (S : Sit X ct c A L W ev0 hx) (h0 : ev0 = none) {p pos : Pos} {a : Expr} {x : SE} (hg : gloB X.env.scope (sOf "dict") = true) (hfr : c.free.contains (sOf "dict") = true) (hs : noStar a = true) (ha : PE X a (tS X ct A W O hx x)) : PE X (.Call (.Name (sOf "dict") p) [a] [] pos) (tF X ct A W O hx (.bi .dict [x])) := by
  have hm := S.free _ hfr
  have hu := S.un
  have hA : PA X [a] (tCons (tS X ct A W O hx x) tNil) := pa_cons ha pa_nil (noStar_each hs)
  refine (pe_callTy (Gd.call_gdict (S.calm h0) (by omega)) (gloB_gl hg) hm (by decide +kernel) hA (by decide) (by decide) (noStar_each hs) rfl).imp fun σ H Q ⟨hh, Z, ρ, rel, fin⟩ => ?_
  rw [bi1_eq] at fin
  refine ⟨hh, Z, ρ, rel, fin.bind.mono fun d Z1 H1 _ e1 f1 v hv => ?_⟩
  have sz := (rel.ext e1).sub
  cases d with
  | lst ds =>
    have f1 : FinG X.K ct W σ Z1 H1 (match pairsO ds with | some ps => Res.ok (D.gd (mkD ps [])) | none => .bad) _ := f1
    obtain ⟨a, vs, rfl, h1, h2⟩ := hv.lst sz
    cases e : pairsO ds with
    | none => rw [e] at f1; exact (show False from f1).elim
    | some ms =>
      rw [e] at f1
      obtain ⟨ps, ts, rfl, g1, g2⟩ := pairs_den sz h2 e
      refine ⟨a, ps, ts, rfl, .inl h1, g1, fun p rs ep hp rl => ?_⟩
      exact FinG.here (a := D.gd (mkD ms [])) f1 sz p _ hp (.inr ⟨(Gd.mergeG X.w [] rs, ep), mkD ms [], by rw [S.kd.1], rfl, DenG.merge g2 rl .nil⟩)
  | _ => exact (show False from f1).elim
/-- the heap without one object -/
def cut (H : Hp) (a : Addr) : Hp := fun b => if b = a then none else H b
theorem cut_upd {H : Hp} {a : Addr} {o : HO} (h : H a = some o) : upd (cut H a) a o = H := by
  funext b
  unfold upd cut
  by_cases hb : b = a
  · subst hb; rw [if_pos rfl]; exact h.symm
  · rw [if_neg hb, if_neg hb]
theorem ExtD.bare {Dd : Addr} {Z1 H1 Z H : Hp} (x : ExtD Dd Z1 H1 Z H) (h1 : H1 Dd = none) : Ext Z1 H1 Z (cut H Dd) := by
  refine ⟨fun b o q => ?_, x.zz, fun b o q => ?_, x.keep, fun b q z => ?_⟩
  · show (if b = Dd then none else H b) = _
    rw [if_neg (ne_of_none q h1)]; exact x.hh b o q
  · show (if b = Dd then none else H b) = _
    rw [if_neg (ne_of_none q x.zd)]; exact x.zh b o q
  · show (if b = Dd then none else H b) = _
    split
    · rfl
    · rename_i hb; exact x.new b hb q z
theorem fr_done (S : Sit X ct c A L W ev0 hx) {k v : Expr} {x y : SE} {dp : Pos} (hk : PE X k (tE X ct A W O hx x)) (hv : PE X v (tE X ct A W O hx y)) : PE X (.Dict [some k] [v] dp) (tF X ct A W O hx (.dict [x] [y])) := by
  refine (Gd.pe_gone (by have := S.un; omega) hk hv).imp fun σ H Q h => ?_
  refine done_of S (kk := fun d Z' H' => ∀ a o, H' a = none → OwnO X.K ct Z' a o d → Q (.ref a) (upd H' a o)) (fun d e Z1 H1 p Z2 H2 acc ep f xd hp hd => ?_) h
  have z := f Z2 _ (xd.bare hp) p (Gd.gdO X.w p acc ep) (by unfold cut; rw [if_pos rfl]) (.inr ⟨(acc, ep), [(d, e)], by rw [S.kd.1], rfl, hd⟩)
  rw [cut_upd upd_same] at z
  exact z
/-- a slot gets a new object and owns it -/
theorem RelE.setOwn {K : PySem.W.Frag} {Z H : Hp} {σ : L2.St} {ρ : En} {a : Addr} {o : HO} {d : D} {i : Nat} (rel : RelE K ct Z H O σ ρ) (hi : i ∉ O) (ha : H a = none) (ho : OwnO K ct Z a o d) : RelE K ct Z (upd H a o) (i :: O) (σ.set i (some (.ref a))) (ρ.set i (some d)) := by
  have za : Z a = none := rel.sub.free ha
  have hso : ∀ b u, H b = some u → (upd H a o) b = some u := fun b u e => by rw [upd_ne (ne_of_none e ha)]; exact e
  have hown : Own K ct Z (upd H a o) a d := by
    rcases ho with ⟨vs, ds, rfl, rfl, g⟩ | ⟨kvs, ps, rfl, rfl, g⟩
    · exact .inl ⟨vs, ds, rfl, upd_same, g⟩
    · exact .inr ⟨kvs, ps, rfl, upd_same, g⟩
  have slot : ∀ k, k ≠ i → (σ.set i (some (.ref a)))[k]? = σ[k]? ∧ (ρ.set i (some d))[k]? = ρ[k]? := fun k hk => ⟨List.getElem?_set_ne (Ne.symm hk), List.getElem?_set_ne (Ne.symm hk)⟩
  refine ⟨rel.sub.trans hso, fun b u e z => ?_, by simpa using rel.len, fun k e hk q => ?_, fun k e hk q => ?_, fun j k e1 e2 b hj hk ne q1 q2 q3 => ?_⟩
  · by_cases hb : b = a
    · subst hb
      rw [upd_same] at e
      cases e
      rcases ho with ⟨vs, ds, rfl, _⟩ | ⟨kvs, ps, rfl, _⟩
      · exact .inl ⟨_, rfl⟩
      · exact .inr (.inl ⟨_, rfl⟩)
    · rw [upd_ne hb] at e
      exact (rel.dif b u e z).to fun c u hc hz _ => ⟨hso c u hc, hz⟩
  · have hk' : k ≠ i ∧ k ∉ O := by simpa using hk
    rw [(slot k hk'.1).2] at q
    rw [(slot k hk'.1).1]
    exact rel.fr k e hk'.2 q
  · by_cases hk' : k = i
    · subst hk'
      by_cases hl : k < ρ.length
      · rw [List.getElem?_set_self hl] at q
        cases q
        exact ⟨a, List.getElem?_set_self (by rw [rel.len]; exact hl), za, hown⟩
      · rw [List.getElem?_eq_none (by simpa using hl)] at q; cases q
    · have hO : k ∈ O := by
        rcases List.mem_cons.mp hk with z | z
        · exact absurd z hk'
        · exact z
      rw [(slot k hk').2] at q
      rw [(slot k hk').1]
      obtain ⟨b, h1, h2, h3⟩ := rel.ow k e hO q
      obtain ⟨u, hu⟩ := h3.at
      refine ⟨b, h1, h2, ?_⟩
      rcases h3 with ⟨vs, ds, r, g1, g2⟩ | ⟨kvs, ps, r, g1, g2⟩
      · exact .inl ⟨vs, ds, r, hso _ _ g1, g2⟩
      · exact .inr ⟨kvs, ps, r, hso _ _ g1, g2⟩
  · by_cases hj' : j = i
    · subst hj'
      have hk' : k ≠ j := Ne.symm ne
      have hO : k ∈ O := by
        rcases List.mem_cons.mp hk with z | z
        · exact absurd z hk'
        · exact z
      rw [(slot k hk').2] at q2
      rw [(slot k hk').1]
      obtain ⟨b2, h1, h2, h3⟩ := rel.ow k e2 hO q2
      obtain ⟨u, hu⟩ := h3.at
      intro z
      rw [h1] at z
      cases z
      by_cases hl : j < σ.length
      · rw [List.getElem?_set_self hl] at q3
        cases q3
        rw [ha] at hu; cases hu
      · rw [List.getElem?_eq_none (by simpa using hl)] at q3; cases q3
    · have hO : j ∈ O := by
        rcases List.mem_cons.mp hj with z | z
        · exact absurd z hj'
        · exact z
      rw [(slot j hj').2] at q1
      rw [(slot j hj').1] at q3
      by_cases hk' : k = i
      · subst hk'
        intro z
        by_cases hl : k < σ.length
        · rw [List.getElem?_set_self hl] at z
          cases z
          obtain ⟨b2, h1, h2, h3⟩ := rel.ow j e1 hO q1
          obtain ⟨u, hu⟩ := h3.at
          rw [q3] at h1
          cases h1
          rw [ha] at hu; cases hu
        · rw [List.getElem?_eq_none (by simpa using hl)] at z; cases z
      · have hO2 : k ∈ O := by
          rcases List.mem_cons.mp hk with z | z
          · exact absurd z hk'
          · exact z
        rw [(slot k hk').2] at q2
        rw [(slot k hk').1]
        exact rel.inj j k e1 e2 b hO hO2 ne q1 q2 q3
/-- an owned slot's object is written -/
theorem RelE.write {K : PySem.W.Frag} {Z H : Hp} {σ : L2.St} {ρ : En} {a : Addr} {o : HO} {d d0 : D} {i : Nat} (rel : RelE K ct Z H O σ ρ) (hi : i ∈ O) (hd0 : ρ[i]? = some (some d0)) (hs : σ[i]? = some (some (.ref a))) (ho : OwnO K ct Z a o d) : RelE K ct Z (upd H a o) O σ (ρ.set i (some d)) := by
  obtain ⟨a', h1, za, own0⟩ := rel.ow i d0 hi hd0
  rw [hs] at h1
  cases h1
  have hl : i < ρ.length := by
    obtain ⟨h, _⟩ := List.getElem?_eq_some_iff.mp hd0
    exact h
  have hown : Own K ct Z (upd H a o) a d := by
    rcases ho with ⟨vs, ds, rfl, rfl, g⟩ | ⟨kvs, ps, rfl, rfl, g⟩
    · exact .inl ⟨vs, ds, rfl, upd_same, g⟩
    · exact .inr ⟨kvs, ps, rfl, upd_same, g⟩
  refine ⟨fun b u e => ?_, fun b u e z => ?_, by simpa using rel.len, fun k e hk q => ?_, fun k e hk q => ?_, fun j k e1 e2 b hj hk ne q1 q2 q3 => ?_⟩
  · rw [upd_ne (ne_of_none e za)]; exact rel.sub b u e
  · by_cases hb : b = a
    · subst hb
      rw [upd_same] at e
      cases e
      rcases ho with ⟨vs, ds, rfl, _⟩ | ⟨kvs, ps, rfl, _⟩
      · exact .inl ⟨_, rfl⟩
      · exact .inr (.inl ⟨_, rfl⟩)
    · rw [upd_ne hb] at e
      refine (rel.dif b u e z).to fun c u hc hz hu => ⟨?_, hz⟩
      rw [upd_ne fun zc => ?_]
      · exact hc
      · subst zc
        rcases own0 with ⟨vs, ds, _, g1, g2⟩ | ⟨kvs, ps, _, g1, g2⟩
        · rw [hc] at g1; cases g1; rcases hu with ⟨_, _, _, hu⟩ | ⟨_, hu⟩ <;> cases hu
        · rw [hc] at g1; cases g1; rcases hu with ⟨_, _, _, hu⟩ | ⟨_, hu⟩ <;> cases hu
  · have hk' : k ≠ i := fun z => hk (z ▸ hi)
    rw [List.getElem?_set_ne (Ne.symm hk')] at q
    exact rel.fr k e hk q
  · by_cases hk' : k = i
    · subst hk'
      rw [List.getElem?_set_self hl] at q
      cases q
      exact ⟨a, hs, za, hown⟩
    · rw [List.getElem?_set_ne (Ne.symm hk')] at q
      obtain ⟨b, h1, h2, h3⟩ := rel.ow k e hk q
      have hb : b ≠ a := fun z => by
        subst z
        exact rel.inj i k d0 e b hi hk (Ne.symm hk') hd0 q hs h1
      refine ⟨b, h1, h2, ?_⟩
      rcases h3 with ⟨vs, ds, r, g1, g2⟩ | ⟨kvs, ps, r, g1, g2⟩
      · exact .inl ⟨vs, ds, r, by rw [upd_ne hb]; exact g1, g2⟩
      · exact .inr ⟨kvs, ps, r, by rw [upd_ne hb]; exact g1, g2⟩
  · have old : ∀ k e, k ∈ O → (ρ.set i (some d))[k]? = some (some e) → ∃ e', ρ[k]? = some (some e') := fun k e hk q => by
      by_cases hk' : k = i
      · subst hk'; exact ⟨d0, hd0⟩
      · rw [List.getElem?_set_ne (Ne.symm hk')] at q; exact ⟨e, q⟩
    obtain ⟨f1, g1⟩ := old j e1 hj q1
    obtain ⟨f2, g2⟩ := old k e2 hk q2
    exact rel.inj j k f1 f2 b hj hk ne g1 g2 q3
/-- a slot gets a frozen value -/
theorem RelE.set1 {K : PySem.W.Frag} {Z H : Hp} {σ : L2.St} {ρ : En} {v : V} {d : D} {i : Nat} (rel : RelE K ct Z H O σ ρ) (hi : i ∉ O) (hv : Den K ct Z v d) : RelE K ct Z H O (σ.set i (some v)) (ρ.set i (some d)) := by
  refine rel.bind (t := [i]) (by simp) (by simp) (fun k hk => by simp at hk; rw [hk]; exact hi) (fun k hk => ?_) (fun k hk e he => ?_)
  · have : i ≠ k := fun z => hk (by simp [z])
    exact ⟨List.getElem?_set_ne this, List.getElem?_set_ne this⟩
  · have : k = i := by simpa using hk
    subst this
    by_cases hl : k < ρ.length
    · rw [List.getElem?_set_self hl] at he
      cases he
      exact ⟨v, List.getElem?_set_self (by rw [rel.len]; exact hl), hv⟩
    · rw [List.getElem?_eq_none (by simpa using hl)] at he; cases he
/-- a slot's value is gone -/
theorem RelE.unset {K : PySem.W.Frag} {Z H : Hp} {σ σ2 : L2.St} {ρ : En} {i : Nat} (rel : RelE K ct Z H O σ ρ) (hi : i ∉ O) (hl : σ2.length = σ.length) (hs : ∀ k, k ≠ i → σ2[k]? = σ[k]?) : RelE K ct Z H O σ2 (ρ.set i none) := by
  refine rel.bind (t := [i]) hl (by simp) (fun k hk => by simp at hk; rw [hk]; exact hi) (fun k hk => ?_) (fun k hk e he => ?_)
  · have : k ≠ i := fun z => hk (by simp [z])
    exact ⟨hs k this, List.getElem?_set_ne (Ne.symm this)⟩
  · have : k = i := by simpa using hk
    subst this
    by_cases hl : k < ρ.length
    · rw [List.getElem?_set_self hl] at he; cases he
    · rw [List.getElem?_eq_none (by simpa using hl)] at he; cases he
end
end Tk
/-! Statements, construct by construct. -/
namespace Tk
open PySem PySem.Spec PyProof.Rows L2
open D
/-- a statement's surroundings -/
structure SitS (X : Cx) (ct : CT) (c : CE) (A : Ar) (L : Nat) (W : WX) (ev : Option Str) (hx : Option (Nat × Addr)) : Prop extends Sit X ct c A L W ev hx where
  fnT : ∀ x, X.fn x = true
  po : PassesOwn (model X.prog X.w) X.A X.env X.xe
  stk : X.stack = X.env :: X.outer
  frm : X.env.frame = some X.env.locals
/-- an assignment of e to a name -/
def AsgR (X : Cx) (e : Expr) (t' : TE) : Prop := ∀ (i : Nat) (y : Str) (py spos : Pos), X.N[i]? = some y → L2.Loc X.env.scope y → PS X (.Assign [.Name y py] e spos) (tAsg t' (gName i))
section
variable {ct : CT} {c : CE} {A : Ar} {L : Nat} {ev0 : Option Str} {hx : Option (Nat × Addr)} {n : Nat} {X : Cx} {W : WX} {O : List Nat}
theorem swaps_no {e : Expr} {t : Option Expr} {l : Nat} {env : Env} (h : noLc e = true) : swapsWith e t l env = pure false := by
  cases e <;> first | rfl | cases h
theorem asg_plain (S : SitS X ct c A L W ev0 hx) {e : Expr} {t' : TE} (h : noLc e = true) (he : PE X e t') : AsgR X e t' := fun i y py spos hi hl =>
  ps_set (by rw [S.N]; exact S.nd) hi hl he (swaps_no h) (.inl (S.fnT y))
theorem swaps_lc {elt : Expr} {gs : List Comprehension} {scope : Scope} {pos py : Pos} {y : Str} {l : Nat} {env : Env} : swapsWith (.ListComp elt gs scope pos) (some (.Name y py)) l env = pure (env.blockKind == .function && env.kindOf y == some .local && py.line == (Expr.ListComp elt gs scope pos).pos.line && !(scope.names.any fun (n, k) => n == y && (k == .local || k == .cell))) := rfl
theorem asg_lc (S : SitS X ct c A L W ev0 hx) {elt : Expr} {gs : List Comprehension} {scope : Scope} {pos : Pos} {t' : TE} (he : PE X (.ListComp elt gs scope pos) t')
    (hs : ∀ {i : Nat} {y : Str} {py spos : Pos}, X.N[i]? = some y → X.env.scope.names.lookup y = some .local → swapsWith (.ListComp elt gs scope pos) (some (.Name y py)) spos.line X.env = pure true → PS X (.Assign [.Name y py] (.ListComp elt gs scope pos) spos) (tAsg t' (gName i))) : AsgR X (.ListComp elt gs scope pos) t' := fun i y py spos hi hl => by
  cases q : (X.env.blockKind == .function && X.env.kindOf y == some .local && py.line == (Expr.ListComp elt gs scope pos).pos.line && !(scope.names.any fun (n, k) => n == y && (k == .local || k == .cell))) with
  | true =>
    refine hs hi ?_ (by rw [swaps_lc, q])
    simp only [Bool.and_eq_true] at q
    exact beq_iff_eq.mp q.1.1.2
  | false => exact ps_set (by rw [S.N]; exact S.nd) hi hl he (by rw [swaps_lc, q]) (.inl (S.fnT y))
/-- all that may be assigned -/
theorem asg_rule (hi : IsxOk ct c A ev0 hx) {n : Nat} {e : Expr} {se : SE} (S : SitS X ct c A L W ev0 hx) (h : cE c ev0 n X.env.scope e = some se) (hO : ∀ i ∈ esc se, i ∉ O) : AsgR X e (tE X ct A W O hx se) ∧ (frE e = true → c.fn.lookup (sOf "list") = none → c.fn.lookup (sOf "dict") = none → AsgR X e (tF X ct A W O hx se)) := by
  cases n with
  | zero => cases h
  | succ n =>
    have ih := snd hi n (L := L)
    have hE := sndE_step hi ih S.toSit h hO
    by_cases hlc : ∃ elt gs scope pos, e = .ListComp elt gs scope pos
    · obtain ⟨elt, gs, scope, pos, rfl⟩ := hlc
      unfold cE at h
      split at h <;> rename_i heq <;> first | (cases heq; done) | skip
      · rename_i elt2 tg iter ifs scope2 p2
        injection heq with q1 q2 q3 q4
        subst q1 q2 q3 q4
        split at h
        · rename_i t one it ts el e1 e2 e3 e4
          split at h
          · rename_i hc
            simp only [Bool.and_eq_true, beq_iff_eq] at hc
            obtain ⟨⟨c1, c2⟩, c3⟩ := hc
            subst c3
            cases h
            have hn : hx = none := by
              cases q : hx with
              | none => rfl
              | some z =>
                obtain ⟨y, _, _, h1, _⟩ := S.hot z.1 z.2 q
                cases h1
            subst hn
            obtain ⟨o1, o2⟩ := mem_l hO
            obtain ⟨o3, o4⟩ := mem_l o2
            obtain ⟨o5, o6⟩ := mem_l o4
            have R := fun {t' : TE} => lc_rules (pos := pos) S.toSit o1 c1 c2 e1 (ih.I X W tg iter it O S.toSit e2 o3) (fun X' S' _ es => ih.Ts X' _ ifs ts O S' (by rw [es]; exact e3) o5) (fun X' S' _ es => (ih.E X' _ elt el O S' (by rw [es]; exact e4) o6).1) (t' := t')
            refine ⟨?_, fun _ _ _ => ?_⟩
            · have := R (fun σ H Q h => snd_lc o1 σ H Q h)
              exact asg_lc S this.1 this.2
            · have := R (t' := tF X ct A W O none (.lc t one it ts el)) (fun σ H Q h => snd_lcG (kk := fun d Z' H' => ∀ a o, H' a = none → OwnO X.K ct Z' a o d → Q (.ref a) (upd H' a o)) o1 σ H Q (fun r Z1 H1 Dd Z2 H2 acc f1 xd hD hd hden => by
                have z := f1 Z2 (cut H2 Dd) (xd.bare hD) Dd (.lst acc) (by unfold cut; rw [if_pos rfl]) (.inl ⟨acc, r, rfl, rfl, hden⟩)
                rw [cut_upd hd] at z
                exact z) h)
              exact asg_lc S this.1 this.2
          · cases h
        · cases h
      · cases h
    · have hl : noLc e = true := by
        cases e with
        | ListComp a b c d => exact absurd ⟨a, b, c, d, rfl⟩ hlc
        | SetComp a b c d => cases h
        | DictComp a b c d e => cases h
        | _ => rfl
      refine ⟨asg_plain S hl hE.1, fun hf hfn hfd => asg_plain S hl ?_⟩
      cases e with
      | List es p =>
        have h : (match cEs c ev0 n X.env.scope es with | some xs => if xs.length ≤ 1000 then some (SE.lst xs) else none | none => none) = some se := h
        split at h
        · rename_i xs e1
          split at h
          · rename_i hl
            cases h
            exact fr_lst (ih.As X W es xs O S.toSit e1 hO).1 hl
          · cases h
        · cases h
      | ListComp a b c d => exact absurd ⟨a, b, c, d, rfl⟩ hlc
      | Dict ks vs pos =>
        unfold frE at hf
        split at hf <;> rename_i heq <;> first | (cases heq; done) | skip
        · cases heq
          have h : (if ev0 == none then some (SE.con (.gd [])) else none) = some se := h
          split at h
          · cases h; exact fr_dnil S.toSit
          · cases h
        · rename_i k v p
          cases heq
          have h : (if ev0 == none && simE k && simE v then (match cE c ev0 n X.env.scope k, cE c ev0 n X.env.scope v with | some x, some y => some (SE.dict [x] [y]) | _, _ => none) else none) = some se := h
          split at h
          · split at h
            · rename_i x y e1 e2
              cases h
              have o1 : ∀ i ∈ esc x, i ∉ O := fun i hi => hO i (by simp [esc, escs, hi])
              have o2 : ∀ i ∈ esc y, i ∉ O := fun i hi => hO i (by simp [esc, escs, hi])
              exact fr_done S.toSit (ih.E X W k x O S.toSit e1 o1).1 (ih.E X W v y O S.toSit e2 o2).1
            · cases h
          · cases h
        · cases hf
      | Call f args kw pos =>
        unfold frE at hf
        split at hf <;> first | (cases hf; done) | skip
        all_goals rename_i heq
        all_goals first | (cases heq; done) | skip
        rename_i g p a q
        injection heq with q1 q2 q3 q4
        subst q1 q2 q3 q4
        rcases Bool.or_eq_true_iff.mp hf with hf | hf
        · obtain ⟨hf, hr⟩ := Bool.and_eq_true_iff.mp hf
          have hf := sOf_eq hf
          subst hf
          have hr : isRng [a] = false := by simpa using hr
          unfold cE at h
          dsimp only at h
          split at h
          · cases h
          rename_i hc
          have hc : plainName (Str.ofString "list") = true ∧ gloB X.env.scope (Str.ofString "list") = true := by simpa using hc
          rw [show c.fn.lookup (Str.ofString "list") = none from hfn] at h
          dsimp only at h
          split at h
          · cases h
          rename_i hfr
          have hfr : c.free.contains (Str.ofString "list") = true := by simpa using hfr
          rw [if_neg (by decide +kernel), if_neg (by rw [show (Str.ofString "list" == sOf "len") = false by decide +kernel]; simp), if_neg (by rw [show (Str.ofString "list" == sOf "sorted") = false by decide +kernel]; simp), if_neg (by rw [hr]; simp), if_neg (by decide +kernel), show biOf (Str.ofString "list") = some .list by decide +kernel] at h
          dsimp only at h
          split at h
          · rename_i hs
            have hs := Bool.and_eq_true_iff.mp hs
            cases e1 : cE c ev0 n X.env.scope a with
            | none => rw [e1] at h; cases h
            | some x =>
              rw [e1] at h
              cases h
              have : esc (.bi .list [x]) = escS x := by simp [esc, escSs, escS]
              exact fr_list S.toSit (beq_iff_eq.mp hs.2) hc.2 hfr hs.1 (ih.S X W a x O S.toSit e1 (by rw [← this]; exact hO))
          · cases h
        · have hf := sOf_eq hf
          subst hf
          unfold cE at h
          dsimp only at h
          split at h
          · cases h
          rename_i hc
          have hc : plainName (Str.ofString "dict") = true ∧ gloB X.env.scope (Str.ofString "dict") = true := by simpa using hc
          rw [show c.fn.lookup (Str.ofString "dict") = none from hfd] at h
          dsimp only at h
          split at h
          · cases h
          rename_i hfr
          have hfr : c.free.contains (Str.ofString "dict") = true := by simpa using hfr
          rw [if_neg (by decide +kernel), if_neg (by rw [show (Str.ofString "dict" == sOf "len") = false by decide +kernel]; simp), if_neg (by rw [show (Str.ofString "dict" == sOf "sorted") = false by decide +kernel]; simp), if_neg (by rw [show (Str.ofString "dict" == sOf "list") = false by decide +kernel]; simp), if_neg (by decide +kernel), show biOf (Str.ofString "dict") = some .dict by decide +kernel] at h
          dsimp only at h
          split at h
          · rename_i hs
            have hs := Bool.and_eq_true_iff.mp hs
            cases e1 : cE c ev0 n X.env.scope a with
            | none => rw [e1] at h; cases h
            | some x =>
              rw [e1] at h
              cases h
              have : esc (.bi .dict [x]) = escS x := by simp [esc, escSs, escS]
              exact fr_dict S.toSit (beq_iff_eq.mp hs.2) hc.2 hfr hs.1 (ih.S X W a x O S.toSit e1 (by rw [← this]; exact hO))
          · cases h
      | _ => cases hf
end
end Tk
/-! All statements. -/
namespace Tk
open PySem PySem.Spec PyProof.Rows L2
open D
section
variable {ct : CT} {c : CE} {A : Ar} {L : Nat} {ev0 : Option Str} {hx : Option (Nat × Addr)} {n : Nat} {X : Cx} {W : WX} {O O' : List Nat} {B : Option (List Nat)}
theorem rem_sub {O E : List Nat} : ∀ i ∈ rem O E, i ∈ O := fun i h => (mem_rem.mp h).1
theorem rem_out {O E : List Nat} : ∀ i ∈ E, i ∉ rem O E := fun i h q => (mem_rem.mp q).2 h
theorem st_ret {e : Expr} {y : SE} {pos : Pos} (he : PE X e (tE X ct A W (rem O (esc y)) hx y)) : PS X (.Return (some e) pos) (tSS X ct W hx B O O' (run1 A (.ret y))) := by
  refine (ps_ret he).imp fun D σ H ⟨hh, Z, ρ, rel, out⟩ => ?_
  obtain ⟨Z1, z1, rel1⟩ := rel.freeze (O2 := rem O (esc y)) rem_sub
  have fin := fin_withR rel1 hh (Out.grow (show Out X.K ct W hx B O' Z D (withR ρ (ev A y ρ) fun d => .rt d) from out) z1)
  exact ⟨hh, Z1, ρ, rel1, fin.mono fun d Z' H' _ e ⟨r, o⟩ v hv => o v H' Z' (.refl _) r.sub hv⟩
theorem st_retN {pos : Pos} : PS X (.Return none pos) (tSS X ct W hx B O O' (run1 A .retN)) :=
  ps_retN.imp fun D σ H ⟨hh, Z, ρ, rel, out⟩ => (show Out X.K ct W hx B O' Z D (.rt .non) from out) .non H Z (.refl _) rel.sub .non
theorem st_pass {pos : Pos} : PS X (.Pass pos) (tSS X ct W hx B O O (run1 A .pass)) :=
  ps_pass.imp fun D σ H ⟨hh, Z, ρ, rel, out⟩ => (show Out X.K ct W hx B O Z D (.nx ρ) from out) σ H Z (.refl _) hh rel
theorem st_brk {pos : Pos} {b : List Nat} (hb : subO b O = true) : PS X (.Break pos) (tSS X ct W hx (some b) O O' (run1 A .brk)) := by
  refine ps_break.imp fun D σ H ⟨hh, Z, ρ, rel, out⟩ => ?_
  obtain ⟨Z1, z1, rel1⟩ := rel.freeze (O2 := b) (subO_iff.mp hb)
  exact (show Out X.K ct W hx (some b) O' Z D (.bk ρ) from out) σ H Z1 z1 hh rel1
theorem st_ex {e : Expr} {y : SE} {pos : Pos} (hn : noLc e = true) (he : PE X e (tE X ct A W (rem O (esc y)) hx y)) : PS X (.Expr e pos) (tSS X ct W hx B O (rem O (esc y)) (run1 A (.ex y))) := by
  refine (ps_expr he (swaps_no hn)).imp fun D σ H ⟨hh, Z, ρ, rel, out⟩ => ?_
  obtain ⟨Z1, z1, rel1⟩ := rel.freeze (O2 := rem O (esc y)) rem_sub
  have fin := fin_withR rel1 hh (Out.grow (show Out X.K ct W hx B (rem O (esc y)) Z D (withR ρ (ev A y ρ) fun _ => .nx ρ) from out) z1)
  exact ⟨hh, Z1, ρ, rel1, fin.mono fun d Z' H' _ e ⟨r, o⟩ v hv => o σ H' Z' (.refl _) hh r⟩
theorem HotOk.set {σ : L2.St} {i : Nat} {v : Option V} (h : HotOk hx σ) (hi : ∀ j a, hx = some (j, a) → j ≠ i) : HotOk hx (σ.set i v) := by
  cases q : hx with
  | none => trivial
  | some z =>
    obtain ⟨j, a⟩ := z
    rw [q] at h
    show (σ.set i v)[j]? = _
    rw [List.getElem?_set_ne (Ne.symm (hi j a q))]
    exact h
theorem st_asg {e : Expr} {x : Str} {i : Nat} {y : SE} {px pos : Pos} (hi : X.N[i]? = some x) (hl : L2.Loc X.env.scope x) (hh0 : ∀ j a, hx = some (j, a) → j ≠ i) (he : AsgR X e (tE X ct A W (rem O (esc y)) hx y)) : PS X (.Assign [.Name x px] e pos) (tSS X ct W hx B O (rem (rem O (esc y)) [i]) (run1 A (.asg i y))) := by
  refine (he i x px pos hi hl).imp fun D σ H ⟨hh, Z, ρ, rel, out⟩ => ?_
  obtain ⟨Z1, z1, rel1⟩ := rel.freeze (O2 := rem O (esc y)) rem_sub
  have fin := fin_withR rel1 hh (Out.grow (show Out X.K ct W hx B (rem (rem O (esc y)) [i]) Z D (withR ρ (ev A y ρ) fun d => .nx (ρ.set i (some d))) from out) z1)
  refine ⟨hh, Z1, ρ, rel1, fin.mono fun d Z' H' _ e ⟨r, o⟩ v hv => ?_⟩
  obtain ⟨Z2, z2, r2⟩ := r.freeze (O2 := rem (rem O (esc y)) [i]) rem_sub
  exact o _ H' Z2 z2 (hh.set hh0) (r2.set1 (rem_out i (by simp)) (Den.mono z2 _ _ hv))
theorem st_asgF {e : Expr} {x : Str} {i : Nat} {y : SE} {px pos : Pos} (hi : X.N[i]? = some x) (hl : L2.Loc X.env.scope x) (hh0 : ∀ j a, hx = some (j, a) → j ≠ i) (he : AsgR X e (tF X ct A W (rem O (esc y)) hx y)) : PS X (.Assign [.Name x px] e pos) (tSS X ct W hx B O (i :: rem (rem O (esc y)) [i]) (run1 A (.asgF i y))) := by
  refine (he i x px pos hi hl).imp fun D σ H ⟨hh, Z, ρ, rel, out⟩ => ?_
  obtain ⟨Z1, z1, rel1⟩ := rel.freeze (O2 := rem O (esc y)) rem_sub
  have fin := fin_withR rel1 hh (Out.grow (show Out X.K ct W hx B (i :: rem (rem O (esc y)) [i]) Z D (withR ρ (ev A y ρ) fun d => .nx (ρ.set i (some d))) from out) z1)
  refine ⟨hh, Z1, ρ, rel1, fin.mono fun d Z' H' _ e ⟨r, o⟩ a ob ha ho => ?_⟩
  obtain ⟨Z2, z2, r2⟩ := r.freeze (O2 := rem (rem O (esc y)) [i]) rem_sub
  refine o _ _ Z2 z2 (hh.set hh0) (r2.setOwn (rem_out i (by simp)) ha ?_)
  rcases ho with ⟨vs, ds, h1, h2, g⟩ | ⟨kvs, ps, h1, h2, g⟩
  · exact .inl ⟨vs, ds, h1, h2, DenAll.mono z2 _ _ g⟩
  · exact .inr ⟨kvs, ps, h1, h2, DenG.mono z2 _ _ g⟩
theorem st_asgT {e tg : Expr} {t : List Nat} {y : SE} {pos : Pos} (hN : hx = none) (hg : PG X tg (gT X.K t false)) (he : PE X e (tE X ct A W (rem O (esc y)) hx y)) (hs : swapsWithSole [tg] e pos.line X.env = pure false) (hw : swappedStores [tg] e X.env = pure none) (h1 : (assignEach [tg] X.env).map (·.2) = [assign tg X.env]) : PS X (.Assign [tg] e pos) (tSS X ct W hx B O (rem (rem O (esc y)) t) (run1 A (.asgT t y))) := by
  refine (ps_asg he hg hs hw h1).imp fun D σ H ⟨hh, Z, ρ, rel, out⟩ => ?_
  subst hN
  obtain ⟨Z1, z1, rel1⟩ := rel.freeze (O2 := rem O (esc y)) rem_sub
  have fin := fin_withR rel1 hh (Out.grow (show Out X.K ct W none B (rem (rem O (esc y)) t) Z D (withR ρ (ev A y ρ) fun d => match bindT t false d ρ with | some ρ' => .nx ρ' | none => .bad) from out) z1)
  refine ⟨hh, Z1, ρ, rel1, fin.mono fun d Z' H' _ e ⟨r, o⟩ v hv => ?_⟩
  cases hb : bindT t false d ρ with
  | none => rw [hb] at o; exact (show False from o).elim
  | some ρ2 =>
    rw [hb] at o
    obtain ⟨Z2, z2, r2⟩ := r.freeze (O2 := rem (rem O (esc y)) t) rem_sub
    refine bind_ok r2.len r2.sub (Den.mono z2 _ _ hv) hb fun σ2 bd => ?_
    exact o σ2 H' Z2 z2 trivial (bd.rel r2 rfl (fun _ _ => rfl) rem_out)
theorem st_if {t : Expr} {a b : List Stmt} {x : SE} {ya yb : List SS} {pos : Pos} {Oa Ob : List Nat} (ht : PT X t (tT X ct A W (rem O (esc x)) hx x)) (ha : PSs X a (tSS X ct W hx B (rem O (esc x)) Oa (run A ya))) (hb : PSs X b (tSS X ct W hx B (rem O (esc x)) Ob (run A yb))) : PS X (.If t a b pos) (tSS X ct W hx B O (joinO Oa Ob) (run1 A (.ifs x ya yb))) := by
  refine (ps_if ht ha hb).imp fun D σ H ⟨hh, Z, ρ, rel, out⟩ => ?_
  obtain ⟨Z1, z1, rel1⟩ := rel.freeze (O2 := rem O (esc x)) rem_sub
  have e : run1 A (.ifs x ya yb) ρ = withR ρ ((ev A x ρ).bind asBl) fun k => if k then run A ya ρ else run A yb ρ := by
    show withR ρ (ev A x ρ) (fun x => withR ρ (asBl x) fun k => if k then run A ya ρ else run A yb ρ) = _
    cases ev A x ρ with
    | ok d => cases d <;> rfl
    | _ => rfl
  rw [e] at out
  have fin := fin_withR rel1 hh (Out.grow out z1)
  refine ⟨hh, Z1, ρ, rel1, fin.mono fun k Z' H' _ e ⟨r, o⟩ => ?_⟩
  cases k with
  | true =>
    simp only [↓reduceIte] at o ⊢
    exact ⟨hh, Z', ρ, r, Out.sub o fun i hi => (mem_joinO.mp hi).1⟩
  | false =>
    simp only [Bool.false_eq_true, ↓reduceIte] at o ⊢
    exact ⟨hh, Z', ρ, r, Out.sub o fun i hi => (mem_joinO.mp hi).2⟩
theorem st_for {tg iter : Expr} {body : List Stmt} {t : List Nat} {one : Bool} {it : SI} {ys : List SS} {pos : Pos} {O2 : List Nat} (S : SitS X ct c A L W ev0 hx) (hc : X.calm = true) (hN : hx = none) (hs : noSet iter = true) (hsub : ∀ i ∈ O', i ∈ O) (hO : ∀ i ∈ t, i ∉ O') (h2 : ∀ i ∈ O', i ∈ O2) (hg : PG X tg (gT X.K t one)) (hi : PI X tg iter (tI X ct A W O' hx it)) (hb : PSs X body (tSS X ct W hx (some O') O' O2 (run A ys))) : PS X (.For tg iter body [] pos) (tSS X ct W hx B O O' (run1 A (.forr t one it ys))) := by
  refine (ps_for S.po hc hi hg hb (noSet_fold hs)).imp fun D σ H ⟨hh, Z, ρ, rel, out⟩ => ?_
  subst hN
  obtain ⟨Z1, z1, rel1⟩ := rel.freeze (O2 := O') hsub
  have fin := fin_withR rel1 hh (Out.grow (show Out X.K ct W none B O' Z D (withR ρ (evi A it ρ) fun ds => forL (fun d ρ => match bindT t one d ρ with | some ρ' => run A ys ρ' | none => .bad) ds ρ) from out) z1)
  refine ⟨hh, Z1, ρ, rel1, fin.mono fun ds Z2 H2 _ e2 ⟨r2, o2⟩ J hJ => ?_⟩
  obtain ⟨G, Y, wk, hG, hY⟩ := hJ
  refine for_it wk (fun i σ H => ∃ Z3 ρ, Same Z2 Z3 ∧ RelE X.K ct Z3 H O' σ ρ ∧ Out X.K ct W none B O' Z3 D (forL (fun d ρ => match bindT t one d ρ with | some ρ' => run A ys ρ' | none => .bad) (ds.drop i) ρ)) ⟨Z2, ρ, .refl _, r2, by simpa using o2⟩ ?_ ?_ ?_
  · rintro i σ3 H3 _ ⟨Z3, ρ3, z3, r3, _⟩
    exact hG H3 (z3.trans r3.sub)
  · rintro i x σ3 H3 H4 hi ⟨Z3, ρ3, z3, r3, o3⟩ y
    have hi' : ds[i]? = some ds[i] := List.getElem?_eq_getElem hi
    obtain ⟨Z4, e4, hx4⟩ := hY i H3 x H4 Z3 ds[i] z3 r3.sub y hi'
    rw [List.drop_eq_getElem_cons hi] at o3
    have r4 := r3.ext e4
    cases hb : bindT t one ds[i] ρ3 with
    | none =>
      have o3 : Out X.K ct W none B O' Z3 D (match (match bindT t one ds[i] ρ3 with | some ρ' => run A ys ρ' | none => Fl.bad) with
        | .nx ρ' => forL (fun d ρ => match bindT t one d ρ with | some ρ' => run A ys ρ' | none => .bad) (ds.drop (i + 1)) ρ'
        | .bk ρ' => .nx ρ' | .rt d => .rt d | .exc c ρ' => .exc c ρ' | .bad => .bad) := o3
      rw [hb] at o3; exact (show False from o3).elim
    | some ρ5 =>
      have o3 : Out X.K ct W none B O' Z3 D (match (match bindT t one ds[i] ρ3 with | some ρ' => run A ys ρ' | none => Fl.bad) with
        | .nx ρ' => forL (fun d ρ => match bindT t one d ρ with | some ρ' => run A ys ρ' | none => .bad) (ds.drop (i + 1)) ρ'
        | .bk ρ' => .nx ρ' | .rt d => .rt d | .exc c ρ' => .exc c ρ' | .bad => .bad) := o3
      rw [hb] at o3
      have o3 := Out.grow o3 e4.zz
      refine bind_ok r4.len r4.sub hx4 hb fun σ5 bd => ?_
      have r5 := bd.rel r4 rfl (fun _ _ => rfl) hO
      refine ⟨trivial, Z4, ρ5, r5, ?_⟩
      cases q : run A ys ρ5 with
      | nx ρ6 =>
        simp only [q] at o3
        intro σ6 H6 Z6 z6 _ r6
        obtain ⟨Z7, z7, r7⟩ := r6.freeze (O2 := O') h2
        exact ⟨Z7, ρ6, ((z3.trans e4.zz).trans z6).trans z7, r7, Out.grow o3 (z6.trans z7)⟩
      | bk ρ6 => simp only [q] at o3; exact o3
      | rt d => simp only [q] at o3; exact o3
      | exc k ρ6 => simp only [q] at o3; exact o3
      | bad => simp only [q] at o3; exact o3
  · rintro σ3 H3 ⟨Z3, ρ3, z3, r3, o3⟩
    rw [List.drop_length] at o3
    exact o3 σ3 H3 Z3 (.refl _) trivial r3
theorem whl_eq {cnd : En → Res Bool} {f : En → Fl} {m : Nat} {ρ : En} : whlL cnd f (m + 1) ρ = withR ρ (cnd ρ) fun k => if k then (match f ρ with | .nx ρ' => whlL cnd f m ρ' | .bk ρ' => .nx ρ' | .rt d => .rt d | .exc c ρ' => .exc c ρ' | .bad => .bad) else .nx ρ := by
  show (match cnd ρ with | .ok true => _ | .ok false => _ | .exc e => _ | .bad => _) = _
  cases cnd ρ with
  | ok k => cases k <;> rfl
  | _ => rfl
theorem st_whl {t : Expr} {body : List Stmt} {x : SE} {ys : List SS} {pos : Pos} {O2 : List Nat} (S : SitS X ct c A L W ev0 hx) (hN : hx = none) (hsub : ∀ i ∈ O', i ∈ O) (h2 : ∀ i ∈ O', i ∈ O2) (ht : PT X t (tT X ct A W O' hx x)) (hb : PSs X body (tSS X ct W hx (some O') O' O2 (run A ys))) : PS X (.While t body [] pos) (tSS X ct W hx B O O' (run1 A (.whl x ys))) := by
  refine (ps_while S.po ht hb).imp fun D σ H ⟨hh, Z, ρ, rel, out⟩ => ?_
  subst hN
  obtain ⟨Z1, z1, rel1⟩ := rel.freeze (O2 := O') hsub
  have out : Out X.K ct W none B O' Z D (whlL (fun ρ => (ev A x ρ).bind asBl) (fun ρ => run A ys ρ) A.F ρ) := out
  refine ⟨fun m σ H => ∃ Z3 ρ, RelE X.K ct Z3 H O' σ ρ ∧ Out X.K ct W none B O' Z3 D (whlL (fun ρ => (ev A x ρ).bind asBl) (fun ρ => run A ys ρ) m ρ), ⟨A.F, Z1, ρ, rel1, Out.grow out z1⟩, ?_⟩
  rintro m σ3 H3 ⟨Z3, ρ3, r3, o3⟩
  cases m with
  | zero => exact (show False from o3).elim
  | succ m =>
    rw [whl_eq] at o3
    have fin := fin_withR r3 (show HotOk none σ3 from trivial) o3
    refine ⟨trivial, Z3, ρ3, r3, fin.mono fun k Z4 H4 _ e4 ⟨r4, o4⟩ => ?_⟩
    cases k with
    | false =>
      simp only [Bool.false_eq_true, ↓reduceIte] at o4 ⊢
      exact o4 σ3 H4 Z4 (.refl _) trivial r4
    | true =>
      simp only [↓reduceIte] at o4 ⊢
      refine ⟨fun σ H => ∃ Z3 ρ, RelE X.K ct Z3 H O' σ ρ ∧ Out X.K ct W none B O' Z3 D (whlL (fun ρ => (ev A x ρ).bind asBl) (fun ρ => run A ys ρ) m ρ), fun σ' H' h => ⟨m, Nat.lt_succ_self _, h⟩, trivial, Z4, ρ3, r4, ?_⟩
      cases q : run A ys ρ3 with
      | nx ρ6 =>
        simp only [q] at o4
        intro σ6 H6 Z6 z6 _ r6
        obtain ⟨Z7, z7, r7⟩ := r6.freeze (O2 := O') h2
        exact ⟨Z7, ρ6, r7, Out.grow o4 (z6.trans z7)⟩
      | bk ρ6 => simp only [q] at o4; exact o4
      | rt d => simp only [q] at o4; exact o4
      | exc k ρ6 => simp only [q] at o4; exact o4
      | bad => simp only [q] at o4; exact o4
theorem st_app {a : Expr} {x : Str} {i : Nat} {y : SE} {px ap cp pos : Pos} (S : SitS X ct c A L W ev0 hx) (hp : plainName x = true) (hl : locB X.env.scope x = true) (hsl : slotOf c.N x = some i) (hline : (ap.endLine == cp.line) = true) (hs : noStar a = true) (hi : i ∈ rem O (esc y)) (ha : PE X a (tE X ct A W (rem O (esc y)) hx y)) : PS X (.Expr (.Call (.Attribute (.Name x px) (sOf "append") ap) [a] [] cp) pos) (tSS X ct W hx B O (rem O (esc y)) (run1 A (.app i y))) := by
  obtain ⟨p1, p2, _⟩ := plain_debug hp
  have hN : X.N[i]? = some x := by rw [S.N]; exact slotOf_get hsl
  have hv : Vis X.env.scope x := by
    rcases locB_loc hl with e | e
    · exact .inl e
    · exact .inr (.inl e)
  refine (ps_expr (pe_bm PySem.F.plainAttrs_list PySem.F.slot_list_append PySem.F.type_list_append mt_append (pe_var (i := i) hN hv p1 p2) (pa_cons ha pa_nil (noStar_each hs)) rfl (few1 hs) hline (noStar_each hs) rfl) rfl).imp fun D σ H ⟨hh, Z, ρ, rel, out⟩ => ?_
  obtain ⟨Z1, z1, rel1⟩ := rel.freeze (O2 := rem O (esc y)) rem_sub
  have out : Out X.K ct W hx B (rem O (esc y)) Z D (match ρ[i]? with
    | some (some (.lst xs)) => withR ρ (ev A y ρ) fun d => if decide (xs.length < big) then .nx (ρ.set i (some (.lst (xs ++ [d])))) else .bad
    | _ => .bad) := out
  split at out
  · rename_i xs hd
    obtain ⟨ad, h1, h2, h3⟩ := rel1.ow i _ hi hd
    refine ⟨.ref ad, h1, ?_, ?_⟩
    · rcases h3 with ⟨vs, ds, _, g1, _⟩ | ⟨kvs, ps, e, _⟩
      · exact .inl ⟨rfl, vs, .inl (.inl g1)⟩
      · cases e
    · have fin := fin_withR rel1 hh (Out.grow out z1)
      refine ⟨hh, Z1, ρ, rel1, fin.mono fun d Z' H' _ e ⟨r, o⟩ v hv => ?_⟩
      obtain ⟨ad2, g1, g2, g3⟩ := r.ow i _ hi hd
      rw [h1] at g1
      cases g1
      by_cases hb : decide (xs.length < big) = true
      · rw [if_pos hb] at o
        rcases g3 with ⟨vs, ds, e2, q1, q2⟩ | ⟨kvs, ps, e2, _⟩
        · cases e2
          have hb' := of_decide_eq_true hb
          refine ⟨ad, vs, v, rfl, rfl, q1, by rw [sizeLine_eq, q2.length]; unfold big at hb'; omega, ?_⟩
          exact o σ _ Z' (.refl _) hh (r.write hi hd h1 (.inl ⟨vs ++ [v], xs ++ [d], rfl, rfl, q2.append (.cons hv .nil)⟩))
        · cases e2
      · rw [if_neg hb] at o; exact (show False from o).elim
  · exact (show False from out).elim
end
end Tk
/-! raise, try .. except. -/
namespace Tk
open PySem PySem.Spec PyProof.Rows L2
open D
section
variable {ct : CT} {c : CE} {A : Ar} {L : Nat} {ev0 : Option Str} {hx : Option (Nat × Addr)} {n : Nat} {X : Cx} {W : WX} {O O' O1 O2 : List Nat} {B : Option (List Nat)}
/-- raise C('..') -/
theorem st_raise (S : SitS X ct c A L W ev0 hx) (h0 : ev0 = none) {x m : Str} {k j : Nat} {cs : List Nat} {p p2 pos pos' : Pos} (hp : plainName x = true) (hg : gloB X.env.scope x = true) (he : c.ecl.lookup x = some (k, cs)) :
    PS X (.Raise (some (.Call (.Name x p) [.Constant (.str m) j p2] [] pos)) none pos') (tSS X ct W hx B O O (run1 A (.rse k))) := by
  obtain ⟨C, h1, h2, h3, h4, h5, h6, _⟩ := S.exc.nm x k cs he
  obtain ⟨p1, _, _⟩ := plain_debug hp
  refine (ps_raise (S.calm h0) S.tk (pmk_own PySem.F.excBase_ValueError h3 h1 h4 (raises_own h5 h6) (gloB_gl hg) p1)).imp fun D σ H ⟨hh, Z, ρ, rel, out⟩ => ?_
  have out : Out X.K ct W hx B O Z D (.exc k ρ) := out
  obtain ⟨Z2, z2, r2⟩ := rel.freeze (O2 := []) (fun i hi => by cases hi)
  exact out C σ H Z2 h2 z2 hh r2
theorem RelE.drop {K : PySem.W.Frag} {Z H : Hp} {σ : L2.St} {ρ : En} (r : RelE K ct Z H O σ ρ) (i : Nat) (x : Option V) : RelE K ct Z H O (σ.set i x) (ρ.set i none) := by
  have key : ∀ j d, (ρ.set i none)[j]? = some (some d) → j ≠ i ∧ ρ[j]? = some (some d) := by
    intro j d h
    by_cases e : j = i
    · subst e
      exfalso
      by_cases hl : j < ρ.length
      · rw [List.getElem?_set_self hl] at h; cases h
      · rw [List.getElem?_eq_none (by rw [List.length_set]; omega)] at h; cases h
    · rw [List.getElem?_set_ne (fun z => e z.symm)] at h
      exact ⟨e, h⟩
  refine ⟨r.sub, r.dif, by rw [List.length_set, List.length_set]; exact r.len, fun j d hj h => ?_, fun j d hj h => ?_, fun j k d e a hj hk ne h1 h2 h3 => ?_⟩
  · obtain ⟨e, h⟩ := key j d h
    obtain ⟨v, g1, g2⟩ := r.fr j d hj h
    exact ⟨v, by rw [List.getElem?_set_ne (fun z => e z.symm)]; exact g1, g2⟩
  · obtain ⟨e, h⟩ := key j d h
    obtain ⟨a, g1, g2⟩ := r.ow j d hj h
    exact ⟨a, by rw [List.getElem?_set_ne (fun z => e z.symm)]; exact g1, g2⟩
  · obtain ⟨e1, h1⟩ := key j d h1
    obtain ⟨e2, h2⟩ := key k e h2
    rw [List.getElem?_set_ne (fun z => e1 z.symm)] at h3
    rw [List.getElem?_set_ne (fun z => e2 z.symm)]
    exact r.inj j k d e a hj hk ne h1 h2 h3
theorem names_of (S : SitS X ct c A L W ev0 hx) {x : Str} {C : Addr} (hp : plainName x = true) (hg : gloB X.env.scope x = true) (hm : X.mg x = some (.ref C)) : Names X x (.ref C) := by
  obtain ⟨p1, _, _⟩ := plain_debug hp
  exact ⟨gloB_gl hg, p1, .inl hm⟩
theorem SitS.tr (S : SitS X ct c A L W none none) {W' : WX} {pn : List (Addr × Obj)} {xe : Value → Shared → Prop} (t : Takes (X.tr pn xe) W') (p : PassesOwn (model X.prog X.w) X.A X.env xe) : SitS (X.tr pn xe) ct c A L W' none none :=
  { N := S.N, nd := S.nd, calm := S.calm, tk := t, un := S.un, room := S.room, fns := S.fns, cls := S.cls, meth := S.meth, kd := S.kd, gc := S.gc, free := S.free, hot := (fun i a h => nomatch h), exc := S.exc, fnT := S.fnT, po := p, stk := S.stk, frm := S.frm }
theorem SitS.suite (S : SitS X ct c A L W none none) {k : Nat} {y : Str} {hx : Option (Nat × Addr)} {a : Addr} {pn : List (Addr × Obj)} (hot : ∀ i b, hx = some (i, b) → ∃ z oe C, some y = some z ∧ c.N[i]? = some z ∧ (b, oe) ∈ pn ∧ Zc (.ref C) none oe ∧ (∃ vs, oe.data = .fields vs) ∧ ∃ k', some k = some k' ∧ ct.ex k' = some C) :
    SitS (X.suite a pn) ct c { A with hot := some k } L (fun _ _ _ _ => False) (some y) hx :=
  { N := S.N, nd := S.nd, calm := (fun h => nomatch h), tk := (fun u s' ⟨_, _, _, _, _, _, _, _, _, _, _, _, _, _, _, _, w⟩ => w), un := S.un, room := (fun h => nomatch h), fns := S.fns, cls := S.cls, meth := S.meth, kd := S.kd, gc := S.gc, free := S.free, hot := hot, exc := S.exc, fnT := S.fnT, po := PassesOwn.never, stk := S.stk, frm := S.frm }
/-- try .. except C as y -/
theorem st_try_as (S : SitS X ct c A L W none none) {x y : Str} {i k0 : Nat} {cs : List Nat} {body suite : List Stmt} {b0 : Stmt} {b s : List SS} {np pos pos' : Pos} (hp : plainName x = true) (hg : gloB X.env.scope x = true) (he : c.ecl.lookup x = some (k0, cs)) (hy : loc1B X.env.scope y = true) (hs : slotOf c.N y = some i)
    (hb : ∀ X' W', SitS X' ct c A L W' none none → X'.env.scope = X.env.scope → X'.K = X.K → PSs X' body (tSS X ct W' none none O O1 (run A b)))
    (hsu : ∀ X' a k, SitS X' ct c { A with hot := some k } L (fun _ _ _ _ => False) (some y) (some (i, a)) → X'.env.scope = X.env.scope → X'.K = X.K → PSs X' (b0 :: suite) (tSS X ct (fun _ _ _ _ => False) (some (i, a)) none [] O2 (run { A with hot := some k } s))) :
    PS X (.Try body [.ExceptHandler (some (.Name x np)) (some y) (b0 :: suite) pos'] [] [] pos) (tSS X ct W none B O (joinO O1 O2) (run1 A (.tryS b cs (some i) s))) := by
  obtain ⟨C0, h1, h2, h3, h4, h5, h6, h7⟩ := S.exc.nm x k0 cs he
  have hN : X.N[i]? = some y := by rw [S.N]; exact slotOf_get hs
  have hln : X.env.kindOf y = some .local := by
    unfold loc1B at hy
    split at hy
    · rename_i e; exact e
    · cases hy
  refine (ps_try_as (c := .ref C0) (tb := fun W' => tSS X ct W' none none O O1 (run A b)) (ts := fun a cls d D σ H => ∃ k C, cls = .ref C ∧ d = none ∧ ct.ex k = some C ∧ tSS X ct (fun _ _ _ _ => False) (some (i, a)) none [] O2 (run { A with hot := some k } s) D σ H) S.stk S.frm (by rw [S.N]; exact S.nd) hN hln (names_of S hp hg h1) S.tk (fun W' pn xe t p => hb (X.tr pn xe) W' (S.tr t p) rfl rfl) (fun a oe cls d pn hz hf => ?_)).imp fun D σ H ⟨hh, Z, ρ, rel, out⟩ => ?_
  · refine ⟨fun pins s σ H D I ⟨k, C, e1, e2, e3, t⟩ => ?_⟩
    subst e1 e2
    refine (hsu (X.suite a ((a, oe) :: pn)) a k (S.suite fun i' b' e => ?_) rfl rfl).run pins s σ H D I t
    cases e
    exact ⟨y, oe, C, rfl, slotOf_get hs, List.mem_cons_self, hz, hf, k, rfl, e3⟩
  · refine ⟨trivial, Z, ρ, rel, ?_⟩
    have out : Out X.K ct W none B (joinO O1 O2) Z D (match run A b ρ with
      | .nx ρ' => .nx ρ'
      | .rt d => .rt d
      | .exc c ρ' => if cs.contains c && decide (i < ρ'.length) then endS (some i) (run { A with hot := some c } s (ρ'.set i none)) else .bad
      | _ => .bad) := out
    cases q : run A b ρ with
    | nx ρ1 => rw [q] at out; exact Out.sub (f := .nx ρ1) out fun i hi => (mem_joinO.mp hi).1
    | rt d => rw [q] at out; exact out
    | bk ρ1 => rw [q] at out; exact (show False from out).elim
    | bad => rw [q] at out; exact out
    | exc k ρ1 =>
      rw [q] at out
      intro C σ1 H1 Z1 hC z1 _ r1
      have out : Out X.K ct W none B (joinO O1 O2) Z D (if cs.contains k && decide (i < ρ1.length) then endS (some i) (run { A with hot := some k } s (ρ1.set i none)) else .bad) := out
      by_cases hc : (cs.contains k && decide (i < ρ1.length)) = true
      · rw [if_pos hc] at out
        obtain ⟨c1, c2⟩ := Bool.and_eq_true_iff.mp hc
        have c2 := of_decide_eq_true c2
        have hm := (h7 k C hC).1
        rw [c1] at hm
        refine ⟨true, hm, fun _ a ha => ⟨k, C, rfl, rfl, hC, ?_, Z1, ρ1.set i none, r1.drop i _, ?_⟩, fun z => nomatch z⟩
        · show (σ1.set i (some (.ref a)))[i]? = some (some (.ref a))
          rw [List.getElem?_set_self (by rw [r1.len]; exact c2)]
        · cases q2 : run { A with hot := some k } s (ρ1.set i none) with
          | nx ρ2 =>
            rw [q2] at out
            intro σ2 H2 Z2 z2 _ r2
            obtain ⟨Z3, z3, r3⟩ := r2.freeze (O2 := joinO O1 O2) fun i hi => (mem_joinO.mp hi).2
            exact (show Out X.K ct W none B (joinO O1 O2) Z D (.nx (ρ2.set i none)) from out) _ _ Z3 ((z1.trans z2).trans z3) trivial (r3.drop i none)
          | rt d =>
            rw [q2] at out
            exact fun v H2 Z2 z2 => (show Out X.K ct W none B (joinO O1 O2) Z D (.rt d) from out) v H2 Z2 (z1.trans z2)
          | bk ρ2 => rw [q2] at out; exact (show False from out).elim
          | exc k2 ρ2 => rw [q2] at out; exact (show False from out).elim
          | bad => rw [q2] at out; exact (show False from out).elim
      · rw [if_neg hc] at out
        exact (show False from out).elim
/-- try .. except C -/
theorem st_try (S : SitS X ct c A L W none none) {x y : Str} {k0 : Nat} {cs : List Nat} {body suite : List Stmt} {b0 : Stmt} {b s : List SS} {np pos pos' : Pos} (hp : plainName x = true) (hg : gloB X.env.scope x = true) (he : c.ecl.lookup x = some (k0, cs))
    (hb : ∀ X' W', SitS X' ct c A L W' none none → X'.env.scope = X.env.scope → X'.K = X.K → PSs X' body (tSS X ct W' none none O O1 (run A b)))
    (hsu : ∀ X' k, SitS X' ct c { A with hot := some k } L (fun _ _ _ _ => False) (some y) none → X'.env.scope = X.env.scope → X'.K = X.K → PSs X' (b0 :: suite) (tSS X ct (fun _ _ _ _ => False) none none [] O2 (run { A with hot := some k } s))) :
    PS X (.Try body [.ExceptHandler (some (.Name x np)) none (b0 :: suite) pos'] [] [] pos) (tSS X ct W none B O (joinO O1 O2) (run1 A (.tryS b cs none s))) := by
  obtain ⟨C0, h1, h2, h3, h4, h5, h6, h7⟩ := S.exc.nm x k0 cs he
  refine (ps_try_only (c := .ref C0) (tb := fun W' => tSS X ct W' none none O O1 (run A b)) (ts := fun a cls d D σ H => ∃ k C, cls = .ref C ∧ d = none ∧ ct.ex k = some C ∧ tSS X ct (fun _ _ _ _ => False) none none [] O2 (run { A with hot := some k } s) D σ H) S.stk S.frm (names_of S hp hg h1) S.tk (fun W' pn xe t p => hb (X.tr pn xe) W' (S.tr t p) rfl rfl) (fun a oe cls d pn hz hf => ?_)).imp fun D σ H ⟨hh, Z, ρ, rel, out⟩ => ?_
  · refine ⟨fun pins s σ H D I ⟨k, C, e1, e2, e3, t⟩ => ?_⟩
    subst e1 e2
    exact (hsu (X.suite a ((a, oe) :: pn)) k (S.suite fun i' b' e => nomatch e) rfl rfl).run pins s σ H D I t
  · refine ⟨trivial, Z, ρ, rel, ?_⟩
    have out : Out X.K ct W none B (joinO O1 O2) Z D (match run A b ρ with
      | .nx ρ' => .nx ρ'
      | .rt d => .rt d
      | .exc c ρ' => if cs.contains c && decide (0 < ρ'.length) then endS none (run { A with hot := some c } s ρ') else .bad
      | _ => .bad) := out
    cases q : run A b ρ with
    | nx ρ1 => rw [q] at out; exact Out.sub (f := .nx ρ1) out fun i hi => (mem_joinO.mp hi).1
    | rt d => rw [q] at out; exact out
    | bk ρ1 => rw [q] at out; exact (show False from out).elim
    | bad => rw [q] at out; exact out
    | exc k ρ1 =>
      rw [q] at out
      intro C σ1 H1 Z1 hC z1 _ r1
      have out : Out X.K ct W none B (joinO O1 O2) Z D (if cs.contains k && decide (0 < ρ1.length) then endS none (run { A with hot := some k } s ρ1) else .bad) := out
      by_cases hc : (cs.contains k && decide (0 < ρ1.length)) = true
      · rw [if_pos hc] at out
        obtain ⟨c1, c2⟩ := Bool.and_eq_true_iff.mp hc
        have hm := (h7 k C hC).1
        rw [c1] at hm
        refine ⟨true, hm, fun _ a ha => ⟨k, C, rfl, rfl, hC, trivial, Z1, ρ1, r1, ?_⟩, fun z => nomatch z⟩
        cases q2 : run { A with hot := some k } s ρ1 with
        | nx ρ2 =>
          rw [q2] at out
          intro σ2 H2 Z2 z2 _ r2
          obtain ⟨Z3, z3, r3⟩ := r2.freeze (O2 := joinO O1 O2) fun i hi => (mem_joinO.mp hi).2
          exact (show Out X.K ct W none B (joinO O1 O2) Z D (.nx ρ2) from out) _ _ Z3 ((z1.trans z2).trans z3) trivial r3
        | rt d =>
          rw [q2] at out
          exact fun v H2 Z2 z2 => (show Out X.K ct W none B (joinO O1 O2) Z D (.rt d) from out) v H2 Z2 (z1.trans z2)
        | bk ρ2 => rw [q2] at out; exact (show False from out).elim
        | exc k2 ρ2 => rw [q2] at out; exact (show False from out).elim
        | bad => rw [q2] at out; exact (show False from out).elim
      · rw [if_neg hc] at out
        exact (show False from out).elim
/-! ### isinstance(e, C) -/
theorem call_isE2 {a D : Addr} {oe : Obj} (hp : (a, oe) ∈ X.pn) (C : ExcC X.K D) (hz : Zc (.ref D) none oe) (hf : ∃ vs, oe.data = .fields vs) : CallR X (.builtin "isinstance") (rIsE X.K D a) := by
  intro pins s σ H xs us Q I r h
  obtain ⟨c, cv, b, rfl, hcv, e, q⟩ := h
  cases r with
  | cons rx rr =>
    cases rr with
    | cons rt rr =>
      cases rr
      cases rx
      have ec := hcv _ rt
      subst ec
      obtain ⟨hget, _⟩ := I.pin (a, oe) (List.mem_append.mpr (.inl hp))
      obtain ⟨vs, hv⟩ := hf
      have J : PySem.W.InstAt s.heap a oe D none := by
        obtain ⟨oc, od, oda, osl⟩ := oe
        obtain ⟨h1, h2⟩ := hz
        dsimp only at h1 h2 hv
        subst h1 h2 hv
        exact ⟨hget, rfl, rfl, trivial⟩
      exact PySem.W.kia_one (PySem.W.handS_kitx_exc C.hg C.hk C.hs C.hd C.ha C.hn C.ht C.hm) I.kIn J e (fun z => nomatch z) fun tk => ⟨.bl b, H, I.kept (t' := tk) fun _ _ z => z, rfl, q⟩
theorem isx_hot {i : Nat} {a : Addr} : IsxOk ct c A ev0 (some (i, a)) := by
  intro X W L O v t p q q2 pos cs S hv hvis hp hgi hfi hgt hpt hex
  obtain ⟨y, oe, C, e1, e2, hm, hz, hf, k, hk, hC⟩ := S.hot i a rfl
  rw [hv] at e1
  cases e1
  obtain ⟨x1, x2, x3⟩ := S.exc.all k C hC
  obtain ⟨p1, p2, p3⟩ := plain_debug hp
  obtain ⟨t1, t2, t3⟩ := plain_debug hpt
  have hV : PE X (.Name v q) (tVar i) := pe_var (by rw [S.N]; exact e2) (visB_vis hvis) p1 p2
  have key : ∃ (tv : V) (cv : Value), PE X (.Name t q2) (tC tv) ∧ (∀ u, RelV tv u → u = cv) ∧ PySem.W.kitOne X.K (.ref C) cv = some (cs.contains k) := by
    unfold exsOf at hex
    split at hex
    · rename_i he
      have he := sOf_eq he
      split at hex
      · rename_i hfr
        cases hex
        subst he
        refine ⟨.ty "ValueError", .type "ValueError", pe_bltn (gloB_gl hgt) (S.free _ hfr) (by decide +kernel) rfl t3 t1, fun u r => ?_, by rw [x3]; exact x2⟩
        cases r; rfl
      · cases hex
    · obtain ⟨⟨k0, cs'⟩, hl, e⟩ := Option.map_eq_some_iff.mp hex
      have e : cs' = cs := e
      subst e
      obtain ⟨C0, h1, h2, h3, h4, h5, h6, h7⟩ := S.exc.nm t k0 cs' hl
      refine ⟨.ref C0, .ref C0, pe_glob (gloB_gl hgt) h1 rfl t1, fun u r => ?_, (h7 k C hC).2⟩
      cases r; rfl
  obtain ⟨tv, cv, hT, hcv, hkit⟩ := key
  have hA : PA X [.Name v q, .Name t q2] (tCons (tVar i) (tCons (tC tv) tNil)) := pa_cons hV (pa_cons hT pa_nil)
  refine (pe_callB (call_isE2 hm x1 hz hf) (gloB_gl hgi) (S.free _ hfi) (by decide +kernel) hA (by decide) (by decide) rfl rfl).imp fun σ H Q ⟨hh, Z, ρ, rel, fin⟩ => ?_
  have fin : FinG X.K ct W σ Z H (match A.hot with | some c => Res.ok (D.bl (cs.contains c)) | none => .bad) _ := fin
  rw [hk] at fin
  exact ⟨.ref a, hh, tv, cv, cs.contains k, rfl, hcv, hkit, FinG.here fin rel.sub _ (.bl _)⟩
theorem isx_nameless : IsxOk ct c A (some (sOf "")) none := by
  intro X W L O v t p q q2 pos cs S hv hvis hp
  cases hv
  exact absurd hp (by decide +kernel)
end
end Tk
/-! All statements: the induction. -/
namespace Tk
open PySem PySem.Spec PyProof.Rows L2
open D
section
variable {ct : CT} {c : CE} {A : Ar} {L : Nat} {ev0 : Option Str} {hx : Option (Nat × Addr)} {n : Nat} {X : Cx} {W : WX} {O O' : List Nat} {B : Option (List Nat)}
def rExtendS : V → List V → Hp → VK → Prop := fun x vs H Q => ∃ l b xs zs, x = .ref l ∧ vs = [.ref b] ∧ H l = some (.lst xs) ∧ Rd H b (.lst zs) ∧ xs.length + zs.length ≤ sizeLine ∧ Q .non (upd H l (.lst (xs ++ zs)))
theorem mt_extendS : MtM X "list.extend" rExtendS := by
  intro pins s σ H x vs v us Q I rx rv h
  obtain ⟨l, b, xs, zs, rfl, rfl, hH, hB, hz, q⟩ := h
  cases rx
  obtain ⟨u, rfl, ru⟩ := rv.one
  cases ru
  obtain ⟨z, its, n, r, hl, e⟩ := Inv.rdL I (.inl hH)
  obtain ⟨z2, its2, n2, r2, hl2, e2⟩ := Inv.rdL I hB
  have hsz : its.toArray.size + its2.toArray.size ≤ sizeLine := by rw [List.size_toArray, List.size_toArray]; omega
  have hlong : ¬ (!its.toArray.isEmpty && Builtin.List.listTooLong (its.toArray.size + its2.toArray.size)) = true := by
    rw [notLongL hsz, Bool.and_false]
    exact Bool.false_ne_true
  refine call_meets F.slot_list_extend ⟨_, e, rfl⟩ F.entry_list_extend (F.args_list_extend_2 _ _)
    (AutoSeq1.list_extend_list_list_0 l its.toArray n b its2.toArray n2 hlong (by rw [List.size_toArray]; omega) (by omega)) ⟨e, e2, ?_⟩
  refine ⟨.non, _, I.lset (its' := its ++ its2) hH e (by simp) (r.append r2) ?_, rfl, q⟩
  rw [List.length_append]
  omega
theorem st_ext {a : Expr} {x : Str} {i : Nat} {y : SE} {px ap cp pos : Pos} (S : SitS X ct c A L W ev0 hx) (hp : plainName x = true) (hl : locB X.env.scope x = true) (hsl : slotOf c.N x = some i) (hline : (ap.endLine == cp.line) = true) (hs : noStar a = true) (hi : i ∈ rem O (esc y)) (ha : PE X a (tE X ct A W (rem O (esc y)) hx y)) : PS X (.Expr (.Call (.Attribute (.Name x px) (sOf "extend") ap) [a] [] cp) pos) (tSS X ct W hx B O (rem O (esc y)) (run1 A (.ext i y))) := by
  obtain ⟨p1, p2, _⟩ := plain_debug hp
  have hN : X.N[i]? = some x := by rw [S.N]; exact slotOf_get hsl
  have hv : Vis X.env.scope x := by
    rcases locB_loc hl with e | e
    · exact .inl e
    · exact .inr (.inl e)
  refine (ps_expr (pe_bm PySem.F.plainAttrs_list PySem.F.slot_list_extend PySem.F.type_list_extend mt_extendS (pe_var (i := i) hN hv p1 p2) (pa_cons ha pa_nil (noStar_each hs)) rfl (few1 hs) hline (noStar_each hs) rfl) rfl).imp fun D σ H ⟨hh, Z, ρ, rel, out⟩ => ?_
  obtain ⟨Z1, z1, rel1⟩ := rel.freeze (O2 := rem O (esc y)) rem_sub
  have out : Out X.K ct W hx B (rem O (esc y)) Z D (match ρ[i]? with
    | some (some (.lst xs)) => withR ρ (ev A y ρ) fun d => (match d with
      | .lst ys => if okN (xs.length + ys.length) then .nx (ρ.set i (some (.lst (xs ++ ys)))) else .bad
      | _ => .bad)
    | _ => .bad) := out
  split at out
  · rename_i xs hd
    obtain ⟨ad, h1, h2, h3⟩ := rel1.ow i _ hi hd
    refine ⟨.ref ad, h1, ?_, ?_⟩
    · rcases h3 with ⟨vs, ds, _, g1, _⟩ | ⟨kvs, ps, e, _⟩
      · exact .inl ⟨rfl, vs, .inl (.inl g1)⟩
      · cases e
    · have fin := fin_withR rel1 hh (Out.grow out z1)
      refine ⟨hh, Z1, ρ, rel1, fin.mono fun d Z' H' _ e ⟨r, o⟩ v hv => ?_⟩
      obtain ⟨ad2, g1, g2, g3⟩ := r.ow i _ hi hd
      rw [h1] at g1
      cases g1
      cases d with
      | lst ys =>
        have o : Out X.K ct W hx B (rem O (esc y)) Z' D (if okN (xs.length + ys.length) then .nx (ρ.set i (some (.lst (xs ++ ys)))) else .bad) := o
        by_cases hb : okN (xs.length + ys.length) = true
        · rw [if_pos hb] at o
          cases hv with
          | lst w1 w2 =>
            rcases g3 with ⟨vs, ds, e2, q1, q2⟩ | ⟨kvs, ps, e2, _⟩
            · cases e2
              refine ⟨ad, _, vs, _, rfl, rfl, q1, same_rd r.sub w1, by rw [q2.length, w2.length]; exact okN_le hb, ?_⟩
              exact o σ _ Z' (.refl _) hh (r.write hi hd h1 (.inl ⟨_, xs ++ ys, rfl, rfl, q2.append w2⟩))
            · cases e2
        · rw [if_neg hb] at o; exact (show False from o).elim
      | _ => exact (show False from o).elim
  · exact (show False from out).elim
/-- d[k] = v of a dict with keys of any kind -/
theorem ps_gput {o i value : Expr} {td ty tv : TE} {pos pos' : Pos} (hu : X.A.units + 9 < cLine) (ho : PE X o td) (hi : PE X i ty) (hv : PE X value tv) (hs : swapsWith value (some (.Subscript o i pos')) pos.line X.env = pure false) :
    PS X (.Assign [.Subscript o i pos'] value pos) (fun D σ H => tv σ H fun v H1 => td σ H1 fun x H2 => ty σ H2 fun y H3 => ∃ a acc k, x = .ref a ∧ Gd.GHas X.K X.w H3 a acc ∧ Gd.KyD X.K H3 y k ∧ acc.length < sizeLine ∧
      ∀ u r ep, RelV y u → RelV v r → D.nx σ (upd H3 a (Gd.gdO X.w a (Gd.putG X.w acc k u r) ep))) := by
  refine ⟨fun pins s σ H D I h => ?_⟩
  refine wpAny_Assign_Subscript (thn (hv.run pins s σ H _ I h) fun r s1 ⟨v, H1, I1, rv, q1⟩ => thn (ho.run pins s1 σ H1 _ I1 q1) fun u s2 ⟨x, H2, I2, rx, q2⟩ => thn (hi.run pins s2 σ H2 _ I2 q2) fun w s3 ⟨y, H3, I3, ry, a, acc, k, ex, g, hk, hz, q3⟩ => ?_) hs
  subst ex
  obtain rfl : u = Value.ref a := rx
  exact Gd.g_store hu I3 g hk ry hz fun ep s4 I4 => ⟨σ, _, I4, q3 w r ep ry rv⟩
theorem st_setK {x : Str} {i : Nat} {ke e : Expr} {y z : SE} {px sp pos : Pos} (S : SitS X ct c A L W ev0 hx) (hp : plainName x = true) (hl : locB X.env.scope x = true) (hsl : slotOf c.N x = some i) (hlc : noLc e = true) (hi : i ∈ rem O (esc y ++ esc z)) (hk : PE X ke (tE X ct A W (rem O (esc y ++ esc z)) hx y)) (he : PE X e (tE X ct A W (rem O (esc y ++ esc z)) hx z)) :
    PS X (.Assign [.Subscript (.Name x px) ke sp] e pos) (tSS X ct W hx B O (rem O (esc y ++ esc z)) (run1 A (.setK i y z))) := by
  obtain ⟨p1, p2, _⟩ := plain_debug hp
  have hN : X.N[i]? = some x := by rw [S.N]; exact slotOf_get hsl
  have hv : Vis X.env.scope x := by
    rcases locB_loc hl with e | e
    · exact .inl e
    · exact .inr (.inl e)
  refine (ps_gput (by have := S.un; omega) (pe_var (i := i) hN hv p1 p2) hk he (swaps_no hlc)).imp fun D σ H ⟨hh, Z, ρ, rel, out⟩ => ?_
  obtain ⟨Z1, z1, rel1⟩ := rel.freeze (O2 := rem O (esc y ++ esc z)) rem_sub
  have out : Out X.K ct W hx B (rem O (esc y ++ esc z)) Z D (match ρ[i]? with
    | some (some (.gd ps)) => withR ρ (ev A z ρ) fun d => withR ρ (ev A y ρ) fun kd => if kyB kd && decide (ps.length < big) then .nx (ρ.set i (some (.gd (setD kd d ps)))) else .bad
    | _ => .bad) := out
  split at out
  · rename_i ps hd
    obtain ⟨ad, h1, h2, h3⟩ := rel1.ow i _ hi hd
    have fin := fin_withR rel1 hh (Out.grow out z1)
    refine ⟨hh, Z1, ρ, rel1, fin.mono fun d Z2 H2 _ e2 ⟨r2, o2⟩ v hvd => ⟨.ref ad, h1, ?_⟩⟩
    have fin2 := fin_withR r2 hh o2
    refine ⟨hh, Z2, ρ, r2, fin2.mono fun kd Z3 H3 _ e3 ⟨r3, o3⟩ u hu => ?_⟩
    obtain ⟨ad2, g1, g2, g3⟩ := r3.ow i _ hi hd
    rw [h1] at g1
    cases g1
    by_cases hb : (kyB kd && decide (ps.length < big)) = true
    · rw [if_pos hb] at o3
      obtain ⟨hb1, hb2⟩ := Bool.and_eq_true_iff.mp hb
      have hb2 := of_decide_eq_true hb2
      rcases g3 with ⟨vs, ds, e4, _⟩ | ⟨q, qs, e4, q1, q2⟩
      · cases e4
      · cases e4
        rw [S.kd.1] at q1
        refine ⟨ad, q.1, nk kd, rfl, ⟨⟨q.2, q1⟩, (DenG.mono r3.sub _ _ q2).stand⟩, (Den.mono r3.sub _ _ hu).kyD hb1, by rw [sizeLine_eq, q2.len]; unfold big at hb2; omega, fun a b ep ra rb => ?_⟩
        exact o3 σ _ Z3 (.refl _) hh (r3.write hi hd h1 (.inr ⟨(Gd.putG X.w q.1 (nk kd) a b, ep), setD kd d ps, by rw [S.kd.1], rfl, DenG.put ra hu hb1 rb (Den.mono e3.zz _ _ hvd) q2⟩))
    · rw [if_neg hb] at o3; exact (show False from o3).elim
  · exact (show False from out).elim
theorem flL_spec {f : List Nat → Option (List Nat)} (h : flL f O = some O') : (∀ i ∈ O', i ∈ O) ∧ ∃ O2, f O' = some O2 ∧ ∀ i ∈ O', i ∈ O2 := by
  unfold flL at h
  split at h
  · rename_i O1 e1
    split at h
    · rename_i hs
      cases h
      exact ⟨fun i h => h, O1, e1, subO_iff.mp hs⟩
    · split at h
      · rename_i O2 e2
        split at h
        · rename_i hs
          cases h
          exact ⟨fun i h => (mem_joinO.mp h).1, O2, e2, subO_iff.mp hs⟩
        · cases h
      · cases h
  · cases h
/-- the soundness of all statements that are turned with n -/
structure SndS (ct : CT) (c : CE) (A : Ar) (L : Nat) (ev : Option Str) (hx : Option (Nat × Addr)) (M : List Nat) (n : Nat) : Prop where
  St : ∀ X W st ss B O O', SitS X ct c A L W ev hx → cSt c X.env.scope ev n st = some ss → fl1 M ss B O = some O' → PS X st (tSS X ct W hx B O O' (run1 A ss))
  Bl : ∀ X W st ss B O O', SitS X ct c A L W ev hx → cB c X.env.scope ev n st = some ss → flB M ss B O = some O' → PSs X st (tSS X ct W hx B O O' (run A ss))
theorem hot_none (S : SitS X ct c A L W ev0 hx) (h : ev0 = none) : hx = none := by
  subst h
  cases q : hx with
  | none => rfl
  | some z =>
    obtain ⟨y, _, _, h1, _⟩ := S.hot z.1 z.2 q
    cases h1
theorem hot_ne (S : SitS X ct c A L W ev0 hx) {x : Str} {i : Nat} (h : ¬ ev0 = some x) (hs : slotOf c.N x = some i) : ∀ j a, hx = some (j, a) → j ≠ i := by
  intro j a e z
  subst z
  obtain ⟨y, _, _, h1, h2, _⟩ := S.hot j a e
  rw [slotOf_get hs] at h2
  cases h2
  exact h h1
theorem pss_seq {st : Stmt} {rest : List Stmt} {s : SS} {r : List SS} {O1 : List Nat} (h1 : PS X st (tSS X ct W hx B O O1 (run1 A s))) (h2 : PSs X rest (tSS X ct W hx B O1 O' (run A r))) : PSs X (st :: rest) (tSS X ct W hx B O O' (run A (s :: r))) := by
  refine (pss_cons h1 h2).imp fun D σ H ⟨hh, Z, ρ, rel, out⟩ => ⟨hh, Z, ρ, rel, ?_⟩
  have out : Out X.K ct W hx B O' Z D ((run1 A s ρ).then fun ρ' => run A r ρ') := out
  cases q : run1 A s ρ with
  | nx ρ1 =>
    rw [q] at out
    exact fun σ' H' Z' z hh' r' => ⟨hh', Z', ρ1, r', Out.grow out z⟩
  | rt d => rw [q] at out; exact out
  | bk ρ1 => rw [q] at out; exact out
  | exc k ρ1 => rw [q] at out; exact out
  | bad => rw [q] at out; exact out
theorem sndS {M : List Nat} : ∀ (n : Nat) {A : Ar} {ev0 : Option Str} {hx : Option (Nat × Addr)} (hi : IsxOk ct c A ev0 hx), SndS ct c A L ev0 hx M n
  | 0, A, ev0, hx, hi => by
    refine ⟨?_, ?_⟩
    · intro X W st ss B O O' S h; cases h
    · intro X W st ss B O O' S h; cases h
  | n + 1, A, ev0, hx, hi => by
    have ih := sndS n hi (M := M)
    have ex := snd hi n (L := L)
    refine ⟨fun X W st ss B O O' S h fl => ?_, fun X W st ss B O O' S h fl => ?_⟩
    · unfold cSt at h
      split at h
      · rename_i e p
        cases e1 : cE c ev0 n X.env.scope e with
        | none => rw [e1] at h; cases h
        | some y => rw [e1] at h; cases h; exact st_ret (ex.E X W e y _ S.toSit e1 rem_out).1
      · cases h; exact st_retN
      · cases h; cases fl; exact st_pass
      · split at h
        · cases h
          unfold fl1 at fl
          split at fl
          · split at fl
            · rename_i hb; cases fl; exact st_brk hb
            · cases fl
          · cases fl
        · cases h
      · -- If
        rename_i t a b p
        split at h
        · rename_i x y z e1 e2 e3
          cases h
          unfold fl1 at fl
          split at fl
          · rename_i Oa Ob f1 f2
            cases fl
            exact st_if (ex.E X W t x _ S.toSit e1 rem_out).2 (ih.Bl X W a y B _ Oa S e2 f1) (ih.Bl X W b z B _ Ob S e3 f2)
          · cases fl
        · cases h
      · -- x = e
        rename_i x px e p
        split at h
        · cases h
        rename_i hp
        have hp : (plainName x = true ∧ locB X.env.scope x = true) ∧ ¬ ev0 = some x := by simpa using hp
        split at h
        · rename_i i y e1 e2
          have hN : X.N[i]? = some x := by rw [S.N]; exact slotOf_get e1
          have hl := locB_loc hp.1.2
          have hne := hot_ne S hp.2 e1
          split at h
          · rename_i hfr
            cases h
            have hfr := Bool.and_eq_true_iff.mp hfr
            have hfr1 := Bool.and_eq_true_iff.mp hfr.1
            have hfn : c.fn.lookup (sOf "list") = none := Option.isNone_iff_eq_none.mp hfr1.2
            have hfd : c.fn.lookup (sOf "dict") = none := Option.isNone_iff_eq_none.mp hfr.2
            unfold fl1 at fl
            split at fl
            · cases fl
              exact st_asgF hN hl hne ((asg_rule hi S e2 rem_out).2 hfr1.1 hfn hfd)
            · cases fl
              exact st_asg hN hl hne (asg_rule hi S e2 rem_out).1
          · cases h
            cases fl
            exact st_asg hN hl hne (asg_rule hi S e2 rem_out).1
        · cases h
      · -- a, b = e
        rename_i es k p e q
        split at h
        · rename_i t y z1 z2 e1 e2
          split at h
          · rename_i h0
            have h0 : ev0 = none := beq_iff_eq.mp h0
            cases h
            cases fl
            have hg : PG X (.Tuple es k p) (gT X.K t false) := pg_of S.N S.nd (S.calm h0) (fun x hx => ⟨locB_loc hx, .inl (S.fnT x)⟩) e1
            exact st_asgT (hot_none S h0) hg (ex.E X W _ y _ S.toSit e2 rem_out).1 rfl rfl rfl
          · cases h
        · cases h
      · -- x[k] = e
        rename_i x px k sp e p
        split at h
        · cases h
        rename_i hp
        have hp : (((plainName x = true ∧ locB X.env.scope x = true) ∧ ev0 = none) ∧ noSl k = true) ∧ noLc e = true := by simpa using hp
        split at h
        · rename_i i y z e1 e2 e3
          cases h
          unfold fl1 at fl
          split at fl
          · rename_i hc
            cases fl
            exact st_setK S hp.1.1.1.1 hp.1.1.1.2 e1 hp.2 (List.contains_iff_mem.mp hc) (ex.E X W k y _ S.toSit e2 (fun j hj => rem_out j (List.mem_append_left _ hj))).1 (ex.E X W e z _ S.toSit e3 (fun j hj => rem_out j (List.mem_append_right _ hj))).1
          · cases fl
        · cases h
      · -- for
        rename_i tg iter body p
        split at h
        · rename_i t one it e1 e2
          split at h
          · cases h
          rename_i hs
          have hs : noSet iter = true ∧ ev0 = none := by simpa using hs
          cases e3 : cB c X.env.scope ev0 n body with
          | none => rw [e3] at h; cases h
          | some ys =>
            rw [e3] at h
            cases h
            have fl : flL (fun O => flB M ys (some O) O) (rem (rem O (esci it)) t) = some O' := fl
            obtain ⟨g1, O2, g2, g3⟩ := flL_spec fl
            have hg : PG X tg (gT X.K t one) := pg_of S.N S.nd (S.calm hs.2) (fun x hx => ⟨locB_loc hx, .inl (S.fnT x)⟩) e1
            exact st_for S (S.calm hs.2) (hot_none S hs.2) hs.1 (fun i hi => rem_sub _ (rem_sub _ (g1 i hi))) (fun i ht hi => rem_out i ht (g1 i hi)) g3 hg (ex.I X W tg iter it O' S.toSit e2 (fun i hi hO => rem_out i hi (rem_sub _ (g1 i hO)))) (ih.Bl X W body ys (some O') O' O2 S e3 g2)
        · cases h
      · -- while
        rename_i t body p
        split at h
        · rename_i x ys e1 e3
          split at h
          · rename_i h0
            have h0 : ev0 = none := beq_iff_eq.mp h0
            cases h
            have fl : flL (fun O => flB M ys (some O) O) (rem O (esc x)) = some O' := fl
            obtain ⟨g1, O2, g2, g3⟩ := flL_spec fl
            exact st_whl S (hot_none S h0) (fun i hi => rem_sub _ (g1 i hi)) g3 (ex.E X W t x O' S.toSit e1 (fun i hi hO => rem_out i hi (g1 i hO))).2 (ih.Bl X W body ys (some O') O' O2 S e3 g2)
          · cases h
        · cases h
      · -- raise
        rename_i x px m j p2 q p
        split at h
        · rename_i hg
          have hg : (gloB X.env.scope x = true ∧ plainName x = true) ∧ ev0 = none := by simpa using hg
          cases e1 : c.ecl.lookup x with
          | none => rw [e1] at h; cases h
          | some z =>
            rw [e1] at h
            cases h
            cases fl
            exact st_raise (cs := z.2) S hg.2 hg.1.2 hg.1.1 e1
        · cases h
      · -- try
        rename_i body x px nm b0 suite p2 p
        split at h
        · rename_i b k0 cs y e1 e2
          split at h
          · rename_i hg
            have hg : (((gloB X.env.scope x = true ∧ plainName x = true) ∧ loc1B X.env.scope y = true) ∧ plainName y = true) ∧ ev0 = none := by simpa using hg
            obtain ⟨⟨⟨⟨g1, g2⟩, g3⟩, g4⟩, g5⟩ := hg
            subst g5
            have hn := hot_none S rfl
            subst hn
            split at h
            · rename_i i s e3 e4
              cases h
              unfold fl1 at fl
              split at fl
              · rename_i Oa Ob f1 f2
                cases fl
                exact st_try_as S g2 g1 e2 g3 e3 (fun X' W' S' es ek => by
                  have := ih.Bl X' W' body b none O Oa S' (by rw [es]; exact e1) f1
                  unfold tSS at this ⊢
                  rw [ek] at this
                  exact this) (fun X' a k S' es ek => by
                  have := (sndS n isx_hot (M := M) (A := { A with hot := some k })).Bl X' _ (b0 :: suite) s none [] Ob S' (by rw [es]; exact e4) f2
                  unfold tSS at this ⊢
                  rw [ek] at this
                  exact this)
              · cases fl
            · cases h
          · cases h
        · rename_i b k0 cs e1 e2
          split at h
          · rename_i hg
            have hg : (gloB X.env.scope x = true ∧ plainName x = true) ∧ ev0 = none := by simpa using hg
            obtain ⟨⟨g1, g2⟩, g5⟩ := hg
            subst g5
            have hn := hot_none S rfl
            subst hn
            cases e4 : cB c X.env.scope (some (sOf "")) n (b0 :: suite) with
            | none => rw [e4] at h; cases h
            | some s =>
              rw [e4] at h
              cases h
              unfold fl1 at fl
              split at fl
              · rename_i Oa Ob f1 f2
                cases fl
                exact st_try S g2 g1 e2 (fun X' W' S' es ek => by
                  have := ih.Bl X' W' body b none O Oa S' (by rw [es]; exact e1) f1
                  unfold tSS at this ⊢
                  rw [ek] at this
                  exact this) (fun X' k S' es ek => by
                  have := (sndS n isx_nameless (M := M) (A := { A with hot := some k })).Bl X' _ (b0 :: suite) s none [] Ob S' (by rw [es]; exact e4) f2
                  unfold tSS at this ⊢
                  rw [ek] at this
                  exact this)
              · cases fl
          · cases h
        · cases h
      · -- x.m(a)
        rename_i x px m ap a cp pos
        split at h
        · cases h
        rename_i hp
        have hp : (((plainName x = true ∧ locB X.env.scope x = true) ∧ (ap.endLine == cp.line) = true) ∧ noStar a = true) ∧ ev0 = none := by simpa using hp
        split at h
        · rename_i i e1
          split at h
          · rename_i hm
            have hm := sOf_eq hm
            subst hm
            cases e2 : cE c ev0 n X.env.scope a with
            | none => rw [e2] at h; cases h
            | some y =>
              rw [e2] at h
              cases h
              unfold fl1 at fl
              split at fl
              · rename_i hc
                cases fl
                exact st_app S hp.1.1.1.1 hp.1.1.1.2 e1 hp.1.1.2 hp.1.2 (List.contains_iff_mem.mp hc) (ex.E X W a y _ S.toSit e2 rem_out).1
              · cases fl
          · split at h
            · rename_i hm
              have hm := sOf_eq hm
              subst hm
              cases e2 : cE c ev0 n X.env.scope a with
              | none => rw [e2] at h; cases h
              | some y =>
                rw [e2] at h
                cases h
                unfold fl1 at fl
                split at fl
                · rename_i hc
                  cases fl
                  exact st_ext S hp.1.1.1.1 hp.1.1.1.2 e1 hp.1.1.2 hp.1.2 (List.contains_iff_mem.mp hc) (ex.E X W a y _ S.toSit e2 rem_out).1
                · cases fl
            · cases h
        · cases h
      · -- e
        rename_i e p _
        split at h
        · rename_i hn
          have hn := Bool.and_eq_true_iff.mp hn
          cases e2 : cE c ev0 n X.env.scope e with
          | none => rw [e2] at h; cases h
          | some y =>
            rw [e2] at h
            cases h
            cases fl
            exact st_ex hn.1 (ex.E X W e y _ S.toSit e2 rem_out).1
        · cases h
      · cases h
    · unfold cB at h
      split at h
      · cases h
        cases fl
        exact pss_nil.imp fun D σ H ⟨hh, Z, ρ, rel, out⟩ => (show Out X.K ct W hx B O Z D (.nx ρ) from out) σ H Z (.refl _) hh rel
      · rename_i s r
        split at h
        · rename_i x y e1 e2
          cases h
          have fl : (match fl1 M x B O with | some O1 => flB M y B O1 | none => none) = some O' := fl
          split at fl
          · rename_i O1 f1
            exact pss_seq (ih.St X W s x B O O1 S e1 f1) (ih.Bl X W r y B O1 O' S e2 fl)
          · cases fl
        · cases h
end
end Tk
/-! The making of an object: statements, then its fields one by one. -/
namespace Tk
open PySem PySem.Spec PyProof.Rows L2
open D
/-- self.f = e -/
def setOf (self : Str) : Stmt → Option (Str × Expr)
  | .Assign [.Attribute (.Name x _) f _] e _ => if x == self && noLc e then some (f, e) else none
  | _ => none
def cSets (c : CE) (sc : Scope) (self : Str) (n : Nat) : List Stmt → Option (List (Str × SE))
  | [] => some []
  | st :: r => (match setOf self st with
    | some (f, e) => (match cE c none n sc e, cSets c sc self n r with
      | some x, some y => some ((f, x) :: y)
      | _, _ => none)
    | none => none)
/-- self.a = e; self.b = {}; for x in it: self.b.update(e2) -/
def cUpdT (c : CE) (sc : Scope) (self : Str) (n : Nat) : List Stmt → Option (List (Str × SE))
  | [.Assign [.Attribute (.Name s1 _) f1 _] e1 _, .Assign [.Attribute (.Name s2 _) f2 _] (.Dict [] [] _) _, .For (.Name x px) iter [.Expr (.Call (.Attribute (.Attribute (.Name s3 _) f3 _) m ap) [e] [] cp) _] [] _] =>
    if (s1 == self && noLc e1) && (s2 == self && s3 == self && f3 == f2) && (m == sOf "update" && (ap.endLine == cp.line) && noStar e && noSet iter) then
      (match cE c none n sc e1, tgtOf c.N sc (.Name x px), cI c none n sc (.Name x px) iter, cE c none n sc e with
      | some y1, some (t, one), some it, some y => (match t, one with
        | [i], true => if i == 0 then none else some [(f1, y1), (f2, .upl i it y)]
        | _, _ => none)
      | _, _, _, _ => none)
    else none
  | _ => none
def cInit (c : CE) (sc : Scope) (self : Str) (n : Nat) : List Stmt → Option (List SS × List (Str × SE))
  | [] => some ([], [])
  | st :: r => (match cUpdT c sc self n (st :: r) with
    | some y => some ([], y)
    | none => (match setOf self st with
      | some _ => (cSets c sc self n (st :: r)).map fun y => ([], y)
      | none => (match cSt c sc none n st, cInit c sc self n r with
        | some x, some (p, y) => some (x :: p, y)
        | _, _ => none)))
section
variable {ct : CT} {c : CE} {A : Ar} {L : Nat} {X : Cx} {W : WX} {O : List Nat} {C : Addr}
theorem isx_none0 : IsxOk ct c A none none := fun X W L O v t p q q2 pos cs S h => nomatch h
/-- the fields are set, one by one -/
def tSets (X : Cx) (ct : CT) (A : Ar) (C : Addr) (sets : List (Str × SE)) : TS := fun D σ H => ∃ Z ρ p dx fs vals, RelE X.K ct Z H [] σ ρ ∧ Z p = none ∧ Z dx = none ∧ dx ≠ p ∧ H p = some (.ins C dx fs) ∧ H dx = some (.own p) ∧ ρ[0]? = some (some (.adr p)) ∧ evs A (sets.map (·.2)) ρ = .ok vals ∧
  (∀ f ∈ sets.map (·.1), f ∉ fs.map (·.1)) ∧ (sets.map (·.1)).Nodup ∧ fs.length + sets.length < 1000 ∧
  ∀ σ' H' new, (∀ b o, Z b = some o → H' b = some o) → H' dx = some (.own p) → H' p = some (.ins C dx (fs ++ new)) → new.map (·.1) = sets.map (·.1) → DenAll X.K ct H' (new.map (·.2)) vals → D.nx σ' H'
theorem putF_new {f : Str} {v : V} : ∀ {fs : List (Str × V)}, f ∉ fs.map (·.1) → putF f v fs = fs ++ [(f, v)]
  | [], _ => rfl
  | (g, x) :: r, h => by
    rw [List.map_cons, List.mem_cons, not_or] at h
    have e : ¬ g = f := fun z => h.1 z.symm
    unfold putF
    rw [if_neg e, putF_new h.2]
    rfl
theorem evs_consI {e : SE} {es : List SE} {ρ : En} {vals : List D} (h : evs A (e :: es) ρ = .ok vals) : ∃ d ds, ev A e ρ = .ok d ∧ evs A es ρ = .ok ds ∧ vals = d :: ds := by
  have h : (ev A e ρ).bind (fun x => (evs A es ρ).bind fun r => .ok (x :: r)) = .ok vals := h
  cases h1 : ev A e ρ with
  | ok x =>
    cases h2 : evs A es ρ with
    | ok r => rw [h1, h2] at h; cases h; exact ⟨x, r, rfl, rfl, rfl⟩
    | _ => rw [h1, h2] at h; cases h
  | _ => rw [h1] at h; cases h
theorem RelE.field {K : PySem.W.Frag} {Z H : Hp} {σ : L2.St} {ρ : En} {p dx : Addr} {fs fs' : List (Str × V)} (rel : RelE K ct Z H [] σ ρ) (zp : Z p = none) (zd : Z dx = none) (hp : H p = some (.ins C dx fs)) (hd : H dx = some (.own p)) (ne : dx ≠ p) : RelE K ct Z (upd H p (.ins C dx fs')) [] σ ρ := by
  refine ⟨fun b o e => ?_, fun b o e z => ?_, rel.len, rel.fr, fun i d hi => (by cases hi), fun i j d e a hi => (by cases hi)⟩
  · rw [upd_ne (ne_of_none e zp)]
    exact rel.sub b o e
  · by_cases n1 : b = p
    · subst n1
      rw [upd_same] at e
      cases e
      exact .inr (.inr (.inl ⟨_, _, _, rfl, zd, by rw [upd_ne ne]; exact hd⟩))
    · rw [upd_ne n1] at e
      by_cases n2 : b = dx
      · subst n2
        rw [hd] at e
        cases e
        exact .inr (.inr (.inr ⟨p, C, fs', rfl, zp, upd_same⟩))
      · rcases rel.dif b o e z with x | x | ⟨C', d', g, rfl, h1, h2⟩ | ⟨x, C', g, rfl, h1, h2⟩
        · exact .inl x
        · exact .inr (.inl x)
        · refine .inr (.inr (.inl ⟨C', d', g, rfl, h1, ?_⟩))
          rw [upd_ne fun q => by rw [q, hp] at h2; cases h2]
          exact h2
        · refine .inr (.inr (.inr ⟨x, C', g, rfl, h1, ?_⟩))
          rw [upd_ne fun q => by rw [q, hp] at h2; cases h2; exact n2 rfl]
          exact h2
theorem sets_snd {self : Str} {n : Nat} (S : SitS X ct c A L W none none) (h0 : c.N[0]? = some self) (hv : Vis X.env.scope self) (hpl : plainName self = true) (hC : Cls X.K C) :
    ∀ {body : List Stmt} {sets : List (Str × SE)}, cSets c X.env.scope self n body = some sets → (∀ f ∈ sets.map (·.1), NoAttr X.K C f) → PSs X body (tSets X ct A C sets)
  | [], sets, h, _ => by
    cases h
    refine pss_nil.imp fun D σ H ⟨Z, ρ, p, dx, fs, vals, rel, zp, zd, ne, hp, hd, h1, h2, _, _, _, q⟩ => ?_
    cases h2
    exact q σ H [] (fun b o e => rel.sub b o e) hd (by rw [List.append_nil]; exact hp) rfl .nil
  | st :: r, sets, h, hn => by
    unfold cSets at h
    cases hs : setOf self st with
    | none => rw [hs] at h; cases h
    | some fe =>
      obtain ⟨f, e⟩ := fe
      rw [hs] at h
      dsimp only at h
      cases h1 : cE c none n X.env.scope e with
      | none => rw [h1] at h; cases h
      | some x =>
        cases h2 : cSets c X.env.scope self n r with
        | none => rw [h1, h2] at h; cases h
        | some y =>
          rw [h1, h2] at h
          cases h
          unfold setOf at hs
          split at hs
          · rename_i x0 px f' fp e' sp
            split at hs
            · rename_i hc
              obtain ⟨hc1, hc2⟩ := Bool.and_eq_true_iff.mp hc
              cases hs
              have := beq_iff_eq.mp hc1
              subst this
              obtain ⟨p1, p2, _⟩ := plain_debug hpl
              have hE := ((snd (L := L) isx_none0 n).E X W e x [] S.toSit h1 (fun i _ hi => by cases hi)).1
              have ih := sets_snd (n := n) S h0 hv hpl hC h2 (fun g hg => hn g (List.mem_cons_of_mem _ hg))
              refine (pss_cons (ps_fld (pe_var (i := 0) (by rw [S.N]; exact h0) hv p1 p2) hE (swaps_no hc2)) ih).imp fun D σ H ⟨Z, ρ, p, dx, fs, vals, rel, zp, zd, ne, hp, hd, g1, g2, g3, g4, g5, q⟩ => ?_
              obtain ⟨d, ds, k1, k2, rfl⟩ := evs_consI g2
              refine ⟨trivial, Z, ρ, rel, ?_⟩
              rw [k1]
              intro Z1 H1 e1 v hvd
              obtain ⟨v0, s1, s2⟩ := rel.fr 0 _ (by simp) g1
              cases s2
              have hp1 := e1.hh _ _ hp
              have hd1 := e1.hh _ _ hd
              have zp1 := (e1.keep _ _ hp).trans zp
              have zd1 := (e1.keep _ _ hd).trans zd
              have gf : f ∉ fs.map (·.1) := g3 f (by simp)
              have g4 : f ∉ y.map (·.1) ∧ (y.map (·.1)).Nodup := by simpa using g4
              refine ⟨.ref p, s1, p, C, dx, fs, rfl, hp1, hC, hn f (by simp), by simp at g5; omega, ?_⟩
              rw [putF_new gf]
              refine ⟨Z1, ρ, p, dx, fs ++ [(f, v)], ds, (rel.ext e1).field zp1 zd1 hp1 hd1 ne, zp1, zd1, ne, upd_same, by rw [upd_ne ne]; exact hd1, g1, k2, fun g hg => ?_, g4.2, by simp at g5 ⊢; omega, fun σ' H' new k3 k4 k5 k6 k7 => ?_⟩
              · rw [List.map_append, List.mem_append, not_or]
                refine ⟨g3 g (by simp at hg ⊢; exact .inr hg), fun z => ?_⟩
                have z : g = f := by simpa using z
                rw [z] at hg
                exact g4.1 hg
              · refine q σ' H' ((f, v) :: new) (fun b o e => k3 b o (e1.zz b o e)) k4 (by rw [k5, List.append_assoc]; rfl) (by rw [List.map_cons, k6]; rfl) ?_
                exact .cons (Den.mono k3 _ _ hvd) k7
            · cases hs
          · cases hs
theorem RelE.aside {K : PySem.W.Frag} {Z H : Hp} {σ : L2.St} {ρ : En} {h : Addr} {φ : Heap → Prop} (rel : RelE K ct Z H [] σ ρ) (zh : Z h = none) (hh : ∀ u, H h = some u → ¬ IsObj u) : RelE K ct Z (upd H h (.ext φ)) [] σ ρ := by
  refine ⟨fun b o e => ?_, fun b o e z => ?_, rel.len, rel.fr, fun i d hi => (by cases hi), fun i j d e a hi => (by cases hi)⟩
  · rw [upd_ne (ne_of_none e zh)]
    exact rel.sub b o e
  · by_cases n1 : b = h
    · subst n1
      rw [upd_same] at e
      cases e
      exact .inr (.inl ⟨_, rfl⟩)
    · rw [upd_ne n1] at e
      refine (rel.dif b o e z).to fun c u hc hz hu => ⟨?_, hz⟩
      rw [upd_ne fun q => by subst q; exact hh u hc hu]
      exact hc
theorem line_snd {self : Str} {n : Nat} (S : SitS X ct c A L W none none) (h0 : c.N[0]? = some self) (hv : Vis X.env.scope self) (hpl : plainName self = true) (hC : Cls X.K C)
    {body : List Stmt} {sets : List (Str × SE)} (h : cUpdT c X.env.scope self n body = some sets) (hn : ∀ f ∈ sets.map (·.1), NoAttr X.K C f) : PSs X body (tSets X ct A C sets) := by
  unfold cUpdT at h
  split at h
  case h_2 => cases h
  rename_i s1 _ f1 _ e1 _ s2 _ f2 _ _ _ x px iter s3 _ f3 _ m ap e cp _ _
  split at h
  case isFalse => cases h
  rename_i hc
  simp only [Bool.and_eq_true, beq_iff_eq] at hc
  obtain ⟨⟨⟨c1, c2⟩, ⟨c3, c4⟩, c5⟩, ⟨⟨c6, c7⟩, c8⟩, c9⟩ := hc
  subst c1 c3 c4 c5 c6
  split at h
  case h_2 => cases h
  rename_i y1 t one it y k1 k2 k3 k4
  split at h
  case h_2 => cases h
  rename_i i
  split at h
  case isTrue => cases h
  rename_i hi0
  have hi0 : i ≠ 0 := fun z => hi0 (by rw [z]; rfl)
  cases h
  obtain ⟨p1, p2, _⟩ := plain_debug hpl
  have hV : ∀ p, PE X (.Name s3 p) (tVar 0) := fun p => pe_var (i := 0) (by rw [S.N]; exact h0) hv p1 p2
  have sn := snd (ct := ct) (c := c) (A := A) (L := L) isx_none0 n
  have hE1 := (sn.E X W e1 y1 [] S.toSit k1 (fun i _ hi => by cases hi)).1
  have hE := (sn.E X W e y [] S.toSit k4 (fun i _ hi => by cases hi)).1
  have hI := sn.I X W (.Name x px) iter it [] S.toSit k3 (fun i _ hi => by cases hi)
  have hG : PG X (.Name x px) (gT X.K [i] true) := pg_of S.N S.nd (S.calm rfl) (fun x hx => ⟨locB_loc hx, .inl (S.fnT x)⟩) k2
  have nA1 : NoAttr X.K C f1 := hn f1 (by simp)
  have nA2 : NoAttr X.K C f3 := hn f3 (by simp)
  have body := fun (q1 q2 q3 : Pos) => ps_expr (pos := q3) (pe_gm (X := X) (o := .Attribute (.Name s3 q1) f3 q2) (ap := ap) (cp := cp) (name := sOf "update") (pe_fld (hV _) rfl) (pa_cons hE pa_nil (noStar_each c8)) (base_eq rfl) (few1 c8) (beq_iff_eq.mpr c7) (noStar_each c8) rfl) rfl
  refine (pss_cons (ps_fld (hV _) hE1 (swaps_no c2)) (pss_cons (ps_fld (hV _) Gd.pe_gnew rfl) (pss_one (ps_for S.po (S.calm rfl) hI hG (pss_one (body _ _ _)) (noSet_fold c9))))).imp fun D σ H ⟨Z, ρ, p, dx, fs, vals, rel, zp, zd, ne, hp, hd, g1, g2, g3, g4, g5, q⟩ => ?_
  obtain ⟨d1, ds, ev1, g2b, rfl⟩ := evs_consI g2
  obtain ⟨d2, ds2, ev2, g2c, rfl⟩ := evs_consI g2b
  cases g2c
  have ev2 : (evi A it ρ).bind (fun ds => updL (fun d => ev A y (ρ.set i (some d))) ds []) = .ok d2 := ev2
  have g4 : f1 ≠ f3 := by
    have : ¬ f1 = f3 := by simpa using g4
    exact this
  have gf1 : f1 ∉ fs.map (·.1) := g3 f1 (by simp)
  have gf3 : f3 ∉ fs.map (·.1) := g3 f3 (by simp)
  have g5 : fs.length + 2 < 1000 := by simpa using g5
  obtain ⟨v0, s1, s2⟩ := rel.fr 0 _ (by simp) g1
  cases s2
  -- the first field
  refine ⟨trivial, Z, ρ, rel, ?_⟩
  rw [ev1]
  intro Z1 H1 ex1 v1 hv1
  have hp1 := ex1.hh _ _ hp
  have hd1 := ex1.hh _ _ hd
  have zp1 := (ex1.keep _ _ hp).trans zp
  have zd1 := (ex1.keep _ _ hd).trans zd
  refine ⟨.ref p, s1, p, C, dx, fs, rfl, hp1, hC, nA1, by omega, ?_⟩
  rw [putF_new gf1]
  have rel1 := (rel.ext ex1).field (fs' := fs ++ [(f1, v1)]) zp1 zd1 hp1 hd1 ne
  generalize hH1 : upd H1 p (.ins C dx (fs ++ [(f1, v1)])) = H1' at rel1
  have hp1' : H1' p = some (.ins C dx (fs ++ [(f1, v1)])) := by rw [← hH1]; exact upd_same
  have hd1' : H1' dx = some (.own p) := by rw [← hH1, upd_ne ne]; exact hd1
  -- the second one
  show ∀ h, H1' h = none → _
  intro h hh
  have nhp : h ≠ p := fun z => by rw [z, hp1'] at hh; cases hh
  have nhd : h ≠ dx := fun z => by rw [z, hd1'] at hh; cases hh
  have zh1 : Z1 h = none := rel1.sub.free hh
  refine ⟨.ref p, s1, p, C, dx, fs ++ [(f1, v1)], rfl, by rw [upd_ne (Ne.symm nhp)]; exact hp1', hC, nA2, by rw [List.length_append, List.length_singleton]; omega, ?_⟩
  have gf2' : f3 ∉ (fs ++ [(f1, v1)]).map (·.1) := by
    rw [List.map_append, List.mem_append, not_or]
    exact ⟨gf3, fun z => g4 (by have : f3 = f1 := by simpa using z
                                exact this.symm)⟩
  rw [putF_new gf2', List.append_assoc]
  have rel1b : RelE X.K ct Z1 (upd H1' h (Gd.gdO X.w h [] 0)) [] σ ρ := rel1.aside zh1 (fun u z => by rw [hh] at z; cases z)
  have rel2 : RelE X.K ct Z1 (upd (upd H1' h (Gd.gdO X.w h [] 0)) p (.ins C dx (fs ++ ([(f1, v1)] ++ [(f3, .ref h)])))) [] σ ρ := rel1b.field (fs' := fs ++ ([(f1, v1)] ++ [(f3, .ref h)])) zp1 zd1 (by rw [upd_ne (Ne.symm nhp)]; exact hp1') (by rw [upd_ne (Ne.symm nhd)]; exact hd1') ne
  generalize hH2 : upd (upd H1' h (Gd.gdO X.w h [] 0)) p (.ins C dx (fs ++ ([(f1, v1)] ++ [(f3, .ref h)]))) = H2 at rel2
  have hp2 : H2 p = some (.ins C dx (fs ++ ([(f1, v1)] ++ [(f3, .ref h)]))) := by rw [← hH2]; exact upd_same
  have hd2 : H2 dx = some (.own p) := by rw [← hH2, upd_ne ne, upd_ne (Ne.symm nhd)]; exact hd1'
  have hh2 : H2 h = some (Gd.gdO X.w h [] 0) := by rw [← hH2, upd_ne nhp]; exact upd_same
  have hw : ct.w = X.w := S.kd.1
  -- the loop
  refine ⟨trivial, Z1, ρ, rel2, ?_⟩
  cases eit : evi A it ρ with
  | exc z => rw [eit] at ev2; cases ev2
  | bad => rw [eit] at ev2; cases ev2
  | ok dsI =>
    rw [eit, Res.bind_ok] at ev2
    intro Z2 H3 ex2 J hJ
    obtain ⟨G, Y, wk, hGG, hYY⟩ := hJ
    refine for_it wk (fun j σ' H' => ∃ Z3 ρ3 acc ep ps, Same Z2 Z3 ∧ RelE X.K ct Z3 H' [] σ' ρ3 ∧ (∀ d, ρ3.set i d = ρ.set i d) ∧ ρ3[0]? = some (some (.adr p)) ∧ Z3 p = none ∧ Z3 dx = none ∧ Z3 h = none ∧ H' p = some (.ins C dx (fs ++ ([(f1, v1)] ++ [(f3, .ref h)]))) ∧ H' dx = some (.own p) ∧ H' h = some (Gd.gdO X.w h acc ep) ∧ DenG X.K ct Z3 acc ps ∧ updL (fun d => ev A y (ρ.set i (some d))) (dsI.drop j) ps = .ok d2) ⟨Z2, ρ, [], 0, [], .refl _, rel2.ext ex2, fun _ => rfl, g1, (ex2.keep _ _ hp2).trans zp1, (ex2.keep _ _ hd2).trans zd1, (ex2.keep _ _ hh2).trans zh1, ex2.hh _ _ hp2, ex2.hh _ _ hd2, ex2.hh _ _ hh2, .nil, by simpa using ev2⟩ ?_ ?_ ?_
    · rintro j σ3 H4 _ ⟨Z3, ρ3, acc, ep, ps, z3, r3, _⟩
      exact hGG H4 (z3.trans r3.sub)
    · rintro j xv σ3 H4 H5 hj ⟨Z3, ρ3, acc, ep, ps, z3, r3, a1, a2, a3, a4, a5, a6, a7, a8, a9, a10⟩ yv
      have hj' : dsI[j]? = some dsI[j] := List.getElem?_eq_getElem hj
      obtain ⟨Z4, e4, hx4⟩ := hYY j H4 xv H5 Z3 dsI[j] z3 r3.sub yv hj'
      rw [List.drop_eq_getElem_cons hj] at a10
      have r4 := r3.ext e4
      have hb : bindT [i] true dsI[j] ρ3 = some (ρ3.set i (some dsI[j])) := rfl
      refine bind_ok r4.len r4.sub hx4 hb fun σ5 bd => ?_
      have r5 := bd.rel r4 rfl (fun _ _ => rfl) (O := []) (fun _ _ z => by cases z)
      rw [a1] at r5
      unfold updL at a10
      cases evq : ev A y (ρ.set i (some dsI[j])) with
      | exc z => rw [evq] at a10; cases a10
      | bad => rw [evq] at a10; cases a10
      | ok dq =>
        rw [evq] at a10
        cases dq with
        | gd qs =>
          dsimp only at a10
          split at a10
          case isFalse => cases a10
          rename_i hcond
          simp only [Bool.and_eq_true, decide_eq_true_eq] at hcond
          obtain ⟨⟨tq, tp⟩, tl⟩ := hcond
          have z0 : (ρ.set i (some dsI[j]))[0]? = some (some (.adr p)) := by rw [List.getElem?_set_ne hi0, g1]
          obtain ⟨v5, u1, u2⟩ := r5.fr 0 _ (by simp) z0
          cases u2
          have hp5 := e4.hh _ _ a6
          have hd5 := e4.hh _ _ a7
          have hh5 := e4.hh _ _ a8
          refine ⟨.ref p, u1, p, C, dx, _, .ref h, rfl, hp5, hC, nA2, ?_, "dict", "dict.update", _, PySem.F.plainAttrs_dict, PySem.F.slot_dict_update, PySem.F.type_dict_update, mt_gupd hw, gd_ty hh5, trivial, Z4, _, r5, ?_⟩
          · have lk : ∀ (l : List (Str × V)), f3 ∉ l.map (·.1) → (l ++ [(f3, V.ref h)]).lookup f3 = some (.ref h) := by
              intro l hl
              induction l with
              | nil => show (match f3 == f3 with | true => some (V.ref h) | false => _) = _; rw [beq_self_eq_true]
              | cons b l ih =>
                rw [List.map_cons, List.mem_cons, not_or] at hl
                have eb : (f3 == b.1) = false := Bool.eq_false_iff.mpr fun z => hl.1 (beq_iff_eq.mp z)
                obtain ⟨bn, bv⟩ := b
                rw [List.cons_append, List.lookup_cons, eb]
                exact ih hl.2
            rw [← List.append_assoc]
            exact lk _ gf2'
          · rw [evq]
            intro Z6 H6 e6 vq hvq
            obtain ⟨bq, acc2, ep2, rfl, b1, b2⟩ := (ShDen.of_den (H := Z6) hvq).gd (.refl _)
            · have hh6 := e6.hh _ _ hh5
              have zh6 : Z6 h = none := (e6.keep _ _ hh5).trans ((e4.keep _ _ a8).trans a5)
              have nab : h ≠ bq := fun z => by rw [← z, zh6] at b1; cases b1
              rw [← hw] at hh6
              refine ⟨h, bq, Z6, acc, acc2, ep, ep2, ps, qs, rfl, rfl, nab, hh6, e6.zh _ _ b1, DenG.mono (e4.zz.trans e6.zz) _ _ a9, b2, tp, tq, by rw [sizeLine_eq]; unfold big at tl; omega, fun acc' ep' dg => ?_⟩
              have r6 := r5.ext e6
              have hp6 := e6.hh _ _ hp5
              have hd6 := e6.hh _ _ hd5
              rw [hw]
              have nhp6 : p ≠ h := Ne.symm nhp
              refine ⟨Z6, _, acc', ep', _, (z3.trans e4.zz).trans e6.zz, r6.aside zh6 (fun u z => by rw [hw] at hh6; rw [hh6] at z; cases z; exact no_gd), fun d => by rw [List.set_set], z0, (e6.keep _ _ hp5).trans ((e4.keep _ _ a6).trans a3), (e6.keep _ _ hd5).trans ((e4.keep _ _ a7).trans a4), zh6, by rw [upd_ne nhp6]; exact hp6, by rw [upd_ne (Ne.symm nhd)]; exact hd6, upd_same, dg, a10⟩
        | _ => cases a10
    · rintro σ3 H4 ⟨Z3, ρ3, acc, ep, ps, z3, r3, a1, a2, a3, a4, a5, a6, a7, a8, a9, a10⟩
      rw [List.drop_length] at a10
      unfold updL at a10
      cases a10
      have zz : Same Z Z3 := (ex1.zz.trans ex2.zz).trans z3
      refine q σ3 H4 ([(f1, v1)] ++ [(f3, .ref h)]) (fun b o z => r3.sub b o (zz b o z)) a7 a6 rfl ?_
      have s13 : Same Z1 H4 := (ex2.zz.trans z3).trans r3.sub
      rw [← hw] at a8
      exact .cons (Den.mono s13 _ _ hv1) (.cons (.gd a8 (DenG.mono r3.sub _ _ a9)) .nil)
/-- statements, then the fields -/
def tInit (X : Cx) (ct : CT) (A : Ar) (C : Addr) (O : List Nat) (pre : List SS) (sets : List (Str × SE)) : TS := fun D σ H => ∃ Z ρ p dx ρ' vals, RelE X.K ct Z H O σ ρ ∧ Z p = some (.ins C dx []) ∧ Z dx = some (.own p) ∧ dx ≠ p ∧ run A pre ρ = .nx ρ' ∧ ρ'[0]? = some (some (.adr p)) ∧ evs A (sets.map (·.2)) ρ' = .ok vals ∧
  ∀ σ' H' fs, (∀ b o, b ≠ p → Z b = some o → H' b = some o) → H' p = some (.ins C dx fs) → fs.map (·.1) = sets.map (·.1) → DenAll X.K ct H' (fs.map (·.2)) vals → D.nx σ' H'
def cutP (Z : Hp) (p dx : Addr) : Hp := fun b => if b = p ∨ b = dx then none else Z b
theorem tInit_sets {sets : List (Str × SE)} (hc : ∀ k, ct.cl k ≠ some (C, [])) (hnd : (sets.map (·.1)).Nodup) (hlen : sets.length < 1000) {D : Ends} {σ : L2.St} {H : Hp} (h : tInit X ct A C O [] sets D σ H) : tSets X ct A C sets D σ H := by
  obtain ⟨Z, ρ, p, dx, ρ', vals, rel, zp, zd, ne, h1, h2, h3, q⟩ := h
  cases h1
  obtain ⟨Z2, z2, r2⟩ := rel.freeze (O2 := []) (fun i hi => by cases hi)
  have zp2 := z2 _ _ zp
  have zd2 := z2 _ _ zd
  have cp : cutP Z2 p dx p = none := if_pos (.inl rfl)
  have cd : cutP Z2 p dx dx = none := if_pos (.inr rfl)
  have cn : ∀ b, b ≠ p → b ≠ dx → cutP Z2 p dx b = Z2 b := fun b n1 n2 => if_neg fun z => z.elim n1 n2
  have cs : Same (cutP Z2 p dx) Z2 := fun b o e => by
    unfold cutP at e
    split at e
    · cases e
    · exact e
  have l : Less ct Z2 (cutP Z2 p dx) p dx C := ⟨zp2, zd2, hc, fun b o n1 n2 e => by rw [cn b n1 n2]; exact e⟩
  refine ⟨cutP Z2 p dx, ρ, p, dx, [], vals, ⟨cs.trans r2.sub, fun b o e z => ?_, r2.len, fun i d hi e => ?_, fun i d hi => (by cases hi), fun i j d e a hi => (by cases hi)⟩, cp, cd, ne, r2.sub _ _ zp2, r2.sub _ _ zd2, h2, h3, fun f hf => by simp, hnd, by simpa using hlen, fun σ' H' new k1 k2 k3 k4 k5 => q σ' H' new (fun b o nb e => ?_) (by simpa using k3) k4 k5⟩
  · by_cases n1 : b = p
    · subst n1
      rw [r2.sub _ _ zp2] at e
      cases e
      exact .inr (.inr (.inl ⟨_, _, _, rfl, cd, r2.sub _ _ zd2⟩))
    · by_cases n2 : b = dx
      · subst n2
        rw [r2.sub _ _ zd2] at e
        cases e
        exact .inr (.inr (.inr ⟨p, _, _, rfl, cp, r2.sub _ _ zp2⟩))
      · rw [cn b n1 n2] at z
        refine (r2.dif b o e z).to fun c u hc hz _ => ⟨hc, ?_⟩
        unfold cutP
        split
        · rfl
        · exact hz
  · obtain ⟨v, g1, g2⟩ := r2.fr i d hi e
    exact ⟨v, g1, Den.dropP l _ _ g2⟩
  · by_cases n2 : b = dx
    · subst n2
      rw [zd] at e
      cases e
      exact k2
    · exact k1 b o (by rw [cn b nb n2]; exact z2 b o e)
theorem init_snd {self : Str} {n : Nat} {M : List Nat} (S : SitS X ct c A L W none none) (h0 : c.N[0]? = some self) (hv : Vis X.env.scope self) (hpl : plainName self = true) (hC : Cls X.K C) (hc : ∀ k, ct.cl k ≠ some (C, [])) :
    ∀ {body : List Stmt} {pre : List SS} {sets : List (Str × SE)} {O O' : List Nat}, cInit c X.env.scope self n body = some (pre, sets) → flB M pre none O = some O' → (∀ f ∈ sets.map (·.1), NoAttr X.K C f) → (sets.map (·.1)).Nodup → sets.length < 1000 → PSs X body (tInit X ct A C O pre sets)
  | [], pre, sets, O, O', h, _, hn, hd, hl => by
    cases h
    exact (sets_snd (n := n) S h0 hv hpl hC (body := []) (sets := []) rfl hn).imp fun D σ H h => tInit_sets hc hd hl h
  | st :: r, pre, sets, O, O', h, hf, hn, hd, hl => by
    unfold cInit at h
    cases hln : cUpdT c X.env.scope self n (st :: r) with
    | some y =>
      rw [hln] at h
      cases h
      exact (line_snd S h0 hv hpl hC hln hn).imp fun D σ H h => tInit_sets hc hd hl h
    | none =>
    rw [hln] at h
    dsimp only at h
    cases hs : setOf self st with
    | some fe =>
      rw [hs] at h
      dsimp only at h
      cases h1 : cSets c X.env.scope self n (st :: r) with
      | none => rw [h1] at h; cases h
      | some y =>
        rw [h1] at h
        cases h
        exact (sets_snd S h0 hv hpl hC h1 hn).imp fun D σ H h => tInit_sets hc hd hl h
    | none =>
      rw [hs] at h
      dsimp only at h
      cases h1 : cSt c X.env.scope none n st with
      | none => rw [h1] at h; cases h
      | some x =>
        cases h2 : cInit c X.env.scope self n r with
        | none => rw [h1, h2] at h; cases h
        | some py =>
          obtain ⟨pr, y⟩ := py
          rw [h1, h2] at h
          cases h
          unfold flB at hf
          cases h3 : fl1 M x none O with
          | none => rw [h3] at hf; cases hf
          | some O1 =>
            rw [h3] at hf
            have ih := init_snd (n := n) (M := M) S h0 hv hpl hC hc h2 hf hn hd hl
            have T := (sndS (L := L) (M := M) n isx_none0).St X W st x none O O1 S h1 h3
            refine (pss_cons T ih).imp fun D σ H ⟨Z, ρ, p, dx, ρ', vals, rel, zp, zd, ne, g1, g2, g3, q⟩ => ?_
            have g1 : (run1 A x ρ).then (fun ρ' => run A pr ρ') = .nx ρ' := g1
            refine ⟨trivial, Z, ρ, rel, ?_⟩
            cases k : run1 A x ρ with
            | nx ρ1 =>
              rw [k] at g1
              have g1 : run A pr ρ1 = .nx ρ' := g1
              intro σ' H' Z' z _ r1
              exact ⟨Z', ρ1, p, dx, ρ', vals, r1, z _ _ zp, z _ _ zd, ne, g1, g2, g3, fun σ2 H2 fs k1 k2 k3 k4 => q σ2 H2 fs (fun b o nb e => k1 b o nb (z b o e)) k2 k3 k4⟩
            | rt d => rw [k] at g1; cases g1
            | bk ρ1 => rw [k] at g1; cases g1
            | exc c ρ1 => rw [k] at g1; cases g1
            | bad => rw [k] at g1; cases g1
end
end Tk
/-! Defs, level by level. -/
namespace Tk
open PySem PySem.Spec PyProof.Rows L2
open D
/-- a class: its fields; its methods, by the numbers of their defs; what the fields get -/
structure ClsI where
  fields : List Str
  meths : List (Str × Nat)
  sets : List SE
/-- a def: how many parameters, how many slots, its body -/
structure Fn where
  np : Nat
  ns : Nat
  body : List SS
  ext : Option (Nat → (Nat → List D → Res D) → List D → Res D)
  cls : Option ClsI
def callFn (A : Ar) (f : Fn) (ds : List D) : Res D := if ds.length = f.np then (match run A f.body (ds.map some ++ List.replicate (f.ns - f.np) none) with
  | .rt d => .ok d
  | .nx _ => .ok .non
  | .exc c _ => .exc c
  | _ => .bad) else .bad
/-- the fields of a new object that stands at p -/
def callInit (A : Ar) (f : Fn) (i : ClsI) (p : Nat) (ds : List D) : Res (List D) := if ds.length + 1 = f.np then (match run A f.body (some (D.adr p) :: (ds.map some ++ List.replicate (f.ns - f.np) none)) with
  | .nx ρ' => (match (ρ'[0]? : Option (Option D)) with
    | some (some (D.adr q)) => if q = p then evs A i.sets ρ' else .bad
    | _ => .bad)
  | _ => .bad) else .bad
open Classical in
/-- a new object: the same fields wherever it stands -/
noncomputable def initR (A : Ar) (k : Nat) (f : Fn) (i : ClsI) (ds : List D) : Res D := if h : ∃ fs, ∀ p, callInit A f i p ds = .ok fs then .ok (.obj k h.choose) else .bad
theorem initR_ok {A : Ar} {k : Nat} {f : Fn} {i : ClsI} {ds fs : List D} (h : ∀ p, callInit A f i p ds = .ok fs) : initR A k f i ds = .ok (.obj k fs) := by
  unfold initR
  have hh : ∃ fs, ∀ p, callInit A f i p ds = .ok fs := ⟨fs, h⟩
  rw [dif_pos hh]
  have := (hh.choose_spec 0).symm.trans (h 0)
  cases this
  rfl
theorem initR_or {A : Ar} {k : Nat} {f : Fn} {i : ClsI} {ds : List D} : initR A k f i ds = .bad ∨ ∃ fs, initR A k f i ds = .ok (.obj k fs) ∧ ∀ p, callInit A f i p ds = .ok fs := by
  by_cases h : ∃ fs, ∀ p, callInit A f i p ds = .ok fs
  · obtain ⟨fs, h⟩ := h
    exact .inr ⟨fs, initR_ok h, h⟩
  · left
    unfold initR
    rw [dif_neg h]
def methT (tab : Nat → Option Fn) (k : Nat) (m : Str) : Option Nat := match tab k with
  | some f => (match f.cls with
    | some i => i.meths.lookup m
    | none => none)
  | none => none
def flT (tab : Nat → Option Fn) (k : Nat) : List Str := match tab k with
  | some f => (match f.cls with
    | some i => i.fields
    | none => [])
  | none => []
/-- all defs, by level -/
noncomputable def Phi (tab : Nat → Option Fn) (F : Nat) : Nat → Nat → List D → Res D
  | 0, _, _ => .bad
  | L + 1, k, ds => match tab k with
    | some f => (match f.cls with
      | some i => (match L with
        | 0 => .bad
        | l + 1 => initR ⟨Phi tab F l, fun c m => (methT tab c m).map fun k => Phi tab F l k, flT tab, none, F⟩ k f i ds)
      | none => (match f.ext with
        | some g => g L (Phi tab F L) ds
        | none => callFn ⟨Phi tab F L, fun c m => (methT tab c m).map fun k => Phi tab F L k, flT tab, none, F⟩ f ds))
    | none => .bad
noncomputable def ArOf (tab : Nat → Option Fn) (F L : Nat) : Ar := ⟨Phi tab F L, fun c m => (methT tab c m).map fun k => Phi tab F L k, flT tab, none, F⟩
theorem Phi_succ {tab : Nat → Option Fn} {F L k : Nat} {f : Fn} (h : tab k = some f) (ds : List D) (he : f.ext = none := by rfl) (hc : f.cls = none := by rfl) : Phi tab F (L + 1) k ds = callFn (ArOf tab F L) f ds := by
  rw [Phi, h]
  dsimp only
  rw [hc]
  dsimp only
  rw [he]
  rfl
theorem Phi_ext {tab : Nat → Option Fn} {F L k : Nat} {f : Fn} {g : Nat → (Nat → List D → Res D) → List D → Res D} (h : tab k = some f) (he : f.ext = some g) (ds : List D) (hc : f.cls = none := by rfl) : Phi tab F (L + 1) k ds = g L (Phi tab F L) ds := by
  rw [Phi, h]
  dsimp only
  rw [hc]
  dsimp only
  rw [he]
theorem Phi_cls {tab : Nat → Option Fn} {F L k : Nat} {f : Fn} {i : ClsI} (h : tab k = some f) (hc : f.cls = some i) (ds : List D) : Phi tab F (L + 2) k ds = initR (ArOf tab F L) k f i ds := by
  rw [Phi, h]
  dsimp only
  rw [hc]
  rfl
theorem Phi_cls1 {tab : Nat → Option Fn} {F k : Nat} {f : Fn} {i : ClsI} (h : tab k = some f) (hc : f.cls = some i) (ds : List D) : Phi tab F 1 k ds = .bad := by
  rw [Phi, h]
  dsimp only
  rw [hc]
/-- a def of the row: its name, number, names by slot, parameters -/
structure DefR where
  name : Str
  id : Nat
  N : List Str
  ps : List Str
  st : Stmt
  body : List SS
/-- what is checked of a def's text -/
def DefR.okB (c : CE) (r : DefR) (beq : List SS → List SS → Bool) : Bool := match cB { c with N := r.N } (defScope r.st) none 200 (defBody r.st) with
  | some b => beq b r.body && (flB (mutB b) b none []).isSome
  | none => false
section
variable {P : Program} {w : World} {K : PySem.W.Frag} {mg : Str → Option Value} {base : Heap} {ct : CT} {c : CE} {tab : Nat → Option Fn} {F L : Nat}
/-- what a module's facts are -/
structure ModOk (w : World) (K : PySem.W.Frag) (mg : Str → Option Value) (ct : CT) (c : CE) : Prop where
  kd : KdOk K w ct
  gc : ∀ x d, c.gc.lookup x = some d → ∃ u v, mg x = some u ∧ RelV v u ∧ ∀ H, Den K ct H v d
  free : ∀ x, c.free.contains x = true → mg x = none
  exc : ExcsOk K mg ct c
/-- what a def is, and where -/
structure DefOk (K : PySem.W.Frag) (mg : Str → Option Value) (c : CE) (tab : Nat → Option Fn) (x : Str) (k m : Nat) : Prop where
  ex : ∃ (f : Addr) (fd : FuncData) (N ps : List Str) (qual : Str) (params : Arguments) (body : List Stmt) (scope : Scope) (ss : List SS) (O' : List Nat), mg x = some (.ref f) ∧ FunD K x qual params body scope [] [] f fd ∧ FnScope N ps scope ∧ Binds K fd ps [] ∧ ps.length = m ∧ tab k = some ⟨m, N.length, ss, none, none⟩ ∧
    cB { c with N := N } scope none 200 body = some ss ∧ flB (mutB ss) ss none [] = some O'
/-- what a method is, and where -/
structure MethOk (K : PySem.W.Frag) (c : CE) (tab : Nat → Option Fn) (C : Addr) (x : Str) (k : Nat) : Prop where
  ex : ∃ (f : Addr) (fd : FuncData) (N ps : List Str) (qual : Str) (params : Arguments) (body : List Stmt) (scope : Scope) (ss : List SS) (O' : List Nat), Meth K C x f ∧ FunD K x qual params body scope [] [] f fd ∧ FnScope N ps scope ∧ Binds K fd ps [] ∧ tab k = some ⟨ps.length, N.length, ss, none, none⟩ ∧
    cB { c with N := N } scope none 200 body = some ss ∧ flB (mutB ss) ss none [] = some O'
/-- what a class is, and where -/
structure ClassOk (K : PySem.W.Frag) (mg : Str → Option Value) (ct : CT) (c : CE) (tab : Nat → Option Fn) (x : Str) (k m : Nat) : Prop where
  ex : ∃ (C f : Addr) (fd : FuncData) (N ps : List Str) (qual self : Str) (params : Arguments) (body : List Stmt) (scope : Scope) (pre : List SS) (sets : List (Str × SE)) (ms : List (Str × Nat)) (O' : List Nat), mg x = some (.ref C) ∧ ct.cl k = some (C, sets.map (·.1)) ∧ Mk K C f ∧ FunD K "__init__" qual params body scope [] [] f fd ∧ FnScope N ps scope ∧ Binds K fd ps [] ∧ ps.length = m + 1 ∧
    tab k = some ⟨m + 1, N.length, pre, none, some ⟨sets.map (·.1), ms, sets.map (·.2)⟩⟩ ∧ N[0]? = some self ∧ visB scope self = true ∧ plainName self = true ∧ cInit { c with N := N } scope self 200 body = some (pre, sets) ∧ flB (mutB pre) pre none [] = some O' ∧ (sets.map (·.1)).Nodup ∧ sets.length < 1000
/-- the text's own classes -/
structure ClsOk (K : PySem.W.Frag) (ct : CT) (c : CE) (tab : Nat → Option Fn) : Prop where
  some_ : ∀ k C, ct.cl k ≠ some (C, [])
  cls : ∀ k C ns, ct.cl k = some (C, ns) → Cls K C ∧ (∀ f ∈ ns, NoAttr K C f) ∧ flT tab k = ns
  meth : ∀ k m k', methT tab k m = some k' → ∃ C ns, ct.cl k = some (C, ns) ∧ m ∉ ns ∧ MethOk K c tab C m k'
structure FnsAt (P : Program) (w : World) (K : PySem.W.Frag) (mg : Str → Option Value) (base : Heap) (ct : CT) (c : CE) (tab : Nat → Option Fn) (F L : Nat) : Prop where
  fns : ∀ x k m, c.fn.lookup x = some (k, m) → (∃ f fd ps, mg x = some (.ref f) ∧ PySem.W.keepIn K (.ref f) = true ∧ Binds K fd ps [] ∧ FnOk P w K mg base (L2.CX P w) L f fd ps (spF (spD K ct (Phi tab F L k) m))) ∨
    (∃ C fI fd ps, mg x = some (.ref C) ∧ Mk K C fI ∧ Binds K fd ps [] ∧ (∀ ds, Phi tab F L k ds = .bad ∨ ∃ fds, Phi tab F L k ds = .ok (.obj k fds)) ∧ (L = 0 → ∀ ds, Phi tab F L k ds = .bad) ∧ ∀ l, L = l + 1 → FnOk P w K mg base (L2.CX P w) l fI fd ps (spIF K ct C k (Phi tab F L k) m))
  meth : ∀ k m g, (ArOf tab F L).Ψ k m = some g → ∃ C ns f fd ps, ct.cl k = some (C, ns) ∧ m ∉ ns ∧ Meth K C m f ∧ Binds K fd ps [] ∧ (∀ ds, g ds ≠ .bad → ds.length = ps.length) ∧ FnOk P w K mg base (L2.CX P w) L f fd ps (spF (spD K ct g ps.length))
theorem isx_none : IsxOk ct c (ArOf tab F L) none none := fun X W L O v t p q q2 pos cs S h => nomatch h
theorem fn_core (M : ModOk w K mg ct c) (Co : ClsOk K ct c tab) (hL : FnsAt P w K mg base ct c tab F L) {x : Str} {k m : Nat} {f : Addr} {fd : FuncData} {N ps : List Str} {qual : Str} {params : Arguments} {body : List Stmt} {scope : Scope} {ss : List SS} {O' : List Nat} (h2 : FunD K x qual params body scope [] [] f fd) (h3 : FnScope N ps scope) (h5 : ps.length = m) (h6 : tab k = some ⟨m, N.length, ss, none, none⟩)
    (h7 : cB { c with N := N } scope none 200 body = some ss) (h8 : flB (mutB ss) ss none [] = some O') : FnOk P w K mg base (L2.CX P w) (L + 1) f fd ps (spF (spD K ct (Phi tab F (L + 1) k) m)) := by
  refine FnOk.frame ?_ spD_keeps
  refine h2.ok h3 (fun vs H Q E h => h.1.trans h5.symm) fun cdv A outer s H vs Q E hr h => ?_
  obtain ⟨hm, ds, hd, hq⟩ := h
  rw [Phi_succ h6] at hq
  have hlen : ds.length = m := by rw [← hd.length]; exact hm
  have hpl : m ≤ N.length := by
    have := congrArg List.length h3.pre
    rw [List.length_take] at this
    omega
  have S : SitS (cxOf (L2.CX P w) P w K mg base N qual scope f cdv A outer s H E) ct { c with N := N } (ArOf tab F L) L (fun cls d _ H => E cls d H) none none :=
    { N := rfl
      nd := h3.nd
      calm := fun _ => rfl
      tk := takes_of rfl rfl rfl rfl
      un := by have := hr.un; show (A.deeper _).units + 65 < cLine; omega
      room := fun _ => hr
      fns := hL.fns
      cls := Co.cls
      meth := hL.meth
      kd := M.kd
      gc := M.gc
      free := M.free
      hot := fun i a h => nomatch h
      exc := ⟨M.exc.nm, M.exc.all⟩
      fnT := fun _ => rfl
      po := passes_of rfl
      stk := rfl
      frm := rfl }
  have T := (sndS (L := L) (M := mutB ss) 200 isx_none).Bl (cxOf (L2.CX P w) P w K mg base N qual scope f cdv A outer s H E) (fun cls d _ H => E cls d H) body ss none [] O' S h7 h8
  refine ⟨_, T, trivial, H, ds.map some ++ List.replicate (N.length - m) none, ?_, ?_⟩
  · refine ⟨.refl _, fun b o e z => (by rw [e] at z; cases z), ?_, fun i d _ e => ?_, fun i d hi => (by cases hi), fun i j d e a hi => (by cases hi)⟩
    · unfold L2.start
      rw [List.length_append, List.length_append, List.length_map, List.length_map, List.length_replicate, List.length_replicate, hm, hlen]
    · by_cases hi : i < ds.length
      · rw [List.getElem?_append_left (by simpa using hi), List.getElem?_map] at e
        cases q : ds[i]? with
        | none => rw [q] at e; cases e
        | some d' =>
          rw [q] at e
          cases e
          obtain ⟨v, g1, g2⟩ := hd.get q
          refine ⟨v, ?_, g2⟩
          unfold L2.start
          rw [List.getElem?_append_left (by rw [List.length_map, hm, ← hlen]; exact hi), List.getElem?_map, g1]
          rfl
      · rw [List.getElem?_append_right (by simpa using hi), List.getElem?_replicate] at e
        split at e <;> cases e
  · unfold callFn at hq
    rw [if_pos hlen] at hq
    have hq : (match (match run (ArOf tab F L) ss (ds.map some ++ List.replicate (N.length - m) none) with
      | .rt d => Res.ok d
      | .nx _ => Res.ok D.non
      | .exc c _ => Res.exc c
      | _ => (.bad : Res D)) with
      | .ok d => ∀ v H', Same H H' → Den K ct H' v d → Q v H'
      | .exc c => ∀ C H', ct.ex c = some C → Same H H' → E (.ref C) none H'
      | .bad => False) := hq
    cases q : run (ArOf tab F L) ss (ds.map some ++ List.replicate (N.length - m) none) with
    | nx ρ' => rw [q] at hq; exact fun σ' H' Z' z _ r => hq .non H' (z.trans r.sub) .non
    | rt d => rw [q] at hq; exact fun v H' Z' z s hv => hq v H' (z.trans s) (Den.mono s _ _ hv)
    | bk ρ' => rw [q] at hq; exact hq
    | exc e ρ' => rw [q] at hq; exact fun C σ' H' Z' hc z _ r => hq C H' hc (z.trans r.sub)
    | bad => rw [q] at hq; exact hq
theorem fn_step (M : ModOk w K mg ct c) (Co : ClsOk K ct c tab) (hL : FnsAt P w K mg base ct c tab F L) {x : Str} {k m : Nat} (d : DefOk K mg c tab x k m) : ∃ f fd ps, mg x = some (.ref f) ∧ PySem.W.keepIn K (.ref f) = true ∧ Binds K fd ps [] ∧ FnOk P w K mg base (L2.CX P w) (L + 1) f fd ps (spF (spD K ct (Phi tab F (L + 1) k) m)) := by
  obtain ⟨f, fd, N, ps, qual, params, body, scope, ss, O', h1, h2, h3, h4, h5, h6, h7, h8⟩ := d.ex
  exact ⟨f, fd, ps, h1, h2.kp, h4, fn_core M Co hL h2 h3 h5 h6 h7 h8⟩
/-- a def that is walked by hand -/
structure ExtOk (P : Program) (w : World) (K : PySem.W.Frag) (mg : Str → Option Value) (base : Heap) (ct : CT) (c : CE) (tab : Nat → Option Fn) (F : Nat) (x : Str) (k m : Nat) : Prop where
  ex : ∃ (f : Addr) (fd : FuncData) (ps : List Str), mg x = some (.ref f) ∧ PySem.W.keepIn K (.ref f) = true ∧ Binds K fd ps [] ∧ ps.length = m ∧ ∀ L, FnsAt P w K mg base ct c tab F L → FnOk P w K mg base (L2.CX P w) (L + 1) f fd ps (spF (spD K ct (Phi tab F (L + 1) k) m))
/-- a class's __init__ -/
theorem cls_core (M : ModOk w K mg ct c) (Co : ClsOk K ct c tab) (hL : FnsAt P w K mg base ct c tab F L) {x : Str} {k m : Nat} (d : ClassOk K mg ct c tab x k m) : ∃ C fI fd ps, mg x = some (.ref C) ∧ Mk K C fI ∧ Binds K fd ps [] ∧ FnOk P w K mg base (L2.CX P w) (L + 1) fI fd ps (spIF K ct C k (Phi tab F (L + 2) k) m) := by
  obtain ⟨C, f, fd, N, ps, qual, self, params, body, scope, pre, sets, ms, O', h1, hcl, hM, h2, h3, hB, h5, h6, h9, h10, h11, h7, h8, hnd, hln⟩ := d.ex
  obtain ⟨c1, c2, c3⟩ := Co.cls _ _ _ hcl
  refine ⟨C, f, fd, ps, h1, hM, hB, FnOk.frameI (ns := sets.map (·.1)) ?_ hcl⟩
  refine h2.ok h3 (fun vs H Q E ⟨p, dx, us, ds, fds, e1, e2, _⟩ => by rw [e1, List.length_cons, e2, h5]) fun cdv A outer s H vs Q E hr h => ?_
  obtain ⟨p, dx, us, ds, fds, e1, e2, hp, hd, ne, hden, hg, q⟩ := h
  rw [Phi_cls h6 rfl] at hg
  rcases initR_or (A := ArOf tab F L) (k := k) (f := ⟨m + 1, N.length, pre, none, some ⟨sets.map (·.1), ms, sets.map (·.2)⟩⟩) (i := ⟨sets.map (·.1), ms, sets.map (·.2)⟩) (ds := ds) with z | ⟨fs, z1, z2⟩
  · rw [z] at hg; cases hg
  rw [z1] at hg
  cases hg
  have z2 := z2 p
  have hlen : ds.length = m := by rw [← hden.length]; exact e2
  have hpl : m + 1 ≤ N.length := by
    have := congrArg List.length h3.pre
    rw [List.length_take] at this
    omega
  unfold callInit at z2
  rw [if_pos (show ds.length + 1 = m + 1 by omega)] at z2
  have S : SitS (cxOf (L2.CX P w) P w K mg base N qual scope f cdv A outer s H E) ct { c with N := N } (ArOf tab F L) L (fun cls d _ H => E cls d H) none none :=
    { N := rfl
      nd := h3.nd
      calm := fun _ => rfl
      tk := takes_of rfl rfl rfl rfl
      un := by have := hr.un; show (A.deeper _).units + 65 < cLine; omega
      room := fun _ => hr
      fns := hL.fns
      cls := Co.cls
      meth := hL.meth
      kd := M.kd
      gc := M.gc
      free := M.free
      hot := fun i a h => nomatch h
      exc := ⟨M.exc.nm, M.exc.all⟩
      fnT := fun _ => rfl
      po := passes_of rfl
      stk := rfl
      frm := rfl }
  have T := init_snd (C := C) (n := 200) (M := mutB pre) S h9 (visB_vis h10) h11 c1 (fun k => Co.some_ k C) h7 h8 c2 hnd hln
  split at z2
  · rename_i ρ' hrun
    split at z2
    · rename_i q0 hq0
      split at z2
      · rename_i hqp
        subst hqp
        refine ⟨_, T, H, some (.adr q0) :: (ds.map some ++ List.replicate (N.length - (m + 1)) none), q0, dx, ρ', fds, ?_, hp, hd, ne, hrun, hq0, z2, fun σ' H' fs2 k1 k2 k3 k4 => q H' fs2 k1 k2 k3 k4⟩
        subst e1
        refine ⟨.refl _, fun b o e z => (by rw [e] at z; cases z), ?_, fun i d _ e => ?_, fun i d hi => (by cases hi), fun i j d e a hi => (by cases hi)⟩
        · unfold L2.start
          simp only [List.length_append, List.length_map, List.length_replicate, List.length_cons, e2, hlen]
          omega
        · cases i with
          | zero =>
            have e : d = .adr q0 := by simpa using e.symm
            subst e
            exact ⟨.ref q0, rfl, .adr q0⟩
          | succ i =>
            rw [List.getElem?_cons_succ] at e
            by_cases hi : i < ds.length
            · rw [List.getElem?_append_left (by simpa using hi), List.getElem?_map] at e
              cases qq : ds[i]? with
              | none => rw [qq] at e; cases e
              | some d' =>
                rw [qq] at e
                cases e
                obtain ⟨v, g1, g2⟩ := hden.get qq
                refine ⟨v, ?_, g2⟩
                unfold L2.start
                rw [List.map_cons, List.cons_append, List.getElem?_cons_succ, List.getElem?_append_left (by rw [List.length_map, hden.length]; exact hi), List.getElem?_map, g1]
                rfl
            · rw [List.getElem?_append_right (by simpa using hi), List.getElem?_replicate] at e
              split at e <;> cases e
      · cases z2
    · cases z2
  · cases z2
theorem callFn_len {A : Ar} {f : Fn} {ds : List D} (h : callFn A f ds ≠ .bad) : ds.length = f.np := by
  unfold callFn at h
  split at h
  · assumption
  · exact absurd rfl h
theorem meth_at (M : ModOk w K mg ct c) (Co : ClsOk K ct c tab) (hL : ∀ l, L = l + 1 → FnsAt P w K mg base ct c tab F l) : ∀ k m g, (ArOf tab F L).Ψ k m = some g → ∃ C ns f fd ps, ct.cl k = some (C, ns) ∧ m ∉ ns ∧ Meth K C m f ∧ Binds K fd ps [] ∧ (∀ ds, g ds ≠ .bad → ds.length = ps.length) ∧ FnOk P w K mg base (L2.CX P w) L f fd ps (spF (spD K ct g ps.length)) := by
  intro k m g h
  obtain ⟨k', h1, rfl⟩ := Option.map_eq_some_iff.mp (show (methT tab k m).map (fun k => Phi tab F L k) = some g from h)
  obtain ⟨C, ns, g1, g2, g3⟩ := Co.meth k m k' h1
  obtain ⟨f, fd, N, ps, qual, params, body, scope, ss, O', h2, h3, h4, h5, h6, h7, h8⟩ := g3.ex
  refine ⟨C, ns, f, fd, ps, g1, g2, h2, h5, fun ds hb => ?_, ?_⟩
  · cases L with
    | zero => exact absurd rfl hb
    | succ l => rw [Phi_succ h6] at hb; exact callFn_len hb
  · cases L with
    | zero => exact ⟨fun vs H Q E ⟨Z, _, _, hl, _⟩ => hl, fun A outer s H args us vs Q E _ _ _ _ ⟨Z, _, _, _, ds, _, hb⟩ => (show False from hb).elim⟩
    | succ l => exact fn_core M Co (hL l rfl) h3 h4 rfl h6 h7 h8
theorem cls_at (M : ModOk w K mg ct c) (Co : ClsOk K ct c tab) (hL : ∀ l, L = l + 2 → FnsAt P w K mg base ct c tab F l) {x : Str} {k m : Nat} (d : ClassOk K mg ct c tab x k m) : ∃ C fI fd ps, mg x = some (.ref C) ∧ Mk K C fI ∧ Binds K fd ps [] ∧ (∀ ds, Phi tab F L k ds = .bad ∨ ∃ fds, Phi tab F L k ds = .ok (.obj k fds)) ∧ (L = 0 → ∀ ds, Phi tab F L k ds = .bad) ∧ ∀ l, L = l + 1 → FnOk P w K mg base (L2.CX P w) l fI fd ps (spIF K ct C k (Phi tab F L k) m) := by
  match L, hL with
  | 0, _ =>
    obtain ⟨C, f, fd, N, ps, qual, self, params, body, scope, pre, sets, ms, O', h1, hcl, hM, h2, h3, hB, h5, h6, h9, h10, h11, h7, h8, hnd, hln⟩ := d.ex
    exact ⟨C, f, fd, ps, h1, hM, hB, fun _ => .inl rfl, fun _ _ => rfl, fun l z => nomatch z⟩
  | 1, _ =>
    obtain ⟨C, f, fd, N, ps, qual, self, params, body, scope, pre, sets, ms, O', h1, hcl, hM, h2, h3, hB, h5, h6, h9, h10, h11, h7, h8, hnd, hln⟩ := d.ex
    refine ⟨C, f, fd, ps, h1, hM, hB, fun ds => .inl (Phi_cls1 h6 rfl ds), (fun z => nomatch z), fun l z => ⟨fun vs H Q E ⟨p, dx, us, Hc, Z, ds, fds, e1, e2, _⟩ => by rw [e1, List.length_cons, e2, h5], fun A outer s H args us vs Q E _ _ _ _ ⟨p, dx, us', Hc, Z, ds, fds, _, _, _, _, _, _, _, _, _, hb, _⟩ => ?_⟩⟩
    rw [Phi_cls1 h6 rfl] at hb
    cases hb
  | l + 2, hL =>
    obtain ⟨C, f, fd, ps, h1, hM, hB, h4⟩ := cls_core M Co (hL l rfl) d
    obtain ⟨_, _, _, N, _, _, _, _, _, _, pre, sets, ms, _, _, _, _, _, _, _, _, h6, _⟩ := d.ex
    refine ⟨C, f, fd, ps, h1, hM, hB, fun ds => ?_, (fun z => nomatch z), fun l' z => by cases z; exact h4⟩
    rw [Phi_cls h6 rfl]
    rcases initR_or with z | ⟨fs, z1, _⟩
    · exact .inl z
    · exact .inr ⟨fs, z1⟩
theorem fns_both (M : ModOk w K mg ct c) (Co : ClsOk K ct c tab) (D : ∀ x k m, c.fn.lookup x = some (k, m) → DefOk K mg c tab x k m ∨ ClassOk K mg ct c tab x k m ∨ ExtOk P w K mg base ct c tab F x k m) : ∀ L, FnsAt P w K mg base ct c tab F L ∧ FnsAt P w K mg base ct c tab F (L + 1)
  | 0 => by
    have z : FnsAt P w K mg base ct c tab F 0 := by
      refine ⟨fun x k m h => ?_, meth_at M Co fun l z => nomatch z⟩
      rcases D x k m h with d | d | d
      · obtain ⟨f, fd, N, ps, qual, params, body, scope, ss, O', g1, g2, g3, g4, g5, g6, g7, g8⟩ := d.ex
        exact .inl ⟨f, fd, ps, g1, g2.kp, g4, ⟨fun vs H Q E ⟨Z, _, _, hl, _⟩ => hl.trans g5.symm, fun A outer s H args us vs Q E _ _ _ _ ⟨Z, _, _, _, ds, _, hb⟩ => (show False from hb).elim⟩⟩
      · exact .inr (cls_at M Co (fun l z => by omega) d)
      · obtain ⟨f, fd, ps, g1, g2, g4, g5, _⟩ := d.ex
        exact .inl ⟨f, fd, ps, g1, g2, g4, ⟨fun vs H Q E ⟨Z, _, _, hl, _⟩ => hl.trans g5.symm, fun A outer s H args us vs Q E _ _ _ _ ⟨Z, _, _, _, ds, _, hb⟩ => (show False from hb).elim⟩⟩
    refine ⟨z, fun x k m h => ?_, meth_at M Co fun l e => by cases e; exact z⟩
    rcases D x k m h with d | d | d
    · exact .inl (fn_step M Co z d)
    · exact .inr (cls_at M Co (fun l z => by omega) d)
    · obtain ⟨f, fd, ps, g1, g2, g4, g5, g6⟩ := d.ex
      exact .inl ⟨f, fd, ps, g1, g2, g4, g6 0 z⟩
  | L + 1 => by
    obtain ⟨ih0, ih⟩ := fns_both M Co D L
    refine ⟨ih, fun x k m h => ?_, meth_at M Co fun l e => by cases e; exact ih⟩
    rcases D x k m h with d | d | d
    · exact .inl (fn_step M Co ih d)
    · exact .inr (cls_at M Co (fun l e => by cases e; exact ih0) d)
    · obtain ⟨f, fd, ps, g1, g2, g4, g5, g6⟩ := d.ex
      exact .inl ⟨f, fd, ps, g1, g2, g4, g6 (L + 1) ih⟩
theorem fns_all (M : ModOk w K mg ct c) (Co : ClsOk K ct c tab) (D : ∀ x k m, c.fn.lookup x = some (k, m) → DefOk K mg c tab x k m ∨ ClassOk K mg ct c tab x k m ∨ ExtOk P w K mg base ct c tab F x k m) (L : Nat) : FnsAt P w K mg base ct c tab F L := (fns_both M Co D L).1
end
end Tk
/-! The end of a law. -/
namespace Tk
open PySem PySem.Spec PyProof.Rows L2
open D
def AllP {α : Type} (p : α → Prop) : List α → Prop
  | [] => True
  | a :: r => p a ∧ AllP p r
theorem AllP.mem {α : Type} {p : α → Prop} : ∀ {l : List α}, AllP p l → ∀ {a : α}, a ∈ l → p a
  | [], _, _, h => by cases h
  | b :: r, h, a, m => by
    rcases List.mem_cons.mp m with e | m
    · subst e; exact h.1
    · exact AllP.mem h.2 m
theorem lookup_mem {α β : Type} [BEq α] [LawfulBEq α] {x : α} {y : β} : ∀ {l : List (α × β)}, l.lookup x = some y → (x, y) ∈ l
  | [], h => by cases h
  | (a, b) :: r, h => by
    simp only [List.lookup] at h
    split at h
    · rename_i e
      cases h
      rw [beq_iff_eq.mp e]
      exact List.mem_cons_self
    · exact List.mem_cons_of_mem _ (lookup_mem h)
/-- one def by the head's facts -/
theorem def_ok {K : PySem.W.Frag} {mg : Str → Option Value} {h : Heap} {c : CE} {tab : Nat → Option Fn} {x : Str} {k m : Nat} {N ps : List Str} {params : Arguments} {body : List Stmt} {scope : Scope} {ss : List SS} (X : K.In h) (G : h.Ns mainGlobals mg) (hg : (He.Fa.glo x).ok K = true)
    (F : ∃ fd, FunD K x x params body scope [] [] (He.fAd K (x, none)) fd) (S : FnScope N ps scope)
    (hb : ∀ (kV doc pm : Value) (an : Option Addr) (cdv ct : Value) (us : List Value), us.length = ps.length → bindArgs (PySem.W.fnOf x x params body scope .none kV doc pm an cdv ct) ⟨us, []⟩ = pure (ps.zip us))
    (hm : ps.length = m) (ht : tab k = some ⟨m, N.length, ss, none, none⟩) (hc : cB { c with N := N } scope none 200 body = some ss) (hf : (flB (mutB ss) ss none []).isSome = true) : DefOk K mg c tab x k m := by
  obtain ⟨fd, F⟩ := F
  obtain ⟨O', hO⟩ := Option.isSome_iff_exists.mp hf
  exact ⟨He.ga K x, fd, N, ps, x, params, body, scope, ss, O', He.glo_ok X G hg, F, S, F.bindsN hb, hm, ht, hc, hO⟩
/-- one method -/
theorem meth_okT {K : PySem.W.Frag} {c : CE} {tab : Nat → Option Fn} {C f : Addr} {x qual : Str} {k : Nat} {N ps : List Str} {params : Arguments} {body : List Stmt} {scope : Scope} {ss : List SS} (hM : Meth K C x f) (F : ∃ fd, FunD K x qual params body scope [] [] f fd) (S : FnScope N ps scope)
    (hb : ∀ (kV doc pm : Value) (an : Option Addr) (cdv ct : Value) (us : List Value), us.length = ps.length → bindArgs (PySem.W.fnOf x qual params body scope .none kV doc pm an cdv ct) ⟨us, []⟩ = pure (ps.zip us))
    (ht : tab k = some ⟨ps.length, N.length, ss, none, none⟩) (hc : cB { c with N := N } scope none 200 body = some ss) (hf : (flB (mutB ss) ss none []).isSome = true) : MethOk K c tab C x k := by
  obtain ⟨fd, F⟩ := F
  obtain ⟨O', hO⟩ := Option.isSome_iff_exists.mp hf
  exact ⟨f, fd, N, ps, qual, params, body, scope, ss, O', hM, F, S, F.bindsN hb, ht, hc, hO⟩
/-- one class -/
theorem class_okT {K : PySem.W.Frag} {mg : Str → Option Value} {h : Heap} {ct : CT} {c : CE} {tab : Nat → Option Fn} {x qual self : Str} {k m : Nat} {N ps : List Str} {params : Arguments} {body : List Stmt} {scope : Scope} {pre : List SS} {sets : List (Str × SE)} {ms : List (Str × Nat)} {f : Addr} (X : K.In h) (G : h.Ns mainGlobals mg) (hg : (He.Fa.glo x).ok K = true)
    (hcl : ct.cl k = some (He.ga K x, sets.map (·.1))) (hM : Mk K (He.ga K x) f) (F : ∃ fd, FunD K "__init__" qual params body scope [] [] f fd) (S : FnScope N ps scope)
    (hb : ∀ (kV doc pm : Value) (an : Option Addr) (cdv ct : Value) (us : List Value), us.length = ps.length → bindArgs (PySem.W.fnOf "__init__" qual params body scope .none kV doc pm an cdv ct) ⟨us, []⟩ = pure (ps.zip us))
    (hp : ps.length = m + 1) (ht : tab k = some ⟨m + 1, N.length, pre, none, some ⟨sets.map (·.1), ms, sets.map (·.2)⟩⟩) (h0 : N[0]? = some self) (hv : visB scope self = true) (hpl : plainName self = true) (hc : cInit { c with N := N } scope self 200 body = some (pre, sets)) (hf : (flB (mutB pre) pre none []).isSome = true) (hnd : (sets.map (·.1)).Nodup) (hln : sets.length < 1000) : ClassOk K mg ct c tab x k m := by
  obtain ⟨fd, F⟩ := F
  obtain ⟨O', hO⟩ := Option.isSome_iff_exists.mp hf
  exact ⟨He.ga K x, f, fd, N, ps, qual, self, params, body, scope, pre, sets, ms, O', He.glo_ok X G hg, hcl, hM, F, S, F.bindsN hb, hp, ht, h0, hv, hpl, hc, hO, hnd, hln⟩
theorem walkW {l : PySem.W.OpenLaw} {n k : Nat} {q : Program} {loose : List Str} {XP : (Str → Option Value) → Heap → Prop} {YP : World → Heap → Prop} {d : DefRec} {CX : World → CXT} {x : Str}
    (hn : l.most = some n) (hn2 : n ≤ sizeLine) (hdf : d.params.defaults = []) (hr : Room k callerA)
    (F : ∀ (w : World) (mg : Str → Option Value) (fa : Addr) (h : Heap), YP w h → h.Ns mainGlobals mg → mg d.name = some (.ref fa) →
      ∃ (K : PySem.W.Frag) (fd : FuncData) (sp : Sp), K.In h ∧ (∀ (s : Shared) (u : Value), BindsTo s fd ⟨[u], []⟩ [(x, u)]) ∧
        (∀ (H : Hp) (a : Addr) (ns : List Int), ns.length ≤ n → Only H → SqL K H a (ns.map V.int) → sp [.ref a] H (fun v _ => v = .bl true) fun _ _ _ => False) ∧
        ∀ base : Heap, K.In base → base.Ns mainGlobals mg → FnOk l.prog w K mg base (CX w) k fa fd [x] sp)
    (hCX : ∀ (w : World) (H : Hp) (s : Shared) (e : Value) (s' : Shared), CX w [] H s (fun _ _ _ => False) e s' → False) :
    PySem.W.WalkO q loose XP YP l.row.toRowW d [] (fun f vs => PySem.call f vs) := by
  refine Att.attach_call hn hdf fun w s₀ s₁ mg mb fa o pm cd doc a vs ns G Y ho hd hcd hmg hobj hints hlen hg => ?_
  obtain ⟨K, fd, sp, KX, hb, hsp, hF⟩ := F w mg fa _ Y G.T.g hmg
  exact law_call KX G.T.g G.T.b G.T.builtins G.T.nolimit hg hobj hints (Nat.le_trans hlen hn2) hr hF hb (fun H hO hS => hsp H a ns hlen hO hS) fun H e s' => hCX w H s₁ e s'
/-- what the head tells, put together: the law's def keeps its promise -/
theorem law_F {P : Program} {w : World} {K : PySem.W.Frag} {mg : Str → Option Value} {h : Heap} {ct : CT} {c : CE} {tab : Nat → Option Fn} {F L k : Nat} {N : List Str} {x : Str} {params : Arguments} {body : List Stmt} {scope : Scope} {ss : List SS} (KX : K.In h) (G : h.Ns mainGlobals mg)
    (M : ModOk w K mg ct c) (Co : ClsOk K ct c tab) (D : ∀ x k m, c.fn.lookup x = some (k, m) → DefOk K mg c tab x k m ∨ ClassOk K mg ct c tab x k m ∨ ∀ base : Heap, K.In base → base.Ns mainGlobals mg → ExtOk P w K mg base ct c tab F x k m)
    (Fd : ∃ fd, FunD K ("law" : Str) ("law" : Str) params body scope [] [] (He.fAd K (("law" : Str), none)) fd) (S : FnScope N [x] scope)
    (hb : ∀ (kV doc pm : Value) (an : Option Addr) (cdv ct : Value) (us : List Value), us.length = 1 → bindArgs (PySem.W.fnOf ("law" : Str) ("law" : Str) params body scope .none kV doc pm an cdv ct) ⟨us, []⟩ = pure ([x].zip us))
    (ht : tab k = some ⟨1, N.length, ss, none, none⟩) (hc : cB { c with N := N } scope none 200 body = some ss) (hf : (flB (mutB ss) ss none []).isSome = true)
    (hlaw : ∀ ns : List Int, ns.length ≤ 63 → Phi tab F (L + 1) k [.scr ns] = .ok (.bl true)) :
    ∃ (fd : FuncData) (sp : Sp), (∀ (s : Shared) (u : Value), BindsTo s fd ⟨[u], []⟩ [(x, u)]) ∧
        (∀ (H : Hp) (a : Addr) (ns : List Int), ns.length ≤ 63 → Only H → SqL K H a (ns.map V.int) → sp [.ref a] H (fun v _ => v = .bl true) fun _ _ _ => False) ∧
        ∀ base : Heap, K.In base → base.Ns mainGlobals mg → FnOk P w K mg base (L2.CX P w) (L + 1) (He.ga K ("law" : Str)) fd [x] sp := by
  obtain ⟨fd, Fd⟩ := Fd
  obtain ⟨O', hO⟩ := Option.isSome_iff_exists.mp hf
  refine ⟨fd, spF (spD K ct (Phi tab F (L + 1) k) 1), fun s u => FunD.bindsA (ps := [x]) Fd hb s [u] rfl, fun H a ns hl hO hS => ?_, fun base hk1 hk2 => ?_⟩
  · refine ⟨H, .refl _, fun b o e z => (by rw [e] at z; cases z), rfl, [.scr ns], .cons (.scr hS) .nil, ?_⟩
    rw [hlaw ns hl]
    intro v H1 s1 hv H' _
    cases hv
    rfl
  · exact fn_core M Co (fns_all (P := P) (base := base) (F := F) M Co (fun x k m h => (D x k m h).imp id fun z => z.imp id fun z => z base hk1 hk2) L) Fd S rfl ht hc hO
theorem cx_false {P : Program} : ∀ (w : World) (H : Hp) (s : Shared) (e : Value) (s' : Shared), L2.CX P w [] H s (fun _ _ _ => False) e s' → False := fun _ _ _ _ _ ⟨_, _, _, _, _, _, _, _, _, _, _, _, z⟩ => z
/-- constants of the module: whole numbers and texts -/
theorem gc_int {K : PySem.W.Frag} {ct : CT} {h : Heap} {mg : Str → Option Value} {x : Str} {i : Int} (X : K.In h) (G : h.Ns mainGlobals mg) (f : (He.Fa.int x i).ok K = true) : ∃ u v, mg x = some u ∧ RelV v u ∧ ∀ H, Den K ct H v (.int i) := by
  obtain ⟨t, e⟩ := He.int_ok X G f
  exact ⟨_, .int i, e, ⟨t, rfl⟩, fun H => .int i⟩
theorem gc_str {K : PySem.W.Frag} {ct : CT} {h : Heap} {mg : Str → Option Value} {x : Str} {z : List Nat} (X : K.In h) (G : h.Ns mainGlobals mg) (f : (He.Fa.str x ⟨z.toArray⟩).ok K = true) : ∃ u v, mg x = some u ∧ RelV v u ∧ ∀ H, Den K ct H v (.str z) := by
  obtain ⟨t, e⟩ := He.str_ok X G f
  exact ⟨_, .str ⟨z.toArray⟩, e, ⟨t, rfl⟩, fun H => den_str _ _ _ _⟩
/-- no dicts, no classes, no errors -/
def ct0 (w : World) : CT := ⟨fun _ => none, fun _ => none, fun _ => none, w⟩
theorem kd0 {K : PySem.W.Frag} {w : World} : KdOk K w (ct0 w) := ⟨rfl, fun a ps h => nomatch h⟩
end Tk
/-! Constants of a module: tuples, and dicts with text keys. -/
namespace Tk
open PySem PySem.Spec PyProof.Rows L2
open D
mutual
def gvB (K : PySem.W.Frag) : D → Value → Bool
  | .int i, u => (match u with | .int j _ => decide (j = i) | _ => false)
  | .str z, u => (match u with | .str y _ => y.cps.toList == z | _ => false)
  | .tup ds, u => (match u with
    | .ref a => (match K.lookup a with
      | some ⟨.type c, _, .seq its _, _⟩ => decide (c = "tuple") && (decide (its.size ≤ 1000) && gvAll K ds its.toList)
      | _ => false)
    | _ => false)
  | _, _ => false
def gvAll (K : PySem.W.Frag) : List D → List Value → Bool
  | [], us => us.isEmpty
  | d :: ds, us => (match us with | u :: r => gvB K d u && gvAll K ds r | [] => false)
end
mutual
theorem gvB_ok {K : PySem.W.Frag} {ct : CT} : ∀ {d : D} {u : Value}, gvB K d u = true → ∃ v, RelV v u ∧ ∀ H, Den K ct H v d
  | .int i, u, h => by
    unfold gvB at h
    split at h
    · rename_i j t
      have := of_decide_eq_true h
      subst this
      exact ⟨.int j, ⟨t, rfl⟩, fun H => .int _⟩
    · cases h
  | .str z, u, h => by
    unfold gvB at h
    split at h
    · rename_i y t
      have := beq_iff_eq.mp h
      subst this
      exact ⟨.str y, ⟨t, rfl⟩, fun H => .str _⟩
    · cases h
  | .tup ds, u, h => by
    unfold gvB at h
    split at h
    · rename_i a
      split at h
      · rename_i c od its n sl e
        obtain ⟨h1, h2⟩ := Bool.and_eq_true_iff.mp h
        obtain ⟨h3, h4⟩ := Bool.and_eq_true_iff.mp h2
        obtain ⟨vs, r, hv⟩ := gvAll_ok (ct := ct) h4
        refine ⟨.ref a, rfl, fun H => .tup (.inr ⟨_, its, n, e, congrArg Value.type (of_decide_eq_true h1), rfl, ?_, r⟩) (hv H)⟩
        have := of_decide_eq_true h3
        rw [sizeLine_eq]; omega
      · cases h
    · cases h
  | .non, _, h | .bl _, _, h | .lst _, _, h | .dic _, _, h | .obj _ _, _, h | .scr _, _, h => by simp [gvB] at h
theorem gvAll_ok {K : PySem.W.Frag} {ct : CT} : ∀ {ds : List D} {us : List Value}, gvAll K ds us = true → ∃ vs, Vals vs us ∧ ∀ H, DenAll K ct H vs ds
  | [], us, h => by
    have : us = [] := by simpa [gvAll] using h
    subst this
    exact ⟨[], .nil, fun H => .nil⟩
  | d :: ds, [], h => by simp [gvAll] at h
  | d :: ds, u :: us, h => by
    unfold gvAll at h
    obtain ⟨h1, h2⟩ := Bool.and_eq_true_iff.mp h
    obtain ⟨v, r, hv⟩ := gvB_ok (ct := ct) h1
    obtain ⟨vs, rs, hvs⟩ := gvAll_ok (ct := ct) h2
    exact ⟨v :: vs, .cons r rs, fun H => .cons (hv H) (hvs H)⟩
end
abbrev Kds := List (Str × List (List Nat × D))
/-- classes of errors: name, number, those below -/
abbrev Ecl := List (Str × (Nat × List Nat))
/-- classes: number, name, fields -/
abbrev Cll := List (Nat × (Str × List Str))
def ctS (w : World) (K : PySem.W.Frag) (kds : Kds) (ecl : Ecl) (cll : Cll) : CT := ⟨fun k => (cll.lookup k).map fun p => (He.ga K p.1, p.2), fun a => (kds.find? fun p => He.ga K p.1 == a).map (·.2), fun k => (ecl.find? fun p => p.2.1 == k).map fun p => He.ga K p.1, w⟩
def excCB (K : PySem.W.Frag) (D : Addr) : Bool :=
  He.eqO (PySem.W.findIn K (.ref D) "__getattribute__") (some (some (.builtin "BaseException.__getattribute__"))) && He.eqO (PySem.W.findIn K (.ref D) "__getattr__") (some none) && decide (PySem.W.subIn K (.ref D) (.type "BaseException") = some true) && PySem.W.hasDictIn K D &&
  He.eqO (PySem.W.findIn K (.ref D) "__class__") (some (some (.builtin "object.__class__"))) && He.eqO (PySem.W.specialIn K (.builtin "object.__class__") "__get__") (some (some (.builtin "getset_descriptor.__get__"))) && decide (PySem.W.takesIn K (.builtin "object.__class__") = some true) && decide (PySem.W.mroIn K D (.type "object") = some true)
theorem excCB_ok {K : PySem.W.Frag} {D : Addr} (h : excCB K D = true) : ExcC K D := by
  unfold excCB at h
  simp only [Bool.and_eq_true, decide_eq_true_eq] at h
  obtain ⟨⟨⟨⟨⟨⟨⟨h1, h2⟩, h3⟩, h4⟩, h5⟩, h6⟩, h7⟩, h8⟩ := h
  exact ⟨He.eqO_ok h1, He.eqO_ok h2, h3, h4, He.eqO_ok h5, He.eqO_ok h6, h7, h8⟩
def eclB (K : PySem.W.Frag) (ecl : Ecl) : Bool := ecl.all fun p =>
  (((He.Fa.glo p.1).ok K && (He.Fa.exc p.1).ok K) && (excCB K (He.ga K p.1) && decide (PySem.W.kitOne K (.ref (He.ga K p.1)) (.type "ValueError") = some true))) &&
  ecl.all fun q => decide (PySem.W.exmOne K (.ref (He.ga K q.1)) (.ref (He.ga K p.1)) = some (p.2.2.contains q.2.1)) && decide (PySem.W.kitOne K (.ref (He.ga K q.1)) (.ref (He.ga K p.1)) = some (p.2.2.contains q.2.1))
/-- no number twice, no name twice -/
def eclD : Ecl → Bool
  | [] => true
  | p :: r => !(r.any fun q => q.2.1 == p.2.1) && eclD r
theorem eclD_find : ∀ {ecl : Ecl}, eclD ecl = true → ∀ {p}, p ∈ ecl → ecl.find? (fun q => q.2.1 == p.2.1) = some p
  | [], _, p, h => by cases h
  | a :: r, h, p, hp => by
    unfold eclD at h
    obtain ⟨h1, h2⟩ := Bool.and_eq_true_iff.mp h
    by_cases e : a.2.1 = p.2.1
    · rcases List.mem_cons.mp hp with rfl | hp
      · rw [List.find?_cons_of_pos (by simp)]
      · exfalso
        rw [Bool.not_eq_true', List.any_eq_false] at h1
        exact h1 p hp (by simp [e])
    · rcases List.mem_cons.mp hp with rfl | hp
      · exact absurd rfl e
      · rw [List.find?_cons_of_neg (by simpa using e)]
        exact eclD_find h2 hp
theorem eclB_ok {w : World} {K : PySem.W.Frag} {kds : Kds} {ecl : Ecl} {cll : Cll} {h : Heap} {mg : Str → Option Value} {c : CE} (X : K.In h) (G : h.Ns mainGlobals mg) (hb : eclB K ecl = true) (hd : eclD ecl = true) (hc : c.ecl = ecl) : ExcsOk K mg (ctS w K kds ecl cll) c where
  nm := by
    intro x k cs hl
    rw [hc] at hl
    have hm := lookup_mem hl
    obtain ⟨b1, b2⟩ := Bool.and_eq_true_iff.mp (List.all_eq_true.mp hb _ hm)
    obtain ⟨b3, b4⟩ := Bool.and_eq_true_iff.mp b1
    obtain ⟨b5, b6⟩ := Bool.and_eq_true_iff.mp b3
    obtain ⟨x1, x2, x3, x4⟩ := He.exc_ok b6
    refine ⟨He.ga K x, He.glo_ok X G b5, ?_, x1, x2, x3, x4, fun k' C' e => ?_⟩
    · show (ecl.find? fun p => p.2.1 == k).map (fun p => He.ga K p.1) = _
      rw [eclD_find hd hm]
      rfl
    · obtain ⟨q, hq, rfl⟩ := Option.map_eq_some_iff.mp (show (ecl.find? fun p => p.2.1 == k').map (fun p => He.ga K p.1) = some C' from e)
      have ek : q.2.1 = k' := beq_iff_eq.mp (List.find?_some (p := fun p : Str × (Nat × List Nat) => p.2.1 == k') hq)
      have := Bool.and_eq_true_iff.mp (List.all_eq_true.mp b2 _ (List.mem_of_find?_eq_some hq))
      rw [ek] at this
      exact ⟨of_decide_eq_true this.1, of_decide_eq_true this.2⟩
  all := by
    intro k C e
    obtain ⟨q, hq, rfl⟩ := Option.map_eq_some_iff.mp (show (ecl.find? fun p => p.2.1 == k).map (fun p => He.ga K p.1) = some C from e)
    have ek : q.2.1 = k := beq_iff_eq.mp (List.find?_some (p := fun p : Str × (Nat × List Nat) => p.2.1 == k) hq)
    have hm := List.mem_of_find?_eq_some hq
    obtain ⟨b1, b2⟩ := Bool.and_eq_true_iff.mp (List.all_eq_true.mp hb _ hm)
    obtain ⟨b3, b4⟩ := Bool.and_eq_true_iff.mp b1
    obtain ⟨b5, b6⟩ := Bool.and_eq_true_iff.mp b4
    refine ⟨excCB_ok b5, of_decide_eq_true b6, ?_⟩
    rw [hc, List.contains_iff_mem]
    exact List.mem_map.mpr ⟨q, hm, ek⟩
def keyS (z : List Nat) : Str := ⟨z.toArray⟩
def tabS (kds : Kds) : List He.Tab := kds.map fun p => (fun K => He.ga K p.1, p.2.map fun q => keyS q.1)
def atB (K : PySem.W.Frag) (a : Addr) (x : Str) (d : D) : Bool := match PySem.W.nsIn K a x with
  | some (some u) => gvB K d u
  | _ => false
def moreB (kds : Kds) (gcs : List (Str × D)) (ecl : Ecl) (K : PySem.W.Frag) : Bool :=
  (eclB K ecl && decide ((kds.map fun p => He.ga K p.1).Nodup)) && gcs.all (fun g => atB K mainGlobals g.1 g.2) && kds.all (fun p => (!p.2.isEmpty && He.eqO (PySem.W.nsIn K mainGlobals p.1) (some (some (.ref (He.ga K p.1))))) && p.2.all fun q => atB K (He.ga K p.1) (keyS q.1) q.2)
def obsS (fa : List He.Fa) (fn : List He.DefD) (kds : Kds) (gcs : List (Str × D)) (ecl : Ecl) (K : PySem.W.Frag) : He.AlT × Bool := (He.obsT fa fn (tabS kds) K, moreB kds gcs ecl K)
def valS (fn : List He.DefD) (kds : Kds) (w : World) : He.AlT × Bool := (He.valT fn (tabS kds) w, true)
def obsSG (n : Nat) (fa : List He.Fa) (fn : List He.DefD) (kds : Kds) (gcs : List (Str × D)) (ecl : Ecl) (g : Addr → Option Obj) : He.AlT × Bool := obsS fa fn kds gcs ecl (He.frG g (He.asD g n))
def SaysS (fa : List He.Fa) (fn : List He.DefD) (kds : Kds) (gcs : List (Str × D)) (ecl : Ecl) (w : World) (K : PySem.W.Frag) : Prop := obsS fa fn kds gcs ecl K = valS fn kds w
def hookS (n : Nat) (fa : List He.Fa) (fn : List He.DefD) (kds : Kds) (gcs : List (Str × D)) (ecl : Ecl) : PySem.W.Hook where
  α := He.AlT × Bool
  obs := fun s => obsSG n fa fn kds gcs ecl s.heap.get?
  val := fun w => valS fn kds w
  says := fun w h => ∃ K : PySem.W.Frag, K.In h ∧ SaysS fa fn kds gcs ecl w K
  of := fun _ _ e => ⟨_, He.frG_in, e⟩
  keeps := fun _ _ _ ⟨K, hK, c⟩ k => ⟨K, PySem.W.Frag.In.keeps hK k, c⟩
theorem obsSG_eq {n : Nat} {fa : List He.Fa} {fn : List He.DefD} {kds : Kds} {gcs : List (Str × D)} {ecl : Ecl} {g : Addr → Option Obj} {s : Shared} (h : ∀ a, g a = s.heap.get? a) : obsSG n fa fn kds gcs ecl g = (hookS n fa fn kds gcs ecl).obs s := by
  have e : g = s.heap.get? := funext h
  rw [e] <;> rfl
section
variable {fa : List He.Fa} {fn : List He.DefD} {kds : Kds} {gcs : List (Str × D)} {ecl : Ecl} {cll : Cll} {w : World} {K : PySem.W.Frag}
theorem SaysS.t (c : SaysS fa fn kds gcs ecl w K) : He.SaysT fa fn (tabS kds) w K := congrArg (fun z : He.AlT × Bool => z.1) c
theorem SaysS.d (c : SaysS fa fn kds gcs ecl w K) : He.SaysD fa fn K := c.t.d
theorem SaysS.m (c : SaysS fa fn kds gcs ecl w K) : moreB kds gcs ecl K = true := congrArg (fun z : He.AlT × Bool => z.2) c
theorem SaysS.e (c : SaysS fa fn kds gcs ecl w K) : eclB K ecl = true := (Bool.and_eq_true_iff.mp (Bool.and_eq_true_iff.mp (Bool.and_eq_true_iff.mp c.m).1).1).1
theorem SaysS.nd (c : SaysS fa fn kds gcs ecl w K) : (kds.map fun p => He.ga K p.1).Nodup := of_decide_eq_true (Bool.and_eq_true_iff.mp (Bool.and_eq_true_iff.mp (Bool.and_eq_true_iff.mp c.m).1).1).2
theorem find_nd {kds : Kds} (h : (kds.map fun p => He.ga K p.1).Nodup) : ∀ {x : Str} {ps : List (List Nat × D)}, (x, ps) ∈ kds → kds.find? (fun p => He.ga K p.1 == He.ga K x) = some (x, ps) := by
  induction kds with
  | nil => intro x ps hx; cases hx
  | cons a r ih =>
    intro x ps hx
    rw [List.map_cons, List.nodup_cons] at h
    rcases List.mem_cons.mp hx with rfl | hx
    · rw [List.find?_cons_of_pos (by simp)]
    · rw [List.find?_cons_of_neg, ih h.2 hx]
      simp only [beq_iff_eq]
      intro e
      exact h.1 (List.mem_map.mpr ⟨(x, ps), hx, e.symm⟩)
theorem SaysS.fact (c : SaysS fa fn kds gcs ecl w K) (i : Nat) {f : He.Fa} (h : fa[i]? = some f := by rfl) : f.ok K = true := c.d.fact i h
theorem SaysS.def_ (c : SaysS fa fn kds gcs ecl w K) (i : Nat) {d : He.DefD} (h : fn[i]? = some d := by rfl) : ∃ fd, FunD K d.name d.qual d.params d.body d.scope (d.dvs K) (d.kws K) (He.fAd K d.at_) fd := c.d.def_ i h
theorem atB_ok {ct : CT} {a : Addr} {x : Str} {d : D} (h : atB K a x d = true) : ∃ u v, PySem.W.nsIn K a x = some (some u) ∧ RelV v u ∧ ∀ H, Den K ct H v d := by
  unfold atB at h
  split at h
  · rename_i u e
    obtain ⟨v, r, hv⟩ := gvB_ok (ct := ct) h
    exact ⟨u, v, e, r, hv⟩
  · cases h
theorem SaysS.gc {ct : CT} {h : Heap} {mg : Str → Option Value} (c : SaysS fa fn kds gcs ecl w K) (X : K.In h) (G : h.Ns mainGlobals mg) {x : Str} {d : D} (hx : (x, d) ∈ gcs) : ∃ u v, mg x = some u ∧ RelV v u ∧ ∀ H, Den K ct H v d := by
  have := List.all_eq_true.mp (Bool.and_eq_true_iff.mp (Bool.and_eq_true_iff.mp c.m).1).2 _ hx
  obtain ⟨u, v, e, r, hv⟩ := atB_ok (ct := ct) this
  exact ⟨u, v, PySem.W.mg_of X G e, r, hv⟩
theorem SaysS.gd {h : Heap} {mg : Str → Option Value} (c : SaysS fa fn kds gcs ecl w K) (X : K.In h) (G : h.Ns mainGlobals mg) {x : Str} {ps : List (List Nat × D)} (hm : (x, ps) ∈ kds) : ∃ u v, mg x = some u ∧ RelV v u ∧ ∀ H, Den K (ctS w K kds ecl cll) H v (.dic (kdD ps)) := by
  have hx := find_nd c.nd hm
  have := List.all_eq_true.mp (Bool.and_eq_true_iff.mp c.m).2 _ hm
  have e := He.eqO_ok (Bool.and_eq_true_iff.mp (Bool.and_eq_true_iff.mp this).1).2
  refine ⟨_, .ref (He.ga K x), PySem.W.mg_of X G e, rfl, fun H => .dW ?_⟩
  show (kds.find? fun p => He.ga K p.1 == He.ga K x).map (·.2) = some ps
  rw [hx]; rfl
theorem lookD_some {z : List Nat} {d : D} : ∀ {ps : List (List Nat × D)}, lookD (.str z) (kdD ps) = some d → (z, d) ∈ ps
  | [], h => by cases h
  | p :: ps, h => by
    have h : (if eqD (.str p.1) (.str z) then some p.2 else lookD (.str z) (kdD ps)) = some d := h
    split at h
    · rename_i e
      have e : p.1 = z := by simpa [eqD] using e
      cases h
      rw [← e]
      simp
    · exact List.mem_cons_of_mem _ (lookD_some h)
theorem lookD_none {z : List Nat} : ∀ {ps : List (List Nat × D)}, lookD (.str z) (kdD ps) = none → ∀ q ∈ ps, q.1 ≠ z
  | [], h, q, hq => by cases hq
  | p :: ps, h, q, hq => by
    have h : (if eqD (.str p.1) (.str z) then some p.2 else lookD (.str z) (kdD ps)) = none := h
    split at h
    · cases h
    · rename_i e
      rcases List.mem_cons.mp hq with rfl | hq
      · intro z
        exact e (by simp [eqD, z])
      · exact lookD_none h q hq
theorem ns_none {a : Addr} {es : Array DictEntry} {n : Nat} (D : KDict K w a es n) {ks : List Str} (h : He.dicW K a = some (He.keysIn w.params ks)) {x : Str} (hx : x ∉ ks) : PySem.W.nsIn K a x = some none := by
  have h2 : es.toList.map He.keyOf = He.keysIn w.params ks := by
    unfold He.dicW at h
    rw [D.at_] at h
    simp only at h
    split at h
    · exact Option.some.inj h
    · cases h
  unfold PySem.W.nsIn
  rw [D.at_]
  simp only
  have hall := D.lit.all
  have e1 : es.toList.find? (·.key.isStr x) = none := by
    rw [List.find?_eq_none]
    intro e he q
    obtain ⟨y, t, hk, hh⟩ := hall e he
    rw [hk] at q
    have q : y = x := by simpa [Value.isStr] using q
    subst q
    have : He.keyOf e ∈ es.toList.map He.keyOf := List.mem_map_of_mem he
    rw [h2] at this
    obtain ⟨k, hk1, hk2⟩ := List.mem_map.mp this
    unfold He.keyOf at hk2
    rw [hk] at hk2
    have hk3 := (Prod.mk.inj (Option.some.inj hk2)).1
    exact hx (hk3 ▸ hk1)
  rw [e1]
  simp only
  rw [if_neg]
  intro q
  obtain ⟨e, he, hq⟩ := List.any_eq_true.mp q
  obtain ⟨y, t, hk, hh⟩ := hall e he
  simp [DictEntry.refKey, hk] at hq
theorem kdS (c : SaysS fa fn kds gcs ecl w K) : KdOk K w (ctS w K kds ecl cll) := by
  refine ⟨rfl, ?_⟩
  intro a ps h
  obtain ⟨⟨x, ps2⟩, hf, e⟩ := Option.map_eq_some_iff.mp (show (kds.find? fun p => He.ga K p.1 == a).map (·.2) = some ps from h)
  have e : ps2 = ps := e
  rw [e] at hf
  have hm : (x, ps) ∈ kds := List.mem_of_find?_eq_some hf
  have ha : He.ga K x = a := by
    have := List.find?_some hf
    exact beq_iff_eq.mp this
  subst ha
  have hb := List.all_eq_true.mp (Bool.and_eq_true_iff.mp c.m).2 _ hm
  obtain ⟨hb1, hb2⟩ := Bool.and_eq_true_iff.mp hb
  have hne : ps ≠ [] := by
    have := (Bool.and_eq_true_iff.mp hb1).1
    intro z
    subst z
    simp at this
  obtain ⟨i, hi, hg⟩ := List.getElem_of_mem hm
  have ht : (tabS kds)[i]? = some (fun K => He.ga K x, ps.map fun q => keyS q.1) := by
    unfold tabS
    rw [List.getElem?_map, List.getElem?_eq_getElem hi, hg]
    rfl
  obtain ⟨es, n, kd⟩ := c.t.tab i ht
  have hd : He.dicW K (He.ga K x) = some (He.keysIn w.params (ps.map fun q => keyS q.1)) := by
    have e : (tabS kds).map (fun t => He.dicW K (t.1 K)) = (tabS kds).map fun t => some (He.keysIn w.params t.2) := congrArg (fun z : He.AlT => z.2) c.t
    have e2 : ((tabS kds).map fun t => He.dicW K (t.1 K))[i]? = ((tabS kds).map fun t => some (He.keysIn w.params t.2))[i]? := by rw [e]
    rw [List.getElem?_map, List.getElem?_map, ht] at e2
    exact Option.some.inj e2
  refine ⟨hne, ⟨es, n, kd⟩, fun z => ?_⟩
  cases q : lookD (.str z) (kdD ps) with
  | some d =>
    obtain ⟨u, v, e, r, hv⟩ := atB_ok (ct := ctS w K kds ecl cll) (List.all_eq_true.mp hb2 _ (lookD_some q))
    exact ⟨some u, e, u, v, rfl, r, hv⟩
  | none =>
    refine ⟨none, ns_none kd hd fun hk => ?_, rfl⟩
    obtain ⟨p, hp, e⟩ := List.mem_map.mp hk
    have : p.1 = z := by
      have := congrArg (fun s : Str => s.cps.toList) e
      simpa [keyS] using this
    exact lookD_none q p hp this
/-- the classes, by the head's facts -/
theorem clsS {c : CE} {tabL : List (Nat × Fn)} {tab : Nat → Option Fn} (htab : tab = fun k => tabL.lookup k) (h1 : AllP (fun p : Nat × (Str × List Str) => Cls K (He.ga K p.2.1) ∧ AllP (fun f => NoAttr K (He.ga K p.2.1) f) p.2.2 ∧ flT tab p.1 = p.2.2 ∧ p.2.2 ≠ []) cll)
    (h2 : AllP (fun p : Nat × Fn => match p.2.cls with | none => True | some i => ∃ x, cll.lookup p.1 = some (x, i.fields) ∧ AllP (fun q : Str × Nat => q.1 ∉ i.fields ∧ MethOk K c tab (He.ga K x) q.1 q.2) i.meths) tabL) : ClsOk K (ctS w K kds ecl cll) c tab := by
  have at_ : ∀ {k C ns}, (ctS w K kds ecl cll).cl k = some (C, ns) → ∃ x, (k, (x, ns)) ∈ cll ∧ C = He.ga K x := by
    intro k C ns h
    obtain ⟨⟨x, ns'⟩, h3, h4⟩ := Option.map_eq_some_iff.mp (show (cll.lookup k).map (fun p => (He.ga K p.1, p.2)) = some (C, ns) from h)
    cases h4
    exact ⟨x, lookup_mem h3, rfl⟩
  refine ⟨fun k C h => ?_, fun k C ns h => ?_, fun k m k' h => ?_⟩
  · obtain ⟨x, hx, _⟩ := at_ h
    exact (h1.mem hx).2.2.2 rfl
  · obtain ⟨x, hx, rfl⟩ := at_ h
    obtain ⟨g1, g2, g3, _⟩ := h1.mem hx
    exact ⟨g1, fun f hf => g2.mem hf, g3⟩
  · unfold methT at h
    cases q : tab k with
    | none => rw [q] at h; cases h
    | some f =>
      rw [q] at h
      dsimp only at h
      have q2 : tabL.lookup k = some f := by rw [htab] at q; exact q
      have z := h2.mem (lookup_mem q2)
      cases q3 : f.cls with
      | none => rw [q3] at h; cases h
      | some i =>
        rw [q3] at h
        dsimp only at z
        rw [q3] at z
        obtain ⟨x, z1, z2⟩ := z
        obtain ⟨z3, z4⟩ := z2.mem (lookup_mem h)
        refine ⟨He.ga K x, i.fields, ?_, z3, z4⟩
        show (cll.lookup k).map (fun p => (He.ga K p.1, p.2)) = some (He.ga K x, i.fields)
        rw [z1]
        rfl
end
end Tk
/-! What the reader of shapes reads; D.get(k, x) of a module's own dict. -/
namespace Tk
open PySem PySem.Spec PyProof.Rows L2
open D
/-- the sign at a place, nothing behind the end -/
def sgAt (t : List Nat) (n : Nat) : List Nat := (t.drop n).take 1
def isSg (c : Nat) : Bool := c == 48 || c == 49 || c == 97 || c == 98
def wordOf (c : List Nat) : List Nat := if c == [32] then [116, 104, 101, 110] else if c == [124] then [111, 114] else if c == [38] then [97, 110, 100] else []
/-- the shape that is read from a place on, no deeper than told, and the place behind it -/
def rdS (t : List Nat) : Nat → Nat → Option (D × Nat)
  | 0, _ => none
  | l + 1, n => match sgAt t n with
    | [] => none
    | c :: _ =>
      if isSg c then some (.tup [.str [115, 105, 103, 110, 115], .str [c]], n + 1)
      else if c = 33 then (rdS t l (n + 1)).map fun p => (.tup [.str [110, 111, 116], p.1], p.2)
      else if c = 42 then (rdS t l (n + 1)).map fun p => (.tup [.str [109, 97, 110, 121], p.1], p.2)
      else if c = 123 then (if sgAt t (n + 1) = [125] then some (.tup [.str [110, 111, 110, 101]], n + 2) else none)
      else if c = 91 then
        (let w := (t.drop (n + 1)).takeWhile isSg
         if sgAt t (n + 1 + w.length) = [93] then some (.tup [.str [115, 105, 103, 110, 115], .str w], n + 1 + w.length + 1) else none)
      else if c ≠ 40 then none
      else if sgAt t (n + 1) = [41] then some (.tup [.str [101, 109, 112, 116, 121]], n + 2)
      else match rdS t l (n + 1) with
        | none => none
        | some (d1, m) => match rdS t l (m + 1) with
          | none => none
          | some (d2, m2) => if sgAt t m2 = [41] then some (.tup [.str (wordOf (sgAt t m)), d1, d2], m2 + 1) else none
/-- read(text): kI, kW the numbers of is_shape and written, kE that of the error -/
def readX (kI kW kE : Nat) (L : Nat) (Φ : Nat → List D → Res D) (ds : List D) : Res D := match ds with
  | [.str t] => if L < 20 ∨ ¬ t.length ≤ 100000 then .bad else
    (match rdS t 15 0 with
      | none => .exc kE
      | some (d, m) => if m ≠ t.length then .exc kE else
        (Φ kI [d]).bind fun b => (asBl b).bind fun k => if k then
          (Φ kW [d]).bind fun u => (cmpD .ne u (.str t)).bind fun r => (asBl r).bind fun q => if q then .exc kE else .ok d
        else .exc kE)
  | _ => .bad
section
variable {X : Cx} {d : Addr} {es : Array DictEntry} {n : Nat} {o e f : Expr} {ty : TE} {z0 : V} {apos cpos : Pos}
theorem pe_kget2 (D : KDict X.K X.w d es n) (ho : PE X o (tC (.ref d))) (he : PE X e ty) (hf : PE X f (tC z0)) (m : M2 X o "get" apos e f cpos) :
    PE X (.Call (.Attribute o "get" apos) [e, f] [] cpos) (fun σ H Q => ty σ H fun y H2 => ∃ z r, y = .str z ∧ PySem.W.nsIn X.K d z = some r ∧ (match r with | some u => ∃ v, RelV v u ∧ Q v H2 | none => Q z0 H2)) := by
  refine ⟨fun pins s σ H Q I h => ?_⟩
  have g0 := ho.run pins s σ H (fun x H1 => x = .ref d ∧ H1 = H) I ⟨rfl, rfl⟩
  refine wpAny_Call_method m.base m.few m.line PySem.F.plainAttrs_dict PySem.F.slot_dict_get PySem.F.type_dict_get (thn g0 fun u s1 ⟨x, H1, I1, rx, ex, eH⟩ => ?_)
  subst ex
  subst eH
  cases rx
  have hty := kd_type D I1
  refine ⟨hty, fun a ea => ?_, ?_⟩
  · cases ea
    obtain ⟨ob, h1, h2⟩ := hty
    have := I1.kIn _ _ D.at_
    exact ⟨_, this, rfl⟩
  rw [m.trees]
  refine wpAny_dict_get2 (knd := strKind X.prog X.w) D.low (thn (he.run pins s1 σ H1 _ I1 h) fun iv s2 ⟨y, H2, I2, ry, z, r, ey, en, q⟩ => thn (hf.run pins s2 σ H2 (fun x H3 => x = z0 ∧ H3 = H2) I2 ⟨rfl, rfl⟩) fun fv s3 ⟨x3, H3, I3, r3, e3, e4⟩ => ?_)
  subst ey e3 e4
  obtain ⟨t, rfl⟩ := ry
  refine ⟨z, _, PySem.strKind_is X.prog X.w z t, PySem.W.mapOf_K (prog := X.prog) I3.kIn D.at_ D.lit, ?_⟩
  rw [PySem.W.find_K D.at_ en]
  cases r with
  | some u =>
    obtain ⟨v, rv, qv⟩ := q
    exact ⟨v, H3, I3.tok _, rv, qv⟩
  | none => exact ⟨x3, H3, I3.tok _, r3, q⟩
end
/-! ### a sign among the signs -/
theorem found_sg (c : Nat) : (!(Builtin.Str.occurrences ⟨#[48, 49, 97, 98]⟩ ⟨#[c]⟩ 0 4 1).isEmpty) = isSg c := by
  have h := PySem.StrLaws.found_one ⟨#[48, 49, 97, 98]⟩ c
  have e : (⟨#[48, 49, 97, 98]⟩ : Str).length = 4 := rfl
  rw [e] at h
  rw [h]
  unfold isSg
  by_cases h1 : c = 48 <;> by_cases h2 : c = 49 <;> by_cases h3 : c = 97 <;> by_cases h4 : c = 98 <;> simp [h1, h2, h3, h4]
theorem found_nil : (!(Builtin.Str.occurrences ⟨#[48, 49, 97, 98]⟩ ⟨#[]⟩ 0 4 1).isEmpty) = true := by decide +kernel
/-! ### the reader's fields -/
theorem tp_ : ¬ (("text" : Str) = "place") := by decide +kernel
theorem pt_ : ¬ (("place" : Str) = "text") := by decide +kernel
def rf (t : Str) (n : Int) : List (Str × V) := putF "place" (.int n) (putF "text" (.str t) [])
theorem rf_text (t : Str) (n : Int) : (rf t n).lookup ("text" : Str) = some (.str t) := by
  unfold rf
  rw [lookup_putF, if_neg tp_, lookup_putF, if_pos rfl]
theorem rf_place (t : Str) (n : Int) : (rf t n).lookup ("place" : Str) = some (.int n) := by
  unfold rf
  rw [lookup_putF, if_pos rfl]
theorem rf_no (t : Str) (n : Int) {m : Str} (h1 : ¬ m = "place") (h2 : ¬ m = "text") : (rf t n).lookup m = none := by
  unfold rf
  rw [lookup_putF, if_neg h1, lookup_putF, if_neg h2]
  rfl
theorem rf_eq (t : Str) (n : Int) : rf t n = ([("text", V.str t), ("place", V.int n)] : List (Str × V)) := by
  show (if ("text" : Str) = "place" then [(("text" : Str), V.int n)] else (("text" : Str), V.str t) :: putF "place" (V.int n) []) = _
  rw [if_neg tp_]
  rfl
theorem rf_put (t : Str) (n m : Int) : putF "place" (.int m) (rf t n) = rf t m := by
  rw [rf_eq, rf_eq]
  show (if ("text" : Str) = "place" then _ else (("text" : Str), V.str t) :: (if ("place" : Str) = "place" then [(("place" : Str), V.int m)] else _)) = _
  rw [if_neg tp_, if_pos rfl]
theorem rf_len (t : Str) (n : Int) : (rf t n).length < 1000 := by rw [rf_eq]; show 2 < 1000; decide
end Tk
/-! Running the small language by simp. -/
namespace Tk
open PySem PySem.Spec PyProof.Rows L2
open D
def getV (ρ : En) (i : Nat) : Res D := match ρ[i]? with | some (some d) => .ok d | _ => .bad
@[simp] theorem getV_zero (d : D) (ρ : En) : getV (some d :: ρ) 0 = .ok d := rfl
@[simp] theorem getV_succ (x : Option D) (ρ : En) (i : Nat) : getV (x :: ρ) (i + 1) = getV ρ i := rfl
section
variable (A : Ar) (ρ : En)
@[simp] theorem ev_var (i : Nat) : ev A (.var i) ρ = getV ρ i := rfl
@[simp] theorem ev_con (d : D) : ev A (.con d) ρ = .ok d := rfl
@[simp] theorem ev_tup (es : List SE) : ev A (.tup es) ρ = (evs A es ρ).bind fun ds => .ok (.tup ds) := rfl
@[simp] theorem ev_lst (es : List SE) : ev A (.lst es) ρ = (evs A es ρ).bind fun ds => .ok (.lst ds) := rfl
@[simp] theorem ev_bin (op : Bo) (a b : SE) : ev A (.bin op a b) ρ = (ev A a ρ).bind fun x => (ev A b ρ).bind fun y => binD op x y := rfl
@[simp] theorem ev_neg (a : SE) : ev A (.neg a) ρ = (ev A a ρ).bind fun x => (asInt x).bind fun i => .ok (.int (-i)) := rfl
@[simp] theorem ev_nt (a : SE) : ev A (.nt a) ρ = (ev A a ρ).bind fun x => (asBl x).bind fun b => .ok (.bl (!b)) := rfl
@[simp] theorem ev_cmp (op : Co) (a b : SE) : ev A (.cmp op a b) ρ = (ev A a ρ).bind fun x => (ev A b ρ).bind fun y => cmpD op x y := rfl
@[simp] theorem ev_cmp2 (op op' : Co) (a b c : SE) : ev A (.cmp2 op op' a b c) ρ = (ev A a ρ).bind fun x => (ev A b ρ).bind fun y => (cmpD op x y).bind fun r => (asBl r).bind fun k => if k then (ev A c ρ).bind fun z => cmpD op' y z else .ok (.bl false) := rfl
@[simp] theorem ev_an (a b : SE) : ev A (.an a b) ρ = (ev A a ρ).bind fun x => (asBl x).bind fun k => if k then (ev A b ρ).bind fun y => (asBl y).bind fun q => .ok (.bl q) else .ok (.bl false) := rfl
@[simp] theorem ev_orr (a b : SE) : ev A (.orr a b) ρ = (ev A a ρ).bind fun x => (asBl x).bind fun k => if k then .ok (.bl true) else (ev A b ρ).bind fun y => (asBl y).bind fun q => .ok (.bl q) := rfl
@[simp] theorem ev_ite (c a b : SE) : ev A (.ite c a b) ρ = (ev A c ρ).bind fun x => (asBl x).bind fun k => if k then ev A a ρ else ev A b ρ := rfl
@[simp] theorem ev_ix (a i : SE) : ev A (.ix a i) ρ = (ev A a ρ).bind fun x => (ev A i ρ).bind fun y => ixD x y := rfl
@[simp] theorem ev_sl (a : SE) (lo hi : Option SE) : ev A (.sl a lo hi) ρ = (ev A a ρ).bind fun x => (evo A lo ρ).bind fun l => (evo A hi ρ).bind fun h => slD x l h := rfl
@[simp] theorem ev_rev (a : SE) : ev A (.rev a) ρ = (ev A a ρ).bind revD := rfl
@[simp] theorem ev_call (f : Nat) (es : List SE) : ev A (.call f es) ρ = (evs A es ρ).bind fun ds => A.Φ f ds := rfl
@[simp] theorem ev_bi (b : Bi) (es : List SE) : ev A (.bi b es) ρ = (evs A es ρ).bind fun ds => biD b ds := rfl
@[simp] theorem ev_me (b : Bi) (o : SE) (es : List SE) : ev A (.me b o es) ρ = (ev A o ρ).bind fun x => if recv b x then (evs A es ρ).bind fun ds => biD b (x :: ds) else .bad := rfl
theorem ev_lc (t : List Nat) (one : Bool) (it : SI) (ifs : List SE) (elt : SE) : ev A (.lc t one it ifs elt) ρ = (evi A it ρ).bind fun ds => (compL (turnF A t one ifs elt ρ) ds).bind fun r => if okN r.length then .ok (.lst r) else .bad := rfl
@[simp] theorem evs_nil : evs A [] ρ = .ok [] := rfl
@[simp] theorem evs_cons (e : SE) (es : List SE) : evs A (e :: es) ρ = (ev A e ρ).bind fun x => (evs A es ρ).bind fun r => .ok (x :: r) := rfl
@[simp] theorem evo_none : evo A none ρ = .ok none := rfl
@[simp] theorem evo_some (e : SE) : evo A (some e) ρ = (ev A e ρ).bind fun x => (asInt x).bind fun i => .ok (some i) := rfl
@[simp] theorem evc_nil : evc A [] ρ = .ok true := rfl
@[simp] theorem evc_cons (e : SE) (es : List SE) : evc A (e :: es) ρ = (ev A e ρ).bind fun x => (asBl x).bind fun k => if k then evc A es ρ else .ok false := rfl
@[simp] theorem evi_of (a : SE) : evi A (.of a) ρ = (ev A a ρ).bind itemsG := rfl
@[simp] theorem evi_rev (a : SE) : evi A (.rev a) ρ = (ev A a ρ).bind fun x => match x with | .lst xs => .ok xs.reverse | .tup xs => .ok xs.reverse | _ => .bad := rfl
@[simp] theorem evi_zip (a b : SE) : evi A (.zip a b) ρ = (ev A a ρ).bind fun x => (ev A b ρ).bind fun y => (itemsD x).bind fun ds => (itemsD y).bind fun es => .ok (zipL ds es) := rfl
@[simp] theorem evi_enm (a : SE) : evi A (.enm a) ρ = (ev A a ρ).bind fun x => (itemsD x).bind fun ds => .ok (enumL 0 ds) := rfl
@[simp] theorem evi_rng (a b : SE) : evi A (.rng a b) ρ = (ev A a ρ).bind fun x => (ev A b ρ).bind fun y => (asInt x).bind fun i => (asInt y).bind fun j => if small62 i && small62 j then .ok (rangeL i j) else .bad := rfl
@[simp] theorem run_nil : run A [] ρ = .nx ρ := rfl
@[simp] theorem run_cons (s : SS) (r : List SS) : run A (s :: r) ρ = (run1 A s ρ).then fun ρ' => run A r ρ' := rfl
@[simp] theorem run1_asg (i : Nat) (e : SE) : run1 A (.asg i e) ρ = withR ρ (ev A e ρ) fun d => .nx (ρ.set i (some d)) := rfl
@[simp] theorem run1_asgF (i : Nat) (e : SE) : run1 A (.asgF i e) ρ = withR ρ (ev A e ρ) fun d => .nx (ρ.set i (some d)) := rfl
@[simp] theorem run1_asgT (t : List Nat) (e : SE) : run1 A (.asgT t e) ρ = withR ρ (ev A e ρ) fun d => match bindT t false d ρ with | some ρ' => .nx ρ' | none => .bad := rfl
@[simp] theorem run1_ret (e : SE) : run1 A (.ret e) ρ = withR ρ (ev A e ρ) fun d => .rt d := rfl
@[simp] theorem run1_retN : run1 A .retN ρ = .rt .non := rfl
@[simp] theorem run1_ifs (c : SE) (a b : List SS) : run1 A (.ifs c a b) ρ = withR ρ (ev A c ρ) fun x => withR ρ (asBl x) fun k => if k then run A a ρ else run A b ρ := rfl
def forB (t : List Nat) (one : Bool) (body : List SS) (d : D) (ρ : En) : Fl := match bindT t one d ρ with | some ρ' => run A body ρ' | none => .bad
@[simp] theorem forB_one (i : Nat) (body : List SS) (d : D) : forB A [i] true body d ρ = run A body (ρ.set i (some d)) := rfl
@[simp] theorem forB_two (i j : Nat) (body : List SS) (x y : D) : forB A [i, j] false body (.tup [x, y]) ρ = run A body ((ρ.set i (some x)).set j (some y)) := rfl
@[simp] theorem run1_forr (t : List Nat) (one : Bool) (it : SI) (body : List SS) : run1 A (.forr t one it body) ρ = withR ρ (evi A it ρ) fun ds => forL (forB A t one body) ds ρ := rfl
theorem run1_whl (c : SE) (body : List SS) : run1 A (.whl c body) ρ = whlL (fun ρ => (ev A c ρ).bind asBl) (fun ρ => run A body ρ) A.F ρ := rfl
def whlR (c : SE) (body : List SS) (n : Nat) (ρ : En) : Fl := whlL (fun ρ => (ev A c ρ).bind asBl) (fun ρ => run A body ρ) n ρ
theorem run1_whlR (c : SE) (body : List SS) : run1 A (.whl c body) ρ = whlR A c body A.F ρ := rfl
theorem whlR_succ (c : SE) (body : List SS) (n : Nat) : whlR A c body (n + 1) ρ = match (ev A c ρ).bind asBl with
    | .ok true => (match run A body ρ with
      | .nx ρ' => whlR A c body n ρ'
      | .bk ρ' => .nx ρ'
      | .rt d => .rt d
      | .exc c ρ' => .exc c ρ'
      | .bad => .bad)
    | .ok false => .nx ρ
    | .exc e => .exc e ρ
    | .bad => .bad := rfl
@[simp] theorem run1_brk : run1 A .brk ρ = .bk ρ := rfl
@[simp] theorem run1_pass : run1 A .pass ρ = .nx ρ := rfl
@[simp] theorem run1_ex (e : SE) : run1 A (.ex e) ρ = withR ρ (ev A e ρ) fun _ => .nx ρ := rfl
@[simp] theorem run1_rse (c : Nat) : run1 A (.rse c) ρ = .exc c ρ := rfl
def appD (ρ : En) (i : Nat) (r : Res D) : Fl := match ρ[i]? with
    | some (some (.lst xs)) => withR ρ r fun d => if decide (xs.length < big) then .nx (ρ.set i (some (.lst (xs ++ [d])))) else .bad
    | _ => .bad
def setKD (ρ : En) (i : Nat) (re rk : Res D) : Fl := match ρ[i]? with
    | some (some (.gd ps)) => withR ρ re fun d => withR ρ rk fun kd => if kyB kd && decide (ps.length < big) then .nx (ρ.set i (some (.gd (setD kd d ps)))) else .bad
    | _ => .bad
@[simp] theorem run1_setK (i : Nat) (k e : SE) : run1 A (.setK i k e) ρ = setKD ρ i (ev A e ρ) (ev A k ρ) := rfl
def extDD (ρ : En) (i : Nat) (r : Res D) : Fl := match ρ[i]? with
    | some (some (.lst xs)) => withR ρ r fun d => (match d with
      | .lst ys => if okN (xs.length + ys.length) then .nx (ρ.set i (some (.lst (xs ++ ys)))) else .bad
      | _ => .bad)
    | _ => .bad
@[simp] theorem run1_ext (i : Nat) (e : SE) : run1 A (.ext i e) ρ = extDD ρ i (ev A e ρ) := rfl
@[simp] theorem ev_dict1 (k v : SE) : ev A (.dict [k] [v]) ρ = (ev A k ρ).bind fun x => (ev A v ρ).bind fun y => if kyB x then .ok (.gd [(x, y)]) else .bad := by
  show ((evs A [k] ρ).bind fun xs => (evs A [v] ρ).bind fun ys => match xs, ys with | [x], [y] => if kyB x then Res.ok (D.gd [(x, y)]) else .bad | _, _ => .bad) = _
  simp only [evs_cons, evs_nil]
  cases ev A k ρ <;> cases ev A v ρ <;> rfl
@[simp] theorem run1_app (i : Nat) (e : SE) : run1 A (.app i e) ρ = appD ρ i (ev A e ρ) := rfl
end
@[simp] theorem len_g (ps : List (D × D)) : biD .len [.gd ps] = .ok (.int ps.length) := rfl
@[simp] theorem list_g (ps : List (D × D)) : biD .list [.gd ps] = .ok (.lst (ps.map (·.1))) := rfl
@[simp] theorem isin_g (x : D) (ps : List (D × D)) : cmpD .isin x (.gd ps) = if kyB x then .ok (.bl (ps.any fun p => eqD p.1 x)) else .bad := by cases x <;> rfl
@[simp] theorem notin_g (x : D) (ps : List (D × D)) : cmpD .notin x (.gd ps) = if kyB x then .ok (.bl (!(ps.any fun p => eqD p.1 x))) else .bad := by cases x <;> rfl
@[simp] theorem ix_g (x : D) (ps : List (D × D)) : ixD (.gd ps) x = if kyB x then (match lookD x ps with | some d => .ok d | none => .bad) else .bad := by cases x <;> rfl
@[simp] theorem asBl_bl (b : Bool) : asBl (.bl b) = .ok b := rfl
@[simp] theorem asInt_int (b : Int) : asInt (.int b) = .ok b := rfl
@[simp] theorem add_ii (i j : Int) : binD .add (.int i) (.int j) = .ok (.int (i + j)) := rfl
@[simp] theorem sub_ii (i j : Int) : binD .sub (.int i) (.int j) = .ok (.int (i - j)) := rfl
@[simp] theorem mul_ii (i j : Int) : binD .mul (.int i) (.int j) = if inR i || inR j then .ok (.int (i * j)) else .bad := rfl
@[simp] theorem mod_ii (i j : Int) : binD .mod (.int i) (.int j) = if decide (0 < j) then .ok (.int (i % j)) else .bad := rfl
@[simp] theorem fdiv_ii (i j : Int) : binD .fdiv (.int i) (.int j) = if decide (0 < j) && decide (j < 1073741824) then .ok (.int (i / j)) else .bad := rfl
@[simp] theorem add_ss (x y : List Nat) : binD .add (.str x) (.str y) = if okN (x.length + y.length) then .ok (.str (x ++ y)) else .bad := rfl
@[simp] theorem add_ll (x y : List D) : binD .add (.lst x) (.lst y) = if okN (x.length + y.length) then .ok (.lst (x ++ y)) else .bad := rfl
@[simp] theorem add_tt (x y : List D) : binD .add (.tup x) (.tup y) = if okN (x.length + y.length) then .ok (.tup (x ++ y)) else .bad := rfl
@[simp] theorem mul_ti (x : List D) (k : Int) : binD .mul (.tup x) (.int k) = if decide (2 ≤ k) && decide (k ≤ 1000) && decide (x.length ≤ 1000) && !x.isEmpty then .ok (.tup (repL x k)) else .bad := rfl
@[simp] theorem lt_ii (i j : Int) : cmpD .lt (.int i) (.int j) = .ok (.bl (decide (i < j))) := rfl
@[simp] theorem le_ii (i j : Int) : cmpD .le (.int i) (.int j) = .ok (.bl (decide (i ≤ j))) := rfl
@[simp] theorem gt_ii (i j : Int) : cmpD .gt (.int i) (.int j) = .ok (.bl (decide (j < i))) := rfl
@[simp] theorem ge_ii (i j : Int) : cmpD .ge (.int i) (.int j) = .ok (.bl (decide (j ≤ i))) := rfl
@[simp] theorem eq_ii (i j : Int) : cmpD .eq (.int i) (.int j) = .ok (.bl (i == j)) := by simp [cmpD, sh, pln, dep, eqD]
@[simp] theorem ne_ii (i j : Int) : cmpD .ne (.int i) (.int j) = .ok (.bl (!(i == j))) := by simp [cmpD, sh, pln, dep, eqD]
@[simp] theorem eq_bb (i j : Bool) : cmpD .eq (.bl i) (.bl j) = .ok (.bl (i == j)) := by simp [cmpD, sh, pln, dep, eqD]
@[simp] theorem ne_bb (i j : Bool) : cmpD .ne (.bl i) (.bl j) = .ok (.bl (!(i == j))) := by simp [cmpD, sh, pln, dep, eqD]
@[simp] theorem eq_scr (ns : List Int) : cmpD .eq (.scr ns) (.lst []) = .ok (.bl ns.isEmpty) := rfl
@[simp] theorem len_l (xs : List D) : biD .len [.lst xs] = .ok (.int xs.length) := rfl
@[simp] theorem len_t (xs : List D) : biD .len [.tup xs] = .ok (.int xs.length) := rfl
@[simp] theorem len_scr (xs : List Int) : biD .len [.scr xs] = .ok (.int xs.length) := rfl
@[simp] theorem len_s (xs : List Nat) : biD .len [.str xs] = if okN xs.length then .ok (.int xs.length) else .bad := rfl
@[simp] theorem int_i (i : Int) : biD .int [.int i] = .ok (.int i) := rfl
@[simp] theorem int_b (b : Bool) : biD .int [.bl b] = .ok (.int (if b then 1 else 0)) := rfl
@[simp] theorem tuple_l (xs : List D) : biD .tuple [.lst xs] = .ok (.tup xs) := rfl
@[simp] theorem tuple_t (xs : List D) : biD .tuple [.tup xs] = .ok (.tup xs) := rfl
@[simp] theorem list_l (xs : List D) : biD .list [.lst xs] = .ok (.lst xs) := rfl
@[simp] theorem list_t (xs : List D) : biD .list [.tup xs] = .ok (.lst xs) := rfl
@[simp] theorem bi_isi' (t : Nat) (d : D) : biD (.isi t) [d] = isiD t d := rfl
@[simp] theorem ix_l (xs : List D) (i : Int) : ixD (.lst xs) (.int i) = match atI xs i with | some d => .ok d | none => .bad := rfl
@[simp] theorem ix_t (xs : List D) (i : Int) : ixD (.tup xs) (.int i) = match atI xs i with | some d => .ok d | none => .bad := rfl
@[simp] theorem ix_scr (xs : List Int) (i : Int) : ixD (.scr xs) (.int i) = match atI xs i with | some d => .ok (.int d) | none => .bad := rfl
@[simp] theorem ix_s (xs : List Nat) (i : Int) : ixD (.str xs) (.int i) = if okN xs.length then (match atI xs i with | some c => .ok (.str [c]) | none => .bad) else .bad := rfl
@[simp] theorem items_l (xs : List D) : itemsD (.lst xs) = .ok xs := rfl
@[simp] theorem items_t (xs : List D) : itemsD (.tup xs) = .ok xs := rfl
@[simp] theorem itemsG_l (xs : List D) : itemsG (.lst xs) = .ok xs := rfl
@[simp] theorem itemsG_t (xs : List D) : itemsG (.tup xs) = .ok xs := rfl
@[simp] theorem itemsG_g (ps : List (D × D)) : itemsG (.gd ps) = .ok (ps.map (·.1)) := rfl
@[simp] theorem itemsG_s (z : List Nat) : itemsG (.str z) = .ok (z.map fun c => D.str [c]) := rfl
@[simp] theorem items_s (z : List Nat) : itemsD (.str z) = .ok (z.map fun c => D.str [c]) := rfl
@[simp] theorem Ar_Phi (tab : Nat → Option Fn) (F L : Nat) : (ArOf tab F L).Φ = Phi tab F L := rfl
@[simp] theorem Ar_F (tab : Nat → Option Fn) (F L : Nat) : (ArOf tab F L).F = F := rfl
@[simp] theorem okN_iff (n : Nat) : okN n = decide (n ≤ 16777216) := rfl
theorem inR_iff (i : Int) : inR i = true ↔ -18446744073709551616 < i ∧ i < 18446744073709551616 := by
  unfold inR
  simp
theorem atI_get {α : Type} {xs : List α} {i : Int} (h0 : 0 ≤ i) (h1 : i < xs.length) : atI xs i = some (xs[i.toNat]'(by omega)) := by
  unfold atI ixN
  rw [if_pos h0, if_pos h1]
  exact List.getElem?_eq_getElem (by omega)
theorem atI_neg {α : Type} {xs : List α} {i : Int} (h0 : i < 0) (h1 : -(xs.length : Int) ≤ i) : atI xs i = some (xs[(i + xs.length).toNat]'(by omega)) := by
  unfold atI ixN
  rw [if_neg (by omega), if_pos h1]
  exact List.getElem?_eq_getElem (by omega)
@[simp] theorem atI_c0 {α : Type} (a : α) (xs : List α) : atI (a :: xs) 0 = some a := by
  rw [atI_get (by decide) (by simp <;> omega)]; rfl
@[simp] theorem atI_c1 {α : Type} (a b : α) (xs : List α) : atI (a :: b :: xs) 1 = some b := by
  rw [atI_get (by decide) (by simp <;> omega)]; rfl
@[simp] theorem atI_c2 {α : Type} (a b c : α) (xs : List α) : atI (a :: b :: c :: xs) 2 = some c := by
  rw [atI_get (by decide) (by simp <;> omega)]; rfl
@[simp] theorem atI_c3 {α : Type} (a b c d : α) (xs : List α) : atI (a :: b :: c :: d :: xs) 3 = some d := by
  rw [atI_get (by decide) (by simp <;> omega)]; rfl
theorem callFn_rt {A : Ar} {f : Fn} {ds : List D} {ρ : En} {d : D} (h1 : ds.length = f.np) (h2 : ds.map some ++ List.replicate (f.ns - f.np) none = ρ) (h3 : run A f.body ρ = .rt d) : callFn A f ds = .ok d := by
  unfold callFn
  rw [if_pos h1, h2, h3]
theorem callFn_exc {A : Ar} {f : Fn} {ds : List D} {ρ ρ' : En} {c : Nat} (h1 : ds.length = f.np) (h2 : ds.map some ++ List.replicate (f.ns - f.np) none = ρ) (h3 : run A f.body ρ = .exc c ρ') : callFn A f ds = .exc c := by
  unfold callFn
  rw [if_pos h1, h2, h3]
/-! ### comprehensions -/
theorem compL_filter {f : D → Res (Option D)} {g : D → D} {p : D → Bool} : ∀ {ds : List D}, (∀ d ∈ ds, f d = .ok (if p d then some (g d) else none)) → compL f ds = .ok ((ds.filter p).map g)
  | [], _ => rfl
  | d :: ds, h => by
    unfold compL
    rw [h d List.mem_cons_self, compL_filter (ds := ds) fun x hx => h x (List.mem_cons_of_mem _ hx)]
    cases q : p d <;> simp [List.filter_cons, q]
theorem compL_map {f : D → Res (Option D)} {g : D → D} {ds : List D} (h : ∀ d ∈ ds, f d = .ok (some (g d))) : compL f ds = .ok (ds.map g) := by
  have := compL_filter (f := f) (g := g) (p := fun _ => true) (ds := ds) (by simpa using h)
  rw [this, List.filter_eq_self.mpr (fun _ _ => rfl)]
theorem turn1 {A : Ar} {i : Nat} {ifs : List SE} {elt : SE} {ρ : En} {d : D} : turnF A [i] true ifs elt ρ d = (evc A ifs (ρ.set i (some d))).bind fun k => if k then (ev A elt (ρ.set i (some d))).bind fun x => .ok (some x) else .ok none := rfl
theorem turn2 {A : Ar} {i j : Nat} {ifs : List SE} {elt : SE} {ρ : En} {x y : D} : turnF A [i, j] false ifs elt ρ (.tup [x, y]) = (evc A ifs ((ρ.set i (some x)).set j (some y))).bind fun k => if k then (ev A elt ((ρ.set i (some x)).set j (some y))).bind fun x => .ok (some x) else .ok none := rfl
/-- [elt for i in ..] -/
theorem lc_map {A : Ar} {i : Nat} {it : SI} {elt : SE} {ρ : En} {ds : List D} {g : D → D} (hi : evi A it ρ = .ok ds) (he : ∀ d ∈ ds, ev A elt (ρ.set i (some d)) = .ok (g d)) (hl : ds.length ≤ 16777216) : ev A (.lc [i] true it [] elt) ρ = .ok (.lst (ds.map g)) := by
  rw [ev_lc, hi, Res.bind_ok, compL_map (g := g), Res.bind_ok, if_pos (by simpa using hl)]
  intro d hd
  rw [turn1, evc_nil, Res.bind_ok, if_pos rfl, he d hd]
  rfl
theorem lc_filter {A : Ar} {i : Nat} {it : SI} {c elt : SE} {ρ : En} {ds : List D} {g : D → D} {p : D → Bool} (hi : evi A it ρ = .ok ds) (hc : ∀ d ∈ ds, ev A c (ρ.set i (some d)) = .ok (.bl (p d))) (he : ∀ d ∈ ds, p d = true → ev A elt (ρ.set i (some d)) = .ok (g d)) (hl : ds.length ≤ 16777216) : ev A (.lc [i] true it [c] elt) ρ = .ok (.lst ((ds.filter p).map g)) := by
  rw [ev_lc, hi, Res.bind_ok, compL_filter (g := g) (p := p), Res.bind_ok, if_pos]
  · have := List.length_filter_le p ds
    simp
    omega
  intro d hd
  rw [turn1, evc_cons, hc d hd, Res.bind_ok, asBl_bl, Res.bind_ok]
  cases q : p d with
  | true =>
    rw [if_pos rfl, evc_nil, Res.bind_ok, if_pos rfl, he d hd q]
    rfl
  | false => rfl
theorem compL_A {α : Type} {f : D → Res (Option D)} {e g : α → D} {p : α → Bool} : ∀ {l : List α}, (∀ x ∈ l, f (e x) = .ok (if p x then some (g x) else none)) → compL f (l.map e) = .ok ((l.filter p).map g)
  | [], _ => rfl
  | x :: l, h => by
    rw [List.map_cons]
    unfold compL
    rw [h x List.mem_cons_self, compL_A (l := l) fun y hy => h y (List.mem_cons_of_mem _ hy)]
    cases q : p x <;> simp [List.filter_cons, q]
theorem lc_A {α : Type} {A : Ar} {i : Nat} {it : SI} {elt : SE} {ρ : En} {l : List α} {e g : α → D} (hi : evi A it ρ = .ok (l.map e)) (he : ∀ x ∈ l, ev A elt (ρ.set i (some (e x))) = .ok (g x)) (hl : l.length ≤ 16777216) : ev A (.lc [i] true it [] elt) ρ = .ok (.lst (l.map g)) := by
  rw [ev_lc, hi, Res.bind_ok, compL_A (g := g) (p := fun _ => true) (fun x hx => ?_), Res.bind_ok, List.filter_eq_self.mpr (fun _ _ => rfl), if_pos (by simpa using hl)]
  rw [turn1, evc_nil, Res.bind_ok, if_pos rfl, he x hx]
  rfl
theorem lc_FA {α : Type} {A : Ar} {i : Nat} {it : SI} {c elt : SE} {ρ : En} {l : List α} {e g : α → D} {p : α → Bool} (hi : evi A it ρ = .ok (l.map e)) (hc : ∀ x ∈ l, ev A c (ρ.set i (some (e x))) = .ok (.bl (p x))) (he : ∀ x ∈ l, p x = true → ev A elt (ρ.set i (some (e x))) = .ok (g x)) (hl : l.length ≤ 16777216) : ev A (.lc [i] true it [c] elt) ρ = .ok (.lst ((l.filter p).map g)) := by
  rw [ev_lc, hi, Res.bind_ok, compL_A (g := g) (p := p) (fun x hx => ?_), Res.bind_ok, if_pos (by
    have := List.length_filter_le p l
    simp
    omega)]
  rw [turn1, evc_cons, hc x hx, Res.bind_ok, asBl_bl, Res.bind_ok]
  cases q : p x with
  | true =>
    rw [if_pos rfl, evc_nil, Res.bind_ok, if_pos rfl, he x hx q]
    rfl
  | false => rfl
theorem intsO_map (ns : List Int) : intsO (ns.map D.int) = some ns := by
  induction ns with
  | nil => rfl
  | cons n ns ih => simp [intsO, ih]
theorem blsO_map {α : Type} (f : α → Bool) (xs : List α) : blsO (xs.map fun x => D.bl (f x)) = some (xs.map f) := by
  induction xs with
  | nil => rfl
  | cons n ns ih => simp [blsO, ih]
theorem all_map {α : Type} (f : α → Bool) (xs : List α) : biD .all [.lst (xs.map fun x => D.bl (f x))] = .ok (.bl (xs.all f)) := by
  show (match blsO (xs.map fun x => D.bl (f x)) with | some bs => Res.ok (D.bl (bs.all id)) | none => .bad) = _
  rw [blsO_map]
  simp [List.all_map]
theorem any_map {α : Type} (f : α → Bool) (xs : List α) : biD .any [.lst (xs.map fun x => D.bl (f x))] = .ok (.bl (xs.any f)) := by
  show (match blsO (xs.map fun x => D.bl (f x)) with | some bs => Res.ok (D.bl (bs.any id)) | none => .bad) = _
  rw [blsO_map]
  simp [List.any_map]
theorem range_mem {lo hi : Int} {d : D} (h : d ∈ rangeL lo hi) : ∃ i : Int, d = .int i ∧ lo ≤ i ∧ i < hi := by
  unfold rangeL at h
  obtain ⟨k, hk, rfl⟩ := List.mem_map.mp h
  have := List.mem_range.mp hk
  exact ⟨_, rfl, by omega, by omega⟩
theorem range_len {lo hi : Int} : (rangeL lo hi).length = (hi - lo).toNat := by simp [rangeL]
/-! ### loops -/
/-- a for whose turns all go through: the slots by a function -/
theorem forL_fold {f : D → En → Fl} {g : En → D → En} : ∀ {ds : List D} {ρ : En}, (∀ (pre : List D) (d : D) (post : List D), ds = pre ++ d :: post → f d (pre.foldl g ρ) = .nx (g (pre.foldl g ρ) d)) → forL f ds ρ = .nx (ds.foldl g ρ)
  | [], ρ, _ => rfl
  | d :: ds, ρ, h => by
    unfold forL
    have h0 := h [] d ds rfl
    simp only [List.foldl_nil] at h0
    rw [h0]
    show forL f ds (g ρ d) = _
    rw [forL_fold (ds := ds) (ρ := g ρ d) fun pre e post hp => by
      have := h (d :: pre) e post (by rw [hp]; rfl)
      simpa using this]
    rfl
/-- a for over states of a kind S: each turn keeps it -/
theorem forL_inv {f : D → En → Fl} {S : Nat → En → Prop} : ∀ {ds : List D} {i : Nat} {ρ : En}, S i ρ → (∀ (j : Nat) (d : D) (ρ : En), ds[j]? = some d → S (i + j) ρ → ∃ ρ', f d ρ = .nx ρ' ∧ S (i + j + 1) ρ') → ∃ ρ', forL f ds ρ = .nx ρ' ∧ S (i + ds.length) ρ'
  | [], i, ρ, h, _ => ⟨ρ, rfl, h⟩
  | d :: ds, i, ρ, h, st => by
    obtain ⟨ρ1, e1, h1⟩ := st 0 d ρ rfl h
    obtain ⟨ρ2, e2, h2⟩ := forL_inv (ds := ds) (i := i + 1) (ρ := ρ1) h1 fun j e ρ hj hS => by
      have := st (j + 1) e ρ (by simpa using hj) (by rw [show i + (j + 1) = i + 1 + j by omega]; exact hS)
      rw [show i + (j + 1) + 1 = i + 1 + j + 1 by omega] at this
      exact this
    refine ⟨ρ2, ?_, by rw [show i + (d :: ds).length = i + 1 + ds.length by simp; omega]; exact h2⟩
    unfold forL
    rw [e1]
    exact e2
/-- a for that leaves by a return where some item says so -/
theorem forL_all {f : D → En → Fl} {p : D → Bool} {r : D} {S : En → Prop} : ∀ {ds : List D} {ρ : En}, S ρ → (∀ d ∈ ds, ∀ ρ, S ρ → if p d then ∃ ρ', f d ρ = .nx ρ' ∧ S ρ' else f d ρ = .rt r) → if ds.all p then ∃ ρ', forL f ds ρ = .nx ρ' ∧ S ρ' else forL f ds ρ = .rt r
  | [], ρ, h, _ => ⟨ρ, rfl, h⟩
  | d :: ds, ρ, h, st => by
    have h0 := st d List.mem_cons_self ρ h
    cases q : p d with
    | false =>
      rw [q] at h0
      simp only [Bool.false_eq_true, ↓reduceIte] at h0
      simp only [List.all_cons, q, Bool.false_and, Bool.false_eq_true, ↓reduceIte]
      unfold forL
      rw [h0]
    | true =>
      rw [q] at h0
      simp only [↓reduceIte] at h0
      obtain ⟨ρ1, e1, h1⟩ := h0
      simp only [List.all_cons, q, Bool.true_and]
      have := forL_all (ds := ds) (ρ := ρ1) h1 fun e he => st e (List.mem_cons_of_mem _ he)
      have e : forL f (d :: ds) ρ = forL f ds ρ1 := by
        conv => lhs; unfold forL
        rw [e1]
      rw [e]
      exact this
end Tk
namespace Tk
open PySem PySem.Spec PyProof.Rows L2
open D
def f__law_cell : Fn := ⟨2, 2, [
    .ifs (.cmp .eq (.var 0) (.lst [])) [.ret (.bin .mul (.con (.int 7)) (.var 1))] [],
    .ret (.bin .add (.ix (.var 0) (.bin .mod (.var 1) (.bi .len [.var 0]))) (.bin .mul (.con (.int 6553)) (.bin .fdiv (.var 1) (.bi .len [.var 0]))))], none, none⟩
def f__law_drawn : Fn := ⟨3, 4, [
    .asg 3 (.bin .mod (.bin .add (.bin .mul (.bin .mod (.call 4 [.var 0, .var 1]) (.con (.int 2147483563))) (.con (.int 69069))) (.bin .mul (.con (.int 104723)) (.bin .add (.var 1) (.con (.int 1))))) (.con (.int 2147483563))),
    .asg 3 (.bin .mod (.bin .add (.bin .mul (.var 3) (.var 3)) (.bin .fdiv (.var 3) (.con (.int 3)))) (.con (.int 2147483399))),
    .ret (.bin .mod (.bin .fdiv (.bin .mod (.bin .add (.bin .mul (.var 3) (.var 3)) (.bin .fdiv (.var 3) (.con (.int 7)))) (.con (.int 2147483647))) (.con (.int 11))) (.var 2))], none, none⟩
def f_reached_b1 : List SS := [.ifs (.cmp .notin (.var 4) (.var 2)) [.setK 2 (.var 4) (.con (.bl true)), .app 1 (.var 4)] []]
def f_reached_b2 : List SS := [.forr [4] true (.of (.ix (.ix (.var 0) (.con (.int 1))) (.ix (.var 1) (.var 3)))) f_reached_b1, .asg 3 (.bin .add (.var 3) (.con (.int 1)))]
def f_reached : Fn := ⟨1, 5, [
    .asgF 1 (.lst [.con (.int 0)]),
    .asgF 2 (.dict [.con (.int 0)] [.con (.bl true)]),
    .asg 3 (.con (.int 0)),
    .whl (.cmp .lt (.var 3) (.bi .len [.var 1])) f_reached_b2,
    .ret (.var 1)], none, none⟩
def f_groups_of_c1 : SE := .lc [3] true (.of (.var 1)) [] (.tup [.var 3, .bi .int [.ix (.ix (.var 0) (.con (.int 0))) (.var 3)]])
def f_groups_of_c2 : SE := .lc [3] true (.of (.var 1)) [] (.ix (.var 2) (.var 3))
def f_groups_of_c3 : SE := .lc [3] true (.of (.var 1)) [] (.ix (.var 2) (.var 3))
def f_groups_of_c4 : SE := .lc [3] true (.of (.var 1)) [] (.tup [.var 3, .call 33 [.var 0, .var 2, .var 3]])
def f_groups_of_c5 : SE := .lc [3] true (.of (.var 1)) [] (.ix (.var 5) (.var 3))
def f_groups_of_c6 : SE := .lc [3] true (.of (.var 1)) [] (.tup [.var 3, .me .sindex (.var 6) [.ix (.var 5) (.var 3)]])
def f_groups_of_b1 : List SS := [.asg 4 (.bi .lenSet [f_groups_of_c3]), .asgF 5 (.bi .dict [f_groups_of_c4]), .asg 6 (.bi .sortedSet [f_groups_of_c5]), .asgF 2 (.bi .dict [f_groups_of_c6])]
def f_groups_of : Fn := ⟨2, 7, [
    .asgF 2 (.bi .dict [f_groups_of_c1]),
    .asg 4 (.con (.int 0)),
    .whl (.cmp .ne (.var 4) (.bi .lenSet [f_groups_of_c2])) f_groups_of_b1,
    .ret (.var 2)], none, none⟩
def f_key_of_c1 : SE := .lc [3] true (.of (.ix (.ix (.var 0) (.con (.int 1))) (.var 2))) [] (.ix (.var 1) (.var 3))
def f_key_of : Fn := ⟨3, 4, [
    .ret (.bin .add (.tup [.ix (.var 1) (.var 2)]) (.bi .tuple [f_key_of_c1]))], none, none⟩
def f_least_of_b1 : List SS := [.ifs (.cmp .notin (.ix (.var 2) (.var 4)) (.var 3)) [.setK 3 (.ix (.var 2) (.var 4)) (.bi .len [.var 3])] []]
def f_least_of_b2 : List SS := [.setK 5 (.ix (.var 3) (.ix (.var 2) (.var 4))) (.me .getN (.var 5) [.ix (.var 3) (.ix (.var 2) (.var 4)), .var 4])]
def f_least_of_c1 : SE := .lc [7] true (.rng (.con (.int 0)) (.bi .len [.var 5])) [] (.ix (.var 5) (.var 7))
def f_least_of_c2 : SE := .lc [4] true (.of (.var 6)) [] (.ix (.ix (.var 0) (.con (.int 0))) (.var 4))
def f_least_of_c3 : SE := .lc [10] true (.of (.ix (.ix (.var 0) (.con (.int 1))) (.var 4))) [] (.ix (.var 3) (.ix (.var 2) (.var 10)))
def f_least_of_c4 : SE := .lc [4] true (.of (.var 6)) [] (.bi .tuple [f_least_of_c3])
def f_least_of : Fn := ⟨1, 11, [
    .asg 1 (.call 31 [.var 0]),
    .asg 2 (.call 32 [.var 0, .var 1]),
    .asgF 3 (.con (.gd [])),
    .forr [4] true (.of (.var 1)) f_least_of_b1,
    .asgF 5 (.con (.gd [])),
    .forr [4] true (.of (.var 1)) f_least_of_b2,
    .asgF 6 f_least_of_c1,
    .asg 8 (.bi .tuple [f_least_of_c2]),
    .asg 9 (.bi .tuple [f_least_of_c4]),
    .ret (.tup [.var 8, .var 9])], none, none⟩
def f_built : Fn := ⟨2, 2, [
    .ret (.fld (.call 600 [.var 0, .var 1]) "machine")], none, none⟩
def f__law_machine_c1 : SE := .lc [5] true (.rng (.con (.int 0)) (.var 3)) [] (.cmp .eq (.call 5 [.var 0, .bin .add (.bin .add (.var 1) (.con (.int 1))) (.var 5), .con (.int 2)]) (.con (.int 0)))
def f__law_machine_c2 : SE := .lc [7] true (.rng (.con (.int 0)) (.con (.int 4))) [] (.call 5 [.var 0, .bin .add (.bin .add (.bin .add (.var 1) (.con (.int 7))) (.bin .mul (.con (.int 4)) (.var 5))) (.var 7), .var 3])
def f__law_machine_b1 : List SS := [.app 6 (.bi .tuple [f__law_machine_c2])]
def f__law_machine : Fn := ⟨3, 8, [
    .asg 3 (.bin .add (.con (.int 1)) (.call 5 [.var 0, .var 1, .var 2])),
    .asg 4 (.bi .tuple [f__law_machine_c1]),
    .asgF 6 (.lst []),
    .forr [5] true (.rng (.con (.int 0)) (.var 3)) f__law_machine_b1,
    .ret (.tup [.var 4, .bi .tuple [.var 6]])], none, none⟩
def f_counts_of_c1 : SE := .lc [3] true (.of (.ix (.var 0) (.con (.int 0)))) [] (.bi .int [.var 3])
def f_counts_of_c2 : SE := .lc [6] true (.of (.var 5)) [] (.ix (.var 2) (.var 6))
def f_counts_of_c3 : SE := .lc [5] true (.of (.ix (.var 0) (.con (.int 1)))) [] (.bi .sum [f_counts_of_c2])
def f_counts_of_b1 : List SS := [.asgF 2 f_counts_of_c3]
def f_counts_of : Fn := ⟨2, 7, [
    .asgF 2 f_counts_of_c1,
    .forr [4] true (.rng (.con (.int 0)) (.var 1)) f_counts_of_b1,
    .ret (.var 2)], none, none⟩
def f_how_many : Fn := ⟨2, 2, [
    .ret (.ix (.call 63 [.var 0, .var 1]) (.con (.int 0)))], none, none⟩
def f_least_text_b1 : List SS := [.ifs (.cmp .gt (.call 64 [.var 0, .var 1]) (.con (.int 0))) [.ret (.call 68 [.var 0, .var 1, .con (.int 0)])] []]
def f_least_text : Fn := ⟨1, 2, [
    .forr [1] true (.rng (.con (.int 0)) (.bi .len [.ix (.var 0) (.con (.int 0))])) f_least_text_b1,
    .ret (.con (.non))], none, none⟩
def f_text_of_b1 : List SS := [.asg 8 (.ix (.ix (.ix (.var 0) (.con (.int 1))) (.var 3)) (.me .sindex (.con (.str [48, 49, 97, 98])) [.var 7])), .ifs (.cmp .lt (.var 2) (.ix (.var 6) (.var 8))) [.asg 4 (.bin .add (.var 4) (.var 7)), .asg 3 (.var 8), .brk] [], .asg 2 (.bin .sub (.var 2) (.ix (.var 6) (.var 8)))]
def f_text_of_b2 : List SS := [.asg 6 (.call 63 [.var 0, .var 5]), .forr [7] true (.of (.con (.str [48, 49, 97, 98]))) f_text_of_b1]
def f_text_of : Fn := ⟨3, 9, [
    .asg 3 (.con (.int 0)),
    .asg 4 (.con (.str [])),
    .forr [5] true (.rev (.bi .listR [.var 1])) f_text_of_b2,
    .ret (.var 4)], none, none⟩
def f_either : Fn := ⟨2, 2, [
    .ret (.call 35 [.tup [.con (.int 0), .con (.int 0)], .call 640 [.var 0, .var 1, .con (.int 1)]])], none, none⟩
def f_both_of : Fn := ⟨2, 2, [
    .ret (.call 35 [.tup [.con (.int 0), .con (.int 0)], .call 640 [.var 0, .var 1, .con (.int 2)]])], none, none⟩
def f_other_than : Fn := ⟨1, 1, [
    .ret (.call 35 [.con (.int 0), .call 660 [.var 0]])], none, none⟩
def f_without : Fn := ⟨2, 2, [
    .ret (.call 75 [.var 0, .call 76 [.var 1]])], none, none⟩
def f_parting : Fn := ⟨2, 2, [
    .ret (.call 67 [.call 85 [.var 0, .var 1]])], none, none⟩
def f_within : Fn := ⟨2, 2, [
    .ret (.cmp .isN (.call 87 [.var 0, .var 1]) (.con (.non)))], none, none⟩
def f_machine_of : Fn := ⟨1, 1, [
    .ret (.call 35 [.con (.str []), .call 680 [.var 0]])], none, none⟩
def f_everything : Fn := ⟨0, 0, [
    .ret (.tup [.tup [.con (.bl true)], .tup [.bin .mul (.tup [.con (.int 0)]) (.bi .len [.con (.str [48, 49, 97, 98])])]])], none, none⟩
def f_law_16 : Fn := ⟨1, 6, [
    .asg 1 (.call 34 [.call 49 [.var 0, .con (.int 0), .con (.int 3)]]),
    .asg 2 (.call 34 [.call 49 [.var 0, .con (.int 60), .con (.int 3)]]),
    .asg 3 (.call 34 [.call 49 [.var 0, .con (.int 120), .con (.int 3)]]),
    .asg 4 (.call 89 [.lst []]),
    .asg 5 (.call 90 []),
    .ifs (.orr (.cmp .ne (.call 74 [.var 1, .var 2]) (.call 74 [.var 2, .var 1])) (.cmp .ne (.call 75 [.var 1, .var 2]) (.call 75 [.var 2, .var 1]))) [.ret (.con (.bl false))] [],
    .ifs (.cmp .ne (.call 74 [.var 1, .call 74 [.var 2, .var 3]]) (.call 74 [.call 74 [.var 1, .var 2], .var 3])) [.ret (.con (.bl false))] [],
    .ifs (.cmp .ne (.call 75 [.var 1, .call 75 [.var 2, .var 3]]) (.call 75 [.call 75 [.var 1, .var 2], .var 3])) [.ret (.con (.bl false))] [],
    .ifs (.cmp .ne (.call 75 [.var 1, .call 74 [.var 2, .var 3]]) (.call 74 [.call 75 [.var 1, .var 2], .call 75 [.var 1, .var 3]])) [.ret (.con (.bl false))] [],
    .ifs (.cmp .ne (.call 74 [.var 1, .call 75 [.var 2, .var 3]]) (.call 75 [.call 74 [.var 1, .var 2], .call 74 [.var 1, .var 3]])) [.ret (.con (.bl false))] [],
    .ifs (.orr (.cmp .ne (.call 76 [.call 76 [.var 1]]) (.var 1)) (.cmp .ne (.call 76 [.call 74 [.var 1, .var 2]]) (.call 75 [.call 76 [.var 1], .call 76 [.var 2]]))) [.ret (.con (.bl false))] [],
    .ifs (.orr (.cmp .ne (.call 85 [.var 1, .var 2]) (.call 75 [.var 1, .call 76 [.var 2]])) (.cmp .ne (.call 74 [.call 85 [.var 1, .var 2], .call 75 [.var 1, .var 2]]) (.var 1))) [.ret (.con (.bl false))] [],
    .ifs (.orr (.cmp .ne (.call 74 [.var 1, .var 4]) (.var 1)) (.orr (.cmp .ne (.call 74 [.var 1, .var 5]) (.var 5)) (.cmp .ne (.call 75 [.var 1, .var 5]) (.var 1)))) [.ret (.con (.bl false))] [],
    .ifs (.orr (.cmp .ne (.call 75 [.var 1, .var 4]) (.var 4)) (.orr (.cmp .ne (.call 76 [.var 4]) (.var 5)) (.orr (.cmp .ne (.call 85 [.var 1, .var 1]) (.var 4)) (.cmp .ne (.call 74 [.var 1, .var 1]) (.var 1))))) [.ret (.con (.bl false))] [],
    .ret (.an (.call 88 [.call 85 [.call 74 [.var 1, .var 2], .var 1], .var 2]) (.call 88 [.call 75 [.var 1, .var 2], .var 1]))], none, none⟩
def f_Builder_b1 : List SS := [.asg 8 (.meth (.var 2) "steps" [.ix (.var 4) (.bi .len [.var 5]), .var 7]), .ifs (.cmp .notin (.var 8) (.var 3)) [.setK 3 (.var 8) (.bi .len [.var 4]), .app 4 (.var 8)] [], .app 6 (.ix (.var 3) (.var 8))]
def f_Builder_b2 : List SS := [.asgF 6 (.lst []), .forr [7] true (.of (.con (.str [48, 49, 97, 98]))) f_Builder_b1, .app 5 (.bi .tuple [.var 6])]
def f_Builder_c1 : SE := .lc [9] true (.of (.var 4)) [] (.meth (.var 2) "is_end" [.var 9])
def f_Builder : Fn := ⟨3, 10, [.asgF 3 (.dict [.var 1] [.con (.int 0)]),
    .asgF 4 (.lst [.var 1]),
    .asgF 5 (.lst []),
    .whl (.cmp .lt (.bi .len [.var 5]) (.bi .len [.var 4])) f_Builder_b2], none, some ⟨["machine"], [], [.call 34 [.tup [.bi .tuple [f_Builder_c1], .bi .tuple [.var 5]]]]⟩⟩
def f_Pair : Fn := ⟨4, 4, [], none, some ⟨["one", "other", "needed"], [("steps", 641), ("is_end", 642)], [.var 1, .var 2, .var 3]⟩⟩
def f_Pair_steps : Fn := ⟨3, 4, [
    .asg 3 (.me .sindex (.con (.str [48, 49, 97, 98])) [.var 2]),
    .ret (.tup [.ix (.ix (.ix (.fld (.var 0) "one") (.con (.int 1))) (.ix (.var 1) (.con (.int 0)))) (.var 3), .ix (.ix (.ix (.fld (.var 0) "other") (.con (.int 1))) (.ix (.var 1) (.con (.int 1)))) (.var 3)])], none, none⟩
def f_Pair_is_end : Fn := ⟨2, 2, [
    .ret (.cmp .ge (.bin .add (.bi .int [.ix (.ix (.fld (.var 0) "one") (.con (.int 0))) (.ix (.var 1) (.con (.int 0)))]) (.bi .int [.ix (.ix (.fld (.var 0) "other") (.con (.int 0))) (.ix (.var 1) (.con (.int 1)))])) (.fld (.var 0) "needed"))], none, none⟩
def f_Single : Fn := ⟨2, 2, [], none, some ⟨["one"], [("steps", 661), ("is_end", 662)], [.var 1]⟩⟩
def f_Single_steps : Fn := ⟨3, 3, [
    .ret (.ix (.ix (.ix (.fld (.var 0) "one") (.con (.int 1))) (.var 1)) (.me .sindex (.con (.str [48, 49, 97, 98])) [.var 2]))], none, none⟩
def f_Single_is_end : Fn := ⟨2, 2, [
    .ret (.nt (.ix (.ix (.fld (.var 0) "one") (.con (.int 0))) (.var 1)))], none, none⟩
def f_Line_c1 : SE := .lc [3] true (.rng (.con (.int 0)) (.bin .add (.bi .len [.var 2]) (.con (.int 1)))) [] (.tup [.sl (.var 2) none (some (.var 3)), .con (.bl true)])
def f_Line : Fn := ⟨2, 4, [], none, some ⟨["some", "heads"], [("steps", 681), ("is_end", 682)], [.var 1, .upl 2 (.of (.var 1)) (.bi .dict [f_Line_c1])]⟩⟩
def f_Line_steps : Fn := ⟨3, 3, [
    .ret (.ite (.an (.cmp .notN (.var 1) (.con (.non))) (.cmp .isin (.bin .add (.var 1) (.var 2)) (.fld (.var 0) "heads"))) (.bin .add (.var 1) (.var 2)) (.con (.non)))], none, none⟩
def f_Line_is_end : Fn := ⟨2, 2, [
    .ret (.cmp .isin (.var 1) (.fld (.var 0) "some"))], none, none⟩
def tabL : List (Nat × Fn) := [(4, f__law_cell), (5, f__law_drawn), (31, f_reached), (32, f_groups_of), (33, f_key_of), (34, f_least_of), (35, f_built), (49, f__law_machine), (63, f_counts_of), (64, f_how_many), (67, f_least_text), (68, f_text_of), (74, f_either), (75, f_both_of), (76, f_other_than), (85, f_without), (87, f_parting), (88, f_within), (89, f_machine_of), (90, f_everything), (93, f_law_16), (600, f_Builder), (640, f_Pair), (641, f_Pair_steps), (642, f_Pair_is_end), (660, f_Single), (661, f_Single_steps), (662, f_Single_is_end), (680, f_Line), (681, f_Line_steps), (682, f_Line_is_end)]
def tab (k : Nat) : Option Fn := tabL.lookup k
end Tk
namespace Tk
open PySem PySem.Spec PyProof.Rows L2
open D
/-! ### the row -/
def topS (i : Nat) : Stmt := PySem.Challenge.pw_textkinds_k21_whole_sets.main.body.getD i (.Pass ⟨0, 0, 0, 0⟩)
def ce : CE where
  N := []
  gc := [("SIGNS", .str [48, 49, 97, 98])]
  fn := [("_law_cell", (4, 2)),
    ("_law_drawn", (5, 3)),
    ("_law_machine", (49, 3)),
    ("key_of", (33, 3)),
    ("groups_of", (32, 2)),
    ("reached", (31, 1)),
    ("least_of", (34, 1)),
    ("built", (35, 2)),
    ("both_of", (75, 2)),
    ("either", (74, 2)),
    ("everything", (90, 0)),
    ("machine_of", (89, 1)),
    ("other_than", (76, 1)),
    ("counts_of", (63, 2)),
    ("how_many", (64, 2)),
    ("text_of", (68, 3)),
    ("least_text", (67, 1)),
    ("without", (85, 2)),
    ("parting", (87, 2)),
    ("within", (88, 2)),
    ("law", (93, 1)),
    ("Builder", (600, 2)),
    ("Pair", (640, 3)),
    ("Line", (680, 1)),
    ("Single", (660, 1))]
  free := ["dict", "int", "len", "list", "range", "reversed", "set", "sorted", "sum", "tuple"]
  ecl := []
  ms := ["is_end", "steps"]
def N0 : List Str := ["_law_script", "_law_k"]
theorem sc0 : FnScope N0 ["_law_script", "_law_k"] (defScope (topS 28)) := ⟨rfl, rfl, rfl, by decide +kernel, rfl, by decide +kernel, by decide +kernel⟩
theorem cv0 : cB { ce with N := N0 } (defScope (topS 28)) none 200 (defBody (topS 28)) = some f__law_cell.body := by kernel_rfl
theorem fw0 : (flB (mutB f__law_cell.body) f__law_cell.body none []).isSome = true := by decide +kernel
def N1 : List Str := ["_law_script", "_law_k", "_law_many", "_law_cell_here"]
theorem sc1 : FnScope N1 ["_law_script", "_law_k", "_law_many"] (defScope (topS 29)) := ⟨rfl, rfl, rfl, by decide +kernel, rfl, by decide +kernel, by decide +kernel⟩
theorem cv1 : cB { ce with N := N1 } (defScope (topS 29)) none 200 (defBody (topS 29)) = some f__law_drawn.body := by kernel_rfl
theorem fw1 : (flB (mutB f__law_drawn.body) f__law_drawn.body none []).isSome = true := by decide +kernel
def N2 : List Str := ["_law_script", "_law_at", "_law_most", "_law_size", "_law_ends", "_law_k", "_law_rows", "_law_j"]
theorem sc2 : FnScope N2 ["_law_script", "_law_at", "_law_most"] (defScope (topS 30)) := ⟨rfl, rfl, rfl, by decide +kernel, rfl, by decide +kernel, by decide +kernel⟩
theorem cv2 : cB { ce with N := N2 } (defScope (topS 30)) none 200 (defBody (topS 30)) = some f__law_machine.body := by kernel_rfl
theorem fw2 : (flB (mutB f__law_machine.body) f__law_machine.body none []).isSome = true := by decide +kernel
def N3 : List Str := ["machine", "groups", "state", "there"]
theorem sc3 : FnScope N3 ["machine", "groups", "state"] (defScope (topS 4)) := ⟨rfl, rfl, rfl, by decide +kernel, rfl, by decide +kernel, by decide +kernel⟩
theorem cv3 : cB { ce with N := N3 } (defScope (topS 4)) none 200 (defBody (topS 4)) = some f_key_of.body := by kernel_rfl
theorem fw3 : (flB (mutB f_key_of.body) f_key_of.body none []).isSome = true := by decide +kernel
def N4 : List Str := ["machine", "states", "groups", "state", "size", "keys", "order"]
theorem sc4 : FnScope N4 ["machine", "states"] (defScope (topS 3)) := ⟨rfl, rfl, rfl, by decide +kernel, rfl, by decide +kernel, by decide +kernel⟩
theorem cv4 : cB { ce with N := N4 } (defScope (topS 3)) none 200 (defBody (topS 3)) = some f_groups_of.body := by kernel_rfl
theorem fw4 : (flB (mutB f_groups_of.body) f_groups_of.body none []).isSome = true := by decide +kernel
def N5 : List Str := ["machine", "found", "known", "at", "state"]
theorem sc5 : FnScope N5 ["machine"] (defScope (topS 2)) := ⟨rfl, rfl, rfl, by decide +kernel, rfl, by decide +kernel, by decide +kernel⟩
theorem cv5 : cB { ce with N := N5 } (defScope (topS 2)) none 200 (defBody (topS 2)) = some f_reached.body := by kernel_rfl
theorem fw5 : (flB (mutB f_reached.body) f_reached.body none []).isSome = true := by decide +kernel
def N6 : List Str := ["machine", "states", "groups", "first", "state", "firsts", "kept", "number", "ends", "rows", "there"]
theorem sc6 : FnScope N6 ["machine"] (defScope (topS 5)) := ⟨rfl, rfl, rfl, by decide +kernel, rfl, by decide +kernel, by decide +kernel⟩
theorem cv6 : cB { ce with N := N6 } (defScope (topS 5)) none 200 (defBody (topS 5)) = some f_least_of.body := by kernel_rfl
theorem fw6 : (flB (mutB f_least_of.body) f_least_of.body none []).isSome = true := by decide +kernel
def N7 : List Str := ["start", "reader"]
theorem sc7 : FnScope N7 ["start", "reader"] (defScope (topS 7)) := ⟨rfl, rfl, rfl, by decide +kernel, rfl, by decide +kernel, by decide +kernel⟩
theorem cv7 : cB { ce with N := N7 } (defScope (topS 7)) none 200 (defBody (topS 7)) = some f_built.body := by kernel_rfl
theorem fw7 : (flB (mutB f_built.body) f_built.body none []).isSome = true := by decide +kernel
def N8 : List Str := ["one", "other"]
theorem sc8 : FnScope N8 ["one", "other"] (defScope (topS 11)) := ⟨rfl, rfl, rfl, by decide +kernel, rfl, by decide +kernel, by decide +kernel⟩
theorem cv8 : cB { ce with N := N8 } (defScope (topS 11)) none 200 (defBody (topS 11)) = some f_both_of.body := by kernel_rfl
theorem fw8 : (flB (mutB f_both_of.body) f_both_of.body none []).isSome = true := by decide +kernel
def N9 : List Str := ["one", "other"]
theorem sc9 : FnScope N9 ["one", "other"] (defScope (topS 10)) := ⟨rfl, rfl, rfl, by decide +kernel, rfl, by decide +kernel, by decide +kernel⟩
theorem cv9 : cB { ce with N := N9 } (defScope (topS 10)) none 200 (defBody (topS 10)) = some f_either.body := by kernel_rfl
theorem fw9 : (flB (mutB f_either.body) f_either.body none []).isSome = true := by decide +kernel
def N10 : List Str := []
theorem sc10 : FnScope N10 [] (defScope (topS 26)) := ⟨rfl, rfl, rfl, by decide +kernel, rfl, by decide +kernel, by decide +kernel⟩
theorem cv10 : cB { ce with N := N10 } (defScope (topS 26)) none 200 (defBody (topS 26)) = some f_everything.body := by kernel_rfl
theorem fw10 : (flB (mutB f_everything.body) f_everything.body none []).isSome = true := by decide +kernel
def N11 : List Str := ["some"]
theorem sc11 : FnScope N11 ["some"] (defScope (topS 25)) := ⟨rfl, rfl, rfl, by decide +kernel, rfl, by decide +kernel, by decide +kernel⟩
theorem cv11 : cB { ce with N := N11 } (defScope (topS 25)) none 200 (defBody (topS 25)) = some f_machine_of.body := by kernel_rfl
theorem fw11 : (flB (mutB f_machine_of.body) f_machine_of.body none []).isSome = true := by decide +kernel
def N12 : List Str := ["one"]
theorem sc12 : FnScope N12 ["one"] (defScope (topS 12)) := ⟨rfl, rfl, rfl, by decide +kernel, rfl, by decide +kernel, by decide +kernel⟩
theorem cv12 : cB { ce with N := N12 } (defScope (topS 12)) none 200 (defBody (topS 12)) = some f_other_than.body := by kernel_rfl
theorem fw12 : (flB (mutB f_other_than.body) f_other_than.body none []).isSome = true := by decide +kernel
def N13 : List Str := ["machine", "long", "counts", "end", "turn", "row", "there"]
theorem sc13 : FnScope N13 ["machine", "long"] (defScope (topS 16)) := ⟨rfl, rfl, rfl, by decide +kernel, rfl, by decide +kernel, by decide +kernel⟩
theorem cv13 : cB { ce with N := N13 } (defScope (topS 16)) none 200 (defBody (topS 16)) = some f_counts_of.body := by kernel_rfl
theorem fw13 : (flB (mutB f_counts_of.body) f_counts_of.body none []).isSome = true := by decide +kernel
def N14 : List Str := ["machine", "long"]
theorem sc14 : FnScope N14 ["machine", "long"] (defScope (topS 17)) := ⟨rfl, rfl, rfl, by decide +kernel, rfl, by decide +kernel, by decide +kernel⟩
theorem cv14 : cB { ce with N := N14 } (defScope (topS 17)) none 200 (defBody (topS 17)) = some f_how_many.body := by kernel_rfl
theorem fw14 : (flB (mutB f_how_many.body) f_how_many.body none []).isSome = true := by decide +kernel
def N15 : List Str := ["machine", "long", "number", "state", "found", "left", "counts", "sign", "there"]
theorem sc15 : FnScope N15 ["machine", "long", "number"] (defScope (topS 19)) := ⟨rfl, rfl, rfl, by decide +kernel, rfl, by decide +kernel, by decide +kernel⟩
theorem cv15 : cB { ce with N := N15 } (defScope (topS 19)) none 200 (defBody (topS 19)) = some f_text_of.body := by kernel_rfl
theorem fw15 : (flB (mutB f_text_of.body) f_text_of.body none []).isSome = true := by decide +kernel
def N16 : List Str := ["machine", "long"]
theorem sc16 : FnScope N16 ["machine"] (defScope (topS 18)) := ⟨rfl, rfl, rfl, by decide +kernel, rfl, by decide +kernel, by decide +kernel⟩
theorem cv16 : cB { ce with N := N16 } (defScope (topS 18)) none 200 (defBody (topS 18)) = some f_least_text.body := by kernel_rfl
theorem fw16 : (flB (mutB f_least_text.body) f_least_text.body none []).isSome = true := by decide +kernel
def N17 : List Str := ["one", "other"]
theorem sc17 : FnScope N17 ["one", "other"] (defScope (topS 13)) := ⟨rfl, rfl, rfl, by decide +kernel, rfl, by decide +kernel, by decide +kernel⟩
theorem cv17 : cB { ce with N := N17 } (defScope (topS 13)) none 200 (defBody (topS 13)) = some f_without.body := by kernel_rfl
theorem fw17 : (flB (mutB f_without.body) f_without.body none []).isSome = true := by decide +kernel
def N18 : List Str := ["one", "other"]
theorem sc18 : FnScope N18 ["one", "other"] (defScope (topS 21)) := ⟨rfl, rfl, rfl, by decide +kernel, rfl, by decide +kernel, by decide +kernel⟩
theorem cv18 : cB { ce with N := N18 } (defScope (topS 21)) none 200 (defBody (topS 21)) = some f_parting.body := by kernel_rfl
theorem fw18 : (flB (mutB f_parting.body) f_parting.body none []).isSome = true := by decide +kernel
def N19 : List Str := ["one", "other"]
theorem sc19 : FnScope N19 ["one", "other"] (defScope (topS 22)) := ⟨rfl, rfl, rfl, by decide +kernel, rfl, by decide +kernel, by decide +kernel⟩
theorem cv19 : cB { ce with N := N19 } (defScope (topS 22)) none 200 (defBody (topS 22)) = some f_within.body := by kernel_rfl
theorem fw19 : (flB (mutB f_within.body) f_within.body none []).isSome = true := by decide +kernel
def N20 : List Str := ["_law_script", "_law_one", "_law_two", "_law_three", "_law_none", "_law_every"]
theorem sc20 : FnScope N20 ["_law_script"] (defScope (topS 33)) := ⟨rfl, rfl, rfl, by decide +kernel, rfl, by decide +kernel, by decide +kernel⟩
theorem cv20 : cB { ce with N := N20 } (defScope (topS 33)) none 200 (defBody (topS 33)) = some f_law_16.body := by kernel_rfl
theorem fw20 : (flB (mutB f_law_16.body) f_law_16.body none []).isSome = true := by decide +kernel
def N_Builder_init : List Str := ["self", "start", "reader", "numbers", "kept", "rows", "row", "sign", "there", "state"]
theorem sc_Builder_init : FnScope N_Builder_init ["self", "start", "reader"] (defScope (inClass (topS 6) 0)) := ⟨rfl, rfl, rfl, by decide +kernel, rfl, by decide +kernel, by decide +kernel⟩
def sets_Builder_init : List (Str × SE) := [("machine", .call 34 [.tup [.bi .tuple [.lc [9] true (.of (.var 4)) [] (.meth (.var 2) "is_end" [.var 9])], .bi .tuple [.var 5]]])]
theorem cv_Builder_init : cInit { ce with N := N_Builder_init } (defScope (inClass (topS 6) 0)) "self" 200 (defBody (inClass (topS 6) 0)) = some (f_Builder.body, sets_Builder_init) := by kernel_rfl
theorem fw_Builder_init : (flB (mutB f_Builder.body) f_Builder.body none []).isSome = true := by decide +kernel
def N_Pair_init : List Str := ["self", "one", "other", "needed"]
theorem sc_Pair_init : FnScope N_Pair_init ["self", "one", "other", "needed"] (defScope (inClass (topS 9) 0)) := ⟨rfl, rfl, rfl, by decide +kernel, rfl, by decide +kernel, by decide +kernel⟩
def sets_Pair_init : List (Str × SE) := [("one", .var 1), ("other", .var 2), ("needed", .var 3)]
theorem cv_Pair_init : cInit { ce with N := N_Pair_init } (defScope (inClass (topS 9) 0)) "self" 200 (defBody (inClass (topS 9) 0)) = some (f_Pair.body, sets_Pair_init) := by kernel_rfl
theorem fw_Pair_init : (flB (mutB f_Pair.body) f_Pair.body none []).isSome = true := by decide +kernel
def N_Pair_steps : List Str := ["self", "state", "sign", "at"]
theorem sc_Pair_steps : FnScope N_Pair_steps ["self", "state", "sign"] (defScope (inClass (topS 9) 1)) := ⟨rfl, rfl, rfl, by decide +kernel, rfl, by decide +kernel, by decide +kernel⟩
theorem cv_Pair_steps : cB { ce with N := N_Pair_steps } (defScope (inClass (topS 9) 1)) none 200 (defBody (inClass (topS 9) 1)) = some f_Pair_steps.body := by kernel_rfl
theorem fw_Pair_steps : (flB (mutB f_Pair_steps.body) f_Pair_steps.body none []).isSome = true := by decide +kernel
def N_Pair_is_end : List Str := ["self", "state"]
theorem sc_Pair_is_end : FnScope N_Pair_is_end ["self", "state"] (defScope (inClass (topS 9) 2)) := ⟨rfl, rfl, rfl, by decide +kernel, rfl, by decide +kernel, by decide +kernel⟩
theorem cv_Pair_is_end : cB { ce with N := N_Pair_is_end } (defScope (inClass (topS 9) 2)) none 200 (defBody (inClass (topS 9) 2)) = some f_Pair_is_end.body := by kernel_rfl
theorem fw_Pair_is_end : (flB (mutB f_Pair_is_end.body) f_Pair_is_end.body none []).isSome = true := by decide +kernel
def N_Line_init : List Str := ["self", "some", "text", "size"]
theorem sc_Line_init : FnScope N_Line_init ["self", "some"] (defScope (inClass (topS 24) 0)) := ⟨rfl, rfl, rfl, by decide +kernel, rfl, by decide +kernel, by decide +kernel⟩
def sets_Line_init : List (Str × SE) := [("some", .var 1), ("heads", .upl 2 (.of (.var 1)) (.bi .dict [.lc [3] true (.rng (.con (.int 0)) (.bin .add (.bi .len [.var 2]) (.con (.int 1)))) [] (.tup [.sl (.var 2) none (some (.var 3)), .con (.bl true)])]))]
theorem cv_Line_init : cInit { ce with N := N_Line_init } (defScope (inClass (topS 24) 0)) "self" 200 (defBody (inClass (topS 24) 0)) = some (f_Line.body, sets_Line_init) := by kernel_rfl
theorem fw_Line_init : (flB (mutB f_Line.body) f_Line.body none []).isSome = true := by decide +kernel
def N_Line_steps : List Str := ["self", "state", "sign"]
theorem sc_Line_steps : FnScope N_Line_steps ["self", "state", "sign"] (defScope (inClass (topS 24) 1)) := ⟨rfl, rfl, rfl, by decide +kernel, rfl, by decide +kernel, by decide +kernel⟩
theorem cv_Line_steps : cB { ce with N := N_Line_steps } (defScope (inClass (topS 24) 1)) none 200 (defBody (inClass (topS 24) 1)) = some f_Line_steps.body := by kernel_rfl
theorem fw_Line_steps : (flB (mutB f_Line_steps.body) f_Line_steps.body none []).isSome = true := by decide +kernel
def N_Line_is_end : List Str := ["self", "state"]
theorem sc_Line_is_end : FnScope N_Line_is_end ["self", "state"] (defScope (inClass (topS 24) 2)) := ⟨rfl, rfl, rfl, by decide +kernel, rfl, by decide +kernel, by decide +kernel⟩
theorem cv_Line_is_end : cB { ce with N := N_Line_is_end } (defScope (inClass (topS 24) 2)) none 200 (defBody (inClass (topS 24) 2)) = some f_Line_is_end.body := by kernel_rfl
theorem fw_Line_is_end : (flB (mutB f_Line_is_end.body) f_Line_is_end.body none []).isSome = true := by decide +kernel
def N_Single_init : List Str := ["self", "one"]
theorem sc_Single_init : FnScope N_Single_init ["self", "one"] (defScope (inClass (topS 14) 0)) := ⟨rfl, rfl, rfl, by decide +kernel, rfl, by decide +kernel, by decide +kernel⟩
def sets_Single_init : List (Str × SE) := [("one", .var 1)]
theorem cv_Single_init : cInit { ce with N := N_Single_init } (defScope (inClass (topS 14) 0)) "self" 200 (defBody (inClass (topS 14) 0)) = some (f_Single.body, sets_Single_init) := by kernel_rfl
theorem fw_Single_init : (flB (mutB f_Single.body) f_Single.body none []).isSome = true := by decide +kernel
def N_Single_steps : List Str := ["self", "state", "sign"]
theorem sc_Single_steps : FnScope N_Single_steps ["self", "state", "sign"] (defScope (inClass (topS 14) 1)) := ⟨rfl, rfl, rfl, by decide +kernel, rfl, by decide +kernel, by decide +kernel⟩
theorem cv_Single_steps : cB { ce with N := N_Single_steps } (defScope (inClass (topS 14) 1)) none 200 (defBody (inClass (topS 14) 1)) = some f_Single_steps.body := by kernel_rfl
theorem fw_Single_steps : (flB (mutB f_Single_steps.body) f_Single_steps.body none []).isSome = true := by decide +kernel
def N_Single_is_end : List Str := ["self", "state"]
theorem sc_Single_is_end : FnScope N_Single_is_end ["self", "state"] (defScope (inClass (topS 14) 2)) := ⟨rfl, rfl, rfl, by decide +kernel, rfl, by decide +kernel, by decide +kernel⟩
theorem cv_Single_is_end : cB { ce with N := N_Single_is_end } (defScope (inClass (topS 14) 2)) none 200 (defBody (inClass (topS 14) 2)) = some f_Single_is_end.body := by kernel_rfl
theorem fw_Single_is_end : (flB (mutB f_Single_is_end.body) f_Single_is_end.body none []).isSome = true := by decide +kernel
def fn : List He.DefD := [
  ⟨("_law_cell", none), "_law_cell", "_law_cell", defArgs (topS 28), defBody (topS 28), defScope (topS 28), [], []⟩,
  ⟨("_law_drawn", none), "_law_drawn", "_law_drawn", defArgs (topS 29), defBody (topS 29), defScope (topS 29), [], []⟩,
  ⟨("_law_machine", none), "_law_machine", "_law_machine", defArgs (topS 30), defBody (topS 30), defScope (topS 30), [], []⟩,
  ⟨("key_of", none), "key_of", "key_of", defArgs (topS 4), defBody (topS 4), defScope (topS 4), [], []⟩,
  ⟨("groups_of", none), "groups_of", "groups_of", defArgs (topS 3), defBody (topS 3), defScope (topS 3), [], []⟩,
  ⟨("reached", none), "reached", "reached", defArgs (topS 2), defBody (topS 2), defScope (topS 2), [], []⟩,
  ⟨("least_of", none), "least_of", "least_of", defArgs (topS 5), defBody (topS 5), defScope (topS 5), [], []⟩,
  ⟨("built", none), "built", "built", defArgs (topS 7), defBody (topS 7), defScope (topS 7), [], []⟩,
  ⟨("both_of", none), "both_of", "both_of", defArgs (topS 11), defBody (topS 11), defScope (topS 11), [], []⟩,
  ⟨("either", none), "either", "either", defArgs (topS 10), defBody (topS 10), defScope (topS 10), [], []⟩,
  ⟨("everything", none), "everything", "everything", defArgs (topS 26), defBody (topS 26), defScope (topS 26), [], []⟩,
  ⟨("machine_of", none), "machine_of", "machine_of", defArgs (topS 25), defBody (topS 25), defScope (topS 25), [], []⟩,
  ⟨("other_than", none), "other_than", "other_than", defArgs (topS 12), defBody (topS 12), defScope (topS 12), [], []⟩,
  ⟨("counts_of", none), "counts_of", "counts_of", defArgs (topS 16), defBody (topS 16), defScope (topS 16), [], []⟩,
  ⟨("how_many", none), "how_many", "how_many", defArgs (topS 17), defBody (topS 17), defScope (topS 17), [], []⟩,
  ⟨("text_of", none), "text_of", "text_of", defArgs (topS 19), defBody (topS 19), defScope (topS 19), [], []⟩,
  ⟨("least_text", none), "least_text", "least_text", defArgs (topS 18), defBody (topS 18), defScope (topS 18), [], []⟩,
  ⟨("without", none), "without", "without", defArgs (topS 13), defBody (topS 13), defScope (topS 13), [], []⟩,
  ⟨("parting", none), "parting", "parting", defArgs (topS 21), defBody (topS 21), defScope (topS 21), [], []⟩,
  ⟨("within", none), "within", "within", defArgs (topS 22), defBody (topS 22), defScope (topS 22), [], []⟩,
  ⟨("law", none), "law", "law", defArgs (topS 33), defBody (topS 33), defScope (topS 33), [], []⟩,
  ⟨("Builder", some "__init__"), "__init__", "Builder.__init__", defArgs (inClass (topS 6) 0), defBody (inClass (topS 6) 0), defScope (inClass (topS 6) 0), [], []⟩,
  ⟨("Pair", some "__init__"), "__init__", "Pair.__init__", defArgs (inClass (topS 9) 0), defBody (inClass (topS 9) 0), defScope (inClass (topS 9) 0), [], []⟩,
  ⟨("Pair", some "steps"), "steps", "Pair.steps", defArgs (inClass (topS 9) 1), defBody (inClass (topS 9) 1), defScope (inClass (topS 9) 1), [], []⟩,
  ⟨("Pair", some "is_end"), "is_end", "Pair.is_end", defArgs (inClass (topS 9) 2), defBody (inClass (topS 9) 2), defScope (inClass (topS 9) 2), [], []⟩,
  ⟨("Line", some "__init__"), "__init__", "Line.__init__", defArgs (inClass (topS 24) 0), defBody (inClass (topS 24) 0), defScope (inClass (topS 24) 0), [], []⟩,
  ⟨("Line", some "steps"), "steps", "Line.steps", defArgs (inClass (topS 24) 1), defBody (inClass (topS 24) 1), defScope (inClass (topS 24) 1), [], []⟩,
  ⟨("Line", some "is_end"), "is_end", "Line.is_end", defArgs (inClass (topS 24) 2), defBody (inClass (topS 24) 2), defScope (inClass (topS 24) 2), [], []⟩,
  ⟨("Single", some "__init__"), "__init__", "Single.__init__", defArgs (inClass (topS 14) 0), defBody (inClass (topS 14) 0), defScope (inClass (topS 14) 0), [], []⟩,
  ⟨("Single", some "steps"), "steps", "Single.steps", defArgs (inClass (topS 14) 1), defBody (inClass (topS 14) 1), defScope (inClass (topS 14) 1), [], []⟩,
  ⟨("Single", some "is_end"), "is_end", "Single.is_end", defArgs (inClass (topS 14) 2), defBody (inClass (topS 14) 2), defScope (inClass (topS 14) 2), [], []⟩]
def cll : Cll := [(600, ("Builder", ["machine"])), (640, ("Pair", ["one", "other", "needed"])), (680, ("Line", ["some", "heads"])), (660, ("Single", ["one"]))]
def kds : Kds := []
def gcs : List (Str × D) := [("SIGNS", .str [48, 49, 97, 98])]
def fa : List He.Fa := [.glo "_law_cell", .glo "_law_drawn", .glo "_law_machine", .glo "key_of", .glo "groups_of", .glo "reached", .glo "least_of", .glo "built", .glo "both_of", .glo "either", .glo "everything", .glo "machine_of", .glo "other_than", .glo "counts_of", .glo "how_many", .glo "text_of", .glo "least_text", .glo "without", .glo "parting", .glo "within", .glo "law", .free "dict", .free "int", .free "len", .free "list", .free "range", .free "reversed", .free "set", .free "sorted", .free "sum", .free "tuple", .glo "Builder", .cls "Builder", .noat "Builder" "machine", .mkr "Builder", .glo "Pair", .cls "Pair", .noat "Pair" "one", .noat "Pair" "other", .noat "Pair" "needed", .meth "Pair" "steps", .meth "Pair" "is_end", .mkr "Pair", .glo "Line", .cls "Line", .noat "Line" "some", .noat "Line" "heads", .meth "Line" "steps", .meth "Line" "is_end", .mkr "Line", .glo "Single", .cls "Single", .noat "Single" "one", .meth "Single" "steps", .meth "Single" "is_end", .mkr "Single"]
abbrev R : PySem.W.OpenRow := PySem.W.OpenLaw.row PySem.Challenge.rw_textkinds_k21_whole_sets
abbrev hk : PySem.W.Hook := hookS 5 fa fn kds gcs ce.ecl
def ob (s : PySem.W.SharedT) : He.AlT × Bool := obsSG 5 fa fn kds gcs ce.ecl (HandSHeadRun.getT s)
theorem ob_eq (s : PySem.W.SharedT) : ob s = hk.obs s.abs := obsSG_eq (HandSHeadRun.getT_eq s)
def loose : List Str := [("SIGNS" : Str), ("reached" : Str), ("groups_of" : Str), ("key_of" : Str), ("least_of" : Str), ("Builder" : Str), ("built" : Str), ("Pair" : Str), ("either" : Str), ("both_of" : Str), ("other_than" : Str), ("without" : Str), ("Single" : Str), ("counts_of" : Str), ("how_many" : Str), ("least_text" : Str), ("text_of" : Str), ("parting" : Str), ("within" : Str), ("Line" : Str), ("machine_of" : Str), ("everything" : Str), ("_law_cell" : Str), ("_law_drawn" : Str), ("_law_machine" : Str), ("_law_state" : Str), ("_law_accepts" : Str), ("__name__" : Str)]
theorem runs0 (w : World) : HandSHeadRun.RunEq R (PySem.W.view R.prog [33]) hk ob 4000 loose (w.withFollow "special-get-raises" false) := by
  intro os
  kernel_rfl
theorem runs1 (w : World) : HandSHeadRun.RunEq R (PySem.W.view R.prog [33]) hk ob 4000 loose (w.withFollow "special-get-raises" true) := by
  intro os
  kernel_rfl
theorem runs (w : World) : HandSHeadRun.RunEq R (PySem.W.view R.prog [33]) hk ob 4000 loose w := PySem.W.byRow2 "special-get-raises" (P := fun w => HandSHeadRun.RunEq R (PySem.W.view R.prog [33]) hk ob 4000 loose w) runs0 runs1 w
theorem mods {w : World} {K : PySem.W.Frag} {mg : Str → Option Value} {h : Heap} (X : K.In h) (G : h.Ns mainGlobals mg) (c : SaysS fa fn kds gcs ce.ecl w K) : ModOk w K mg (ctS w K kds ce.ecl cll) ce where
  kd := kdS c
  exc := eclB_ok X G c.e (by decide) rfl
  gc := fun x d hx => (show AllP (fun p : Str × D => ∃ u v, mg p.1 = some u ∧ RelV v u ∧ ∀ H, Den K (ctS w K kds ce.ecl cll) H v p.2) ce.gc from ⟨c.gc X G (by simp [gcs]), trivial⟩).mem (lookup_mem hx)
  free := fun x hx => (show AllP (fun p : Str => mg p = none) ce.free from ⟨He.free_ok X G (c.fact 21), He.free_ok X G (c.fact 22), He.free_ok X G (c.fact 23), He.free_ok X G (c.fact 24), He.free_ok X G (c.fact 25), He.free_ok X G (c.fact 26), He.free_ok X G (c.fact 27), He.free_ok X G (c.fact 28), He.free_ok X G (c.fact 29), He.free_ok X G (c.fact 30), trivial⟩).mem (List.contains_iff_mem.mp hx)
theorem defs {K : PySem.W.Frag} {mg : Str → Option Value} {h : Heap} (X : K.In h) (G : h.Ns mainGlobals mg) {P : Program} {w : World} (c : SaysS fa fn kds gcs ce.ecl w K) : ∀ x k m, ce.fn.lookup x = some (k, m) → DefOk K mg ce tab x k m ∨ ClassOk K mg (ctS w K kds ce.ecl cll) ce tab x k m ∨ ∀ base : Heap, K.In base → base.Ns mainGlobals mg → ExtOk P w K mg base (ctS w K kds ce.ecl cll) ce tab 100000 x k m := fun x k m hx =>
  (show AllP (fun p : Str × (Nat × Nat) => DefOk K mg ce tab p.1 p.2.1 p.2.2 ∨ ClassOk K mg (ctS w K kds ce.ecl cll) ce tab p.1 p.2.1 p.2.2 ∨ ∀ base : Heap, K.In base → base.Ns mainGlobals mg → ExtOk P w K mg base (ctS w K kds ce.ecl cll) ce tab 100000 p.1 p.2.1 p.2.2) ce.fn from ⟨.inl (def_ok X G (c.fact 0) (c.def_ 0) sc0 (fun _ _ _ _ _ _ us hl => match us, hl with | [_, _], _ => rfl) rfl rfl cv0 fw0),
    .inl (def_ok X G (c.fact 1) (c.def_ 1) sc1 (fun _ _ _ _ _ _ us hl => match us, hl with | [_, _, _], _ => rfl) rfl rfl cv1 fw1),
    .inl (def_ok X G (c.fact 2) (c.def_ 2) sc2 (fun _ _ _ _ _ _ us hl => match us, hl with | [_, _, _], _ => rfl) rfl rfl cv2 fw2),
    .inl (def_ok X G (c.fact 3) (c.def_ 3) sc3 (fun _ _ _ _ _ _ us hl => match us, hl with | [_, _, _], _ => rfl) rfl rfl cv3 fw3),
    .inl (def_ok X G (c.fact 4) (c.def_ 4) sc4 (fun _ _ _ _ _ _ us hl => match us, hl with | [_, _], _ => rfl) rfl rfl cv4 fw4),
    .inl (def_ok X G (c.fact 5) (c.def_ 5) sc5 (fun _ _ _ _ _ _ us hl => match us, hl with | [_], _ => rfl) rfl rfl cv5 fw5),
    .inl (def_ok X G (c.fact 6) (c.def_ 6) sc6 (fun _ _ _ _ _ _ us hl => match us, hl with | [_], _ => rfl) rfl rfl cv6 fw6),
    .inl (def_ok X G (c.fact 7) (c.def_ 7) sc7 (fun _ _ _ _ _ _ us hl => match us, hl with | [_, _], _ => rfl) rfl rfl cv7 fw7),
    .inl (def_ok X G (c.fact 8) (c.def_ 8) sc8 (fun _ _ _ _ _ _ us hl => match us, hl with | [_, _], _ => rfl) rfl rfl cv8 fw8),
    .inl (def_ok X G (c.fact 9) (c.def_ 9) sc9 (fun _ _ _ _ _ _ us hl => match us, hl with | [_, _], _ => rfl) rfl rfl cv9 fw9),
    .inl (def_ok X G (c.fact 10) (c.def_ 10) sc10 (fun _ _ _ _ _ _ us hl => match us, hl with | [], _ => rfl) rfl rfl cv10 fw10),
    .inl (def_ok X G (c.fact 11) (c.def_ 11) sc11 (fun _ _ _ _ _ _ us hl => match us, hl with | [_], _ => rfl) rfl rfl cv11 fw11),
    .inl (def_ok X G (c.fact 12) (c.def_ 12) sc12 (fun _ _ _ _ _ _ us hl => match us, hl with | [_], _ => rfl) rfl rfl cv12 fw12),
    .inl (def_ok X G (c.fact 13) (c.def_ 13) sc13 (fun _ _ _ _ _ _ us hl => match us, hl with | [_, _], _ => rfl) rfl rfl cv13 fw13),
    .inl (def_ok X G (c.fact 14) (c.def_ 14) sc14 (fun _ _ _ _ _ _ us hl => match us, hl with | [_, _], _ => rfl) rfl rfl cv14 fw14),
    .inl (def_ok X G (c.fact 15) (c.def_ 15) sc15 (fun _ _ _ _ _ _ us hl => match us, hl with | [_, _, _], _ => rfl) rfl rfl cv15 fw15),
    .inl (def_ok X G (c.fact 16) (c.def_ 16) sc16 (fun _ _ _ _ _ _ us hl => match us, hl with | [_], _ => rfl) rfl rfl cv16 fw16),
    .inl (def_ok X G (c.fact 17) (c.def_ 17) sc17 (fun _ _ _ _ _ _ us hl => match us, hl with | [_, _], _ => rfl) rfl rfl cv17 fw17),
    .inl (def_ok X G (c.fact 18) (c.def_ 18) sc18 (fun _ _ _ _ _ _ us hl => match us, hl with | [_, _], _ => rfl) rfl rfl cv18 fw18),
    .inl (def_ok X G (c.fact 19) (c.def_ 19) sc19 (fun _ _ _ _ _ _ us hl => match us, hl with | [_, _], _ => rfl) rfl rfl cv19 fw19),
    .inl (def_ok X G (c.fact 20) (c.def_ 20) sc20 (fun _ _ _ _ _ _ us hl => match us, hl with | [_], _ => rfl) rfl rfl cv20 fw20),
    .inr (.inl (class_okT (sets := sets_Builder_init) (ms := []) X G (c.fact 31) rfl (He.mkr_ok (c.fact 34)) (c.def_ 21) sc_Builder_init (fun _ _ _ _ _ _ us hl => match us, hl with | [_, _, _], _ => rfl) rfl rfl rfl (by decide +kernel) (by decide +kernel) cv_Builder_init fw_Builder_init (by decide +kernel) (by decide))),
    .inr (.inl (class_okT (sets := sets_Pair_init) (ms := [("steps", 641), ("is_end", 642)]) X G (c.fact 35) rfl (He.mkr_ok (c.fact 42)) (c.def_ 22) sc_Pair_init (fun _ _ _ _ _ _ us hl => match us, hl with | [_, _, _, _], _ => rfl) rfl rfl rfl (by decide +kernel) (by decide +kernel) cv_Pair_init fw_Pair_init (by decide +kernel) (by decide))),
    .inr (.inl (class_okT (sets := sets_Line_init) (ms := [("steps", 681), ("is_end", 682)]) X G (c.fact 43) rfl (He.mkr_ok (c.fact 49)) (c.def_ 25) sc_Line_init (fun _ _ _ _ _ _ us hl => match us, hl with | [_, _], _ => rfl) rfl rfl rfl (by decide +kernel) (by decide +kernel) cv_Line_init fw_Line_init (by decide +kernel) (by decide))),
    .inr (.inl (class_okT (sets := sets_Single_init) (ms := [("steps", 661), ("is_end", 662)]) X G (c.fact 50) rfl (He.mkr_ok (c.fact 55)) (c.def_ 28) sc_Single_init (fun _ _ _ _ _ _ us hl => match us, hl with | [_, _], _ => rfl) rfl rfl rfl (by decide +kernel) (by decide +kernel) cv_Single_init fw_Single_init (by decide +kernel) (by decide))),
    trivial⟩).mem (lookup_mem hx)
theorem clss {w : World} {K : PySem.W.Frag} (c : SaysS fa fn kds gcs ce.ecl w K) : ClsOk K (ctS w K kds ce.ecl cll) ce tab :=
  clsS (tabL := tabL) rfl (show AllP _ cll from ⟨⟨He.cls_ok (c.fact 32), ⟨He.noat_ok (c.fact 33), trivial⟩, by decide +kernel, by decide⟩, ⟨He.cls_ok (c.fact 36), ⟨He.noat_ok (c.fact 37), He.noat_ok (c.fact 38), He.noat_ok (c.fact 39), trivial⟩, by decide +kernel, by decide⟩, ⟨He.cls_ok (c.fact 44), ⟨He.noat_ok (c.fact 45), He.noat_ok (c.fact 46), trivial⟩, by decide +kernel, by decide⟩, ⟨He.cls_ok (c.fact 51), ⟨He.noat_ok (c.fact 52), trivial⟩, by decide +kernel, by decide⟩, trivial⟩)
    (show AllP _ tabL from ⟨trivial,
      trivial,
      trivial,
      trivial,
      trivial,
      trivial,
      trivial,
      trivial,
      trivial,
      trivial,
      trivial,
      trivial,
      trivial,
      trivial,
      trivial,
      trivial,
      trivial,
      trivial,
      trivial,
      trivial,
      trivial,
      ⟨"Builder", rfl, trivial⟩,
      ⟨"Pair", rfl, ⟨⟨by decide +kernel, meth_okT (He.meth_ok (c.fact 40)) (c.def_ 23) sc_Pair_steps (fun _ _ _ _ _ _ us hl => match us, hl with | [_, _, _], _ => rfl) rfl cv_Pair_steps fw_Pair_steps⟩, ⟨by decide +kernel, meth_okT (He.meth_ok (c.fact 41)) (c.def_ 24) sc_Pair_is_end (fun _ _ _ _ _ _ us hl => match us, hl with | [_, _], _ => rfl) rfl cv_Pair_is_end fw_Pair_is_end⟩, trivial⟩⟩,
      trivial,
      trivial,
      ⟨"Single", rfl, ⟨⟨by decide +kernel, meth_okT (He.meth_ok (c.fact 53)) (c.def_ 29) sc_Single_steps (fun _ _ _ _ _ _ us hl => match us, hl with | [_, _, _], _ => rfl) rfl cv_Single_steps fw_Single_steps⟩, ⟨by decide +kernel, meth_okT (He.meth_ok (c.fact 54)) (c.def_ 30) sc_Single_is_end (fun _ _ _ _ _ _ us hl => match us, hl with | [_, _], _ => rfl) rfl cv_Single_is_end fw_Single_is_end⟩, trivial⟩⟩,
      trivial,
      trivial,
      ⟨"Line", rfl, ⟨⟨by decide +kernel, meth_okT (He.meth_ok (c.fact 47)) (c.def_ 26) sc_Line_steps (fun _ _ _ _ _ _ us hl => match us, hl with | [_, _, _], _ => rfl) rfl cv_Line_steps fw_Line_steps⟩, ⟨by decide +kernel, meth_okT (He.meth_ok (c.fact 48)) (c.def_ 27) sc_Line_is_end (fun _ _ _ _ _ _ us hl => match us, hl with | [_, _], _ => rfl) rfl cv_Line_is_end fw_Line_is_end⟩, trivial⟩⟩,
      trivial,
      trivial,
      trivial⟩)
theorem facts {P : Program} {w : World} {K : PySem.W.Frag} {mg : Str → Option Value} {h : Heap} (X : K.In h) (G : h.Ns mainGlobals mg) (c : SaysS fa fn kds gcs ce.ecl w K) (hlaw : ∀ ns : List Int, ns.length ≤ 63 → Phi tab 100000 (39 + 1) 93 [.scr ns] = .ok (.bl true)) :
    ∃ (fd : FuncData) (sp : Sp), (∀ (s : Shared) (u : Value), BindsTo s fd ⟨[u], []⟩ [("_law_script", u)]) ∧
        (∀ (H : Hp) (a : Addr) (ns : List Int), ns.length ≤ 63 → Only H → SqL K H a (ns.map V.int) → sp [.ref a] H (fun v _ => v = .bl true) fun _ _ _ => False) ∧
        ∀ base : Heap, K.In base → base.Ns mainGlobals mg → FnOk P w K mg base (L2.CX P w) (39 + 1) (He.ga K ("law" : Str)) fd ["_law_script"] sp :=
  law_F (k := 93) (ss := f_law_16.body) X G (mods X G c) (clss c) (defs X G c) (c.def_ 20) sc20 (fun _ _ _ _ _ _ us hl => match us, hl with | [_], _ => rfl) rfl cv20 fw20 hlaw
end Tk
/-! Lists without doubles, and going through a graph: plain Lean. -/
namespace Pm
open Classical
universe u v
variable {α : Type u} {β : Type v}
noncomputable def insA (l : List α) (x : α) : List α := if x ∈ l then l else l ++ [x]
noncomputable def insAll (l xs : List α) : List α := xs.foldl insA l
noncomputable def dd (xs : List α) : List α := insAll [] xs
theorem insA_in {l : List α} {x : α} (h : x ∈ l) : insA l x = l := if_pos h
theorem insA_new {l : List α} {x : α} (h : x ∉ l) : insA l x = l ++ [x] := if_neg h
theorem mem_insA {l : List α} {x y : α} : y ∈ insA l x ↔ y ∈ l ∨ y = x := by
  unfold insA
  split
  · rename_i h
    constructor
    · exact .inl
    · rintro (h1 | rfl)
      · exact h1
      · exact h
  · simp
theorem insAll_nil (l : List α) : insAll l [] = l := rfl
theorem insAll_cons (l : List α) (x : α) (xs : List α) : insAll l (x :: xs) = insAll (insA l x) xs := rfl
theorem insAll_app (l xs ys : List α) : insAll l (xs ++ ys) = insAll (insAll l xs) ys := by unfold insAll; rw [List.foldl_append]
theorem insAll_snoc (l xs : List α) (x : α) : insAll l (xs ++ [x]) = insA (insAll l xs) x := by rw [insAll_app]; rfl
theorem mem_insAll {y : α} : ∀ {xs l : List α}, y ∈ insAll l xs ↔ y ∈ l ∨ y ∈ xs
  | [], l => by simp [insAll_nil]
  | x :: xs, l => by rw [insAll_cons, mem_insAll, mem_insA, List.mem_cons, or_assoc]
theorem mem_dd {y : α} {xs : List α} : y ∈ dd xs ↔ y ∈ xs := by unfold dd; rw [mem_insAll]; simp
theorem nodup_insA {l : List α} {x : α} (h : l.Nodup) : (insA l x).Nodup := by
  unfold insA
  split
  · exact h
  · rename_i c
    rw [List.nodup_append]
    refine ⟨h, by simp, fun a ha b hb e => ?_⟩
    rw [List.mem_singleton] at hb
    subst hb e
    exact c ha
theorem nodup_insAll : ∀ {xs l : List α}, l.Nodup → (insAll l xs).Nodup
  | [], l, h => h
  | x :: xs, l, h => nodup_insAll (xs := xs) (nodup_insA h)
theorem nodup_dd (xs : List α) : (dd xs).Nodup := nodup_insAll List.nodup_nil
theorem insA_pre (l : List α) (x : α) : ∃ r, insA l x = l ++ r := by
  unfold insA
  split
  · exact ⟨[], by simp⟩
  · exact ⟨[x], rfl⟩
theorem insAll_pre : ∀ (xs l : List α), ∃ r, insAll l xs = l ++ r
  | [], l => ⟨[], by simp [insAll_nil]⟩
  | x :: xs, l => by
    obtain ⟨r, h⟩ := insA_pre l x
    obtain ⟨r2, h2⟩ := insAll_pre xs (insA l x)
    exact ⟨r ++ r2, by rw [insAll_cons, h2, h, List.append_assoc]⟩
theorem insAll_sub : ∀ {xs l : List α}, (∀ x ∈ xs, x ∈ l) → insAll l xs = l
  | [], l, _ => rfl
  | x :: xs, l, h => by
    rw [insAll_cons, insA_in (h x (by simp))]
    exact insAll_sub fun y hy => h y (by simp [hy])
theorem dd_of_nodup {xs : List α} (h : xs.Nodup) : dd xs = xs := by
  have : ∀ (ys l : List α), (l ++ ys).Nodup → insAll l ys = l ++ ys := by
    intro ys
    induction ys with
    | nil => intro l _; simp [insAll_nil]
    | cons y ys ih =>
      intro l hl
      have hy : y ∉ l := fun hm => (List.nodup_append.mp hl).2.2 y hm y (by simp) rfl
      rw [insAll_cons, insA_new hy, ih (l ++ [y]) (by simpa using hl)]
      simp
  exact this xs [] (by simpa using h)
theorem dd_snoc (xs : List α) (x : α) : dd (xs ++ [x]) = insA (dd xs) x := insAll_snoc _ _ _
theorem dd_insA (h : α → β) (l : List α) (x : α) : dd ((insA l x).map h) = insA (dd (l.map h)) (h x) := by
  by_cases c : x ∈ l
  · rw [insA_in c, insA_in]
    exact mem_dd.mpr (List.mem_map.mpr ⟨x, c, rfl⟩)
  · rw [insA_new c, List.map_append, List.map_cons, List.map_nil, dd_snoc]
theorem dd_insAll (h : α → β) : ∀ (xs l : List α), dd ((insAll l xs).map h) = insAll (dd (l.map h)) (xs.map h)
  | [], l => rfl
  | x :: xs, l => by
    rw [insAll_cons, dd_insAll h xs, dd_insA, List.map_cons, insAll_cons]
theorem dd_le : ∀ (xs : List α), (dd xs).length ≤ xs.length := by
  intro xs
  have : ∀ (ys l : List α), (insAll l ys).length ≤ l.length + ys.length := by
    intro ys
    induction ys with
    | nil => intro l; simp [insAll_nil]
    | cons y ys ih =>
      intro l
      have h1 := ih (insA l y)
      have h2 : (insA l y).length ≤ l.length + 1 := by unfold insA; split <;> simp
      rw [insAll_cons, List.length_cons]
      omega
  simpa [dd] using this xs []
/-! ### going through -/
noncomputable def bfs (nx : α → List α) : Nat → Nat → List α → List α
  | 0, _, l => l
  | k + 1, at_, l => match l[at_]? with
    | none => l
    | some q => bfs nx k (at_ + 1) (insAll l (nx q))
theorem bfs_none {nx : α → List α} {k a : Nat} {l : List α} (h : l[a]? = none) : bfs nx (k + 1) a l = l := by unfold bfs; rw [h]
theorem bfs_some {nx : α → List α} {k a : Nat} {l : List α} {q : α} (h : l[a]? = some q) : bfs nx (k + 1) a l = bfs nx k (a + 1) (insAll l (nx q)) := by
  show (match l[a]? with | none => l | some q => bfs nx k (a + 1) (insAll l (nx q))) = _
  rw [h]
/-- all that is behind its members is in it -/
def Clo (nx : α → List α) (l : List α) : Prop := ∀ q ∈ l, ∀ s ∈ nx q, s ∈ l
theorem bfs_clo {nx : α → List α} {l : List α} (c : Clo nx l) : ∀ (k a : Nat), bfs nx k a l = l
  | 0, _ => rfl
  | k + 1, a => by
    unfold bfs
    cases q : l[a]? with
    | none => rfl
    | some x =>
      show bfs nx k (a + 1) (insAll l (nx x)) = l
      rw [insAll_sub (c x (List.mem_of_getElem? q))]
      exact bfs_clo c k (a + 1)
theorem bfs_more {nx : α → List α} : ∀ (k a : Nat) (l : List α), Clo nx (bfs nx k a l) → ∀ j, bfs nx (k + j) a l = bfs nx k a l
  | 0, a, l, c, j => by
    rw [Nat.zero_add]
    exact bfs_clo c j a
  | k + 1, a, l, c, j => by
    have e : k + 1 + j = (k + j) + 1 := by omega
    rw [e]
    unfold bfs at c ⊢
    cases q : l[a]? with
    | none => rfl
    | some x => rw [q] at c; exact bfs_more k (a + 1) _ c j
/-- what is met stays within a closed part -/
theorem bfs_in {nx : α → List α} {P : α → Prop} (cl : ∀ q, P q → ∀ s ∈ nx q, P s) : ∀ (k a : Nat) (l : List α), (∀ q ∈ l, P q) → ∀ q ∈ bfs nx k a l, P q
  | 0, _, l, h => h
  | k + 1, a, l, h => by
    unfold bfs
    cases q : l[a]? with
    | none => exact h
    | some x =>
      refine bfs_in cl k (a + 1) _ fun y hy => ?_
      rcases mem_insAll.mp hy with z | z
      · exact h y z
      · exact cl x (h x (List.mem_of_getElem? q)) y z
theorem bfs_nodup {nx : α → List α} : ∀ (k a : Nat) (l : List α), l.Nodup → (bfs nx k a l).Nodup
  | 0, _, l, h => h
  | k + 1, a, l, h => by
    unfold bfs
    cases q : l[a]? with
    | none => exact h
    | some x => exact bfs_nodup k (a + 1) _ (nodup_insAll h)
theorem bfs_sub {nx : α → List α} : ∀ (k a : Nat) (l : List α), ∃ r, bfs nx k a l = l ++ r
  | 0, _, l => ⟨[], by simp [bfs]⟩
  | k + 1, a, l => by
    unfold bfs
    cases q : l[a]? with
    | none => exact ⟨[], by simp⟩
    | some x =>
      obtain ⟨r, h⟩ := insAll_pre (nx x) l
      obtain ⟨r2, h2⟩ := bfs_sub k (a + 1) (insAll l (nx x))
      exact ⟨r ++ r2, by show bfs nx k (a + 1) (insAll l (nx x)) = _; rw [h2, h, List.append_assoc]⟩
/-- what is behind the first so many is there -/
def Pro (nx : α → List α) (l : List α) (a : Nat) : Prop := ∀ i q, i < a → l[i]? = some q → ∀ s ∈ nx q, s ∈ l
theorem pro_step {nx : α → List α} {l : List α} {a : Nat} {q : α} (h : Pro nx l a) (e : l[a]? = some q) : Pro nx (insAll l (nx q)) (a + 1) := by
  intro i x hi hx s hs
  obtain ⟨r, hr⟩ := insAll_pre (nx q) l
  have hal : a < l.length := (List.getElem?_eq_some_iff.mp e).1
  have hil : i < l.length := by omega
  rw [hr, List.getElem?_append_left hil] at hx
  by_cases c : i = a
  · subst c
    rw [e] at hx
    cases hx
    exact mem_insAll.mpr (.inr hs)
  · exact mem_insAll.mpr (.inl (h i x (by omega) hx s hs))
theorem pro_clo {nx : α → List α} {l : List α} {a : Nat} (h : Pro nx l a) (ha : l.length ≤ a) : Clo nx l := fun q hq s hs => by
  obtain ⟨i, hi⟩ := List.mem_iff_getElem?.mp hq
  exact h i q (by have := (List.getElem?_eq_some_iff.mp hi).1; omega) hi s hs
theorem bfs_done {nx : α → List α} {P : α → Prop} {N : Nat} (cl : ∀ q, P q → ∀ s ∈ nx q, P s) (few : ∀ l : List α, l.Nodup → (∀ q ∈ l, P q) → l.length ≤ N) :
    ∀ (k a : Nat) (l : List α), l.Nodup → (∀ q ∈ l, P q) → Pro nx l a → N ≤ a + k → Clo nx (bfs nx k a l)
  | 0, a, l, h1, h2, h3, h4 => by
    have z := few l h1 h2
    exact pro_clo (l := l) h3 (by omega)
  | k + 1, a, l, h1, h2, h3, h4 => by
    unfold bfs
    cases q : l[a]? with
    | none => exact pro_clo h3 (List.getElem?_eq_none_iff.mp q)
    | some x =>
      refine bfs_done cl few k (a + 1) _ (nodup_insAll h1) (fun y hy => ?_) (pro_step h3 q) (by omega)
      rcases mem_insAll.mp hy with z | z
      · exact h2 y z
      · exact cl x (h2 x (List.mem_of_getElem? q)) y z
/-- a map that keeps what is behind: the images are met in the order of the first ones -/
theorem bfs_hom {nx : α → List α} {ny : β → List β} {h : α → β} {P : α → Prop} (cl : ∀ q, P q → ∀ s ∈ nx q, P s) (hh : ∀ q, P q → ny (h q) = (nx q).map h) :
    ∀ (k a : Nat) (l : List α), (∀ q ∈ l, P q) → Pro nx l a → ∃ k', bfs ny k' (dd ((l.take a).map h)).length (dd (l.map h)) = dd ((bfs nx k a l).map h)
  | 0, a, l, _, _ => ⟨0, rfl⟩
  | k + 1, a, l, hP, pr => by
    cases q : l[a]? with
    | none => rw [bfs_none q]; exact ⟨0, rfl⟩
    | some x =>
      rw [bfs_some q]
      have hx : x ∈ l := List.mem_of_getElem? q
      have hal : a < l.length := (List.getElem?_eq_some_iff.mp q).1
      obtain ⟨r, hr⟩ := insAll_pre (nx x) l
      obtain ⟨k', ih⟩ := bfs_hom cl hh k (a + 1) (insAll l (nx x)) (fun y hy => by
        rcases mem_insAll.mp hy with z | z
        · exact hP y z
        · exact cl x (hP x hx) y z) (pro_step pr q)
      have et : (insAll l (nx x)).take (a + 1) = l.take a ++ [x] := by
        rw [hr, List.take_append_of_le_length (by omega), List.take_succ, q]
        rfl
      rw [et, List.map_append, List.map_cons, List.map_nil, dd_snoc, dd_insAll, ← hh x (hP x hx)] at ih
      by_cases c : h x ∈ dd ((l.take a).map h)
      · -- met before
        rw [insA_in c] at ih
        obtain ⟨y, hy, ey⟩ := List.mem_map.mp (mem_dd.mp c)
        obtain ⟨i, hi⟩ := List.mem_iff_getElem?.mp hy
        have hia : i < a := by
          have := (List.getElem?_eq_some_iff.mp hi).1
          rw [List.length_take] at this
          omega
        rw [List.getElem?_take, if_pos hia] at hi
        have hyl : y ∈ l := List.mem_of_getElem? hi
        have e2 : insAll (dd (l.map h)) (ny (h x)) = dd (l.map h) := by
          refine insAll_sub fun z hz => ?_
          rw [← ey, hh y (hP y hyl)] at hz
          obtain ⟨s, hs, rfl⟩ := List.mem_map.mp hz
          exact mem_dd.mpr (List.mem_map.mpr ⟨s, pr i y hia hi s hs, rfl⟩)
        rw [e2] at ih
        exact ⟨k', ih⟩
      · rw [insA_new c, List.length_append, List.length_cons, List.length_nil] at ih
        refine ⟨k' + 1, ?_⟩
        have e3 : (dd (l.map h))[(dd ((l.take a).map h)).length]? = some (h x) := by
          have e4 : l.map h = (l.take a).map h ++ [h x] ++ (l.drop (a + 1)).map h := by
            rw [← List.map_singleton, ← List.map_append, ← List.map_append]
            congr 1
            have : l.drop a = x :: l.drop (a + 1) := by
              rw [List.drop_eq_getElem_cons hal]
              congr 1
              rw [List.getElem?_eq_getElem hal] at q
              exact Option.some.inj q
            rw [List.append_assoc, List.singleton_append, ← this, List.take_append_drop]
          rw [e4]
          unfold dd
          rw [insAll_app]
          obtain ⟨r2, h2⟩ := insAll_pre ((l.drop (a + 1)).map h) (insAll [] ((l.take a).map h ++ [h x]))
          rw [h2]
          have e5 : insAll [] ((l.take a).map h ++ [h x]) = dd ((l.take a).map h) ++ [h x] := by
            rw [insAll_snoc]
            exact insA_new c
          rw [e5, List.append_assoc]
          unfold dd
          simp
        rw [bfs_some e3]
        exact ih
/-- two maps into one graph: what is met has the same images -/
theorem bfs_same {γ : Type u} {nx : α → List α} {nz : γ → List γ} {ny : β → List β} {h : α → β} {g : γ → β} {P : α → Prop} {R : γ → Prop} (cl : ∀ q, P q → ∀ s ∈ nx q, P s) (hh : ∀ q, P q → ny (h q) = (nx q).map h)
    (cl2 : ∀ q, R q → ∀ s ∈ nz q, R s) (hg : ∀ q, R q → ny (g q) = (nz q).map g) {a : α} {c : γ} (ha : P a) (hc : R c) (e : h a = g c) {k j : Nat} (c1 : Clo nx (bfs nx k 0 [a])) (c2 : Clo nz (bfs nz j 0 [c])) :
    dd ((bfs nx k 0 [a]).map h) = dd ((bfs nz j 0 [c]).map g) := by
  obtain ⟨k1, h1⟩ := bfs_hom cl hh k 0 [a] (by simpa using ha) (fun i q hi => by omega)
  obtain ⟨k2, h2⟩ := bfs_hom cl2 hg j 0 [c] (by simpa using hc) (fun i q hi => by omega)
  have e1 : dd ([a].map h) = [h a] := by simp [dd, insAll, insA]
  have e2 : dd ([c].map g) = [h a] := by simp [dd, insAll, insA, e]
  have e3 : (dd (([a].take 0).map h)).length = 0 := rfl
  have e4 : (dd (([c].take 0).map g)).length = 0 := rfl
  rw [e1, e3] at h1
  rw [e2, e4] at h2
  have cy : ∀ {δ : Type u} {mx : δ → List δ} {f : δ → β} {Q : δ → Prop} {l : List δ}, (∀ q ∈ l, Q q) → (∀ q, Q q → ny (f q) = (mx q).map f) → Clo mx l → Clo ny (dd (l.map f)) := by
    intro δ mx f Q l hq hf c q hm s hs
    obtain ⟨x, hx, rfl⟩ := List.mem_map.mp (mem_dd.mp hm)
    rw [hf x (hq x hx)] at hs
    obtain ⟨y, hy, rfl⟩ := List.mem_map.mp hs
    exact mem_dd.mpr (List.mem_map.mpr ⟨y, c x hx y hy, rfl⟩)
  have y1 := cy (bfs_in cl k 0 [a] (by simpa using ha)) hh c1
  have y2 := cy (bfs_in cl2 j 0 [c] (by simpa using hc)) hg c2
  rw [← h1] at y1
  rw [← h2] at y2
  have m1 := bfs_more k1 0 [h a] y1 k2
  have m2 := bfs_more k2 0 [h a] y2 k1
  rw [← h1, ← h2, ← m1, ← m2, Nat.add_comm]
end Pm
/-! Machines, what they accept, and the least ones: plain Lean. -/
namespace Pm
open Classical
structure Mc where
  n : Nat
  fin : Nat → Bool
  nx : Nat → Fin 4 → Nat
abbrev Wd := List (Fin 4)
abbrev Lg := Wd → Bool
structure Mc.ok (m : Mc) : Prop where
  pos : 0 < m.n
  nx : ∀ q, q < m.n → ∀ a, m.nx q a < m.n
def dl (m : Mc) (q : Nat) (w : Wd) : Nat := w.foldl m.nx q
def lang (m : Mc) (q : Nat) : Lg := fun w => m.fin (dl m q w)
def der (a : Fin 4) (L : Lg) : Lg := fun w => L (a :: w)
theorem lang_nx (m : Mc) (q : Nat) (a : Fin 4) : lang m (m.nx q a) = der a (lang m q) := rfl
def nxs (m : Mc) (q : Nat) : List Nat := [m.nx q 0, m.nx q 1, m.nx q 2, m.nx q 3]
def ders (L : Lg) : List Lg := [der 0 L, der 1 L, der 2 L, der 3 L]
theorem ders_lang (m : Mc) (q : Nat) : ders (lang m q) = (nxs m q).map (lang m) := rfl
theorem mem_nxs {m : Mc} {q s : Nat} : s ∈ nxs m q ↔ ∃ a, s = m.nx q a := by
  constructor
  · intro h
    simp only [nxs, List.mem_cons, List.not_mem_nil, or_false] at h
    rcases h with h | h | h | h <;> exact ⟨_, h⟩
  · rintro ⟨a, rfl⟩
    match a with
    | 0 => simp [nxs]
    | 1 => simp [nxs]
    | 2 => simp [nxs]
    | 3 => simp [nxs]
theorem mem_ders {L K : Lg} : K ∈ ders L ↔ ∃ a, K = der a L := by
  constructor
  · intro h
    simp only [ders, List.mem_cons, List.not_mem_nil, or_false] at h
    rcases h with h | h | h | h <;> exact ⟨_, h⟩
  · rintro ⟨a, rfl⟩
    match a with
    | 0 => simp [ders]
    | 1 => simp [ders]
    | 2 => simp [ders]
    | 3 => simp [ders]
noncomputable def reached (m : Mc) : List Nat := bfs (nxs m) m.n 0 [0]
section
variable {m : Mc} (h : m.ok)
theorem few_lt {N : Nat} (l : List Nat) (hn : l.Nodup) (hl : ∀ q ∈ l, q < N) : l.length ≤ N := by
  induction N generalizing l with
  | zero =>
    cases l with
    | nil => simp
    | cons x l => exact absurd (hl x (by simp)) (by omega)
  | succ N ih =>
    have h1 := ih (l.erase N) (hn.erase N) fun q hq => by
      obtain ⟨q1, q2⟩ := hn.mem_erase_iff.mp hq
      have := hl q q2
      omega
    by_cases c : N ∈ l
    · have := List.length_erase_of_mem c
      have := List.length_pos_of_mem c
      omega
    · rw [List.erase_of_not_mem c] at h1
      omega
theorem cl_lt (h : m.ok) : ∀ q, q < m.n → ∀ s ∈ nxs m q, s < m.n := fun q hq s hs => by
  obtain ⟨a, rfl⟩ := mem_nxs.mp hs
  exact h.nx q hq a
theorem reached_lt (h : m.ok) : ∀ q ∈ reached m, q < m.n := bfs_in (cl_lt h) _ _ _ (by simpa using h.pos)
theorem reached_nodup (m : Mc) : (reached m).Nodup := bfs_nodup _ _ _ (by simp)
theorem reached_clo (h : m.ok) : Clo (nxs m) (reached m) := bfs_done (P := fun q => q < m.n) (cl_lt h) few_lt _ _ _ (by simp) (by simpa using h.pos) (fun i q hi => by omega) (by omega)
theorem reached_head (m : Mc) : ∃ r, reached m = 0 :: r := by
  obtain ⟨r, e⟩ := bfs_sub (nx := nxs m) m.n 0 [0]
  exact ⟨r, e⟩
theorem reached_nx (h : m.ok) {q : Nat} (hq : q ∈ reached m) (a : Fin 4) : m.nx q a ∈ reached m := reached_clo h q hq _ (mem_nxs.mpr ⟨a, rfl⟩)
theorem reached_dl (h : m.ok) {q : Nat} (hq : q ∈ reached m) : ∀ w : Wd, dl m q w ∈ reached m := fun w => by
  induction w generalizing q with
  | nil => exact hq
  | cons a w ih => exact ih (reached_nx h hq a)
theorem zero_reached (m : Mc) : 0 ∈ reached m := by obtain ⟨r, e⟩ := reached_head m; rw [e]; simp
end
/-! ### the least machine of a language -/
noncomputable def cls (m : Mc) : List Lg := dd ((reached m).map (lang m))
theorem cls_same {m1 m2 : Mc} (h1 : m1.ok) (h2 : m2.ok) (e : lang m1 0 = lang m2 0) : cls m1 = cls m2 :=
  bfs_same (P := fun q => q < m1.n) (R := fun q => q < m2.n) (ny := ders) (cl_lt h1) (fun q _ => ders_lang m1 q) (cl_lt h2) (fun q _ => ders_lang m2 q) h1.pos h2.pos e (reached_clo h1) (reached_clo h2)
noncomputable def idx {α : Type} (C : List α) (x : α) : Nat := C.findIdx fun y => decide (y = x)
theorem idx_lt {α : Type} {C : List α} {x : α} (h : x ∈ C) : idx C x < C.length := List.findIdx_lt_length_of_exists ⟨x, h, by simp⟩
theorem idx_get {α : Type} {C : List α} {x : α} (h : x ∈ C) : C[idx C x]? = some x := by
  have hl := idx_lt h
  rw [List.getElem?_eq_getElem hl]
  have := List.findIdx_getElem (xs := C) (p := fun y => decide (y = x)) (w := hl)
  simp only [decide_eq_true_eq] at this
  exact congrArg some this
theorem idx_of {α : Type} {C : List α} {x : α} {i : Nat} (hn : C.Nodup) (h : C[i]? = some x) : idx C x = i :=
  (List.getElem?_inj (idx_lt (List.mem_of_getElem? h)) hn).mp ((idx_get (List.mem_of_getElem? h)).trans h.symm)
theorem idx_inj {α : Type} {C : List α} {x y : α} (hx : x ∈ C) (hy : y ∈ C) (e : idx C x = idx C y) : x = y := by
  have h1 := idx_get hx
  rw [e, idx_get hy] at h1
  exact (Option.some.inj h1).symm
noncomputable def canon (C : List Lg) : Mc := ⟨C.length, fun i => C.getD i (fun _ => false) [], fun i a => idx C (der a (C.getD i (fun _ => false)))⟩
noncomputable def leastM (m : Mc) : Mc := canon (cls m)
section
variable {m : Mc}
theorem cls_mem {L : Lg} : L ∈ cls m ↔ ∃ q ∈ reached m, lang m q = L := by
  unfold cls
  rw [mem_dd, List.mem_map]
theorem cls_nodup (m : Mc) : (cls m).Nodup := nodup_dd _
theorem cls_der (h : m.ok) {L : Lg} (hL : L ∈ cls m) (a : Fin 4) : der a L ∈ cls m := by
  obtain ⟨q, hq, rfl⟩ := cls_mem.mp hL
  exact cls_mem.mpr ⟨m.nx q a, reached_nx h hq a, rfl⟩
theorem cls_head (m : Mc) : ∃ r, cls m = lang m 0 :: r := by
  obtain ⟨r, e⟩ := reached_head m
  unfold cls
  rw [e]
  obtain ⟨r2, h2⟩ := insAll_pre (r.map (lang m)) (insA [] (lang m 0))
  refine ⟨r2, ?_⟩
  show insAll (insA [] (lang m 0)) (r.map (lang m)) = _
  rw [h2, insA_new (by simp)]
  rfl
theorem getD_of {C : List Lg} {i : Nat} {L : Lg} (h : C[i]? = some L) : C.getD i (fun _ => false) = L := by rw [List.getD_eq_getElem?_getD, h]; rfl
theorem leastM_ok (h : m.ok) : (leastM m).ok := by
  refine ⟨?_, fun q hq a => ?_⟩
  · obtain ⟨r, e⟩ := cls_head m
    show 0 < (cls m).length
    rw [e]; simp
  · have hq : q < (cls m).length := hq
    have e := List.getElem?_eq_getElem hq
    show idx (cls m) (der a ((cls m).getD q _)) < (cls m).length
    rw [getD_of e]
    exact idx_lt (cls_der h (List.getElem_mem hq) a)
theorem lang_least (h : m.ok) : ∀ (w : Wd) {q : Nat} {L : Lg}, (cls m)[q]? = some L → lang (leastM m) q w = L w
  | [], q, L, e => by
    show (cls m).getD q _ [] = L []
    rw [getD_of e]
  | a :: w, q, L, e => by
    have hL := List.mem_of_getElem? e
    have e2 : (leastM m).nx q a = idx (cls m) (der a L) := by
      show idx (cls m) (der a ((cls m).getD q _)) = _
      rw [getD_of e]
    show lang (leastM m) ((leastM m).nx q a) w = der a L w
    rw [e2]
    exact lang_least h w (idx_get (cls_der h hL a))
/-- it accepts the same -/
theorem least_lang (h : m.ok) : lang (leastM m) 0 = lang m 0 := by
  funext w
  obtain ⟨r, e⟩ := cls_head m
  exact lang_least h w (by rw [e]; rfl)
theorem least_same {m1 m2 : Mc} (h1 : m1.ok) (h2 : m2.ok) (e : lang m1 0 = lang m2 0) : leastM m1 = leastM m2 := by
  unfold leastM
  rw [cls_same h1 h2 e]
theorem least_least (h : m.ok) : leastM (leastM m) = leastM m := least_same (leastM_ok h) h (least_lang h)
theorem least_le (h : m.ok) : (leastM m).n ≤ m.n := by
  have h1 := dd_le ((reached m).map (lang m))
  have h2 := few_lt (reached m) (reached_nodup m) (reached_lt h)
  rw [List.length_map] at h1
  exact Nat.le_trans h1 h2
theorem least_apart (h : m.ok) {p q : Nat} (hp : p < (leastM m).n) (hq : q < (leastM m).n) (e : lang (leastM m) p = lang (leastM m) q) : p = q := by
  have hp : p < (cls m).length := hp
  have hq : q < (cls m).length := hq
  have e1 := List.getElem?_eq_getElem hp
  have e2 := List.getElem?_eq_getElem hq
  have : (cls m)[p] = (cls m)[q] := by
    funext w
    rw [← lang_least h w e1, ← lang_least h w e2, e]
  rw [this, ← e2] at e1
  exact (List.getElem?_inj hp (cls_nodup m)).mp e1
end
/-! ### telling states apart, step by step -/
def Eqv (m : Mc) (k : Nat) (q r : Nat) : Prop := ∀ w : Wd, w.length ≤ k → lang m q w = lang m r w
theorem eqv_zero {m : Mc} {q r : Nat} : Eqv m 0 q r ↔ m.fin q = m.fin r := by
  constructor
  · intro h; exact h [] (by simp)
  · intro h w hw
    have : w = [] := List.length_eq_zero_iff.mp (by omega)
    subst this
    exact h
theorem eqv_succ {m : Mc} {k q r : Nat} : Eqv m (k + 1) q r ↔ Eqv m k q r ∧ ∀ a, Eqv m k (m.nx q a) (m.nx r a) := by
  constructor
  · intro h
    exact ⟨fun w hw => h w (by omega), fun a w hw => h (a :: w) (by simp; omega)⟩
  · rintro ⟨h1, h2⟩ w hw
    cases w with
    | nil => exact h1 [] (by simp)
    | cons a w => exact h2 a w (by simp at hw; omega)
theorem eqv_stable {m : Mc} {S : List Nat} (cl : ∀ q ∈ S, ∀ a, m.nx q a ∈ S) {k : Nat} (st : ∀ q ∈ S, ∀ r ∈ S, Eqv m k q r → Eqv m (k + 1) q r) : ∀ q ∈ S, ∀ r ∈ S, Eqv m k q r → lang m q = lang m r := by
  have key : ∀ j, ∀ q ∈ S, ∀ r ∈ S, Eqv m k q r → Eqv m (k + j) q r := by
    intro j
    induction j with
    | zero => exact fun q _ r _ h => h
    | succ j ih =>
      intro q hq r hr h
      refine eqv_succ.mpr ⟨ih q hq r hr h, fun a => ih _ (cl q hq a) _ (cl r hr a) ?_⟩
      exact (eqv_succ.mp (st q hq r hr h)).2 a
  intro q hq r hr h
  funext w
  exact key w.length q hq r hr h w (by omega)
@[elab_as_elim] theorem snocRec {α : Type} {P : List α → Prop} (nil : P []) (snoc : ∀ l x, P l → P (l ++ [x])) (l : List α) : P l := by
  have : ∀ r : List α, P r.reverse := by
    intro r
    induction r with
    | nil => exact nil
    | cons x r ih => rw [List.reverse_cons]; exact snoc _ _ ih
  have h := this l.reverse
  rwa [List.reverse_reverse] at h
/-- first ones of each kind, for two ways of telling kinds -/
theorem reps {α : Type} {β γ : Type} (a : α → β) (b : α → γ) : ∀ (S : List α), (∀ q ∈ S, ∀ r ∈ S, a q = a r ↔ b q = b r) → ∃ R : List α, (∀ r ∈ R, r ∈ S) ∧ dd (S.map a) = R.map a ∧ dd (S.map b) = R.map b := by
  intro S
  induction S using snocRec with
  | nil => exact fun _ => ⟨[], fun r hr => hr, rfl, rfl⟩
  | snoc S x ih =>
    intro h
    obtain ⟨R, h1, h2, h3⟩ := ih fun q hq r hr => h q (by simp [hq]) r (by simp [hr])
    rw [List.map_append, List.map_append, List.map_cons, List.map_nil, List.map_cons, List.map_nil, dd_snoc, dd_snoc, h2, h3]
    by_cases c : a x ∈ R.map a
    · obtain ⟨r, hr, e⟩ := List.mem_map.mp c
      have c2 : b x ∈ R.map b := List.mem_map.mpr ⟨r, hr, (h r (by simp [h1 r hr]) x (by simp)).mp e⟩
      exact ⟨R, fun r hr => by simp [h1 r hr], insA_in c, insA_in c2⟩
    · have c2 : b x ∉ R.map b := fun hm => by
        obtain ⟨r, hr, e⟩ := List.mem_map.mp hm
        exact c (List.mem_map.mpr ⟨r, hr, (h r (by simp [h1 r hr]) x (by simp)).mpr e⟩)
      refine ⟨R ++ [x], fun r hr => ?_, by rw [insA_new c]; simp, by rw [insA_new c2]; simp⟩
      rcases List.mem_append.mp hr with z | z
      · simp [h1 r z]
      · simp at z; simp [z]
theorem idx_map {α β γ : Type} {a : α → β} {b : α → γ} {R : List α} {q : α} (h : ∀ r ∈ R, a r = a q ↔ b r = b q) : idx (R.map a) (a q) = idx (R.map b) (b q) := by
  unfold idx
  rw [List.findIdx_map, List.findIdx_map]
  have : ∀ (R : List α), (∀ r ∈ R, a r = a q ↔ b r = b q) → R.findIdx ((fun y => decide (y = a q)) ∘ a) = R.findIdx ((fun y => decide (y = b q)) ∘ b) := by
    intro R
    induction R with
    | nil => intro _; rfl
    | cons r R ih =>
      intro h
      rw [List.findIdx_cons, List.findIdx_cons, ih fun s hs => h s (by simp [hs])]
      have : ((fun y => decide (y = a q)) ∘ a) r = ((fun y => decide (y = b q)) ∘ b) r := by simp [h r (by simp)]
      rw [this]
  exact this R h
/-- a finer way of telling kinds that tells as many is the same -/
theorem count_le {α β γ : Type} (a : α → β) (b : α → γ) : ∀ (S : List α), (∀ q ∈ S, ∀ r ∈ S, b q = b r → a q = a r) → (dd (S.map a)).length ≤ (dd (S.map b)).length := by
  intro S
  induction S using snocRec with
  | nil => exact fun _ => Nat.le_refl _
  | snoc S x ih =>
    intro h
    have i := ih fun q hq r hr => h q (by simp [hq]) r (by simp [hr])
    rw [List.map_append, List.map_append, List.map_cons, List.map_nil, List.map_cons, List.map_nil, dd_snoc, dd_snoc]
    by_cases c : b x ∈ dd (S.map b)
    · obtain ⟨r, hr, e⟩ := List.mem_map.mp (mem_dd.mp c)
      have c2 : a x ∈ dd (S.map a) := mem_dd.mpr (List.mem_map.mpr ⟨r, hr, h r (by simp [hr]) x (by simp) e⟩)
      rw [insA_in c, insA_in c2]; exact i
    · rw [insA_new c]
      have : (insA (dd (S.map a)) (a x)).length ≤ (dd (S.map a)).length + 1 := by unfold insA; split <;> simp
      simp
      omega
theorem same_kinds {α β γ : Type} (a : α → β) (b : α → γ) : ∀ (S : List α), (∀ q ∈ S, ∀ r ∈ S, b q = b r → a q = a r) → (dd (S.map a)).length = (dd (S.map b)).length → ∀ q ∈ S, ∀ r ∈ S, a q = a r → b q = b r := by
  intro S
  induction S using snocRec with
  | nil => intro _ _ q hq; cases hq
  | snoc S x ih =>
    intro h e
    have hS : ∀ q ∈ S, ∀ r ∈ S, b q = b r → a q = a r := fun q hq r hr => h q (by simp [hq]) r (by simp [hr])
    have le := count_le a b S hS
    rw [List.map_append, List.map_append, List.map_cons, List.map_nil, List.map_cons, List.map_nil, dd_snoc, dd_snoc] at e
    have two : (a x ∈ dd (S.map a) ↔ b x ∈ dd (S.map b)) ∧ (dd (S.map a)).length = (dd (S.map b)).length := by
      by_cases c : b x ∈ dd (S.map b)
      · obtain ⟨r, hr, e2⟩ := List.mem_map.mp (mem_dd.mp c)
        have c2 : a x ∈ dd (S.map a) := mem_dd.mpr (List.mem_map.mpr ⟨r, hr, h r (by simp [hr]) x (by simp) e2⟩)
        rw [insA_in c, insA_in c2] at e
        exact ⟨⟨fun _ => c, fun _ => c2⟩, e⟩
      · rw [insA_new c] at e
        by_cases c2 : a x ∈ dd (S.map a)
        · rw [insA_in c2] at e
          simp at e
          omega
        · rw [insA_new c2] at e
          exact ⟨⟨fun z => absurd z c2, fun z => absurd z c⟩, by simpa using e⟩
    have i := ih hS two.2
    have last : ∀ q ∈ S, a q = a x → b q = b x := fun q hq e2 => by
      have : a x ∈ dd (S.map a) := mem_dd.mpr (List.mem_map.mpr ⟨q, hq, e2⟩)
      obtain ⟨r, hr, e3⟩ := List.mem_map.mp (mem_dd.mp (two.1.mp this))
      have e4 := h r (by simp [hr]) x (by simp) e3
      rw [← e3]
      exact i q hq r hr (e2.trans e4.symm)
    intro q hq r hr e2
    rcases List.mem_append.mp hq with q1 | q1
    · rcases List.mem_append.mp hr with r1 | r1
      · exact i q q1 r r1 e2
      · rw [List.mem_singleton] at r1
        rw [r1] at e2 ⊢
        exact last q q1 e2
    · rw [List.mem_singleton] at q1
      rw [q1] at e2 ⊢
      rcases List.mem_append.mp hr with r1 | r1
      · exact (last r r1 e2.symm).symm
      · rw [List.mem_singleton] at r1
        rw [r1]
end Pm
/-! More of least machines: numbered as met; told apart within as many rounds as states; maps between machines. Plain Lean. -/
namespace Pm
open Classical
theorem map_inj_on {α β : Type} {f : α → β} : ∀ {a b : List α}, (∀ x ∈ a, ∀ y ∈ b, f x = f y → x = y) → a.map f = b.map f → a = b
  | [], [], _, _ => rfl
  | [], y :: b, _, h => by simp at h
  | x :: a, [], _, h => by simp at h
  | x :: a, y :: b, hf, h => by
    simp only [List.map_cons, List.cons.injEq] at h
    rw [hf x (by simp) y (by simp) h.1, map_inj_on (fun x hx y hy => hf x (by simp [hx]) y (by simp [hy])) h.2]
theorem nodup_map_on {α β : Type} {f : α → β} : ∀ {l : List α}, (∀ x ∈ l, ∀ y ∈ l, f x = f y → x = y) → l.Nodup → (l.map f).Nodup
  | [], _, _ => by simp
  | x :: l, hf, h => by
    rw [List.map_cons, List.nodup_cons]
    obtain ⟨h1, h2⟩ := List.nodup_cons.mp h
    refine ⟨fun hm => ?_, nodup_map_on (fun a ha b hb => hf a (by simp [ha]) b (by simp [hb])) h2⟩
    obtain ⟨y, hy, e⟩ := List.mem_map.mp hm
    have := hf y (by simp [hy]) x (by simp) e
    exact h1 (this ▸ hy)
/-- its states are numbered as they are met -/
theorem least_reached {m : Mc} (h : m.ok) : reached (leastM m) = List.range (leastM m).n := by
  have hL := leastM_ok h
  have hlt := reached_lt hL
  have inj : ∀ x, x < (leastM m).n → ∀ y, y < (leastM m).n → lang (leastM m) x = lang (leastM m) y → x = y := fun x hx y hy e => least_apart h hx hy e
  have e1 : cls (leastM m) = cls m := cls_same hL h (least_lang h)
  have e2 : cls (leastM m) = (reached (leastM m)).map (lang (leastM m)) := dd_of_nodup (nodup_map_on (fun x hx y hy e => inj x (hlt x hx) y (hlt y hy) e) (reached_nodup _))
  have e3 : cls m = (List.range (leastM m).n).map (lang (leastM m)) := by
    apply List.ext_getElem
    · simp [leastM, canon]
    · intro i h1 h2
      rw [List.getElem_map, List.getElem_range]
      funext w
      exact (lang_least h w (List.getElem?_eq_getElem h1)).symm
  exact map_inj_on (fun x hx y hy e => inj x (hlt x hx) y (List.mem_range.mp hy) e) (e2.symm.trans (e1.trans e3))
/-- what it accepts of texts of at most so many signs -/
def upTo (m : Mc) (k q : Nat) : Wd → Bool := fun w => if w.length ≤ k then lang m q w else false
theorem upTo_iff {m : Mc} {k q r : Nat} : upTo m k q = upTo m k r ↔ Eqv m k q r := by
  constructor
  · intro h w hw
    have := congrFun h w
    unfold upTo at this
    rwa [if_pos hw, if_pos hw] at this
  · intro h
    funext w
    unfold upTo
    by_cases hw : w.length ≤ k
    · rw [if_pos hw, if_pos hw, h w hw]
    · rw [if_neg hw, if_neg hw]
theorem Eqv.mono {m : Mc} {k j q r : Nat} (h : Eqv m k q r) (hj : j ≤ k) : Eqv m j q r := fun w hw => h w (by omega)
/-- as many rounds as states are enough -/
theorem eqv_full {m : Mc} (h : m.ok) {q r : Nat} (hq : q < m.n) (hr : r < m.n) (e : Eqv m m.n q r) : lang m q = lang m r := by
  have cl : ∀ q ∈ List.range m.n, ∀ a, m.nx q a ∈ List.range m.n := fun q hq a => List.mem_range.mpr (h.nx q (List.mem_range.mp hq) a)
  have up : ∀ k, (dd ((List.range m.n).map (upTo m k))).length ≤ (dd ((List.range m.n).map (upTo m (k + 1)))).length := fun k =>
    count_le _ _ _ fun q _ r _ e => upTo_iff.mpr ((upTo_iff.mp e).mono (by omega))
  have top : ∀ k, (dd ((List.range m.n).map (upTo m k))).length ≤ m.n := fun k => by
    have := dd_le ((List.range m.n).map (upTo m k))
    simpa using this
  have bot : 0 < (dd ((List.range m.n).map (upTo m 0))).length := by
    refine List.length_pos_of_mem (mem_dd.mpr (List.mem_map.mpr ⟨0, List.mem_range.mpr h.pos, rfl⟩))
  have some_k : ∃ k, k < m.n ∧ (dd ((List.range m.n).map (upTo m k))).length = (dd ((List.range m.n).map (upTo m (k + 1)))).length := by
    refine Classical.byContradiction fun hc => ?_
    have grow : ∀ k, k ≤ m.n → k < (dd ((List.range m.n).map (upTo m k))).length := by
      intro k
      induction k with
      | zero => intro _; exact bot
      | succ k ih =>
        intro hk
        have i := ih (by omega)
        have u := up k
        have ne : ¬ (dd ((List.range m.n).map (upTo m k))).length = (dd ((List.range m.n).map (upTo m (k + 1)))).length := fun e => hc ⟨k, by omega, e⟩
        omega
    have := grow m.n (Nat.le_refl _)
    have := top m.n
    omega
  obtain ⟨k, hk, ek⟩ := some_k
  have st : ∀ q ∈ List.range m.n, ∀ r ∈ List.range m.n, Eqv m k q r → Eqv m (k + 1) q r := fun q hq r hr e =>
    upTo_iff.mp (same_kinds (upTo m k) (upTo m (k + 1)) (List.range m.n) (fun q _ r _ e => upTo_iff.mpr ((upTo_iff.mp e).mono (by omega))) ek q hq r hr (upTo_iff.mpr e))
  exact eqv_stable cl st q (List.mem_range.mpr hq) r (List.mem_range.mpr hr) (e.mono (by omega))
/-- a map that keeps ends and steps keeps what is accepted -/
theorem hom_lang {a b : Mc} {h : Nat → Nat} (ok : a.ok) (hf : ∀ q, q < a.n → a.fin q = b.fin (h q)) (hx : ∀ q, q < a.n → ∀ c, h (a.nx q c) = b.nx (h q) c) : ∀ (w : Wd) (q : Nat), q < a.n → lang a q w = lang b (h q) w
  | [], q, hq => hf q hq
  | c :: w, q, hq => by
    have := hom_lang ok hf hx w (a.nx q c) (ok.nx q hq c)
    rw [hx q hq c] at this
    exact this
theorem full_of {n : Nat} {l : List Nat} (h1 : l.Nodup) (h2 : ∀ q ∈ l, q < n) (h3 : l.length = n) {k : Nat} (hk : k < n) : k ∈ l := by
  refine Classical.byContradiction fun c => ?_
  have := few_lt (k :: l) (List.nodup_cons.mpr ⟨c, h1⟩) (N := n) (fun q hq => by
    rcases List.mem_cons.mp hq with z | z
    · rw [z]; exact hk
    · exact h2 q z)
  simp at this
  omega
/-- the states' row, with a list already met -/
theorem bfs_pre {nx : Nat → List Nat} {n : Nat} : ∀ (k a : Nat) (l : List Nat), bfs nx k a l = List.range n → l = List.range l.length ∧ l.length ≤ n := by
  intro k a l h
  obtain ⟨r, e⟩ := bfs_sub (nx := nx) k a l
  rw [h] at e
  have hl : l.length ≤ n := by
    have := congrArg List.length e
    simp at this
    omega
  refine ⟨?_, hl⟩
  have h2 : l = (List.range n).take l.length := by rw [e]; simp
  rw [List.take_range, Nat.min_eq_left hl] at h2
  exact h2
end Pm
/-! Numbers of accepted texts, their order, and going round in machines. Plain Lean. -/
namespace Pm
abbrev sg : List (Fin 4) := [0, 1, 2, 3]
/-- the accepted words of k signs, in order -/
def acc (m : Mc) : Nat → Nat → List Wd
  | 0, q => if m.fin q then [[]] else []
  | k + 1, q => sg.flatMap fun a => (acc m k (m.nx q a)).map (a :: ·)
def cnt (m : Mc) (k q : Nat) : Nat := (acc m k q).length
theorem cnt_zero (m : Mc) (q : Nat) : cnt m 0 q = if m.fin q then 1 else 0 := by
  unfold cnt acc
  split <;> rfl
theorem cnt_succ (m : Mc) (k q : Nat) : cnt m (k + 1) q = cnt m k (m.nx q 0) + (cnt m k (m.nx q 1) + (cnt m k (m.nx q 2) + (cnt m k (m.nx q 3) + 0))) := by
  simp [cnt, acc, sg]
theorem mem_sg (a : Fin 4) : a ∈ sg := by
  match a with
  | 0 => simp
  | 1 => simp
  | 2 => simp
  | 3 => simp
theorem mem_acc {m : Mc} : ∀ {k q : Nat} {w : Wd}, w ∈ acc m k q ↔ w.length = k ∧ lang m q w = true
  | 0, q, w => by
    unfold acc
    by_cases c : m.fin q = true
    · rw [if_pos c]
      constructor
      · intro h
        rw [List.mem_singleton] at h
        subst h
        exact ⟨rfl, c⟩
      · rintro ⟨h, _⟩
        rw [List.length_eq_zero_iff.mp h]
        simp
    · rw [if_neg c]
      constructor
      · intro h; cases h
      · rintro ⟨h, h2⟩
        rw [List.length_eq_zero_iff.mp h] at h2
        exact absurd h2 c
  | k + 1, q, w => by
    unfold acc
    rw [List.mem_flatMap]
    constructor
    · rintro ⟨a, _, h⟩
      obtain ⟨v, hv, rfl⟩ := List.mem_map.mp h
      obtain ⟨h1, h2⟩ := mem_acc.mp hv
      exact ⟨by simp [h1], h2⟩
    · rintro ⟨h1, h2⟩
      cases w with
      | nil => cases h1
      | cons a v => exact ⟨a, mem_sg a, List.mem_map.mpr ⟨v, mem_acc.mpr ⟨by simpa using h1, h2⟩, rfl⟩⟩
/-- a word of k signs is accepted -/
def Ac (m : Mc) (q k : Nat) : Prop := ∃ w : Wd, w.length = k ∧ lang m q w = true
theorem cnt_pos {m : Mc} {k q : Nat} : 0 < cnt m k q ↔ Ac m q k := by
  unfold cnt
  rw [List.length_pos_iff_exists_mem]
  exact ⟨fun ⟨w, h⟩ => ⟨w, mem_acc.mp h⟩, fun ⟨w, h⟩ => ⟨w, mem_acc.mpr h⟩⟩
theorem Ac_same {m1 m2 : Mc} (e : lang m1 0 = lang m2 0) {k : Nat} : Ac m1 0 k ↔ Ac m2 0 k := by
  unfold Ac
  rw [e]
theorem dl_app (m : Mc) (q : Nat) (x y : Wd) : dl m q (x ++ y) = dl m (dl m q x) y := by unfold dl; rw [List.foldl_append]
theorem dl_in {m : Mc} (h : m.ok) : ∀ (w : Wd) {q : Nat}, q < m.n → dl m q w < m.n
  | [], q, hq => hq
  | a :: w, q, hq => dl_in h w (h.nx q hq a)
/-- a long way meets a state twice -/
theorem twice {m : Mc} (h : m.ok) {q : Nat} (hq : q < m.n) {w : Wd} (hw : m.n ≤ w.length) : ∃ x y z : Wd, w = x ++ y ++ z ∧ 0 < y.length ∧ y.length ≤ m.n ∧ dl m q x = dl m q (x ++ y) := by
  have hnd : ¬ ((List.range (m.n + 1)).map fun i => dl m q (w.take i)).Nodup := fun nd => by
    have := few_lt _ nd (N := m.n) (fun s hs => by
      obtain ⟨i, _, rfl⟩ := List.mem_map.mp hs
      exact dl_in h _ hq)
    simp at this
    omega
  unfold List.Nodup at hnd
  rw [List.pairwise_iff_getElem] at hnd
  simp only [Classical.not_forall] at hnd
  obtain ⟨i, j, hi, hj, hij, e⟩ := hnd
  have e := Classical.not_not.mp e
  simp only [List.length_map, List.length_range] at hi hj
  simp only [List.getElem_map, List.getElem_range] at e
  have e1 : w.take i ++ (w.drop i).take (j - i) = w.take j := by
    rw [← List.take_add]
    congr 1
    omega
  refine ⟨w.take i, (w.drop i).take (j - i), w.drop j, ?_, ?_, ?_, ?_⟩
  · rw [e1, List.take_append_drop]
  · rw [List.length_take, List.length_drop]
    omega
  · rw [List.length_take]
    omega
  · rw [e1, e]
def rep (y : Wd) : Nat → Wd
  | 0 => []
  | k + 1 => y ++ rep y k
theorem rep_len (y : Wd) : ∀ k, (rep y k).length = k * y.length
  | 0 => by simp [rep]
  | k + 1 => by
    rw [rep, List.length_append, rep_len y k, Nat.succ_mul]
    omega
theorem dl_rep {m : Mc} {s : Nat} {y : Wd} (e : dl m s y = s) : ∀ k, dl m s (rep y k) = s
  | 0 => rfl
  | k + 1 => by rw [rep, dl_app, e, dl_rep e k]
/-- less, and more -/
theorem pump {m : Mc} (h : m.ok) {q k : Nat} (hq : q < m.n) (ha : Ac m q k) (hk : m.n ≤ k) : ∃ d, 0 < d ∧ d ≤ m.n ∧ Ac m q (k - d) ∧ ∀ i, Ac m q (k + i * d) := by
  obtain ⟨w, hw, hl⟩ := ha
  obtain ⟨x, y, z, e, h1, h2, e2⟩ := twice h hq (w := w) (by omega)
  have ey : dl m (dl m q x) y = dl m q x := by rw [← dl_app]; exact e2.symm
  have len : w.length = x.length + y.length + z.length := by rw [e, List.length_append, List.length_append]
  have lx : lang m q (x ++ z) = true := by
    unfold lang at hl ⊢
    rw [e, dl_app, ← e2, ← dl_app] at hl
    exact hl
  refine ⟨y.length, h1, h2, ⟨x ++ z, by simp; omega, lx⟩, fun i => ⟨x ++ (rep y (i + 1) ++ z), ?_, ?_⟩⟩
  · rw [List.length_append, List.length_append, rep_len, Nat.succ_mul]
    omega
  · unfold lang at lx ⊢
    rw [dl_app, dl_app, dl_rep ey]
    rw [dl_app] at lx
    exact lx
theorem some_short {m : Mc} (h : m.ok) {q : Nat} (hq : q < m.n) : ∀ k, Ac m q k → ∃ j, j < m.n ∧ j ≤ k ∧ Ac m q j := by
  intro k
  induction k using Nat.strongRecOn with
  | ind k ih =>
    intro ha
    by_cases c : k < m.n
    · exact ⟨k, c, Nat.le_refl _, ha⟩
    · obtain ⟨d, h1, h2, h3, _⟩ := pump h hq ha (by omega)
      obtain ⟨j, a, b, e⟩ := ih (k - d) (by omega) h3
      exact ⟨j, a, by omega, e⟩
theorem some_mid {m : Mc} (h : m.ok) {q : Nat} (hq : q < m.n) : ∀ k, Ac m q k → m.n ≤ k → ∃ j, m.n ≤ j ∧ j < 2 * m.n ∧ Ac m q j := by
  intro k
  induction k using Nat.strongRecOn with
  | ind k ih =>
    intro ha hk
    by_cases c : k < 2 * m.n
    · exact ⟨k, hk, c, ha⟩
    · obtain ⟨d, h1, h2, h3, _⟩ := pump h hq ha hk
      exact ih (k - d) (by omega) h3 (by omega)
/-- finitely many: all are shorter than there are states -/
def Few (m : Mc) : Prop := ∀ k, Ac m 0 k → k < m.n
theorem few_or {m : Mc} (h : m.ok) : Few m ∨ ∃ k d, m.n ≤ k ∧ k < 2 * m.n ∧ 0 < d ∧ d ≤ m.n ∧ ∀ i, Ac m 0 (k + i * d) := by
  by_cases c : Few m
  · exact .inl c
  · obtain ⟨k, hk⟩ := Classical.not_forall.mp c
    obtain ⟨ha, hk⟩ := Classical.not_imp.mp hk
    obtain ⟨j, j1, j2, j3⟩ := some_mid h h.pos k ha (by omega)
    obtain ⟨d, d1, d2, _, d3⟩ := pump h h.pos j3 j1
    exact .inr ⟨j, d, j1, j2, d1, d2, d3⟩
/-- it is the language's matter, not the machine's -/
theorem few_same {m1 m2 : Mc} (h1 : m1.ok) (h2 : m2.ok) (e : lang m1 0 = lang m2 0) (f : Few m1) : Few m2 := by
  rcases few_or h2 with z | ⟨k, d, _, _, d1, _, z⟩
  · exact z
  · exfalso
    have := f (k + m1.n * d) ((Ac_same e).mpr (z m1.n))
    have : m1.n ≤ m1.n * d := Nat.le_mul_of_pos_right _ d1
    omega
/-- all accepted words of fewer than so many signs, in order -/
def En (m : Mc) : Nat → List Wd
  | 0 => []
  | k + 1 => En m k ++ acc m k 0
theorem En_pre (m : Mc) : ∀ j k, ∃ r, En m (k + j) = En m k ++ r
  | 0, k => ⟨[], by simp⟩
  | j + 1, k => by
    obtain ⟨r, h⟩ := En_pre m j k
    refine ⟨r ++ acc m (k + j) 0, ?_⟩
    show En m (k + j) ++ acc m (k + j) 0 = _
    rw [h, List.append_assoc]
theorem En_few {m : Mc} {K : Nat} (f : ∀ k, Ac m 0 k → k < K) : ∀ j, En m (K + j) = En m K
  | 0 => rfl
  | j + 1 => by
    show En m (K + j) ++ acc m (K + j) 0 = _
    have : acc m (K + j) 0 = [] := by
      refine List.eq_nil_iff_forall_not_mem.mpr fun w hw => ?_
      have := f (K + j) ⟨w, mem_acc.mp hw⟩
      omega
    rw [this, List.append_nil, En_few f j]
/-- without end: as many as wished -/
theorem En_many {m : Mc} {k d : Nat} (hd : 0 < d) (ha : ∀ i, Ac m 0 (k + i * d)) : ∀ t, t ≤ (En m (k + t * d)).length
  | 0 => Nat.zero_le _
  | t + 1 => by
    have i := En_many hd ha t
    have e : k + (t + 1) * d = k + t * d + 1 + (d - 1) := by rw [Nat.succ_mul]; omega
    obtain ⟨r, hr⟩ := En_pre m (d - 1) (k + t * d + 1)
    rw [e, hr]
    have : En m (k + t * d + 1) = En m (k + t * d) ++ acc m (k + t * d) 0 := rfl
    rw [this, List.length_append, List.length_append]
    have := cnt_pos.mpr (ha t)
    unfold cnt at this
    omega
end Pm
/-! Machines built of states of any kind; machines by what they accept: plain Lean. -/
namespace Pm
open Classical
def nxA {α : Type} (nx : α → Fin 4 → α) (q : α) : List α := [nx q 0, nx q 1, nx q 2, nx q 3]
theorem mem_nxA {α : Type} {nx : α → Fin 4 → α} {q s : α} : s ∈ nxA nx q ↔ ∃ a, s = nx q a := by
  constructor
  · intro h
    simp only [nxA, List.mem_cons, List.not_mem_nil, or_false] at h
    rcases h with h | h | h | h
    · exact ⟨0, h⟩
    · exact ⟨1, h⟩
    · exact ⟨2, h⟩
    · exact ⟨3, h⟩
  · rintro ⟨a, rfl⟩
    match a with
    | 0 => simp [nxA]
    | 1 => simp [nxA]
    | 2 => simp [nxA]
    | 3 => simp [nxA]
def lgA {α : Type} (nx : α → Fin 4 → α) (fin : α → Bool) (s : α) : Lg := fun w => fin (w.foldl nx s)
noncomputable def mcA {α : Type} (K : List α) (nx : α → Fin 4 → α) (fin : α → Bool) : Mc :=
  ⟨K.length, fun i => match K[i]? with | some x => fin x | none => false, fun i a => match K[i]? with | some x => idx K (nx x a) | none => 0⟩
section
variable {α : Type} {K : List α} {nx : α → Fin 4 → α} {fin : α → Bool}
theorem mcA_ok (hc : Clo (nxA nx) K) (h0 : 0 < K.length) : (mcA K nx fin).ok := by
  refine ⟨h0, fun q hq a => ?_⟩
  have e : K[q]? = some K[q] := List.getElem?_eq_getElem hq
  show (match K[q]? with | some x => idx K (nx x a) | none => 0) < K.length
  rw [e]
  exact idx_lt (hc _ (List.getElem_mem hq) _ (mem_nxA.mpr ⟨a, rfl⟩))
theorem mcA_lang (hc : Clo (nxA nx) K) : ∀ (w : Wd) {i : Nat} {x : α}, K[i]? = some x → lang (mcA K nx fin) i w = lgA nx fin x w
  | [], i, x, h => by
    show (match K[i]? with | some x => fin x | none => false) = fin x
    rw [h]
  | a :: w, i, x, h => by
    have hx : nx x a ∈ K := hc _ (List.mem_of_getElem? h) _ (mem_nxA.mpr ⟨a, rfl⟩)
    have e : lang (mcA K nx fin) i (a :: w) = lang (mcA K nx fin) ((mcA K nx fin).nx i a) w := rfl
    have e2 : (mcA K nx fin).nx i a = idx K (nx x a) := by
      show (match K[i]? with | some x => idx K (nx x a) | none => 0) = _
      rw [h]
    rw [e, e2, mcA_lang hc w (idx_get hx)]
    rfl
end
/-- the least machine of what is accepted -/
noncomputable def mach (L : Lg) : Mc := if h : ∃ m : Mc, m.ok ∧ lang m 0 = L then leastM h.choose else ⟨1, fun _ => false, fun _ _ => 0⟩
theorem mach_of {m : Mc} {L : Lg} (h : m.ok) (e : lang m 0 = L) : leastM m = mach L := by
  have hh : ∃ m : Mc, m.ok ∧ lang m 0 = L := ⟨m, h, e⟩
  unfold mach
  rw [dif_pos hh]
  exact least_same h hh.choose_spec.1 (e.trans hh.choose_spec.2.symm)
/-- a machine of so many states accepts it -/
def Reg (L : Lg) (N : Nat) : Prop := ∃ m : Mc, m.ok ∧ lang m 0 = L ∧ m.n ≤ N
theorem Reg.mono {L : Lg} {N M : Nat} (h : Reg L N) (hl : N ≤ M) : Reg L M := by
  obtain ⟨m, h1, h2, h3⟩ := h
  exact ⟨m, h1, h2, by omega⟩
section
variable {L : Lg} {N : Nat} (h : Reg L N)
include h
theorem Reg.ok : (mach L).ok := by
  obtain ⟨m, h1, h2, h3⟩ := h
  rw [← mach_of h1 h2]
  exact leastM_ok h1
theorem Reg.lang : lang (mach L) 0 = L := by
  obtain ⟨m, h1, h2, h3⟩ := h
  rw [← mach_of h1 h2, least_lang h1, h2]
theorem Reg.n : (mach L).n ≤ N := by
  obtain ⟨m, h1, h2, h3⟩ := h
  rw [← mach_of h1 h2]
  have := least_le h1
  omega
theorem Reg.least : leastM (mach L) = mach L := mach_of (Reg.ok h) (Reg.lang h)
end
theorem reg_of {m : Mc} (h : m.ok) : Reg (lang m 0) m.n := ⟨m, h, rfl, Nat.le_refl _⟩
/-- states of any kind, N at most -/
theorem reg_A {α : Type} {nx : α → Fin 4 → α} {fin : α → Bool} {s : α} {P : α → Prop} {N : Nat} (h0 : P s) (cl : ∀ q, P q → ∀ a, P (nx q a)) (few : ∀ l : List α, l.Nodup → (∀ q ∈ l, P q) → l.length ≤ N) : Reg (lgA nx fin s) N := by
  have cl' : ∀ q, P q → ∀ t ∈ nxA nx q, P t := fun q hq t ht => by
    obtain ⟨a, rfl⟩ := mem_nxA.mp ht
    exact cl q hq a
  have hP : ∀ q ∈ bfs (nxA nx) N 0 [s], P q := bfs_in cl' _ _ _ (by simpa using h0)
  have hc : Clo (nxA nx) (bfs (nxA nx) N 0 [s]) := bfs_done (P := P) cl' few _ _ _ (by simp) (by simpa using h0) (fun i q hi => by omega) (by omega)
  have hn : (bfs (nxA nx) N 0 [s]).Nodup := bfs_nodup _ _ _ (by simp)
  obtain ⟨r, hr⟩ := bfs_sub (nx := nxA nx) N 0 [s]
  have h1 : (bfs (nxA nx) N 0 [s])[0]? = some s := by rw [hr]; rfl
  refine ⟨mcA (bfs (nxA nx) N 0 [s]) nx fin, mcA_ok hc (by rw [hr]; simp), funext fun w => mcA_lang hc w h1, few _ hn hP⟩
end Pm
/-! Sets of states; texts behind one another, repeated, turned about: plain Lean. -/
namespace Pm
open Classical
noncomputable def sset (n : Nat) (p : Nat → Prop) : List Nat := (List.range n).filter fun t => decide (p t)
theorem mem_sset {n t : Nat} {p : Nat → Prop} : t ∈ sset n p ↔ t < n ∧ p t := by simp [sset]
theorem sset_congr {n : Nat} {p q : Nat → Prop} (h : ∀ t, t < n → (p t ↔ q t)) : sset n p = sset n q := by
  unfold sset
  refine List.filter_congr fun t ht => ?_
  exact decide_eq_decide.mpr (h t (List.mem_range.mp ht))
theorem sset_asc (n : Nat) (p : Nat → Prop) : (sset n p).Pairwise (· < ·) := List.Pairwise.filter _ List.pairwise_lt_range
theorem asc_ext : ∀ {a b : List Nat}, a.Pairwise (· < ·) → b.Pairwise (· < ·) → (∀ x, x ∈ a ↔ x ∈ b) → a = b
  | [], [], _, _, _ => rfl
  | [], y :: b, _, _, h => by have := (h y).mpr (by simp); cases this
  | x :: a, [], _, _, h => by have := (h x).mp (by simp); cases this
  | x :: a, y :: b, ha, hb, h => by
    obtain ⟨a1, a2⟩ := List.pairwise_cons.mp ha
    obtain ⟨b1, b2⟩ := List.pairwise_cons.mp hb
    have e : x = y := by
      rcases List.mem_cons.mp ((h x).mp (by simp)) with z | z
      · exact z
      · rcases List.mem_cons.mp ((h y).mpr (by simp)) with q | q
        · exact q.symm
        · have := b1 x z
          have := a1 y q
          omega
    subst e
    rw [asc_ext a2 b2 fun z => ?_]
    constructor
    · intro hz
      rcases List.mem_cons.mp ((h z).mp (List.mem_cons_of_mem _ hz)) with q | q
      · have := a1 z hz; omega
      · exact q
    · intro hz
      rcases List.mem_cons.mp ((h z).mpr (List.mem_cons_of_mem _ hz)) with q | q
      · have := b1 z hz; omega
      · exact q
def allSub : Nat → List (List Nat)
  | 0 => [[]]
  | n + 1 => allSub n ++ (allSub n).map (· ++ [n])
theorem allSub_len : ∀ n, (allSub n).length = 2 ^ n
  | 0 => rfl
  | n + 1 => by
    rw [allSub, List.length_append, List.length_map, allSub_len n, Nat.pow_succ]
    omega
theorem sset_in (p : Nat → Prop) : ∀ n, sset n p ∈ allSub n
  | 0 => by simp [sset, allSub]
  | n + 1 => by
    have e : sset (n + 1) p = sset n p ++ (if p n then [n] else []) := by
      unfold sset
      rw [List.range_succ, List.filter_append]
      by_cases h : p n <;> simp [h]
    rw [e, allSub, List.mem_append]
    by_cases h : p n
    · rw [if_pos h]
      exact .inr (List.mem_map.mpr ⟨_, sset_in p n, rfl⟩)
    · rw [if_neg h, List.append_nil]
      exact .inl (sset_in p n)
theorem few_in {α : Type} {K : List α} (l : List α) (hn : l.Nodup) (hl : ∀ x ∈ l, x ∈ K) : l.length ≤ K.length := by
  have := few_lt (N := K.length) (l.map (idx K)) (nodup_map_on (fun x hx y hy e => idx_inj (hl x hx) (hl y hy) e) hn) (fun q hq => by
    obtain ⟨x, hx, rfl⟩ := List.mem_map.mp hq
    exact idx_lt (hl x hx))
  simpa using this
theorem dl_snoc (m : Mc) (q : Nat) (w : Wd) (c : Fin 4) : dl m q (w ++ [c]) = m.nx (dl m q w) c := by rw [dl_app]; rfl
/-- a text of the one with one of the other behind it -/
noncomputable def catL (A B : Lg) : Lg := fun w => decide (∃ u v, w = u ++ v ∧ A u = true ∧ B v = true)
theorem catL_iff {A B : Lg} {w : Wd} : catL A B w = true ↔ ∃ u v, w = u ++ v ∧ A u = true ∧ B v = true := by unfold catL; exact decide_eq_true_iff
/-- texts one behind the other -/
inductive Star (A : Lg) : Wd → Prop
  | nil : Star A []
  | snoc {x v : Wd} : Star A x → A v = true → Star A (x ++ v)
noncomputable def starL (A : Lg) : Lg := fun w => decide (Star A w)
theorem starL_iff {A : Lg} {w : Wd} : starL A w = true ↔ Star A w := by unfold starL; exact decide_eq_true_iff
theorem star_last {A : Lg} {w : Wd} (h : Star A w) : w ≠ [] → ∃ x v, w = x ++ v ∧ v ≠ [] ∧ Star A x ∧ A v = true := by
  induction h with
  | nil => intro z; exact absurd rfl z
  | @snoc x v hx hv ih =>
    intro z
    by_cases c : v = []
    · subst c
      rw [List.append_nil] at z ⊢
      exact ih z
    · exact ⟨x, v, rfl, c, hx, hv⟩
def revL (A : Lg) : Lg := fun w => A w.reverse
/-! ### a row of two machines -/
noncomputable def rwN (a b : Mc) (x : Nat × List Nat) (c : Fin 4) : Nat × List Nat := (a.nx x.1 c, sset b.n fun t => t ∈ x.2.map (fun s => b.nx s c) ∨ (a.fin (a.nx x.1 c) = true ∧ t = 0))
def rwF (b : Mc) (x : Nat × List Nat) : Bool := x.2.any b.fin
noncomputable def rw0 (a b : Mc) : Nat × List Nat := (0, sset b.n fun t => a.fin 0 = true ∧ t = 0)
noncomputable def rwS (a b : Mc) (w : Wd) : Nat × List Nat := (dl a 0 w, sset b.n fun t => ∃ u v, w = u ++ v ∧ lang a 0 u = true ∧ dl b 0 v = t)
theorem snoc_split {w u v : Wd} {c : Fin 4} (h : w ++ [c] = u ++ v) : (v = [] ∧ u = w ++ [c]) ∨ ∃ v', v = v' ++ [c] ∧ w = u ++ v' := by
  rcases List.eq_nil_or_concat v with z | ⟨v', d, z⟩
  · left
    subst z
    exact ⟨rfl, by rw [List.append_nil] at h; exact h.symm⟩
  · right
    rw [List.concat_eq_append] at z
    subst z
    rw [← List.append_assoc] at h
    obtain ⟨h1, h2⟩ := List.append_inj' h rfl
    have : c = d := by simpa using h2
    subst this
    exact ⟨v', rfl, h1⟩
theorem row_fold {a b : Mc} (hb : b.ok) : ∀ w, w.foldl (rwN a b) (rw0 a b) = rwS a b w := by
  intro w
  induction w using snocRec with
  | nil =>
    show rw0 a b = rwS a b []
    unfold rw0 rwS
    refine Prod.ext rfl (sset_congr fun t _ => ⟨fun ⟨h1, h2⟩ => ⟨[], [], rfl, h1, h2.symm⟩, ?_⟩)
    rintro ⟨u, v, e, h1, h2⟩
    obtain ⟨rfl, rfl⟩ := List.append_eq_nil_iff.mp e.symm
    exact ⟨h1, h2.symm⟩
  | snoc w c ih =>
    rw [List.foldl_append, ih]
    show rwN a b (rwS a b w) c = _
    unfold rwN rwS
    refine Prod.ext (dl_snoc a 0 w c).symm (sset_congr fun t ht => ⟨?_, ?_⟩)
    · rintro (h | ⟨h1, h2⟩)
      · obtain ⟨s, hs, rfl⟩ := List.mem_map.mp h
        obtain ⟨_, u, v, rfl, h1, rfl⟩ := mem_sset.mp hs
        exact ⟨u, v ++ [c], by rw [List.append_assoc], h1, dl_snoc b 0 v c⟩
      · refine ⟨w ++ [c], [], by rw [List.append_nil], ?_, h2.symm⟩
        show a.fin (dl a 0 (w ++ [c])) = true
        rw [dl_snoc]
        exact h1
    · rintro ⟨u, v, e, h1, h2⟩
      rcases snoc_split e with ⟨rfl, rfl⟩ | ⟨v', rfl, rfl⟩
      · right
        refine ⟨?_, h2.symm⟩
        have h1 : a.fin (dl a 0 (w ++ [c])) = true := h1
        rw [dl_snoc] at h1
        exact h1
      · left
        rw [dl_snoc] at h2
        refine List.mem_map.mpr ⟨dl b 0 v', mem_sset.mpr ⟨dl_in hb v' hb.pos, u, v', rfl, h1, rfl⟩, h2⟩
theorem row_lang {a b : Mc} (hb : b.ok) : lgA (rwN a b) (rwF b) (rw0 a b) = catL (lang a 0) (lang b 0) := by
  funext w
  unfold lgA
  rw [row_fold hb, Bool.eq_iff_iff, catL_iff]
  unfold rwF rwS
  rw [List.any_eq_true]
  constructor
  · rintro ⟨t, ht, hf⟩
    obtain ⟨_, u, v, e, h1, rfl⟩ := mem_sset.mp ht
    exact ⟨u, v, e, h1, hf⟩
  · rintro ⟨u, v, e, h1, h2⟩
    exact ⟨dl b 0 v, mem_sset.mpr ⟨dl_in hb v hb.pos, u, v, e, h1, rfl⟩, h2⟩
/-- the states of a row -/
def RwP (a b : Mc) (x : Nat × List Nat) : Prop := x.1 < a.n ∧ ∃ p, x.2 = sset b.n p
theorem rw_few {a b : Mc} (l : List (Nat × List Nat)) (hn : l.Nodup) (hl : ∀ q ∈ l, RwP a b q) : l.length ≤ a.n * 2 ^ b.n := by
  have := few_in (K := (List.range a.n).flatMap fun s => (allSub b.n).map fun t => (s, t)) l hn (fun x hx => by
    obtain ⟨h1, p, h2⟩ := hl x hx
    refine List.mem_flatMap.mpr ⟨x.1, List.mem_range.mpr h1, List.mem_map.mpr ⟨x.2, ?_, rfl⟩⟩
    rw [h2]
    exact sset_in p b.n)
  rw [List.length_flatMap] at this
  simp only [List.length_map, allSub_len, List.map_const', List.length_range, List.sum_replicate_nat] at this
  exact this
theorem rw_cl {a b : Mc} (ha : a.ok) (x : Nat × List Nat) (hx : RwP a b x) (c : Fin 4) : RwP a b (rwN a b x c) := ⟨ha.nx _ hx.1 c, _, rfl⟩
theorem rw_start {a b : Mc} (ha : a.ok) : RwP a b (rw0 a b) := ⟨ha.pos, _, rfl⟩
theorem reg_cat {a b : Mc} (ha : a.ok) (hb : b.ok) : Reg (catL (lang a 0) (lang b 0)) (a.n * 2 ^ b.n) := by
  rw [← row_lang hb]
  exact reg_A (P := RwP a b) (rw_start ha) (rw_cl ha) rw_few
/-! ### a loop -/
noncomputable def lpN (a : Mc) (x : List Nat) (c : Fin 4) : List Nat := sset a.n fun t => t ∈ (if x = [] then [0] else x).map (fun s => a.nx s c) ∨ (t = 0 ∧ ((if x = [] then [0] else x).map fun s => a.nx s c).any a.fin = true)
def lpF (a : Mc) (x : List Nat) : Bool := x.isEmpty || x.any a.fin
noncomputable def lpS (a : Mc) (w : Wd) : List Nat := if w = [] then [] else sset a.n fun t => ∃ x v, w = x ++ v ∧ Star (lang a 0) x ∧ dl a 0 v = t
noncomputable def lpA (a : Mc) (w : Wd) : List Nat := sset a.n fun t => ∃ x v, w = x ++ v ∧ Star (lang a 0) x ∧ dl a 0 v = t
theorem lp_first {a : Mc} (h : a.ok) (w : Wd) : dl a 0 w ∈ lpA a w := mem_sset.mpr ⟨dl_in h w h.pos, [], w, rfl, .nil, rfl⟩
theorem lp_start {a : Mc} (h : a.ok) : lpA a [] = [0] := by
  refine asc_ext (sset_asc _ _) (by simp) fun t => ?_
  unfold lpA
  rw [mem_sset, List.mem_singleton]
  constructor
  · rintro ⟨_, x, v, e, _, rfl⟩
    obtain ⟨rfl, rfl⟩ := List.append_eq_nil_iff.mp e.symm
    rfl
  · rintro rfl
    exact ⟨h.pos, [], [], rfl, .nil, rfl⟩
theorem lp_sel {a : Mc} (h : a.ok) (w : Wd) : (if lpS a w = [] then [0] else lpS a w) = lpA a w := by
  unfold lpS
  by_cases c : w = []
  · rw [if_pos c, if_pos rfl, c, lp_start h]
  · rw [if_neg c, if_neg]
    · rfl
    · intro z
      have := lp_first h w
      unfold lpA at this
      rw [z] at this
      cases this
theorem loop_fold {a : Mc} (h : a.ok) : ∀ w, w.foldl (lpN a) [] = lpS a w := by
  intro w
  induction w using snocRec with
  | nil => show [] = lpS a []; unfold lpS; rw [if_pos rfl]
  | snoc w c ih =>
    rw [List.foldl_append, ih]
    show lpN a (lpS a w) c = _
    unfold lpN
    rw [lp_sel h]
    conv => rhs; unfold lpS
    rw [if_neg (by simp)]
    refine sset_congr fun t ht => ⟨?_, ?_⟩
    · rintro (h1 | ⟨rfl, h1⟩)
      · obtain ⟨s, hs, rfl⟩ := List.mem_map.mp h1
        obtain ⟨_, x, v, rfl, h2, rfl⟩ := mem_sset.mp hs
        exact ⟨x, v ++ [c], by rw [List.append_assoc], h2, dl_snoc a 0 v c⟩
      · obtain ⟨s, hs, hf⟩ := List.any_eq_true.mp h1
        obtain ⟨s', hs', rfl⟩ := List.mem_map.mp hs
        obtain ⟨_, x, v, rfl, h2, rfl⟩ := mem_sset.mp hs'
        refine ⟨x ++ v ++ [c], [], by rw [List.append_nil], ?_, rfl⟩
        rw [List.append_assoc]
        refine .snoc h2 ?_
        show a.fin (dl a 0 (v ++ [c])) = true
        rw [dl_snoc]
        exact hf
    · rintro ⟨x, v, e, h2, h3⟩
      rcases snoc_split e with ⟨rfl, rfl⟩ | ⟨v', rfl, rfl⟩
      · right
        refine ⟨h3.symm, ?_⟩
        obtain ⟨y, u, e2, nu, hy, hu⟩ := star_last h2 (by simp)
        rcases snoc_split e2 with ⟨z, _⟩ | ⟨u', rfl, rfl⟩
        · exact absurd z nu
        · refine List.any_eq_true.mpr ⟨a.nx (dl a 0 u') c, List.mem_map.mpr ⟨dl a 0 u', mem_sset.mpr ⟨dl_in h u' h.pos, y, u', rfl, hy, rfl⟩, rfl⟩, ?_⟩
          have hu : a.fin (dl a 0 (u' ++ [c])) = true := hu
          rw [dl_snoc] at hu
          exact hu
      · left
        rw [dl_snoc] at h3
        exact List.mem_map.mpr ⟨dl a 0 v', mem_sset.mpr ⟨dl_in h v' h.pos, x, v', rfl, h2, rfl⟩, h3⟩
theorem loop_lang {a : Mc} (h : a.ok) : lgA (lpN a) (lpF a) [] = starL (lang a 0) := by
  funext w
  unfold lgA
  rw [loop_fold h, Bool.eq_iff_iff, starL_iff]
  unfold lpF lpS
  by_cases c : w = []
  · rw [if_pos c, c]
    exact ⟨fun _ => .nil, fun _ => rfl⟩
  · rw [if_neg c, Bool.or_eq_true, List.any_eq_true]
    constructor
    · rintro (z | ⟨t, ht, hf⟩)
      · have := lp_first h w
        unfold lpA at this
        rw [List.isEmpty_iff.mp z] at this
        cases this
      · obtain ⟨_, x, v, rfl, h2, rfl⟩ := mem_sset.mp ht
        exact .snoc h2 hf
    · intro hs
      obtain ⟨x, v, rfl, _, hx, hv⟩ := star_last hs c
      exact .inr ⟨dl a 0 v, mem_sset.mpr ⟨dl_in h v h.pos, x, v, rfl, hx, rfl⟩, hv⟩
def LpP (a : Mc) (x : List Nat) : Prop := ∃ p, x = sset a.n p
theorem lp_few {a : Mc} (l : List (List Nat)) (hn : l.Nodup) (hl : ∀ q ∈ l, LpP a q) : l.length ≤ 2 ^ a.n := by
  rw [← allSub_len]
  refine few_in l hn fun x hx => ?_
  obtain ⟨p, rfl⟩ := hl x hx
  exact sset_in p a.n
theorem sset_false (n : Nat) : sset n (fun _ => False) = [] := by simp [sset]
theorem reg_star {a : Mc} (ha : a.ok) : Reg (starL (lang a 0)) (2 ^ a.n) := by
  rw [← loop_lang ha]
  exact reg_A (P := LpP a) ⟨fun _ => False, (sset_false _).symm⟩ (fun q _ c => ⟨_, rfl⟩) lp_few
/-! ### a mirror -/
noncomputable def miN (a : Mc) (x : List Nat) (c : Fin 4) : List Nat := sset a.n fun s => a.nx s c ∈ x
noncomputable def miF (x : List Nat) : Bool := decide (0 ∈ x)
noncomputable def mi0 (a : Mc) : List Nat := sset a.n fun s => a.fin s = true
theorem mirror_fold {a : Mc} (h : a.ok) : ∀ w : Wd, w.foldl (miN a) (mi0 a) = sset a.n fun s => lang a s w.reverse = true := by
  intro w
  induction w using snocRec with
  | nil => rfl
  | snoc w c ih =>
    rw [List.foldl_append, ih]
    show miN a _ c = _
    unfold miN
    refine sset_congr fun s hs => ?_
    rw [mem_sset, List.reverse_append]
    exact ⟨fun z => z.2, fun z => ⟨h.nx s hs c, z⟩⟩
theorem mirror_lang {a : Mc} (h : a.ok) : lgA (miN a) miF (mi0 a) = revL (lang a 0) := by
  funext w
  unfold lgA revL
  rw [mirror_fold h]
  unfold miF
  rw [Bool.eq_iff_iff, decide_eq_true_iff, mem_sset]
  exact ⟨fun z => z.2, fun z => ⟨h.pos, z⟩⟩
theorem reg_rev {a : Mc} (ha : a.ok) : Reg (revL (lang a 0)) (2 ^ a.n) := by
  rw [← mirror_lang ha]
  exact reg_A (P := LpP a) ⟨_, rfl⟩ (fun q _ c => ⟨_, rfl⟩) lp_few
end Pm
/-! Machines of lists of texts, of lengths: plain Lean. -/
namespace Pm
open Classical
noncomputable def listL (ws : List Wd) : Lg := fun w => decide (w ∈ ws)
noncomputable def liN (ws : List Wd) (x : Option Wd) (c : Fin 4) : Option Wd := match x with
  | none => none
  | some z => if ∃ t ∈ ws, z ++ [c] <+: t then some (z ++ [c]) else none
noncomputable def liF (ws : List Wd) (x : Option Wd) : Bool := match x with
  | none => false
  | some z => decide (z ∈ ws)
def liPre (ws : List Wd) (w : Wd) : Prop := w = [] ∨ ∃ t ∈ ws, w <+: t
theorem li_fold (ws : List Wd) : ∀ w : Wd, w.foldl (liN ws) (some []) = if liPre ws w then some w else none := by
  intro w
  induction w using snocRec with
  | nil => rw [if_pos (.inl rfl)]; rfl
  | snoc w c ih =>
    rw [List.foldl_append, ih]
    show liN ws _ c = _
    by_cases h : liPre ws w
    · rw [if_pos h]
      show (if ∃ t ∈ ws, w ++ [c] <+: t then some (w ++ [c]) else none) = _
      by_cases h2 : ∃ t ∈ ws, w ++ [c] <+: t
      · rw [if_pos h2, if_pos (.inr h2)]
      · rw [if_neg h2, if_neg]
        rintro (z | z)
        · simp at z
        · exact h2 z
    · rw [if_neg h, if_neg]
      · rfl
      · rintro (z | ⟨t, ht, z⟩)
        · simp at z
        · exact h (.inr ⟨t, ht, List.IsPrefix.trans (List.prefix_append _ _) z⟩)
theorem li_lang (ws : List Wd) : lgA (liN ws) (liF ws) (some []) = listL ws := by
  funext w
  unfold lgA
  rw [li_fold]
  unfold listL
  by_cases h : liPre ws w
  · rw [if_pos h]; rfl
  · rw [if_neg h]
    have : w ∉ ws := fun z => h (.inr ⟨w, z, List.prefix_refl _⟩)
    rw [decide_eq_false this]
    rfl
def LiP (ws : List Wd) (x : Option Wd) : Prop := ∀ z, x = some z → liPre ws z
def liAll (ws : List Wd) : List (Option Wd) := none :: some [] :: ws.flatMap fun t => (List.range (t.length + 1)).map fun k => some (t.take k)
theorem li_in {ws : List Wd} {x : Option Wd} (h : LiP ws x) : x ∈ liAll ws := by
  unfold liAll
  cases x with
  | none => simp
  | some z =>
    rcases h z rfl with e | ⟨t, ht, hp⟩
    · subst e; simp
    · refine List.mem_cons_of_mem _ (List.mem_cons_of_mem _ (List.mem_flatMap.mpr ⟨t, ht, List.mem_map.mpr ⟨z.length, List.mem_range.mpr ?_, ?_⟩⟩))
      · have := hp.length_le; omega
      · rw [List.prefix_iff_eq_take] at hp
        rw [← hp]
def liN_ (ws : List Wd) : Nat := 2 + (ws.map fun t => t.length + 1).sum
theorem li_few {ws : List Wd} (l : List (Option Wd)) (hn : l.Nodup) (hl : ∀ q ∈ l, LiP ws q) : l.length ≤ liN_ ws := by
  have := few_in (K := liAll ws) l hn fun x hx => li_in (hl x hx)
  unfold liAll at this
  rw [List.length_cons, List.length_cons, List.length_flatMap] at this
  simp only [List.length_map, List.length_range] at this
  unfold liN_
  omega
theorem li_start (ws : List Wd) : LiP ws (some []) := fun z h => by cases h; exact .inl rfl
theorem li_cl (ws : List Wd) (x : Option Wd) (hx : LiP ws x) (c : Fin 4) : LiP ws (liN ws x c) := fun z h => by
  cases x with
  | none => cases h
  | some y =>
    have h : (if ∃ t ∈ ws, y ++ [c] <+: t then some (y ++ [c]) else none) = some z := h
    split at h
    · rename_i hh
      cases h
      exact .inr hh
    · cases h
theorem reg_list (ws : List Wd) : Reg (listL ws) (liN_ ws) := by
  rw [← li_lang]
  exact reg_A (P := LiP ws) (li_start ws) (li_cl ws) li_few
/-! ### lengths -/
def coN (n : Nat) (s : Nat) (_ : Fin 4) : Nat := if n + 1 < s + 1 then n + 1 else s + 1
def coF (n : Nat) (m : Bool) (s : Nat) : Bool := decide (s = n) || (m && decide (s < n))
theorem co_fold (n : Nat) : ∀ (w : Wd) (s : Nat), s ≤ n + 1 → w.foldl (coN n) s = min (s + w.length) (n + 1)
  | [], s, h => by simp; omega
  | c :: w, s, h => by
    rw [List.foldl_cons, co_fold n w _ (by unfold coN; split <;> omega), List.length_cons]
    unfold coN
    split <;> omega
def lenL (n : Nat) : Lg := fun w => decide (w.length = n)
def belowL (n : Nat) : Lg := fun w => decide (w.length < n)
theorem co_len (n : Nat) : lgA (coN n) (coF n false) 0 = lenL n := by
  funext w
  unfold lgA coF lenL
  rw [co_fold n w 0 (by omega), Bool.false_and, Bool.or_false]
  exact decide_eq_decide.mpr (by omega)
theorem co_below (n : Nat) : lgA (coN n) (coF n true) 0 = belowL (n + 1) := by
  funext w
  unfold lgA coF belowL
  rw [co_fold n w 0 (by omega), Bool.true_and, ← Bool.decide_or]
  exact decide_eq_decide.mpr (by omega)
theorem co_few {n : Nat} (l : List Nat) (hn : l.Nodup) (hl : ∀ q ∈ l, q ≤ n + 1) : l.length ≤ n + 2 := few_lt l hn fun q hq => by have := hl q hq; omega
theorem co_cl (n : Nat) (s : Nat) (c : Fin 4) : coN n s c ≤ n + 1 := by unfold coN; split <;> omega
theorem reg_co (n : Nat) (m : Bool) : Reg (lgA (coN n) (coF n m) 0) (n + 2) := reg_A (P := fun s => s ≤ n + 1) (Nat.zero_le _) (fun q _ c => co_cl n q c) co_few
theorem below_zero : belowL 0 = listL [] := by
  funext w
  simp [belowL, listL]
def allM : Mc := ⟨1, fun _ => true, fun _ _ => 0⟩
theorem allM_ok : allM.ok := ⟨by decide, fun _ _ _ => Nat.zero_lt_one⟩
theorem allM_lang : lang allM 0 = fun _ => true := rfl
theorem reg_all : Reg (fun _ => true) 1 := ⟨allM, allM_ok, rfl, Nat.le_refl _⟩
end Pm
/-! What depends on the states of some machines alone: plain Lean. -/
namespace Pm
open Classical
section
variable {α : Type}
/-- what is accepted behind a text depends on f alone -/
def Dep (f : Wd → α) (A : Lg) : Prop := ∀ w w', f w = f w' → ∀ v, A (w ++ v) = A (w' ++ v)
/-- f tells no more than N kinds of texts apart -/
def FewV (f : Wd → α) (N : Nat) : Prop := ∀ l : List Wd, (l.map f).Nodup → l.length ≤ N
theorem few_of {f : Wd → α} {K : List α} (h : ∀ w, f w ∈ K) : FewV f K.length := fun l hl => by
  have := few_in (l.map f) hl fun x hx => by
    obtain ⟨w, _, rfl⟩ := List.mem_map.mp hx
    exact h w
  simpa using this
theorem Dep.or {f : Wd → α} {A B : Lg} (a : Dep f A) (b : Dep f B) : Dep f fun w => A w || B w := fun w w' e v => by
  show (A (w ++ v) || B (w ++ v)) = _
  rw [a w w' e v, b w w' e v]
theorem Dep.and {f : Wd → α} {A B : Lg} (a : Dep f A) (b : Dep f B) : Dep f fun w => A w && B w := fun w w' e v => by
  show (A (w ++ v) && B (w ++ v)) = _
  rw [a w w' e v, b w w' e v]
theorem Dep.not {f : Wd → α} {A : Lg} (a : Dep f A) : Dep f fun w => !A w := fun w w' e v => by
  show (!A (w ++ v)) = _
  rw [a w w' e v]
theorem Dep.const {f : Wd → α} (b : Bool) : Dep f fun _ => b := fun w w' e v => rfl
theorem dep_lang {m : Mc} {f : Wd → α} {g : α → Nat} (h : ∀ w, g (f w) = dl m 0 w) : Dep f (lang m 0) := fun w w' e v => by
  show m.fin (dl m 0 (w ++ v)) = m.fin (dl m 0 (w' ++ v))
  rw [dl_app, dl_app, ← h w, ← h w', e]
/-- as many texts as things that depend on f -/
theorem few_dep {β : Type} {f : Wd → α} {g : Wd → β} {N : Nat} (few : FewV f N) (h : ∀ w w', f w = f w' → g w = g w') (l : List β) (hn : l.Nodup) (hl : ∀ q ∈ l, ∃ w, q = g w) : l.length ≤ N := by
  have : ∃ ws : List Wd, ws.map g = l := by
    clear hn
    induction l with
    | nil => exact ⟨[], rfl⟩
    | cons q l ih =>
      obtain ⟨ws, e⟩ := ih fun x hx => hl x (List.mem_cons_of_mem _ hx)
      obtain ⟨w, rfl⟩ := hl q List.mem_cons_self
      exact ⟨w :: ws, by rw [List.map_cons, e]⟩
  obtain ⟨ws, rfl⟩ := this
  rw [List.length_map]
  refine few ws ?_
  clear hl
  induction ws with
  | nil => simp
  | cons w ws ih =>
    rw [List.map_cons, List.nodup_cons] at hn ⊢
    refine ⟨fun z => hn.1 ?_, ih hn.2⟩
    obtain ⟨w', hw, e⟩ := List.mem_map.mp z
    exact List.mem_map.mpr ⟨w', hw, (h w' w e)⟩
theorem reg_dep {f : Wd → α} {A : Lg} {N : Nat} (d : Dep f A) (few : FewV f N) : Reg A N := by
  have := reg_A (nx := fun (L : Lg) a => der a L) (fin := fun L => L []) (s := A) (P := fun L => ∃ w, L = fun v => A (w ++ v)) (N := N) ⟨[], rfl⟩ (fun L ⟨w, e⟩ a => ⟨w ++ [a], by
    rw [e]
    funext v
    show A (w ++ a :: v) = A (w ++ [a] ++ v)
    rw [List.append_assoc]
    rfl⟩) (fun l hn hl => few_dep (g := fun w => (fun v => A (w ++ v) : Lg)) few (fun w w' e => funext fun v => d w w' e v) l hn hl)
  have e : lgA (fun (L : Lg) a => der a L) (fun L => L []) A = A := by
    funext w
    have : ∀ (w : Wd) (B : Lg), w.foldl (fun (L : Lg) a => der a L) B = fun v => B (w ++ v) := by
      intro w
      induction w with
      | nil => intro B; rfl
      | cons a w ih => intro B; rw [List.foldl_cons, ih]; rfl
    unfold lgA
    rw [this]
    show A (w ++ []) = A w
    rw [List.append_nil]
  rw [e] at this
  exact this
end
theorem mach_apart {A : Lg} {N : Nat} (h : Reg A N) {p q : Nat} (hp : p < (mach A).n) (hq : q < (mach A).n) (e : lang (mach A) p = lang (mach A) q) : p = q := by
  have hl := h.least
  have := least_apart h.ok (p := p) (q := q) (by rw [hl]; exact hp) (by rw [hl]; exact hq) (by rw [hl]; exact e)
  exact this
/-- the state of a least machine depends on what is accepted behind it -/
theorem mach_dl {α : Type} {f : Wd → α} {A : Lg} {N : Nat} (d : Dep f A) (h : Reg A N) {w w' : Wd} (e : f w = f w') : dl (mach A) 0 w = dl (mach A) 0 w' := by
  refine mach_apart h (dl_in h.ok w h.ok.pos) (dl_in h.ok w' h.ok.pos) ?_
  have key : ∀ x v, lang (mach A) (dl (mach A) 0 x) v = A (x ++ v) := fun x v => by
    have : lang (mach A) (dl (mach A) 0 x) v = lang (mach A) 0 (x ++ v) := by
      show (mach A).fin (dl _ _ v) = (mach A).fin (dl _ 0 (x ++ v))
      rw [dl_app]
    rw [this, h.lang]
  funext v
  rw [key, key, d w w' e v]
end Pm
namespace Tk
open PySem PySem.Spec PyProof.Rows L2
open D
/-! ### what the laws draw -/
def cellI (ns : List Int) (k : Int) : Int := if ns.isEmpty then 7 * k else ns.getD (k % ns.length).toNat 0 + 6553 * (k / ns.length)
def drawnI (ns : List Int) (k m : Int) : Int :=
  let c := (cellI ns k % 2147483563 * 69069 + 104723 * (k + 1)) % 2147483563
  let c := (c * c + c / 3) % 2147483399
  (c * c + c / 7) % 2147483647 / 11 % m
section
variable {F L : Nat}
theorem cell_ok (ns : List Int) (k : Int) (hl : ns.length ≤ 63) : Phi tab F (L + 1) 4 [.scr ns, .int k] = .ok (.int (cellI ns k)) := by
  rw [Phi_succ (f := f__law_cell) rfl]
  by_cases hn : ns = []
  · subst hn
    simp [callFn, f__law_cell, cellI, inR_iff]
  · have h1 : (0 : Int) < ns.length := by
      have := List.length_pos_iff.mpr hn
      omega
    have h2 : (ns.length : Int) < 1073741824 := by omega
    have h3 : (0 : Int) ≤ k % ns.length := Int.emod_nonneg _ (by omega)
    have h4 : k % ns.length < ns.length := Int.emod_lt_of_pos _ h1
    have e : atI ns (k % ns.length) = some (ns.getD (k % (ns.length : Int)).toNat 0) := by
      rw [atI_get h3 h4, List.getD_eq_getElem?_getD, List.getElem?_eq_getElem (by omega)]
      rfl
    have h5 : inR 6553 = true := by decide
    have h6 : ns.isEmpty = false := by simpa using hn
    have h7 : 0 < ns.length := by omega
    simp [callFn, f__law_cell, cellI, h6, h7, h2, e, h5]
theorem emod_range {x : Int} {m : Int} (h : 0 < m) : 0 ≤ x % m ∧ x % m < m := ⟨Int.emod_nonneg _ (by omega), Int.emod_lt_of_pos _ h⟩
theorem drawn_ok (ns : List Int) (k m : Int) (hl : ns.length ≤ 63) (hm : 0 < m) : Phi tab F (L + 2) 5 [.scr ns, .int k, .int m] = .ok (.int (drawnI ns k m)) := by
  rw [Phi_succ (f := f__law_drawn) rfl]
  have h5 : inR 69069 = true := by decide
  have h6 : inR 104723 = true := by decide
  have hc : ∀ x : Int, inR (x % 2147483563) = true := fun x => by
    have := emod_range (x := x) (m := 2147483563) (by decide)
    rw [inR_iff]; omega
  have hd : ∀ x : Int, inR (x % 2147483399) = true := fun x => by
    have := emod_range (x := x) (m := 2147483399) (by decide)
    rw [inR_iff]; omega
  simp [callFn, f__law_drawn, cell_ok ns k hl, h5, h6, hc, hd, hm, drawnI]
theorem drawn_range (ns : List Int) (k m : Int) (hm : 0 < m) : 0 ≤ drawnI ns k m ∧ drawnI ns k m < m := emod_range hm
end
end Tk
namespace Tk
open PySem PySem.Spec PyProof.Rows L2
open D
/-! ### machines as data; reached -/
open Pm (Mc nxs insAll insA bfs dd)
def iD (q : Nat) : D := .int (q : Int)
def rowD (m : Mc) (q : Nat) : D := .tup ((nxs m q).map iD)
def mD (m : Mc) : D := .tup [.tup ((List.range m.n).map fun q => .bl (m.fin q)), .tup ((List.range m.n).map (rowD m))]
theorem atI_rng {α : Type} {n q : Nat} (f : Nat → α) (h : q < n) : atI ((List.range n).map f) ((q : Nat) : Int) = some (f q) := by
  rw [atI_get (by omega) (by simp; omega)]
  simp
theorem atI_nat {α : Type} {xs : List α} {q : Nat} : atI xs ((q : Nat) : Int) = xs[q]? := by
  by_cases h : q < xs.length
  · rw [atI_get (by omega) (by omega), List.getElem?_eq_getElem h]
    simp
  · unfold atI ixN
    rw [if_pos (by omega), if_neg (by omega), List.getElem?_eq_none (by omega)]
    rfl
@[simp] theorem ky_int (i : Int) : kyB (.int i) = true := rfl
@[simp] theorem eqD_ii (i j : Int) : eqD (.int i) (.int j) = (i == j) := by simp [eqD]
@[simp] theorem ky_iD (s : Nat) : kyB (iD s) = true := rfl
@[simp] theorem eq_iD (s t : Nat) : eqD (iD s) (iD t) = decide (s = t) := by
  by_cases h : s = t
  · subst h; simp [iD]
  · have : ¬ (s : Int) = (t : Int) := by omega
    simp [iD, this, h]
/-- a dict over whole numbers -/
def kvD (l : List Nat) (f : Nat → D) : List (D × D) := l.map fun q => (iD q, f q)
@[simp] theorem kv_len (l : List Nat) (f : Nat → D) : (kvD l f).length = l.length := by simp [kvD]
@[simp] theorem any_kv (l : List Nat) (f : Nat → D) (s : Nat) : ((kvD l f).any fun p => eqD p.1 (iD s)) = decide (s ∈ l) := by
  unfold kvD
  induction l with
  | nil => rfl
  | cons x l ih =>
    rw [List.map_cons, List.any_cons, ih]
    by_cases h : x = s
    · subst h; simp
    · have h2 : ¬ s = x := fun e => h e.symm
      simp [h, h2]
theorem look_kv (l : List Nat) (f : Nat → D) {s : Nat} (h : s ∈ l) : lookD (iD s) (kvD l f) = some (f s) := by
  unfold kvD
  induction l with
  | nil => cases h
  | cons x l ih =>
    show (if eqD (iD x) (iD s) = true then some (f x) else lookD (iD s) (l.map fun q => (iD q, f q))) = _
    by_cases e : x = s
    · subst e; simp
    · rw [if_neg (by simp [e])]
      exact ih (by
        rcases List.mem_cons.mp h with z | z
        · exact absurd z.symm e
        · exact z)
theorem look_kv_none (l : List Nat) (f : Nat → D) {s : Nat} (h : s ∉ l) : lookD (iD s) (kvD l f) = none := by
  unfold kvD
  induction l with
  | nil => rfl
  | cons x l ih =>
    show (if eqD (iD x) (iD s) = true then some (f x) else lookD (iD s) (l.map fun q => (iD q, f q))) = _
    have e : ¬ x = s := fun e => h (by simp [e])
    rw [if_neg (by simp [e])]
    exact ih fun z => h (by simp [z])
theorem set_kv_new (l : List Nat) (f : Nat → D) {s : Nat} (d : D) (h : s ∉ l) (hd : d = f s) : setD (iD s) d (kvD l f) = kvD (l ++ [s]) f := by
  unfold setD
  rw [any_kv, if_neg (by simp [h])]
  subst hd
  simp [kvD]
theorem kv_congr {l : List Nat} {f g : Nat → D} (h : ∀ q ∈ l, f q = g q) : kvD l f = kvD l g := by
  unfold kvD
  exact List.map_congr_left fun q hq => by rw [h q hq]
section
variable {F L : Nat}
def rcE (m : Mc) (l : List Nat) (a : Nat) (x : Option D) : En := [some (mD m), some (.lst (l.map iD)), some (.gd (kvD l fun _ => .bl true)), some (iD a), x]
theorem rc_inner (A : Ar) (m : Mc) (a : Nat) : ∀ (xs l : List Nat) (x : Option D), l.length + xs.length < 10000 → ∃ x', forL (forB A [4] true f_reached_b1) (xs.map iD) (rcE m l a x) = .nx (rcE m (insAll l xs) a x')
  | [], l, x, _ => ⟨x, rfl⟩
  | s :: xs, l, x, h => by
    rw [List.length_cons] at h
    have turn : ∃ x', forB A [4] true f_reached_b1 (iD s) (rcE m l a x) = .nx (rcE m (insA l s) a x') := by
      refine ⟨some (iD s), ?_⟩
      have hb : l.length < 16777216 := by omega
      by_cases c : s ∈ l
      · rw [Pm.insA_in c]
        simp [rcE, f_reached_b1, c]
      · rw [Pm.insA_new c]
        simp [rcE, f_reached_b1, c, setKD, appD, big, hb, set_kv_new l (fun _ => D.bl true) (.bl true) c rfl]
    obtain ⟨x', e⟩ := turn
    obtain ⟨x2, e2⟩ := rc_inner A m a xs (insA l s) x' (by
      have : (insA l s).length ≤ l.length + 1 := by unfold insA; split <;> simp
      omega)
    refine ⟨x2, ?_⟩
    rw [Pm.insAll_cons, ← e2]
    show (match forB A [4] true f_reached_b1 (iD s) (rcE m l a x) with | .nx ρ' => forL _ _ ρ' | .bk ρ' => .nx ρ' | .rt d => .rt d | .exc c ρ' => .exc c ρ' | .bad => .bad) = _
    rw [e]
theorem forL_nx {f : D → En → Fl} {d : D} {ds : List D} {ρ ρ' : En} (h : f d ρ = .nx ρ') : forL f (d :: ds) ρ = forL f ds ρ' := by
  conv => lhs; unfold forL
  rw [h]
@[simp] theorem items_row (m : Mc) (q : Nat) : itemsG (rowD m q) = .ok ((nxs m q).map iD) := rfl
theorem ix_rows (m : Mc) {q : Nat} (h : q < m.n) : ixD (.tup ((List.range m.n).map (rowD m))) (iD q) = .ok (rowD m q) := by
  show (match atI ((List.range m.n).map (rowD m)) ((q : Nat) : Int) with | some d => Res.ok d | none => .bad) = _
  rw [atI_rng _ h]
theorem ix_ends (m : Mc) {q : Nat} (h : q < m.n) : ixD (.tup ((List.range m.n).map fun q => D.bl (m.fin q))) (iD q) = .ok (.bl (m.fin q)) := by
  show (match atI ((List.range m.n).map fun q => D.bl (m.fin q)) ((q : Nat) : Int) with | some d => Res.ok d | none => .bad) = _
  rw [atI_rng _ h]
@[simp] theorem mD_1 (m : Mc) : ixD (mD m) (.int 1) = .ok (.tup ((List.range m.n).map (rowD m))) := rfl
@[simp] theorem mD_0 (m : Mc) : ixD (mD m) (.int 0) = .ok (.tup ((List.range m.n).map fun q => .bl (m.fin q))) := rfl
theorem ix_il {l : List Nat} {a q : Nat} (h : l[a]? = some q) : ixD (.lst (l.map iD)) (iD a) = .ok (iD q) := by
  show (match atI (l.map iD) ((a : Nat) : Int) with | some d => Res.ok d | none => .bad) = _
  rw [atI_nat, List.getElem?_map, h]
  rfl
theorem rc_loop (A : Ar) (m : Mc) (h : m.ok) (hn : m.n < 1000) : ∀ (k j a : Nat) (l : List Nat) (x : Option D), l.Nodup → (∀ q ∈ l, q < m.n) → m.n ≤ a + k →
    ∃ a' x', whlR A (.cmp .lt (.var 3) (.bi .len [.var 1])) f_reached_b2 (k + 1 + j) (rcE m l a x) = .nx (rcE m (bfs (nxs m) k a l) a' x')
  | k, j, a, l, x, h1, h2, h3 => by
    have hl := Pm.few_lt l h1 h2
    have cnd : (ev A (.cmp .lt (.var 3) (.bi .len [.var 1])) (rcE m l a x)).bind asBl = .ok (decide (a < l.length)) := by
      simp [rcE, iD]
    have e0 : k + 1 + j = (k + j) + 1 := by omega
    rw [e0]
    simp only [whlR_succ, cnd]
    by_cases c : a < l.length
    · have hq : l[a]? = some l[a] := List.getElem?_eq_getElem c
      have hqn := h2 _ (List.mem_of_getElem? hq)
      cases k with
      | zero => omega
      | succ k =>
        obtain ⟨x1, e1⟩ := rc_inner A m a (nxs m l[a]) l x (by simp [nxs]; omega)
        have body : run A f_reached_b2 (rcE m l a x) = .nx (rcE m (insAll l (nxs m l[a])) (a + 1) x1) := by
          have e2 : evi A (.of (.ix (.ix (.var 0) (.con (.int 1))) (.ix (.var 1) (.var 3)))) (rcE m l a x) = .ok ((nxs m l[a]).map iD) := by
            simp [rcE, ix_il hq, ix_rows m hqn]
          unfold f_reached_b2
          rw [run_cons, run1_forr, e2, withR_ok, e1, Fl.then_nx]
          simp [rcE, iD]
        obtain ⟨a', x', ih⟩ := rc_loop A m h hn k j (a + 1) (insAll l (nxs m l[a])) x1 (Pm.nodup_insAll h1) (fun y hy => by
          rcases Pm.mem_insAll.mp hy with z | z
          · exact h2 y z
          · exact Pm.cl_lt h _ hqn y z) (by omega)
        refine ⟨a', x', ?_⟩
        rw [decide_eq_true c, body, Pm.bfs_some hq]
        have e4 : k + 1 + j = k + 1 + j := rfl
        exact ih
    · refine ⟨a, x, ?_⟩
      rw [decide_eq_false c]
      have hq : l[a]? = none := List.getElem?_eq_none (by omega)
      cases k with
      | zero => rfl
      | succ k => rw [Pm.bfs_none hq]
theorem reached_ok (m : Mc) (h : m.ok) (hn : m.n < 1000) (hF : m.n < F) : Phi tab F (L + 1) 31 [mD m] = .ok (.lst ((Pm.reached m).map iD)) := by
  rw [Phi_succ (f := f_reached) rfl]
  obtain ⟨j, rfl⟩ : ∃ j, F = m.n + 1 + j := ⟨F - (m.n + 1), by omega⟩
  obtain ⟨a', x', e⟩ := rc_loop (ArOf tab (m.n + 1 + j) L) m h hn m.n j 0 [0] none (by simp) (by simpa using h.pos) (by omega)
  have e0 : rcE m [0] 0 none = [some (mD m), some (.lst [.int 0]), some (.gd [(.int 0, .bl true)]), some (.int 0), none] := rfl
  rw [e0] at e
  simp [callFn, f_reached, run1_whlR, e, rcE, Pm.reached]
end
end Tk
namespace Tk
open PySem PySem.Spec PyProof.Rows L2
open D
/-! ### groups of states -/
open Pm (Mc nxs insAll insA bfs dd)
theorem intsO_iD (l : List Nat) : intsO (l.map iD) = some (l.map fun (q : Nat) => (q : Int)) := by
  have := intsO_map (l.map fun (q : Nat) => (q : Int))
  rw [List.map_map] at this
  exact this
theorem pairs_kv (l : List Nat) (f : Nat → D) : pairsO (l.map fun q => .tup [iD q, f q]) = some (kvD l f) := by
  induction l with
  | nil => rfl
  | cons x l ih =>
    show (if kyB (iD x) then (pairsO (l.map fun q => .tup [iD q, f q])).map ((iD x, f x) :: ·) else none) = _
    rw [ih]
    rfl
theorem mk_kv (f : Nat → D) : ∀ (xs ys : List Nat), (ys ++ xs).Nodup → mkD (kvD xs f) (kvD ys f) = kvD (ys ++ xs) f
  | [], ys, _ => by simp [mkD, kvD]
  | x :: xs, ys, h => by
    have hx : x ∉ ys := fun hm => (List.nodup_append.mp h).2.2 x hm x (by simp) rfl
    show mkD (kvD xs f) (setD (iD x) (f x) (kvD ys f)) = _
    rw [set_kv_new ys f (f x) hx rfl, mk_kv f xs (ys ++ [x]) (by simpa using h)]
    simp
theorem dict_kv {l : List Nat} (f : Nat → D) (h : l.Nodup) : biD .dict [.lst (l.map fun q => .tup [iD q, f q])] = .ok (.gd (kvD l f)) := by
  show (match pairsO (l.map fun q => .tup [iD q, f q]) with | some ps => Res.ok (D.gd (mkD ps [])) | none => .bad) = _
  rw [pairs_kv]
  have := mk_kv f l [] (by simpa using h)
  rw [List.nil_append] at this
  show Res.ok (D.gd (mkD (kvD l f) (kvD [] f))) = _
  rw [this]
theorem met_dd : ∀ (ns : List Int), firstMet (fun i => ns.getD i 0) ns.length = dd ns := by
  intro ns
  have e : (List.range ns.length).map (fun i => ns.getD i 0) = ns := by
    apply List.ext_getElem
    · simp
    · intro i h1 h2
      simp [List.getD_eq_getElem?_getD, List.getElem?_eq_getElem (by simpa using h2 : i < ns.length)]
  unfold firstMet
  rw [e]
  have : ∀ (xs l : List Int), xs.foldl step_dedup l = insAll l xs := by
    intro xs
    induction xs with
    | nil => intro l; rfl
    | cons x xs ih =>
      intro l
      rw [List.foldl_cons, ih, Pm.insAll_cons]
      congr 1
      unfold step_dedup insA
      by_cases c : x ∈ l
      · rw [if_pos (by simpa using c), if_pos c]
      · rw [if_neg (by simpa using c), if_neg c]
  exact this ns []
theorem dd_inj_len {α β : Type} {f : α → β} (hf : ∀ a b, f a = f b → a = b) (l : List α) : (dd (l.map f)).length = (dd l).length := by
  obtain ⟨R, _, h2, h3⟩ := Pm.reps f id l (fun q _ r _ => ⟨fun e => hf q r e, fun e => by rw [show q = r from e]⟩)
  rw [List.map_id] at h3
  rw [h2, h3]
  simp
theorem lenSet_iD (l : List Nat) (h : l.length < 1000) : biD .lenSet [.lst (l.map iD)] = .ok (iD (dd l).length) := by
  show (match intsO (l.map iD) with | some ns => if decide (ns.length < 1000) then Res.ok (D.int (firstMet (fun i => ns.getD i 0) ns.length).length) else Res.bad | none => Res.bad) = _
  rw [intsO_iD]
  show (if decide ((l.map fun (q : Nat) => (q : Int)).length < 1000) then Res.ok (D.int (firstMet (fun i => (l.map fun (q : Nat) => (q : Int)).getD i 0) (l.map fun (q : Nat) => (q : Int)).length).length) else Res.bad) = _
  rw [if_pos (by simpa using h), met_dd, dd_inj_len (fun a b e => by omega)]
  rfl
/-! keys -/
def keyN (m : Mc) (g : Nat → Nat) (q : Nat) : List Nat := g q :: (nxs m q).map g
def toI (k : List Nat) : List Int := k.map fun (q : Nat) => (q : Int)
theorem toI_inj {a b : List Nat} (h : toI a = toI b) : a = b := by
  unfold toI at h
  induction a generalizing b with
  | nil => cases b with | nil => rfl | cons _ _ => simp at h
  | cons x a ih =>
    cases b with
    | nil => simp at h
    | cons y b =>
      simp only [List.map_cons, List.cons.injEq] at h
      rw [ih h.2, show x = y by omega]
def keyD (k : List Nat) : D := .tup (k.map iD)
theorem keyD_I (k : List Nat) : keyD k = .tup ((toI k).map .int) := by simp [keyD, toI, iD, Function.comp_def]
theorem rowsO_keys (ks : List (List Nat)) : rowsO (ks.map keyD) = some (ks.map toI) := by
  induction ks with
  | nil => rfl
  | cons k ks ih =>
    have e : intsO (k.map iD) = some (toI k) := intsO_iD k
    show (match intsO (k.map iD), rowsO (ks.map keyD) with | some ns, some rs => some (ns :: rs) | _, _ => none) = _
    rw [e, ih]
    rfl
theorem rowsOk_keys {ks : List (List Nat)} {d : Nat} (hd : 0 < d) (hl : ∀ k ∈ ks, k.length = d) (h64 : ks.length < 64) : rowsOk (ks.map toI) = true := by
  cases ks with
  | nil => rfl
  | cons k ks =>
    show (!(toI k).isEmpty && (List.map toI (k :: ks)).all (fun q => q.length == (toI k).length && q.all fun n => decide (0 ≤ n)) && decide ((List.map toI (k :: ks)).length < 64)) = true
    have h1 : (!(toI k).isEmpty) = true := by
      have := hl k (by simp)
      cases k with
      | nil => simp at this; omega
      | cons _ _ => rfl
    have h2 : ((List.map toI (k :: ks)).all fun q => q.length == (toI k).length && q.all fun n => decide (0 ≤ n)) = true := by
      rw [List.all_eq_true]
      intro q hq
      obtain ⟨k2, hk2, rfl⟩ := List.mem_map.mp hq
      rw [Bool.and_eq_true]
      refine ⟨by simp [toI, hl k2 hk2, hl k (by simp)], ?_⟩
      rw [List.all_eq_true]
      intro n hn
      obtain ⟨x, _, rfl⟩ := List.mem_map.mp hn
      simp
    rw [h1, h2]
    simpa using h64
theorem sorted_keys {ks : List (List Nat)} {d : Nat} (hne : ks ≠ []) (hd : 0 < d) (hl : ∀ k ∈ ks, k.length = d) (h64 : ks.length < 64) : biD .sortedSet [.lst (ks.map keyD)] = .ok (.lst ((sortU ltL (ks.map toI)).map fun r => .tup (r.map .int))) := by
  show sortSetD (ks.map keyD) = _
  have e : intsO (ks.map keyD) = none := by
    cases ks with
    | nil => exact absurd rfl hne
    | cons k ks => rfl
  unfold sortSetD
  rw [e, rowsO_keys]
  show (if rowsOk (ks.map toI) then Res.ok (D.lst ((sortU ltL (ks.map toI)).map fun r => .tup (r.map .int))) else .bad) = _
  rw [if_pos (rowsOk_keys hd hl h64)]
/-! the place of a row -/
theorem eqAll_ints (a b : List Int) : eqAll (a.map D.int) (b.map D.int) = decide (a = b) := by
  induction a generalizing b with
  | nil => cases b <;> simp [eqAll]
  | cons x a ih =>
    cases b with
    | nil => simp [eqAll]
    | cons y b => simp [eqAll, eqD, ih, beq_dec]
theorem pln_ints (a : List Int) : plnAll (a.map D.int) = true ∧ depAll (a.map D.int) = 0 := by
  induction a with
  | nil => exact ⟨rfl, rfl⟩
  | cons x a ih => simp [plnAll, depAll, pln, dep, ih.1, ih.2]
theorem pln_rowsL (rs : List (List Int)) : plnAll (rs.map fun r => D.tup (r.map D.int)) = true ∧ depAll (rs.map fun r => D.tup (r.map D.int)) ≤ 1 := by
  induction rs with
  | nil => exact ⟨rfl, by simp [depAll]⟩
  | cons r rs ih =>
    obtain ⟨h1, h2⟩ := pln_ints r
    refine ⟨by simp [plnAll, pln, h1, ih.1], ?_⟩
    simp only [List.map_cons, depAll, dep, h2]
    omega
theorem find_row (r : List Int) : ∀ (rs : List (List Int)) (k : Nat), r ∈ rs → findD (.tup (r.map D.int)) (rs.map fun r => D.tup (r.map D.int)) k = some (k + Pm.idx rs r)
  | [], _, h => by cases h
  | x :: rs, k, h => by
    show (if eqD (.tup (x.map D.int)) (.tup (r.map D.int)) = true then some k else findD (.tup (r.map D.int)) (rs.map fun r => D.tup (r.map D.int)) (k + 1)) = _
    have e : eqD (.tup (x.map D.int)) (.tup (r.map D.int)) = decide (x = r) := by
      show eqAll _ _ = _
      exact eqAll_ints x r
    rw [e]
    by_cases c : x = r
    · subst c
      simp [Pm.idx, List.findIdx_cons]
    · rw [if_neg (by simpa using c), find_row r rs (k + 1) (by
        rcases List.mem_cons.mp h with z | z
        · exact absurd z.symm c
        · exact z)]
      simp [Pm.idx, List.findIdx_cons, c]
      omega
theorem index_row {rs : List (List Int)} {r : List Int} (h : r ∈ rs) : biD .sindex [.lst (rs.map fun r => .tup (r.map .int)), .tup (r.map .int)] = .ok (iD (Pm.idx rs r)) := by
  obtain ⟨a1, a2⟩ := pln_ints r
  obtain ⟨b1, b2⟩ := pln_rowsL rs
  have c1 : (D.tup (r.map D.int)).sh = true := by simp [sh, pln, dep, a1, a2]
  have c2 : (D.lst (rs.map fun r => D.tup (r.map D.int))).sh = true := by
    have : depAll (rs.map fun r => D.tup (r.map D.int)) + 1 ≤ 64 := by omega
    simp [sh, pln, dep, b1, this]
  show (if (D.tup (r.map D.int)).sh && (D.lst (rs.map fun r => D.tup (r.map D.int))).sh then (match findD (.tup (r.map D.int)) (rs.map fun r => D.tup (r.map D.int)) 0 with | some k => Res.ok (D.int k) | none => .bad) else .bad) = _
  rw [c1, c2, if_pos (by rfl), find_row r rs 0 h]
  simp [iD]
/-! ### the rounds -/
noncomputable def gk (m : Mc) (S : List Nat) : Nat → Nat → Nat
  | 0, q => if m.fin q then 1 else 0
  | k + 1, q => Pm.idx (sortU ltL (S.map fun r => toI (keyN m (gk m S k) r))) (toI (keyN m (gk m S k) q))
theorem keyN_eq {m : Mc} {g : Nat → Nat} {q r : Nat} : keyN m g q = keyN m g r ↔ g q = g r ∧ ∀ a, g (m.nx q a) = g (m.nx r a) := by
  constructor
  · intro h
    simp only [keyN, nxs, List.map_cons, List.map_nil, List.cons.injEq, and_true] at h
    refine ⟨h.1, fun a => ?_⟩
    match a with
    | 0 => exact h.2.1
    | 1 => exact h.2.2.1
    | 2 => exact h.2.2.2.1
    | 3 => exact h.2.2.2.2
  · rintro ⟨h1, h2⟩
    simp [keyN, nxs, h1, h2]
theorem gk_eqv {m : Mc} {S : List Nat} (cl : ∀ q ∈ S, ∀ a, m.nx q a ∈ S) : ∀ (k : Nat), ∀ q ∈ S, ∀ r ∈ S, gk m S k q = gk m S k r ↔ Pm.Eqv m k q r
  | 0, q, hq, r, hr => by
    rw [Pm.eqv_zero]
    show (if m.fin q then 1 else 0) = (if m.fin r then 1 else 0) ↔ _
    cases m.fin q <;> cases m.fin r <;> simp
  | k + 1, q, hq, r, hr => by
    have ih := gk_eqv cl k
    rw [Pm.eqv_succ, ← ih q hq r hr]
    have e : (∀ a, Pm.Eqv m k (m.nx q a) (m.nx r a)) ↔ ∀ a, gk m S k (m.nx q a) = gk m S k (m.nx r a) := by
      constructor
      · intro h a; exact (ih _ (cl q hq a) _ (cl r hr a)).mpr (h a)
      · intro h a; exact (ih _ (cl q hq a) _ (cl r hr a)).mp (h a)
    rw [e, ← keyN_eq]
    have mem : ∀ x ∈ S, toI (keyN m (gk m S k) x) ∈ sortU ltL (S.map fun r => toI (keyN m (gk m S k) r)) := fun x hx => (mem_sortU ltL_strict _ _).mpr (List.mem_map.mpr ⟨x, hx, rfl⟩)
    constructor
    · intro h
      exact toI_inj (Pm.idx_inj (mem q hq) (mem r hr) h)
    · intro h
      show Pm.idx _ (toI (keyN m (gk m S k) q)) = Pm.idx _ (toI (keyN m (gk m S k) r))
      rw [h]
section
variable {F L : Nat}
@[simp] theorem ix_kv (l : List Nat) (f : Nat → D) {s : Nat} (h : s ∈ l) : ixD (.gd (kvD l f)) (iD s) = .ok (f s) := by
  rw [ix_g, ky_iD, if_pos rfl, look_kv l f h]
theorem key_ok (m : Mc) (S : List Nat) (cl : ∀ q ∈ S, ∀ a, m.nx q a ∈ S) (hS : ∀ q ∈ S, q < m.n) (g : Nat → Nat) {q : Nat} (hq : q ∈ S) : Phi tab F (L + 1) 33 [mD m, .gd (kvD S fun q => iD (g q)), iD q] = .ok (keyD (keyN m g q)) := by
  rw [Phi_succ (f := f_key_of) rfl]
  have c1 : ev (ArOf tab F L) f_key_of_c1 [some (mD m), some (.gd (kvD S fun q => iD (g q))), some (iD q), none] = .ok (.lst (((nxs m q).map g).map iD)) := by
    unfold f_key_of_c1
    have e2 : evi (ArOf tab F L) (.of (.ix (.ix (.var 0) (.con (.int 1))) (.var 2))) [some (mD m), some (.gd (kvD S fun q => iD (g q))), some (iD q), none] = .ok ((nxs m q).map iD) := by
      simp [ix_rows m (hS q hq)]
    rw [lc_A (g := fun s => iD (g s)) e2 (fun s hs => ?_) (by simp [nxs]), List.map_map]
    · rfl
    · obtain ⟨a, rfl⟩ := Pm.mem_nxs.mp hs
      simp [ix_kv S _ (cl q hq a)]
  have e1 : ixD (.gd (kvD S fun q => iD (g q))) (iD q) = .ok (iD (g q)) := ix_kv S _ hq
  simp [callFn, f_key_of, c1, e1, keyD, keyN]
  simp [nxs]
def gpE (m : Mc) (S : List Nat) (g : Nat → Nat) (size : Nat) (x5 x6 : Option D) : En := [some (mD m), some (.lst (S.map iD)), some (.gd (kvD S fun q => iD (g q))), none, some (iD size), x5, x6]
theorem gp_vals (A : Ar) (m : Mc) (S : List Nat) (g : Nat → Nat) (size : Nat) (x5 x6 : Option D) (hl : S.length < 64) : ev A (.lc [3] true (.of (.var 1)) [] (.ix (.var 2) (.var 3))) (gpE m S g size x5 x6) = .ok (.lst ((S.map g).map iD)) := by
  rw [lc_A (l := S) (e := iD) (g := fun q => iD (g q)) (by simp [gpE]) (fun q hq => by simp [gpE, ix_kv S _ hq]) (by omega), List.map_map]
  rfl
theorem gp_count (A : Ar) (m : Mc) (S : List Nat) (g : Nat → Nat) (size : Nat) (x5 x6 : Option D) (hl : S.length < 64) : ev A (.bi .lenSet [.lc [3] true (.of (.var 1)) [] (.ix (.var 2) (.var 3))]) (gpE m S g size x5 x6) = .ok (iD (dd (S.map g)).length) := by
  rw [ev_bi, evs_cons, gp_vals A m S g size x5 x6 hl]
  simp only [Res.bind_ok, evs_nil]
  exact lenSet_iD _ (by simp; omega)
theorem gp_turn (m : Mc) (S : List Nat) (cl : ∀ q ∈ S, ∀ a, m.nx q a ∈ S) (hS : ∀ q ∈ S, q < m.n) (hn : S.Nodup) (hne : S ≠ []) (hl : S.length < 64) (k size : Nat) (x5 x6 : Option D) :
    ∃ y5 y6, run (ArOf tab F (L + 1)) f_groups_of_b1 (gpE m S (gk m S k) size x5 x6) = .nx (gpE m S (gk m S (k + 1)) (dd (S.map (gk m S k))).length y5 y6) := by
  generalize hg : gk m S k = g
  have e1 := gp_count (ArOf tab F (L + 1)) m S g size x5 x6 hl
  have c4 : ∀ s x5 x6, ev (ArOf tab F (L + 1)) f_groups_of_c4 (gpE m S g s x5 x6) = .ok (.lst (S.map fun q => .tup [iD q, keyD (keyN m g q)])) := by
    intro s x5 x6
    unfold f_groups_of_c4
    rw [lc_A (l := S) (e := iD) (g := fun q => .tup [iD q, keyD (keyN m g q)]) (by simp [gpE]) (fun q hq => ?_) (by omega)]
    simp [gpE, key_ok (F := F) (L := L) m S cl hS g hq]
  have c5 : ∀ s x6, ev (ArOf tab F (L + 1)) f_groups_of_c5 (gpE m S g s (some (.gd (kvD S fun q => keyD (keyN m g q)))) x6) = .ok (.lst ((S.map (keyN m g)).map keyD)) := by
    intro s x6
    unfold f_groups_of_c5
    rw [lc_A (l := S) (e := iD) (g := fun q => keyD (keyN m g q)) (by simp [gpE]) (fun q hq => by simp [gpE, ix_kv S _ hq]) (by omega), List.map_map]
    rfl
  have srt : biD .sortedSet [.lst ((S.map (keyN m g)).map keyD)] = .ok (.lst ((sortU ltL ((S.map (keyN m g)).map toI)).map fun r => .tup (r.map .int))) := by
    refine sorted_keys (d := 5) ?_ (by omega) (fun k hk => ?_) (by simpa using hl)
    · simpa using hne
    · obtain ⟨q, _, rfl⟩ := List.mem_map.mp hk
      simp [keyN, nxs]
  have eo : (S.map (keyN m g)).map toI = S.map fun r => toI (keyN m g r) := by rw [List.map_map]; rfl
  rw [eo] at srt
  generalize ho : sortU ltL (S.map fun r => toI (keyN m g r)) = ord at srt
  have c6 : ∀ s, ev (ArOf tab F (L + 1)) f_groups_of_c6 (gpE m S g s (some (.gd (kvD S fun q => keyD (keyN m g q)))) (some (.lst (ord.map fun r => .tup (r.map .int))))) = .ok (.lst (S.map fun q => .tup [iD q, iD (gk m S (k + 1) q)])) := by
    intro s
    unfold f_groups_of_c6
    rw [lc_A (l := S) (e := iD) (g := fun q => .tup [iD q, iD (gk m S (k + 1) q)]) (by simp [gpE]) (fun q hq => ?_) (by omega)]
    have hm : toI (keyN m g q) ∈ ord := by rw [← ho]; exact (mem_sortU ltL_strict _ _).mpr (List.mem_map.mpr ⟨q, hq, rfl⟩)
    have e2 := index_row hm
    rw [← keyD_I] at e2
    have e3 : gk m S (k + 1) q = Pm.idx ord (toI (keyN m g q)) := by
      show Pm.idx (sortU ltL (S.map fun r => toI (keyN m (gk m S k) r))) (toI (keyN m (gk m S k) q)) = _
      rw [hg, ho]
    simp [gpE, ix_kv S _ hq, recv, e2, e3]
  refine ⟨some (.gd (kvD S fun q => keyD (keyN m g q))), some (.lst (ord.map fun r => .tup (r.map .int))), ?_⟩
  have e1' : ev (ArOf tab F (L + 1)) (.bi .lenSet [f_groups_of_c3]) (gpE m S g size x5 x6) = .ok (iD (dd (S.map g)).length) := e1
  have r1 : run1 (ArOf tab F (L + 1)) (.asg 4 (.bi .lenSet [f_groups_of_c3])) (gpE m S g size x5 x6) = .nx (gpE m S g (dd (S.map g)).length x5 x6) := by
    rw [run1_asg, e1']; rfl
  have r2 : run1 (ArOf tab F (L + 1)) (.asgF 5 (.bi .dict [f_groups_of_c4])) (gpE m S g (dd (S.map g)).length x5 x6) = .nx (gpE m S g (dd (S.map g)).length (some (.gd (kvD S fun q => keyD (keyN m g q)))) x6) := by
    rw [run1_asgF, ev_bi, evs_cons, c4]
    simp only [Res.bind_ok, evs_nil]
    rw [dict_kv _ hn]
    rfl
  have r3 : run1 (ArOf tab F (L + 1)) (.asg 6 (.bi .sortedSet [f_groups_of_c5])) (gpE m S g (dd (S.map g)).length (some (.gd (kvD S fun q => keyD (keyN m g q)))) x6) = .nx (gpE m S g (dd (S.map g)).length (some (.gd (kvD S fun q => keyD (keyN m g q)))) (some (.lst (ord.map fun r => .tup (r.map .int))))) := by
    rw [run1_asg, ev_bi, evs_cons, c5]
    simp only [Res.bind_ok, evs_nil]
    rw [srt]
    rfl
  have r4 : run1 (ArOf tab F (L + 1)) (.asgF 2 (.bi .dict [f_groups_of_c6])) (gpE m S g (dd (S.map g)).length (some (.gd (kvD S fun q => keyD (keyN m g q)))) (some (.lst (ord.map fun r => .tup (r.map .int))))) = .nx (gpE m S (gk m S (k + 1)) (dd (S.map g)).length (some (.gd (kvD S fun q => keyD (keyN m g q)))) (some (.lst (ord.map fun r => .tup (r.map .int))))) := by
    rw [run1_asgF, ev_bi, evs_cons, c6]
    simp only [Res.bind_ok, evs_nil]
    rw [dict_kv _ hn]
    rfl
  unfold f_groups_of_b1
  rw [run_cons, r1, Fl.then_nx, run_cons, r2, Fl.then_nx, run_cons, r3, Fl.then_nx, run_cons, r4, Fl.then_nx, run_nil]
def Told (m : Mc) (S : List Nat) (g : Nat → Nat) : Prop := ∀ q ∈ S, ∀ r ∈ S, g q = g r ↔ Pm.lang m q = Pm.lang m r
theorem gp_loop (m : Mc) (S : List Nat) (cl : ∀ q ∈ S, ∀ a, m.nx q a ∈ S) (hS : ∀ q ∈ S, q < m.n) (hn : S.Nodup) (hne : S ≠ []) (hl : S.length < 64) : ∀ (t j k size : Nat) (x5 x6 : Option D), S.length + 1 ≤ k + t → k ≤ size → (k = 0 ∧ size = 0 ∨ ∃ k', k = k' + 1 ∧ size = (dd (S.map (gk m S k'))).length) →
    ∃ g s y5 y6, whlR (ArOf tab F (L + 1)) (.cmp .ne (.var 4) (.bi .lenSet [f_groups_of_c2])) f_groups_of_b1 (t + 1 + j) (gpE m S (gk m S k) size x5 x6) = .nx (gpE m S g s y5 y6) ∧ Told m S g
  | t, j, k, size, x5, x6, h1, h2, h3 => by
    have cnd : (ev (ArOf tab F (L + 1)) (.cmp .ne (.var 4) (.bi .lenSet [f_groups_of_c2])) (gpE m S (gk m S k) size x5 x6)).bind asBl = .ok (!decide (size = (dd (S.map (gk m S k))).length)) := by
      have e := gp_count (ArOf tab F (L + 1)) m S (gk m S k) size x5 x6 hl
      have e' : ev (ArOf tab F (L + 1)) (.bi .lenSet [f_groups_of_c2]) (gpE m S (gk m S k) size x5 x6) = .ok (iD (dd (S.map (gk m S k))).length) := e
      rw [ev_cmp, e']
      have e4 : ev (ArOf tab F (L + 1)) (.var 4) (gpE m S (gk m S k) size x5 x6) = .ok (iD size) := rfl
      rw [e4]
      simp only [Res.bind_ok]
      show (cmpD .ne (.int size) (.int (dd (S.map (gk m S k))).length)).bind asBl = _
      rw [ne_ii, Res.bind_ok, asBl_bl]
      congr 2
      by_cases c : size = (dd (S.map (gk m S k))).length
      · rw [← c]; simp
      · have : ¬ ((size : Int) = ((dd (S.map (gk m S k))).length : Int)) := by omega
        simp [c, this]
    have e0 : t + 1 + j = (t + j) + 1 := by omega
    rw [e0]
    simp only [whlR_succ, cnd]
    have cle : (dd (S.map (gk m S k))).length ≤ S.length := by have := Pm.dd_le (S.map (gk m S k)); simpa using this
    have pos : 0 < (dd (S.map (gk m S k))).length := by
      cases S with
      | nil => exact absurd rfl hne
      | cons s S' =>
        have : gk m (s :: S') k s ∈ dd ((s :: S').map (gk m (s :: S') k)) := Pm.mem_dd.mpr (by simp)
        exact List.length_pos_of_mem this
    by_cases c : size = (dd (S.map (gk m S k))).length
    · -- the end
      rw [decide_eq_true c]
      refine ⟨gk m S k, size, x5, x6, rfl, ?_⟩
      rcases h3 with ⟨rfl, rfl⟩ | ⟨k', rfl, h3⟩
      · omega
      · have fine : ∀ q ∈ S, ∀ r ∈ S, gk m S (k' + 1) q = gk m S (k' + 1) r → gk m S k' q = gk m S k' r := fun q hq r hr e =>
          (gk_eqv cl k' q hq r hr).mpr (Pm.eqv_succ.mp ((gk_eqv cl (k' + 1) q hq r hr).mp e)).1
        have same := Pm.same_kinds _ _ S fine (by omega)
        have st := Pm.eqv_stable cl (k := k') fun q hq r hr e => (gk_eqv cl (k' + 1) q hq r hr).mp (same q hq r hr ((gk_eqv cl k' q hq r hr).mpr e))
        intro q hq r hr
        constructor
        · intro e
          exact st q hq r hr (Pm.eqv_succ.mp ((gk_eqv cl (k' + 1) q hq r hr).mp e)).1
        · intro e
          refine (gk_eqv cl (k' + 1) q hq r hr).mpr fun w _ => ?_
          rw [e]
    · rw [decide_eq_false c]
      have lt : size < (dd (S.map (gk m S k))).length := by
        rcases h3 with ⟨rfl, rfl⟩ | ⟨k', rfl, h3⟩
        · exact pos
        · have fine : ∀ q ∈ S, ∀ r ∈ S, gk m S (k' + 1) q = gk m S (k' + 1) r → gk m S k' q = gk m S k' r := fun q hq r hr e =>
            (gk_eqv cl k' q hq r hr).mpr (Pm.eqv_succ.mp ((gk_eqv cl (k' + 1) q hq r hr).mp e)).1
          have := Pm.count_le _ _ S fine
          omega
      cases t with
      | zero => omega
      | succ t =>
        obtain ⟨y5, y6, e⟩ := gp_turn (F := F) (L := L) m S cl hS hn hne hl k size x5 x6
        obtain ⟨g, s, z5, z6, ih, tl⟩ := gp_loop m S cl hS hn hne hl t j (k + 1) (dd (S.map (gk m S k))).length y5 y6 (by omega) (by omega) (.inr ⟨k, rfl, rfl⟩)
        refine ⟨g, s, z5, z6, ?_, tl⟩
        simp only [Bool.not_false, e]
        exact ih
theorem groups_ok (m : Mc) (S : List Nat) (cl : ∀ q ∈ S, ∀ a, m.nx q a ∈ S) (hS : ∀ q ∈ S, q < m.n) (hn : S.Nodup) (hne : S ≠ []) (hl : S.length < 64) (hF : S.length + 1 < F) : ∃ g, Phi tab F (L + 2) 32 [mD m, .lst (S.map iD)] = .ok (.gd (kvD S fun q => iD (g q))) ∧ Told m S g := by
  rw [Phi_succ (f := f_groups_of) rfl]
  obtain ⟨j, rfl⟩ : ∃ j, F = (S.length + 1) + 1 + j := ⟨F - (S.length + 1 + 1), by omega⟩
  obtain ⟨g, s, y5, y6, e, tl⟩ := gp_loop (F := (S.length + 1) + 1 + j) (L := L) m S cl hS hn hne hl (S.length + 1) j 0 0 none none (by omega) (by omega) (.inl ⟨rfl, rfl⟩)
  refine ⟨g, ?_, tl⟩
  have c1 : ev (ArOf tab (S.length + 1 + 1 + j) (L + 1)) f_groups_of_c1 [some (mD m), some (.lst (S.map iD)), none, none, none, none, none] = .ok (.lst (S.map fun q => .tup [iD q, iD (gk m S 0 q)])) := by
    unfold f_groups_of_c1
    rw [lc_A (l := S) (e := iD) (g := fun q => .tup [iD q, iD (gk m S 0 q)]) (by simp) (fun q hq => ?_) (by omega)]
    simp [ix_ends m (hS q hq), gk]
    cases m.fin q <;> rfl
  have e2 : gpE m S (gk m S 0) 0 none none = [some (mD m), some (.lst (S.map iD)), some (.gd (kvD S fun q => iD (gk m S 0 q))), none, some (.int 0), none, none] := rfl
  rw [e2] at e
  simp [callFn, f_groups_of, c1, dict_kv _ hn, run1_whlR, e, gpE]
end
end Tk
namespace Tk
open PySem PySem.Spec PyProof.Rows L2
open D
/-! ### least_of -/
open Pm (Mc nxs insAll insA bfs dd idx leastM)
theorem set_kv_same (l : List Nat) (f : Nat → D) {s : Nat} (d : D) (h : s ∈ l) (hd : d = f s) : setD (iD s) d (kvD l f) = kvD l f := by
  unfold setD
  rw [any_kv, if_pos (by simpa using h)]
  subst hd
  unfold kvD
  rw [List.map_map]
  refine List.map_congr_left fun q _ => ?_
  show (if eqD (iD q) (iD s) = true then (iD q, f s) else (iD q, f q)) = _
  rw [eq_iD]
  by_cases e : q = s
  · subst e; simp
  · simp [e]
theorem idx_pre {α : Type} {pre rest : List α} {x : α} (h : x ∉ dd pre) : idx (dd (pre ++ x :: rest)) x = (dd pre).length := by
  have e : pre ++ x :: rest = (pre ++ [x]) ++ rest := by simp
  refine Pm.idx_of (Pm.nodup_dd _) ?_
  rw [e]
  unfold dd
  rw [Pm.insAll_app]
  obtain ⟨r2, h2⟩ := Pm.insAll_pre rest (insAll [] (pre ++ [x]))
  rw [h2]
  have e5 : insAll [] (pre ++ [x]) = dd pre ++ [x] := by
    rw [Pm.insAll_snoc]
    exact Pm.insA_new h
  rw [e5, List.append_assoc]
  unfold dd
  simp
section
variable {F L : Nat}
noncomputable def num (S : List Nat) (g : Nat → Nat) (q : Nat) : Nat := idx (dd (S.map g)) (g q)
noncomputable def rep (S : List Nat) (g : Nat → Nat) (i : Nat) : Nat := (S.find? fun q => decide (num S g q = i)).getD 0
def loE (m : Mc) (S : List Nat) (g : Nat → Nat) (first : D) (x4 : Option D) (firsts : Option D) : En := [some (mD m), some (.lst (S.map iD)), some (.gd (kvD S fun q => iD (g q))), some first, x4, firsts, none, none, none, none, none]
theorem lo_first (A : Ar) (m : Mc) (S : List Nat) (g : Nat → Nat) (hl : S.length < 64) : ∀ (rest pre : List Nat) (x4 : Option D), S = pre ++ rest → ∃ x4', forL (forB A [4] true f_least_of_b1) (rest.map iD) (loE m S g (.gd (kvD (dd (pre.map g)) fun v => iD (idx (dd (S.map g)) v))) x4 none) = .nx (loE m S g (.gd (kvD (dd (S.map g)) fun v => iD (idx (dd (S.map g)) v))) x4' none)
  | [], pre, x4, h => ⟨x4, by rw [List.append_nil] at h; subst h; rfl⟩
  | q :: rest, pre, x4, h => by
    have hq : q ∈ S := by rw [h]; simp
    have eS : S = (pre ++ [q]) ++ rest := by rw [h]; simp
    obtain ⟨x', ih⟩ := lo_first A m S g hl rest (pre ++ [q]) (some (iD q)) eS
    refine ⟨x', ?_⟩
    rw [List.map_cons, ← ih]
    refine forL_nx ?_
    rw [List.map_append, List.map_cons, List.map_nil, Pm.dd_snoc]
    have e1 := ix_kv S (fun q => iD (g q)) hq
    have hb : (dd (pre.map g)).length < 16777216 := by
      have := Pm.dd_le (pre.map g)
      have h2 : S.length = pre.length + (rest.length + 1) := by rw [h]; simp
      simp at this
      omega
    by_cases c : g q ∈ dd (pre.map g)
    · rw [Pm.insA_in c]
      simp [loE, f_least_of_b1, e1, c]
    · rw [Pm.insA_new c]
      have e2 : idx (dd (S.map g)) (g q) = (dd (pre.map g)).length := by
        rw [h, List.map_append, List.map_cons]
        exact idx_pre c
      have e3 := set_kv_new (dd (pre.map g)) (fun v => iD (idx (dd (S.map g)) v)) (iD (dd (pre.map g)).length) c (by rw [e2])
      have e4 : D.int ((dd (pre.map g)).length : Int) = iD (dd (pre.map g)).length := rfl
      simp [loE, f_least_of_b1, e1, c, setKD, big, hb, e4, e3]
theorem num_lt {S : List Nat} {g : Nat → Nat} {q : Nat} (h : q ∈ S) : num S g q < (dd (S.map g)).length := Pm.idx_lt (Pm.mem_dd.mpr (List.mem_map.mpr ⟨q, h, rfl⟩))
theorem num_pre {S pre rest : List Nat} {g : Nat → Nat} {q : Nat} (h : S = pre ++ rest) (hq : q ∈ pre) : num S g q < (dd (pre.map g)).length := by
  obtain ⟨r, hr⟩ := Pm.insAll_pre (rest.map g) (dd (pre.map g))
  have e : dd (S.map g) = dd (pre.map g) ++ r := by
    rw [h, List.map_append]
    unfold dd at hr ⊢
    rw [Pm.insAll_app]
    exact hr
  have hm : g q ∈ dd (pre.map g) := Pm.mem_dd.mpr (List.mem_map.mpr ⟨q, hq, rfl⟩)
  have h1 := Pm.idx_get hm
  have h2 : (dd (S.map g))[idx (dd (pre.map g)) (g q)]? = some (g q) := by
    rw [e, List.getElem?_append_left (Pm.idx_lt hm)]
    exact h1
  have h3 := Pm.idx_of (Pm.nodup_dd _) h2
  show idx (dd (S.map g)) (g q) < _
  rw [h3]
  exact Pm.idx_lt hm
theorem find_first {S pre rest : List Nat} {p : Nat → Bool} {q : Nat} (h : S = pre ++ q :: rest) (hp : p q = true) (hn : ∀ r ∈ pre, p r = false) : S.find? p = some q := by
  rw [h, List.find?_append]
  have : pre.find? p = none := List.find?_eq_none.mpr fun r hr => by rw [hn r hr]; simp
  rw [this]
  simp [hp]
theorem lo_firsts (A : Ar) (m : Mc) (S : List Nat) (g : Nat → Nat) (hl : S.length < 64) : ∀ (rest pre : List Nat) (x4 : Option D), S = pre ++ rest → ∃ x4', forL (forB A [4] true f_least_of_b2) (rest.map iD) (loE m S g (.gd (kvD (dd (S.map g)) fun v => iD (idx (dd (S.map g)) v))) x4 (some (.gd (kvD (List.range (dd (pre.map g)).length) fun i => iD (rep S g i))))) = .nx (loE m S g (.gd (kvD (dd (S.map g)) fun v => iD (idx (dd (S.map g)) v))) x4' (some (.gd (kvD (List.range (dd (S.map g)).length) fun i => iD (rep S g i)))))
  | [], pre, x4, h => ⟨x4, by rw [List.append_nil] at h; subst h; rfl⟩
  | q :: rest, pre, x4, h => by
    have hq : q ∈ S := by rw [h]; simp
    have eS : S = (pre ++ [q]) ++ rest := by rw [h]; simp
    obtain ⟨x', ih⟩ := lo_firsts A m S g hl rest (pre ++ [q]) (some (iD q)) eS
    refine ⟨x', ?_⟩
    rw [List.map_cons, ← ih]
    refine forL_nx ?_
    have e1 := ix_kv S (fun q => iD (g q)) hq
    have hg : g q ∈ dd (S.map g) := Pm.mem_dd.mpr (List.mem_map.mpr ⟨q, hq, rfl⟩)
    have e2 := ix_kv (dd (S.map g)) (fun v => iD (idx (dd (S.map g)) v)) hg
    have e2' : ixD (.gd (kvD (dd (S.map g)) fun v => iD (idx (dd (S.map g)) v))) (iD (g q)) = .ok (iD (num S g q)) := e2
    have hb : (dd (pre.map g)).length < 16777216 := by
      have := Pm.dd_le (pre.map g)
      have h2 : S.length = pre.length + (rest.length + 1) := by rw [h]; simp
      simp at this
      omega
    have el : ∀ k, biD .getN [.gd (kvD (List.range k) fun i => iD (rep S g i)), iD (num S g q), iD q] = .ok ((lookD (iD (num S g q)) (kvD (List.range k) fun i => iD (rep S g i))).getD (iD q)) := fun k => rfl
    by_cases c : g q ∈ dd (pre.map g)
    · -- met before
      obtain ⟨r, hr, er⟩ := List.mem_map.mp (Pm.mem_dd.mp c)
      have hlt : num S g q < (dd (pre.map g)).length := by
        have := num_pre (g := g) h hr
        have e : num S g r = num S g q := by unfold num; rw [er]
        rw [← e]; exact this
      have e3 := look_kv (List.range (dd (pre.map g)).length) (fun i => iD (rep S g i)) (List.mem_range.mpr hlt)
      have e4 := set_kv_same (List.range (dd (pre.map g)).length) (fun i => iD (rep S g i)) (iD (rep S g (num S g q))) (List.mem_range.mpr hlt) rfl
      have e5 : (dd ((pre ++ [q]).map g)) = dd (pre.map g) := by rw [List.map_append, List.map_cons, List.map_nil, Pm.dd_snoc, Pm.insA_in c]
      rw [e5]
      simp [loE, f_least_of_b2, e1, e2', recv, el, e3, setKD, big, hb, e4]
    · have e6 : num S g q = (dd (pre.map g)).length := by
        unfold num
        rw [h, List.map_append, List.map_cons]
        exact idx_pre c
      have e3 := look_kv_none (List.range (dd (pre.map g)).length) (fun i => iD (rep S g i)) (s := num S g q) (by rw [e6]; simp)
      have e7 : rep S g (num S g q) = q := by
        unfold rep
        rw [find_first (p := fun r => decide (num S g r = num S g q)) h (by simp) (fun r hr => ?_)]
        · rfl
        · have := num_pre (g := g) h hr
          exact decide_eq_false (by omega)
      have e4 := set_kv_new (List.range (dd (pre.map g)).length) (fun i => iD (rep S g i)) (s := num S g q) (iD q) (by rw [e6]; simp) (by rw [e7])
      rw [e6, ← List.range_succ] at e4
      rw [e6] at el e3 e2'
      have e5 : (dd ((pre ++ [q]).map g)).length = (dd (pre.map g)).length + 1 := by rw [List.map_append, List.map_cons, List.map_nil, Pm.dd_snoc, Pm.insA_new c]; simp
      rw [e5]
      simp [loE, f_least_of_b2, e1, e2', recv, el, e3, setKD, big, hb, e4]
theorem mD_congr {a b : Mc} (hn : a.n = b.n) (hf : ∀ q, q < a.n → a.fin q = b.fin q) (hx : ∀ q, q < a.n → ∀ c, a.nx q c = b.nx q c) : mD a = mD b := by
  unfold mD
  rw [← hn]
  have h1 : ((List.range a.n).map fun q => D.bl (a.fin q)) = (List.range a.n).map fun q => D.bl (b.fin q) := List.map_congr_left fun q hq => by rw [hf q (List.mem_range.mp hq)]
  have h2 : (List.range a.n).map (rowD a) = (List.range a.n).map (rowD b) := List.map_congr_left fun q hq => by
    have := hx q (List.mem_range.mp hq)
    simp [rowD, nxs, this]
  rw [h1, h2]
theorem least_facts (m : Mc) (h : m.ok) (g : Nat → Nat) (hg : Told m (Pm.reached m) g) : (dd ((Pm.reached m).map g)).length = (leastM m).n ∧ ∀ i, i < (leastM m).n → rep (Pm.reached m) g i ∈ Pm.reached m ∧ m.fin (rep (Pm.reached m) g i) = (leastM m).fin i ∧ ∀ a, num (Pm.reached m) g (m.nx (rep (Pm.reached m) g i) a) = (leastM m).nx i a := by
  obtain ⟨R, h1, h2, h3⟩ := Pm.reps g (Pm.lang m) (Pm.reached m) hg
  have el : (dd ((Pm.reached m).map g)).length = (leastM m).n := by
    show _ = (dd ((Pm.reached m).map (Pm.lang m))).length
    rw [h2, h3]; simp
  have en : ∀ q ∈ Pm.reached m, num (Pm.reached m) g q = idx (Pm.cls m) (Pm.lang m q) := fun q hq => by
    unfold num Pm.cls
    rw [h2, h3]
    exact Pm.idx_map fun r hr => hg r (h1 r hr) q hq
  refine ⟨el, fun i hi => ?_⟩
  -- some state has the number i
  have hi2 : i < (Pm.cls m).length := hi
  have ei := List.getElem?_eq_getElem hi2
  obtain ⟨q, hq, eq⟩ := Pm.cls_mem.mp (List.getElem_mem hi2)
  have nq : num (Pm.reached m) g q = i := by
    rw [en q hq, eq]
    exact Pm.idx_of (Pm.cls_nodup m) ei
  obtain ⟨r, hr⟩ : ∃ r, (Pm.reached m).find? (fun q => decide (num (Pm.reached m) g q = i)) = some r := by
    cases c : (Pm.reached m).find? (fun q => decide (num (Pm.reached m) g q = i)) with
    | some r => exact ⟨r, rfl⟩
    | none => exact absurd (List.find?_eq_none.mp c q hq) (by simp [nq])
  have hrm := List.mem_of_find?_eq_some hr
  have hrn : num (Pm.reached m) g r = i := by have := List.find?_some hr; simpa using this
  have er : rep (Pm.reached m) g i = r := by unfold rep; rw [hr]; rfl
  rw [er]
  have lr : (Pm.cls m).getD i (fun _ => false) = Pm.lang m r := by
    rw [en r hrm] at hrn
    have := Pm.idx_get (Pm.cls_mem.mpr ⟨r, hrm, rfl⟩ : Pm.lang m r ∈ Pm.cls m)
    rw [hrn] at this
    exact Pm.getD_of this
  refine ⟨hrm, ?_, fun a => ?_⟩
  · show m.fin r = (Pm.cls m).getD i _ []
    rw [lr]; rfl
  · show _ = idx (Pm.cls m) (Pm.der a ((Pm.cls m).getD i _))
    rw [lr, en _ (Pm.reached_nx h hrm a)]
    rfl
end
open Pm (Mc nxs insAll insA bfs dd idx leastM)
section
variable {F L : Nat}
/-- least_of tells the least machine -/
theorem least_ok (m : Mc) (h : m.ok) (hn : m.n < 64) (hF : m.n + 1 < F) : Phi tab F (L + 3) 34 [mD m] = .ok (mD (leastM m)) := by
  rw [Phi_succ (f := f_least_of) rfl]
  have hS : ∀ q ∈ Pm.reached m, q < m.n := Pm.reached_lt h
  have hnd := Pm.reached_nodup m
  have hlen := Pm.few_lt _ hnd hS
  have cl : ∀ q ∈ Pm.reached m, ∀ a, m.nx q a ∈ Pm.reached m := fun q hq a => Pm.reached_nx h hq a
  have hne : Pm.reached m ≠ [] := by obtain ⟨r, e⟩ := Pm.reached_head m; rw [e]; simp
  have e1 : Phi tab F (L + 2) 31 [mD m] = .ok (.lst ((Pm.reached m).map iD)) := by
    have hL : L + 2 = (L + 1) + 1 := rfl
    rw [hL]
    exact reached_ok m h (by omega) (by omega)
  obtain ⟨g, e2, hg⟩ := groups_ok (F := F) (L := L) m (Pm.reached m) cl hS hnd hne (by omega) (by omega)
  obtain ⟨f1, f2⟩ := least_facts m h g hg
  generalize hSS : Pm.reached m = S at *
  obtain ⟨x4, e3⟩ := lo_first (ArOf tab F (L + 2)) m S g (by omega) S [] none rfl
  obtain ⟨x4', e4⟩ := lo_firsts (ArOf tab F (L + 2)) m S g (by omega) S [] x4 rfl
  have k0 : ∀ f : Nat → D, kvD (dd (([] : List Nat).map g)) f = [] := fun f => rfl
  have k1 : ∀ f : Nat → D, kvD (List.range (dd (([] : List Nat).map g)).length) f = [] := fun f => rfl
  rw [k0] at e3
  rw [k1] at e4
  rw [f1] at e4
  generalize hG : (D.gd (kvD (dd (S.map g)) fun v => iD (idx (dd (S.map g)) v))) = G at e3 e4
  generalize hR : (D.gd (kvD (List.range (leastM m).n) fun i => iD (rep S g i))) = R at e4
  have hle := Pm.least_le h
  -- kept
  have c1 : ∀ x6, ev (ArOf tab F (L + 2)) f_least_of_c1 [some (mD m), some (.lst (S.map iD)), some (.gd (kvD S fun q => iD (g q))), some G, x4', some R, x6, none, none, none, none] = .ok (.lst ((List.range (leastM m).n).map fun i => iD (rep S g i))) := by
    intro x6
    unfold f_least_of_c1
    rw [lc_A (l := List.range (leastM m).n) (e := iD) (g := fun i => iD (rep S g i)) ?_ (fun i hi => ?_) (by simp; omega)]
    · subst hR
      have sm : small62 ((leastM m).n : Int) = true := by simp [small62]; omega
      have sm0 : small62 0 = true := by decide
      have er : rangeL 0 ((leastM m).n : Int) = (List.range (leastM m).n).map iD := by
        unfold rangeL
        simp only [Int.sub_zero, Int.toNat_natCast]
        exact List.map_congr_left fun k _ => by simp [iD]
      simp [sm, sm0, er]
    · subst hR
      simp [ix_kv (List.range (leastM m).n) (fun i => iD (rep S g i)) hi]
  generalize hK : (D.lst ((List.range (leastM m).n).map fun i => iD (rep S g i))) = K at c1
  have c2 : ∀ x8, ev (ArOf tab F (L + 2)) f_least_of_c2 [some (mD m), some (.lst (S.map iD)), some (.gd (kvD S fun q => iD (g q))), some G, x4', some R, some K, none, x8, none, none] = .ok (.lst ((List.range (leastM m).n).map fun i => .bl ((leastM m).fin i))) := by
    intro x8
    unfold f_least_of_c2
    rw [lc_A (l := List.range (leastM m).n) (e := fun i => iD (rep S g i)) (g := fun i => .bl ((leastM m).fin i)) ?_ (fun i hi => ?_) (by simp; omega)]
    · subst hK; simp
    · obtain ⟨z1, z2, _⟩ := f2 i (List.mem_range.mp hi)
      simp [ix_ends m (hS _ z1), z2]
  have c3 : ∀ x8 (i : Nat), i < (leastM m).n → ev (ArOf tab F (L + 2)) f_least_of_c3 [some (mD m), some (.lst (S.map iD)), some (.gd (kvD S fun q => iD (g q))), some G, some (iD (rep S g i)), some R, some K, none, x8, none, none] = .ok (.lst ((nxs (leastM m) i).map iD)) := by
    intro x8 i hi
    obtain ⟨z1, _, z3⟩ := f2 i hi
    unfold f_least_of_c3
    rw [lc_A (l := nxs m (rep S g i)) (e := iD) (g := fun s => iD (num S g s)) ?_ (fun s hs => ?_) (by simp [nxs])]
    · simp [nxs, z3]
    · simp [ix_rows m (hS _ z1)]
    · obtain ⟨a, rfl⟩ := Pm.mem_nxs.mp hs
      have ha := cl _ z1 a
      have hga : g (m.nx (rep S g i) a) ∈ dd (S.map g) := Pm.mem_dd.mpr (List.mem_map.mpr ⟨_, ha, rfl⟩)
      subst hG
      simp [ix_kv S _ ha, ix_kv (dd (S.map g)) (fun v => iD (idx (dd (S.map g)) v)) hga, num]
  have c4 : ∀ x8, ev (ArOf tab F (L + 2)) f_least_of_c4 [some (mD m), some (.lst (S.map iD)), some (.gd (kvD S fun q => iD (g q))), some G, x4', some R, some K, none, x8, none, none] = .ok (.lst ((List.range (leastM m).n).map (rowD (leastM m)))) := by
    intro x8
    unfold f_least_of_c4
    rw [lc_A (l := List.range (leastM m).n) (e := fun i => iD (rep S g i)) (g := rowD (leastM m)) ?_ (fun i hi => ?_) (by simp; omega)]
    · subst hK; simp
    · have := c3 x8 i (List.mem_range.mp hi)
      simp [this, rowD]
  have e3' : forL (forB (ArOf tab F (L + 2)) [4] true f_least_of_b1) (S.map iD) [some (mD m), some (.lst (S.map iD)), some (.gd (kvD S fun q => iD (g q))), some (.gd []), none, none, none, none, none, none, none] = .nx [some (mD m), some (.lst (S.map iD)), some (.gd (kvD S fun q => iD (g q))), some G, x4, none, none, none, none, none, none] := e3
  have e4' : forL (forB (ArOf tab F (L + 2)) [4] true f_least_of_b2) (S.map iD) [some (mD m), some (.lst (S.map iD)), some (.gd (kvD S fun q => iD (g q))), some G, x4, some (.gd []), none, none, none, none, none] = .nx [some (mD m), some (.lst (S.map iD)), some (.gd (kvD S fun q => iD (g q))), some G, x4', some R, none, none, none, none, none] := e4
  have r1 : run1 (ArOf tab F (L + 2)) (.asg 1 (.call 31 [.var 0])) [some (mD m), none, none, none, none, none, none, none, none, none, none] = .nx [some (mD m), some (.lst (S.map iD)), none, none, none, none, none, none, none, none, none] := by
    rw [run1_asg, ev_call]
    show withR _ (Phi tab F (L + 2) 31 [mD m]) _ = _
    rw [e1]; rfl
  have r2 : run1 (ArOf tab F (L + 2)) (.asg 2 (.call 32 [.var 0, .var 1])) [some (mD m), some (.lst (S.map iD)), none, none, none, none, none, none, none, none, none] = .nx [some (mD m), some (.lst (S.map iD)), some (.gd (kvD S fun q => iD (g q))), none, none, none, none, none, none, none, none] := by
    rw [run1_asg, ev_call]
    show withR _ (Phi tab F (L + 2) 32 [mD m, .lst (S.map iD)]) _ = _
    rw [e2]; rfl
  have r3 : run1 (ArOf tab F (L + 2)) (.asgF 3 (.con (.gd []))) [some (mD m), some (.lst (S.map iD)), some (.gd (kvD S fun q => iD (g q))), none, none, none, none, none, none, none, none] = .nx [some (mD m), some (.lst (S.map iD)), some (.gd (kvD S fun q => iD (g q))), some (.gd []), none, none, none, none, none, none, none] := rfl
  have r4 : run1 (ArOf tab F (L + 2)) (.forr [4] true (.of (.var 1)) f_least_of_b1) [some (mD m), some (.lst (S.map iD)), some (.gd (kvD S fun q => iD (g q))), some (.gd []), none, none, none, none, none, none, none] = .nx [some (mD m), some (.lst (S.map iD)), some (.gd (kvD S fun q => iD (g q))), some G, x4, none, none, none, none, none, none] := by
    rw [run1_forr]
    exact e3'
  have r5 : run1 (ArOf tab F (L + 2)) (.asgF 5 (.con (.gd []))) [some (mD m), some (.lst (S.map iD)), some (.gd (kvD S fun q => iD (g q))), some G, x4, none, none, none, none, none, none] = .nx [some (mD m), some (.lst (S.map iD)), some (.gd (kvD S fun q => iD (g q))), some G, x4, some (.gd []), none, none, none, none, none] := rfl
  have r6 : run1 (ArOf tab F (L + 2)) (.forr [4] true (.of (.var 1)) f_least_of_b2) [some (mD m), some (.lst (S.map iD)), some (.gd (kvD S fun q => iD (g q))), some G, x4, some (.gd []), none, none, none, none, none] = .nx [some (mD m), some (.lst (S.map iD)), some (.gd (kvD S fun q => iD (g q))), some G, x4', some R, none, none, none, none, none] := by
    rw [run1_forr]
    exact e4'
  have r7 : run1 (ArOf tab F (L + 2)) (.asgF 6 f_least_of_c1) [some (mD m), some (.lst (S.map iD)), some (.gd (kvD S fun q => iD (g q))), some G, x4', some R, none, none, none, none, none] = .nx [some (mD m), some (.lst (S.map iD)), some (.gd (kvD S fun q => iD (g q))), some G, x4', some R, some K, none, none, none, none] := by
    rw [run1_asgF, c1]; rfl
  have r8 : run1 (ArOf tab F (L + 2)) (.asg 8 (.bi .tuple [f_least_of_c2])) [some (mD m), some (.lst (S.map iD)), some (.gd (kvD S fun q => iD (g q))), some G, x4', some R, some K, none, none, none, none] = .nx [some (mD m), some (.lst (S.map iD)), some (.gd (kvD S fun q => iD (g q))), some G, x4', some R, some K, none, some (.tup ((List.range (leastM m).n).map fun i => .bl ((leastM m).fin i))), none, none] := by
    rw [run1_asg, ev_bi, evs_cons, c2]; rfl
  have r9 : run1 (ArOf tab F (L + 2)) (.asg 9 (.bi .tuple [f_least_of_c4])) [some (mD m), some (.lst (S.map iD)), some (.gd (kvD S fun q => iD (g q))), some G, x4', some R, some K, none, some (.tup ((List.range (leastM m).n).map fun i => .bl ((leastM m).fin i))), none, none] = .nx [some (mD m), some (.lst (S.map iD)), some (.gd (kvD S fun q => iD (g q))), some G, x4', some R, some K, none, some (.tup ((List.range (leastM m).n).map fun i => .bl ((leastM m).fin i))), some (.tup ((List.range (leastM m).n).map (rowD (leastM m)))), none] := by
    rw [run1_asg, ev_bi, evs_cons, c4]; rfl
  have whole : run (ArOf tab F (L + 2)) f_least_of.body [some (mD m), none, none, none, none, none, none, none, none, none, none] = .rt (mD (leastM m)) := by
    unfold f_least_of
    dsimp only
    rw [run_cons, r1, Fl.then_nx, run_cons, r2, Fl.then_nx, run_cons, r3, Fl.then_nx, run_cons, r4, Fl.then_nx, run_cons, r5, Fl.then_nx, run_cons, r6, Fl.then_nx, run_cons, r7, Fl.then_nx, run_cons, r8, Fl.then_nx, run_cons, r9, Fl.then_nx]
    rfl
  exact callFn_rt rfl rfl whole
end
end Tk
namespace Tk
open PySem PySem.Spec PyProof.Rows L2
open D
/-! ### machines, texts -/
def encRow (r : List Nat) : D := .tup (r.map fun (n : Nat) => D.int (n : Int))
abbrev Mach := List Bool × List (List Nat)
def encM (m : Mach) : D := .tup [.tup (m.1.map .bl), .tup (m.2.map encRow)]
structure Mok (m : Mach) : Prop where
  len : m.2.length = m.1.length
  pos : 0 < m.1.length
  row : ∀ r ∈ m.2, r.length = 4 ∧ ∀ s ∈ r, s < m.1.length
def machI (ns : List Int) (at_ most : Int) : Mach :=
  let size := (1 + drawnI ns at_ most).toNat
  ((List.range size).map fun (k : Nat) => drawnI ns (at_ + 1 + k) 2 == 0, (List.range size).map fun (k : Nat) => (List.range 4).map fun (j : Nat) => (drawnI ns (at_ + 7 + 4 * k + j) size).toNat)
theorem machI_ok (ns : List Int) (at_ most : Int) (hm : 0 < most) : Mok (machI ns at_ most) ∧ (machI ns at_ most).1.length ≤ most.toNat := by
  have h := drawn_range ns at_ most hm
  refine ⟨⟨by simp [machI], by simp [machI]; omega, fun r hr => ?_⟩, by simp [machI]; omega⟩
  unfold machI at hr
  simp only [List.mem_map, List.mem_range] at hr
  obtain ⟨k, hk, rfl⟩ := hr
  refine ⟨by simp, fun s hs => ?_⟩
  simp only [List.mem_map, List.mem_range] at hs
  obtain ⟨j, hj, rfl⟩ := hs
  have hs0 : (0 : Int) < ((1 + drawnI ns at_ most).toNat : Int) := by omega
  have := drawn_range ns (at_ + 7 + 4 * k + j) ((1 + drawnI ns at_ most).toNat : Int) hs0
  simp only [machI, List.length_map, List.length_range]
  omega
def ofI (f : Int → D) : D → D
  | .int k => f k
  | _ => .non
@[simp] theorem ofI_int (f : Int → D) (k : Int) : ofI f (.int k) = f k := rfl
theorem range_map (f : Int → D) (n : Int) : (rangeL 0 n).map (ofI f) = (List.range n.toNat).map fun (k : Nat) => f k := by
  simp [rangeL, List.map_map, Function.comp_def]
section
variable {F L : Nat}
theorem machine_ok (ns : List Int) (at_ most : Int) (hl : ns.length ≤ 63) (hm : 0 < most) (hm2 : most ≤ 1000) : Phi tab F (L + 3) 49 [.scr ns, .int at_, .int most] = .ok (encM (machI ns at_ most)) := by
  rw [Phi_succ (f := f__law_machine) rfl]
  have h := drawn_range ns at_ most hm
  have hs0 : 0 < 1 + drawnI ns at_ most := by omega
  have hs1 : 1 + drawnI ns at_ most ≤ 1000 := by omega
  have es : ((1 + drawnI ns at_ most).toNat : Int) = 1 + drawnI ns at_ most := by omega
  generalize hsz : 1 + drawnI ns at_ most = size at *
  have hsm : small62 size = true := by simp [small62]; omega
  have hs00 : small62 0 = true := by decide
  have ends : ev (ArOf tab F (L + 2)) f__law_machine_c1 [some (.scr ns), some (.int at_), some (.int most), some (.int size), none, none, none, none] = .ok (.lst ((List.range size.toNat).map fun (k : Nat) => .bl (drawnI ns (at_ + 1 + k) 2 == 0))) := by
    unfold f__law_machine_c1
    rw [lc_map (ds := rangeL 0 size) (g := ofI fun k => .bl (drawnI ns (at_ + 1 + k) 2 == 0)), range_map]
    · simp [hsm, hs00]
    · intro d hd
      obtain ⟨k, rfl, _, _⟩ := range_mem hd
      simp [drawn_ok ns _ 2 hl (by decide)]
    · rw [range_len]; omega
  have row : ∀ (k : Int) (x : Option D) (ls : Option D), ev (ArOf tab F (L + 2)) f__law_machine_c2 [some (.scr ns), some (.int at_), some (.int most), some (.int size), x, some (.int k), ls, none] = .ok (.lst ((List.range 4).map fun (j : Nat) => .int (drawnI ns (at_ + 7 + 4 * k + j) size))) := by
    intro k x ls
    unfold f__law_machine_c2
    rw [lc_map (ds := rangeL 0 4) (g := ofI fun j => .int (drawnI ns (at_ + 7 + 4 * k + j) size)), range_map]
    · rfl
    · simp [small62]
    · intro d hd
      obtain ⟨j, rfl, _, _⟩ := range_mem hd
      have h4 : inR 4 = true := by decide
      simp [h4, drawn_ok ns _ size hl hs0]
    · rw [range_len]; decide
  generalize hen : ((List.range size.toNat).map fun (k : Nat) => D.bl (drawnI ns (at_ + 1 + k) 2 == 0)) = en at ends
  have loop := forL_inv (f := forB (ArOf tab F (L + 2)) [5] true f__law_machine_b1)
      (S := fun i ρ => ∃ x, ρ = [some (.scr ns), some (.int at_), some (.int most), some (.int size), some (.tup en), x, some (.lst ((List.range i).map fun (k : Nat) => .tup ((List.range 4).map fun (j : Nat) => .int (drawnI ns (at_ + 7 + 4 * k + j) size)))), none]) (ds := rangeL 0 size) (i := 0)
      (ρ := [some (.scr ns), some (.int at_), some (.int most), some (.int size), some (.tup en), none, some (.lst []), none]) ⟨none, rfl⟩ (by
    rintro j d ρ hj ⟨x, rfl⟩
    have hj2 : j < size.toNat ∧ d = .int j := by
      have h1 := (List.getElem?_eq_some_iff.mp hj)
      obtain ⟨h2, h3⟩ := h1
      rw [range_len] at h2
      simp [rangeL] at h3
      exact ⟨by omega, h3.symm⟩
    obtain ⟨hj3, rfl⟩ := hj2
    refine ⟨_, ?_, some (.int j), rfl⟩
    have hlen : j < 16777216 := by omega
    simp [f__law_machine_b1, row, appD, big, hlen, List.range_succ])
  rw [range_len] at loop
  obtain ⟨ρ', e1, x, e2⟩ := loop
  subst e2
  simp [callFn, f__law_machine, drawn_ok ns at_ most hl hm, hsz, ends, run1_forr, hsm, hs00, e1]
  simp [encM, machI, hsz, encRow, Function.comp_def, es, ← hen]
  intro a ha b hb
  have := drawn_range ns (at_ + 7 + 4 * a + b) size hs0
  omega
end
/-! ### texts drawn, all texts, states behind texts -/
def sgn : List Nat := [48, 49, 97, 98]
def textI (ns : List Int) (at_ most : Int) : List Nat := (List.range (drawnI ns at_ (most + 1)).toNat).map fun (k : Nat) => sgn.getD (drawnI ns (at_ + 1 + k) 4).toNat 0
def IsTx (z : List Nat) : Prop := ∀ c ∈ z, c ∈ sgn
def rowT : Nat → List (List Nat)
  | 0 => [[]]
  | n + 1 => (rowT n).flatMap fun t => sgn.map fun c => t ++ [c]
def allT : Nat → List (List Nat)
  | 0 => rowT 0
  | n + 1 => allT n ++ rowT (n + 1)
theorem rowT_tx : ∀ n, ∀ z ∈ rowT n, IsTx z
  | 0, z, h => by simp [rowT] at h; subst h; intro c hc; cases hc
  | n + 1, z, h => by
    simp only [rowT, List.mem_flatMap, List.mem_map] at h
    obtain ⟨t, ht, c, hc, rfl⟩ := h
    intro x hx
    rcases List.mem_append.mp hx with q | q
    · exact rowT_tx n t ht x q
    · simp at q; subst q; exact hc
theorem allT_tx : ∀ n, ∀ z ∈ allT n, IsTx z
  | 0, z, h => rowT_tx 0 z h
  | n + 1, z, h => by
    rcases List.mem_append.mp h with q | q
    · exact allT_tx n z q
    · exact rowT_tx (n + 1) z q
theorem textI_tx (ns : List Int) (at_ most : Int) : IsTx (textI ns at_ most) := by
  intro c hc
  simp only [textI, List.mem_map, List.mem_range] at hc
  obtain ⟨k, _, rfl⟩ := hc
  have h := drawn_range ns (at_ + 1 + k) 4 (by decide)
  have h2 : (drawnI ns (at_ + 1 + k) 4).toNat < 4 := by omega
  generalize (drawnI ns (at_ + 1 + k) 4).toNat = j at h2
  have : j = 0 ∨ j = 1 ∨ j = 2 ∨ j = 3 := by omega
  rcases this with rfl | rfl | rfl | rfl <;> simp [sgn]
theorem textI_len (ns : List Int) (at_ most : Int) (h : 0 ≤ most) : (textI ns at_ most).length ≤ most.toNat := by
  have := drawn_range ns at_ (most + 1) (by omega)
  simp [textI]
  omega
theorem strsO_map {α : Type} (f : α → List Nat) (xs : List α) : strsO (xs.map fun x => D.str (f x)) = some (xs.map f) := by
  induction xs with
  | nil => rfl
  | cons n ns ih => simp [strsO, ih]
theorem join_map {α : Type} (f : α → List Nat) (xs : List α) (h : (xs.map f).flatten.length ≤ 16777216) : biD .join [.str [], .lst (xs.map fun x => D.str (f x))] = .ok (.str (xs.map f).flatten) := by
  show (match strsO (xs.map fun x => D.str (f x)) with | some zs => if okN zs.flatten.length then Res.ok (D.str zs.flatten) else .bad | none => .bad) = _
  rw [strsO_map]
  show (if okN (xs.map f).flatten.length then Res.ok (D.str (xs.map f).flatten) else .bad) = _
  rw [if_pos (by simpa using h)]
theorem flat_one {α : Type} (f : α → Nat) (xs : List α) : (xs.map fun x => [f x]).flatten = xs.map f := by
  induction xs with
  | nil => rfl
  | cons n ns ih => simp [ih]
def sIx (c : Nat) : Nat := if c = 48 then 0 else if c = 49 then 1 else if c = 97 then 2 else 3
theorem sindex_ok {c : Nat} (h : c ∈ sgn) : biD .sindex [.str [48, 49, 97, 98], .str [c]] = .ok (.int (sIx c)) := by
  have k0 : Builtin.Str.occurrences ⟨#[48, 49, 97, 98]⟩ ⟨#[48]⟩ 0 4 1 = [0] := by decide +kernel
  have k1 : Builtin.Str.occurrences ⟨#[48, 49, 97, 98]⟩ ⟨#[49]⟩ 0 4 1 = [1] := by decide +kernel
  have k2 : Builtin.Str.occurrences ⟨#[48, 49, 97, 98]⟩ ⟨#[97]⟩ 0 4 1 = [2] := by decide +kernel
  have k3 : Builtin.Str.occurrences ⟨#[48, 49, 97, 98]⟩ ⟨#[98]⟩ 0 4 1 = [3] := by decide +kernel
  have e : biD .sindex [.str [48, 49, 97, 98], .str [c]] = (match Builtin.Str.occurrences ⟨#[48, 49, 97, 98]⟩ ⟨#[c]⟩ 0 4 1 with | i :: _ => Res.ok (D.int i) | [] => .bad) := rfl
  rw [e]
  simp [sgn] at h
  rcases h with rfl | rfl | rfl | rfl
  · rw [k0]; rfl
  · rw [k1]; rfl
  · rw [k2]; rfl
  · rw [k3]; rfl
theorem sIx_lt (c : Nat) : sIx c < 4 := by
  unfold sIx
  split
  · omega
  split
  · omega
  split <;> omega
theorem getD_at {α : Type} {xs : List α} {i : Nat} {d : α} (h : i < xs.length) : xs.getD i d = xs[i] := by
  rw [List.getD_eq_getElem?_getD, List.getElem?_eq_getElem h]
  rfl
/-! ### machines drawn, states behind texts, what is accepted -/
open Pm (Mc nxs lang dl)
def mcI (ns : List Int) (at_ most : Int) : Mc :=
  ⟨(1 + drawnI ns at_ most).toNat, fun k => drawnI ns (at_ + 1 + k) 2 == 0, fun k j => (drawnI ns (at_ + 7 + 4 * k + (j.val : Nat)) (1 + drawnI ns at_ most).toNat).toNat⟩
theorem enc_mc (ns : List Int) (at_ most : Int) : encM (machI ns at_ most) = mD (mcI ns at_ most) := by
  have r4 : List.range 4 = [0, 1, 2, 3] := rfl
  simp [encM, machI, mD, mcI, rowD, nxs, encRow, iD, Function.comp_def, r4]
  intro a _
  rfl
theorem mcI_ok (ns : List Int) (at_ most : Int) (hm : 0 < most) : (mcI ns at_ most).ok ∧ (mcI ns at_ most).n ≤ most.toNat := by
  have h := drawn_range ns at_ most hm
  refine ⟨⟨by show 0 < (1 + drawnI ns at_ most).toNat; omega, fun q hq a => ?_⟩, by show (1 + drawnI ns at_ most).toNat ≤ _; omega⟩
  have hs0 : (0 : Int) < ((1 + drawnI ns at_ most).toNat : Int) := by omega
  have := drawn_range ns (at_ + 7 + 4 * q + (a.val : Nat)) ((1 + drawnI ns at_ most).toNat : Int) hs0
  show (drawnI ns (at_ + 7 + 4 * q + (a.val : Nat)) (1 + drawnI ns at_ most).toNat).toNat < (1 + drawnI ns at_ most).toNat
  omega
def wdF (c : Nat) : _root_.Fin 4 := ⟨sIx c, sIx_lt c⟩
def wd (z : List Nat) : Pm.Wd := z.map wdF
theorem ix_row (m : Mc) (q : Nat) (a : _root_.Fin 4) : ixD (rowD m q) (iD a.val) = .ok (iD (m.nx q a)) := by
  match a with
  | 0 => rfl
  | 1 => rfl
  | 2 => rfl
  | 3 => rfl
theorem dl_lt {m : Mc} (h : m.ok) : ∀ (w : Pm.Wd) {q : Nat}, q < m.n → dl m q w < m.n
  | [], q, hq => hq
  | a :: w, q, hq => dl_lt h w (h.nx q hq a)
section
variable {F L : Nat}
theorem machine_mc (ns : List Int) (at_ most : Int) (hl : ns.length ≤ 63) (hm : 0 < most) (hm2 : most ≤ 1000) : Phi tab F (L + 3) 49 [.scr ns, .int at_, .int most] = .ok (mD (mcI ns at_ most)) := by
  rw [machine_ok ns at_ most hl hm hm2, enc_mc]
def goB : List SS := [.asg 1 (.ix (.ix (.ix (.var 0) (.con (.int 1))) (.var 1)) (.me .sindex (.con (.str [48, 49, 97, 98])) [.var 3]))]
theorem go_loop {A : Ar} {m : Mc} (h : m.ok) (b : List SS) (hb : b = goB) (t : Option D) : ∀ (z : List Nat) (s : Nat) (x : Option D), IsTx z → s < m.n → ∃ x', forL (forB A [3] true b) (z.map fun c => D.str [c]) [some (mD m), some (iD s), t, x] = .nx [some (mD m), some (iD (dl m s (wd z))), t, x']
  | [], s, x, _, _ => ⟨x, rfl⟩
  | c :: z, s, x, hz, hs => by
    have hc : c ∈ sgn := hz c List.mem_cons_self
    obtain ⟨x', e⟩ := go_loop h b hb t z (m.nx s (wdF c)) (some (.str [c])) (fun d hd => hz d (List.mem_cons_of_mem _ hd)) (h.nx s hs _)
    refine ⟨x', (forL_nx ?_).trans e⟩
    have e2 := ix_row m s (wdF c)
    have e3 : biD .sindex [.str [48, 49, 97, 98], .str [c]] = .ok (iD (wdF c).val) := sindex_ok hc
    simp [hb, goB, ix_rows m hs, recv, e3, e2]
end
end Tk
namespace Tk
open PySem PySem.Spec PyProof.Rows L2
open D
/-! ### Builder, built -/
section
open Pm (Mc nxs nxA lgA mcA mach insAll insA bfs idx)
open Classical
@[simp] theorem ev_methO {A : Ar} {ρ : En} {o : SE} {m : Str} {es : List SE} : ev A (.meth o m es) ρ = (noEx (ev A o ρ)).bind fun x => match x with
    | .obj c fs => (match A.Ψ c m with
      | some g => (evs A es ρ).bind fun ds => noEx (g (.obj c fs :: ds))
      | none => .bad)
    | _ => .bad := rfl
theorem ev_meth1 {A : Ar} {ρ : En} {o : SE} {m : Str} {es : List SE} {c : Nat} {fs ds : List D} {g : List D → Res D} {d : D} (h1 : ev A o ρ = .ok (.obj c fs)) (h2 : A.Ψ c m = some g) (h3 : evs A es ρ = .ok ds) (h4 : g (.obj c fs :: ds) = .ok d) : ev A (.meth o m es) ρ = .ok d := by
  rw [ev_methO, h1]
  show (match A.Ψ c m with
      | some g => (evs A es ρ).bind fun ds => noEx (g (.obj c fs :: ds))
      | none => .bad) = _
  rw [h2]
  show (evs A es ρ).bind (fun ds => noEx (g (.obj c fs :: ds))) = _
  rw [h3, Res.bind_ok, h4]
  rfl
theorem ev_fld1 {A : Ar} {ρ : En} {o : SE} {k : Str} {c i : Nat} {fs : List D} {d : D} (h1 : ev A o ρ = .ok (.obj c fs)) (h2 : (A.fl c).findIdx? (· == k) = some i) (h3 : fs[i]? = some d) : ev A (.fld o k) ρ = .ok d := by
  show ((ev A o ρ).bind fun x => match x with
    | .obj c fs => (match (A.fl c).findIdx? (· == k) with
      | some i => (match fs[i]? with | some d => .ok d | none => .bad)
      | none => .bad)
    | _ => .bad) = _
  rw [h1]
  show (match (A.fl c).findIdx? (· == k) with
      | some i => (match fs[i]? with | some d => Res.ok d | none => Res.bad)
      | none => Res.bad) = _
  rw [h2]
  show (match fs[i]? with | some d => Res.ok d | none => .bad) = _
  rw [h3]
def sgC (a : _root_.Fin 4) : Nat := sgn.getD a.val 0
def sD (a : _root_.Fin 4) : D := .str [sgC a]
def all4 : List (_root_.Fin 4) := [0, 1, 2, 3]
theorem items_signs : itemsG (.str [48, 49, 97, 98]) = .ok (all4.map sD) := rfl
theorem sgC_in (a : _root_.Fin 4) : sgC a ∈ sgn := by
  match a with
  | 0 => decide
  | 1 => decide
  | 2 => decide
  | 3 => decide
theorem sIx_sgC (a : _root_.Fin 4) : sIx (sgC a) = a.val := by
  match a with
  | 0 => decide
  | 1 => decide
  | 2 => decide
  | 3 => decide
theorem wdF_sgC (a : _root_.Fin 4) : wdF (sgC a) = a := by
  apply _root_.Fin.ext
  exact sIx_sgC a
theorem sindex_sD (a : _root_.Fin 4) : biD .sindex [.str [48, 49, 97, 98], sD a] = .ok (iD a.val) := by
  have := sindex_ok (sgC_in a)
  rw [sIx_sgC] at this
  exact this
/-- what a reader does: states of a kind, as data -/
structure Rdr (A : Ar) {α : Type} (R : D) (e : α → D) (nx : α → _root_.Fin 4 → α) (fin : α → Bool) (P : α → Prop) : Prop where
  ob : ∃ c fs gS gE, R = .obj c fs ∧ A.Ψ c "steps" = some gS ∧ A.Ψ c "is_end" = some gE ∧ (∀ x, P x → ∀ a, gS [R, e x, sD a] = .ok (e (nx x a))) ∧ ∀ x, P x → gE [R, e x] = .ok (.bl (fin x))
  ky : ∀ x, P x → kyB (e x) = true
  inj : ∀ x y, P x → P y → eqD (e x) (e y) = decide (x = y)
  cl : ∀ x, P x → ∀ a, P (nx x a)
section
variable {α : Type} {A : Ar} {R : D} {e : α → D} {nx : α → _root_.Fin 4 → α} {fin : α → Bool} {P : α → Prop}
def kvA (e : α → D) (l : List α) (f : α → D) : List (D × D) := l.map fun x => (e x, f x)
theorem any_kvA (r : Rdr A R e nx fin P) {l : List α} (hl : ∀ x ∈ l, P x) (f : α → D) {s : α} (hs : P s) : ((kvA e l f).any fun p => eqD p.1 (e s)) = decide (s ∈ l) := by
  unfold kvA
  induction l with
  | nil => simp
  | cons x l ih =>
    rw [List.map_cons, List.any_cons, ih (fun y hy => hl y (List.mem_cons_of_mem _ hy))]
    show (eqD (e x) (e s) || _) = _
    rw [r.inj x s (hl x List.mem_cons_self) hs]
    by_cases h : x = s
    · subst h; simp
    · have h2 : ¬ s = x := fun z => h z.symm
      simp [h, h2]
theorem look_kvA (r : Rdr A R e nx fin P) {l : List α} (hl : ∀ x ∈ l, P x) (f : α → D) {s : α} (hs : P s) (h : s ∈ l) : lookD (e s) (kvA e l f) = some (f s) := by
  unfold kvA
  induction l with
  | nil => cases h
  | cons x l ih =>
    show (if eqD (e x) (e s) = true then some (f x) else lookD (e s) (l.map fun q => (e q, f q))) = _
    rw [r.inj x s (hl x List.mem_cons_self) hs]
    by_cases z : x = s
    · subst z; simp
    · rw [if_neg (by simp [z])]
      exact ih (fun y hy => hl y (List.mem_cons_of_mem _ hy)) (by
        rcases List.mem_cons.mp h with q | q
        · exact absurd q.symm z
        · exact q)
theorem set_kvA (r : Rdr A R e nx fin P) {l : List α} (hl : ∀ x ∈ l, P x) (f : α → D) {s : α} (hs : P s) {d : D} (h : s ∉ l) (hd : d = f s) : setD (e s) d (kvA e l f) = kvA e (l ++ [s]) f := by
  unfold setD
  rw [any_kvA r hl f hs, if_neg (by simp [h])]
  subst hd
  simp [kvA]
noncomputable def nuD (K : List α) (x : α) : D := iD (idx K x)
def rwD (r : List Nat) : D := .tup (r.map iD)
noncomputable def bdE (p : Nat) (s0 R : D) (e : α → D) (K l : List α) (rows : List (List Nat)) (x6 x7 x8 : Option D) : En := [some (.adr p), some s0, some R, some (.gd (kvA e l (nuD K))), some (.lst (l.map e)), some (.lst (rows.map rwD)), x6, x7, x8, none]
theorem idx_here {K l r : List α} {s : α} (hn : K.Nodup) (h : K = l ++ [s] ++ r) : idx K s = l.length := Pm.idx_of hn (by rw [h]; simp)
theorem ix_eA {l : List α} {a : Nat} {q : α} (h : l[a]? = some q) : ixD (.lst (l.map e)) (.int (a : Int)) = .ok (e q) := by
  show (match atI (l.map e) ((a : Nat) : Int) with | some d => Res.ok d | none => .bad) = _
  rw [atI_nat, List.getElem?_map, h]
  rfl
theorem bd_turn (r : Rdr A R e nx fin P) (p : Nat) (s0 : D) {K l : List α} {rows : List (List Nat)} {row : List Nat} {q : α} {a : _root_.Fin 4} {x8 : Option D} (hn : K.Nodup) (hl : ∀ x ∈ l, P x) (hq : l[rows.length]? = some q) (hK : ∃ t, K = insA l (nx q a) ++ t) (hb : l.length < 1000) (hr : row.length < 1000) :
    run A f_Builder_b1 (bdE p s0 R e K l rows (some (.lst (row.map iD))) (some (sD a)) x8) = .nx (bdE p s0 R e K (insA l (nx q a)) rows (some (.lst ((row ++ [idx K (nx q a)]).map iD))) (some (sD a)) (some (e (nx q a)))) := by
  obtain ⟨c, fs, gS, gE, hR, h1, h2, h3, h4⟩ := r.ob
  have Pq := hl q (List.mem_of_getElem? hq)
  have Ps := r.cl q Pq a
  have ky := r.ky _ Ps
  have l1 : biD .len [.lst (rows.map rwD)] = .ok (.int (rows.length : Int)) := by rw [len_l, List.length_map]
  have l2 : biD .len [.lst (l.map e)] = .ok (.int (l.length : Int)) := by rw [len_l, List.length_map]
  have ix := ix_eA (e := e) hq
  have s1 : run1 A (.asg 8 (.meth (.var 2) "steps" [.ix (.var 4) (.bi .len [.var 5]), .var 7])) (bdE p s0 R e K l rows (some (.lst (row.map iD))) (some (sD a)) x8) = .nx (bdE p s0 R e K l rows (some (.lst (row.map iD))) (some (sD a)) (some (e (nx q a)))) := by
    have ds : evs A [.ix (.var 4) (.bi .len [.var 5]), .var 7] (bdE p s0 R e K l rows (some (.lst (row.map iD))) (some (sD a)) x8) = .ok [e q, sD a] := by
      simp -implicitDefEqProofs [bdE, l1, ix]
    have rv : ev A (.var 2) (bdE p s0 R e K l rows (some (.lst (row.map iD))) (some (sD a)) x8) = .ok (.obj c fs) := by
      rw [← hR]; rfl
    have h3' := h3 q Pq a
    rw [hR] at h3'
    rw [run1_asg, ev_meth1 rv h1 ds h3', withR_ok]
    rfl
  have fin3 : ∀ l' : List α, (∀ x ∈ l', P x) → nx q a ∈ l' → run1 A (.app 6 (.ix (.var 3) (.var 8))) (bdE p s0 R e K l' rows (some (.lst (row.map iD))) (some (sD a)) (some (e (nx q a)))) = .nx (bdE p s0 R e K l' rows (some (.lst ((row ++ [idx K (nx q a)]).map iD))) (some (sD a)) (some (e (nx q a)))) := by
    intro l' hl' hm
    have lk := look_kvA r hl' (nuD K) Ps hm
    have ev1 : ev A (.ix (.var 3) (.var 8)) (bdE p s0 R e K l' rows (some (.lst (row.map iD))) (some (sD a)) (some (e (nx q a)))) = .ok (iD (idx K (nx q a))) := by
      simp -implicitDefEqProofs [bdE, ky, lk, nuD]
    rw [run1_app, ev1]
    have hb2 : decide ((row.map iD).length < big) = true := by rw [List.length_map]; exact decide_eq_true (by unfold big; omega)
    have : appD (bdE p s0 R e K l' rows (some (.lst (row.map iD))) (some (sD a)) (some (e (nx q a)))) 6 (.ok (iD (idx K (nx q a)))) = if decide ((row.map iD).length < big) then .nx ((bdE p s0 R e K l' rows (some (.lst (row.map iD))) (some (sD a)) (some (e (nx q a)))).set 6 (some (.lst (row.map iD ++ [iD (idx K (nx q a))])))) else .bad := rfl
    rw [this, if_pos hb2, List.map_append]
    rfl
  unfold f_Builder_b1
  rw [run_cons, s1, Fl.then_nx, run_cons]
  have an := any_kvA r hl (nuD K) Ps
  by_cases m : nx q a ∈ l
  · have s2 : run1 A (.ifs (.cmp .notin (.var 8) (.var 3)) [.setK 3 (.var 8) (.bi .len [.var 4]), .app 4 (.var 8)] []) (bdE p s0 R e K l rows (some (.lst (row.map iD))) (some (sD a)) (some (e (nx q a)))) = .nx (bdE p s0 R e K l rows (some (.lst (row.map iD))) (some (sD a)) (some (e (nx q a)))) := by
      simp -implicitDefEqProofs [bdE, ky, an, m]
    rw [s2, Fl.then_nx, run_cons, fin3 l hl m, Fl.then_nx, run_nil, Pm.insA_in m]
  · obtain ⟨t, ht⟩ := hK
    rw [Pm.insA_new m] at ht ⊢
    have ih := idx_here hn ht
    have s2 : run1 A (.ifs (.cmp .notin (.var 8) (.var 3)) [.setK 3 (.var 8) (.bi .len [.var 4]), .app 4 (.var 8)] []) (bdE p s0 R e K l rows (some (.lst (row.map iD))) (some (sD a)) (some (e (nx q a)))) = .nx (bdE p s0 R e K (l ++ [nx q a]) rows (some (.lst (row.map iD))) (some (sD a)) (some (e (nx q a)))) := by
      have hs := set_kvA r hl (nuD K) Ps (d := .int (l.length : Int)) m (by unfold nuD; rw [ih]; rfl)
      have b1 : decide ((kvA e l (nuD K)).length < big) = true := by unfold kvA; rw [List.length_map]; exact decide_eq_true (by unfold big; omega)
      have b2 : decide ((l.map e).length < big) = true := by rw [List.length_map]; exact decide_eq_true (by unfold big; omega)
      have c1 : ev A (.cmp .notin (.var 8) (.var 3)) (bdE p s0 R e K l rows (some (.lst (row.map iD))) (some (sD a)) (some (e (nx q a)))) = .ok (.bl true) := by
        simp -implicitDefEqProofs [bdE, ky, an, m]
      have c2 : ev A (.bi .len [.var 4]) (bdE p s0 R e K l rows (some (.lst (row.map iD))) (some (sD a)) (some (e (nx q a)))) = .ok (.int (l.length : Int)) := by
        simp -implicitDefEqProofs [bdE]
      have c3 : ∀ l2 : List (D × D), ev A (.var 8) [some (.adr p), some s0, some R, some (.gd l2), some (.lst (l.map e)), some (.lst (rows.map rwD)), some (.lst (row.map iD)), some (sD a), some (e (nx q a)), none] = .ok (e (nx q a)) := fun _ => rfl
      have r1 : run1 A (.setK 3 (.var 8) (.bi .len [.var 4])) (bdE p s0 R e K l rows (some (.lst (row.map iD))) (some (sD a)) (some (e (nx q a)))) = .nx [some (.adr p), some s0, some R, some (.gd (kvA e (l ++ [nx q a]) (nuD K))), some (.lst (l.map e)), some (.lst (rows.map rwD)), some (.lst (row.map iD)), some (sD a), some (e (nx q a)), none] := by
        rw [run1_setK, c2]
        have : setKD (bdE p s0 R e K l rows (some (.lst (row.map iD))) (some (sD a)) (some (e (nx q a)))) 3 (.ok (.int (l.length : Int))) (.ok (e (nx q a))) = if kyB (e (nx q a)) && decide ((kvA e l (nuD K)).length < big) then .nx ((bdE p s0 R e K l rows (some (.lst (row.map iD))) (some (sD a)) (some (e (nx q a)))).set 3 (some (.gd (setD (e (nx q a)) (.int (l.length : Int)) (kvA e l (nuD K)))))) else .bad := rfl
        have e8 : ev A (.var 8) (bdE p s0 R e K l rows (some (.lst (row.map iD))) (some (sD a)) (some (e (nx q a)))) = .ok (e (nx q a)) := rfl
        rw [e8, this, ky, b1, hs]
        rfl
      have r2 : run1 A (.app 4 (.var 8)) [some (.adr p), some s0, some R, some (.gd (kvA e (l ++ [nx q a]) (nuD K))), some (.lst (l.map e)), some (.lst (rows.map rwD)), some (.lst (row.map iD)), some (sD a), some (e (nx q a)), none] = .nx (bdE p s0 R e K (l ++ [nx q a]) rows (some (.lst (row.map iD))) (some (sD a)) (some (e (nx q a)))) := by
        rw [run1_app, c3]
        have : ∀ ρ : En, ρ[4]? = some (some (.lst (l.map e))) → appD ρ 4 (.ok (e (nx q a))) = if decide ((l.map e).length < big) then .nx (ρ.set 4 (some (.lst (l.map e ++ [e (nx q a)])))) else .bad := fun ρ hρ => by
          unfold appD
          rw [hρ]
          rfl
        rw [this _ rfl, if_pos b2]
        unfold bdE
        rw [List.map_append]
        rfl
      rw [run1_ifs, c1, withR_ok, asBl_bl, withR_ok, if_pos rfl, run_cons, r1, Fl.then_nx, run_cons, r2, Fl.then_nx, run_nil]
    rw [s2, Fl.then_nx, run_cons, fin3 (l ++ [nx q a]) (fun x hx => by
      rcases List.mem_append.mp hx with z | z
      · exact hl x z
      · rw [List.mem_singleton.mp z]; exact Ps) (by simp), Fl.then_nx, run_nil]
theorem bd_inner (r : Rdr A R e nx fin P) (p : Nat) (s0 : D) {K : List α} {rows : List (List Nat)} {q : α} (hn : K.Nodup) : ∀ (as : List (_root_.Fin 4)) (l : List α) (row : List Nat) (x7 x8 : Option D), (∀ x ∈ l, P x) → l[rows.length]? = some q → (∃ t, K = insAll l (as.map (nx q)) ++ t) → K.length < 900 → row.length + as.length < 900 →
    ∃ x7' x8', forL (forB A [7] true f_Builder_b1) (as.map sD) (bdE p s0 R e K l rows (some (.lst (row.map iD))) x7 x8) = .nx (bdE p s0 R e K (insAll l (as.map (nx q))) rows (some (.lst ((row ++ as.map fun a => idx K (nx q a)).map iD))) x7' x8')
  | [], l, row, x7, x8, _, _, _, _, _ => ⟨x7, x8, by simp; rfl⟩
  | a :: as, l, row, x7, x8, hl, hq, hK, hKl, hrl => by
    rw [List.length_cons] at hrl
    obtain ⟨t, ht⟩ := hK
    rw [List.map_cons, Pm.insAll_cons] at ht
    obtain ⟨t2, ht2⟩ := Pm.insAll_pre (as.map (nx q)) (insA l (nx q a))
    have hK1 : ∃ t, K = insA l (nx q a) ++ t := ⟨t2 ++ t, by rw [ht, ht2, List.append_assoc]⟩
    obtain ⟨t3, ht3⟩ := Pm.insA_pre l (nx q a)
    have hll : l.length < 1000 := by
      obtain ⟨t4, ht4⟩ := hK1
      have := congrArg List.length ht4
      rw [ht3, List.length_append, List.length_append] at this
      omega
    have Pq := hl q (List.mem_of_getElem? hq)
    have turn := bd_turn (x8 := x8) r p s0 hn hl hq hK1 hll (row := row) (by omega)
    have hl2 : ∀ x ∈ insA l (nx q a), P x := fun x hx => by
      rcases Pm.mem_insA.mp hx with z | z
      · exact hl x z
      · rw [z]; exact r.cl q Pq a
    have hq2 : (insA l (nx q a))[rows.length]? = some q := by
      rw [ht3, List.getElem?_append_left (List.getElem?_eq_some_iff.mp hq).1]
      exact hq
    obtain ⟨x7', x8', ih⟩ := bd_inner r p s0 hn as (insA l (nx q a)) (row ++ [idx K (nx q a)]) (some (sD a)) (some (e (nx q a))) hl2 hq2 ⟨t, ht⟩ hKl (by rw [List.length_append, List.length_singleton]; omega)
    refine ⟨x7', x8', ?_⟩
    rw [List.map_cons, forL_nx (ρ' := bdE p s0 R e K (insA l (nx q a)) rows (some (.lst ((row ++ [idx K (nx q a)]).map iD))) (some (sD a)) (some (e (nx q a)))) turn, ih, List.map_cons, Pm.insAll_cons, List.append_assoc]
    rfl
end
end
section
open Pm (Mc nxs nxA lgA mcA mach insAll insA bfs idx)
open Classical
section
variable {α : Type} {A : Ar} {R : D} {e : α → D} {nx : α → _root_.Fin 4 → α} {fin : α → Bool} {P : α → Prop}
theorem bd_loop (r : Rdr A R e nx fin P) (p : Nat) (s0 : D) {K : List α} (hn : K.Nodup) (hKl : K.length < 900) : ∀ (k j : Nat) (l : List α) (rows : List (List Nat)) (x6 x7 x8 : Option D), (∀ x ∈ l, P x) → bfs (nxA nx) k rows.length l = K → Pm.Clo (nxA nx) K → (K.length ≤ rows.length + k) → rows = (l.take rows.length).map (fun q => (nxA nx q).map (idx K)) → rows.length ≤ l.length →
    ∃ x6' x7' x8', whlR A (.cmp .lt (.bi .len [.var 5]) (.bi .len [.var 4])) f_Builder_b2 (k + 1 + j) (bdE p s0 R e K l rows x6 x7 x8) = .nx (bdE p s0 R e K K (K.map fun q => (nxA nx q).map (idx K)) x6' x7' x8')
  | k, j, l, rows, x6, x7, x8, hl, hK, hc, hk, hrows, hrl => by
    have cnd : (ev A (.cmp .lt (.bi .len [.var 5]) (.bi .len [.var 4])) (bdE p s0 R e K l rows x6 x7 x8)).bind asBl = .ok (decide (rows.length < l.length)) := by
      simp -implicitDefEqProofs [bdE]
    have e0 : k + 1 + j = (k + j) + 1 := by omega
    rw [e0]
    simp only [whlR_succ, cnd]
    obtain ⟨rr, hrr⟩ := Pm.bfs_sub (nx := nxA nx) k rows.length l
    rw [hK] at hrr
    have hlK : l.length ≤ K.length := by rw [hrr, List.length_append]; omega
    by_cases c : rows.length < l.length
    · have hq : l[rows.length]? = some l[rows.length] := List.getElem?_eq_getElem c
      generalize l[rows.length] = q at hq
      cases k with
      | zero => omega
      | succ k =>
        rw [Pm.bfs_some hq] at hK
        obtain ⟨r2, hr2⟩ := Pm.bfs_sub (nx := nxA nx) k (rows.length + 1) (insAll l (nxA nx q))
        rw [hK] at hr2
        obtain ⟨x7', x8', e1⟩ := bd_inner r p s0 hn all4 l [] x7 x8 hl hq ⟨r2, hr2⟩ hKl (by decide)
        have e1 : forL (forB A [7] true f_Builder_b1) (all4.map sD) (bdE p s0 R e K l rows (some (.lst [])) x7 x8) = .nx (bdE p s0 R e K (insAll l (nxA nx q)) rows (some (.lst (((nxA nx q).map (idx K)).map iD))) x7' x8') := e1
        have body : run A f_Builder_b2 (bdE p s0 R e K l rows x6 x7 x8) = .nx (bdE p s0 R e K (insAll l (nxA nx q)) (rows ++ [(nxA nx q).map (idx K)]) (some (.lst (((nxA nx q).map (idx K)).map iD))) x7' x8') := by
          have r1 : run1 A (.asgF 6 (.lst [])) (bdE p s0 R e K l rows x6 x7 x8) = .nx (bdE p s0 R e K l rows (some (.lst [])) x7 x8) := rfl
          have r2 : run1 A (.forr [7] true (.of (.con (.str [48, 49, 97, 98]))) f_Builder_b1) (bdE p s0 R e K l rows (some (.lst [])) x7 x8) = .nx (bdE p s0 R e K (insAll l (nxA nx q)) rows (some (.lst (((nxA nx q).map (idx K)).map iD))) x7' x8') := by
            rw [run1_forr, evi_of, ev_con, Res.bind_ok, items_signs, withR_ok, e1]
          have b2 : decide ((rows.map rwD).length < big) = true := by rw [List.length_map]; exact decide_eq_true (by unfold big; omega)
          have r3 : run1 A (.app 5 (.bi .tuple [.var 6])) (bdE p s0 R e K (insAll l (nxA nx q)) rows (some (.lst (((nxA nx q).map (idx K)).map iD))) x7' x8') = .nx (bdE p s0 R e K (insAll l (nxA nx q)) (rows ++ [(nxA nx q).map (idx K)]) (some (.lst (((nxA nx q).map (idx K)).map iD))) x7' x8') := by
            have ev1 : ev A (.bi .tuple [.var 6]) (bdE p s0 R e K (insAll l (nxA nx q)) rows (some (.lst (((nxA nx q).map (idx K)).map iD))) x7' x8') = .ok (rwD ((nxA nx q).map (idx K))) := rfl
            rw [run1_app, ev1]
            have : ∀ ρ : En, ρ[5]? = some (some (.lst (rows.map rwD))) → appD ρ 5 (.ok (rwD ((nxA nx q).map (idx K)))) = if decide ((rows.map rwD).length < big) then .nx (ρ.set 5 (some (.lst (rows.map rwD ++ [rwD ((nxA nx q).map (idx K))])))) else .bad := fun ρ hρ => by
              unfold appD
              rw [hρ]
              rfl
            rw [this _ rfl, if_pos b2]
            unfold bdE
            rw [List.map_append (f := rwD)]
            rfl
          unfold f_Builder_b2
          rw [run_cons, r1, Fl.then_nx, run_cons, r2, Fl.then_nx, run_cons, r3, Fl.then_nx, run_nil]
        have hlq : ∃ t, insAll l (nxA nx q) = l ++ t := Pm.insAll_pre _ _
        obtain ⟨t, ht⟩ := hlq
        obtain ⟨x6', x7'', x8'', ih⟩ := bd_loop r p s0 hn hKl k j (insAll l (nxA nx q)) (rows ++ [(nxA nx q).map (idx K)]) (some (.lst (((nxA nx q).map (idx K)).map iD))) x7' x8' (fun y hy => by
            rcases Pm.mem_insAll.mp hy with z | z
            · exact hl y z
            · obtain ⟨a, rfl⟩ := Pm.mem_nxA.mp z
              exact r.cl q (hl q (List.mem_of_getElem? hq)) a) (by rw [List.length_append]; exact hK) hc (by rw [List.length_append, List.length_singleton]; omega) (by
            have e5 : (insAll l (nxA nx q)).take (rows.length + 1) = l.take rows.length ++ [q] := by
              rw [ht, List.take_append_of_le_length (by omega), List.take_succ, hq]
              rfl
            rw [List.length_append, List.length_singleton, e5, List.map_append, ← hrows]
            rfl) (by rw [List.length_append, List.length_singleton, ht, List.length_append]; omega)
        refine ⟨x6', x7'', x8'', ?_⟩
        rw [decide_eq_true c, body]
        exact ih
    · refine ⟨x6, x7, x8, ?_⟩
      rw [decide_eq_false c]
      have hq : l[rows.length]? = none := List.getElem?_eq_none (by omega)
      have hKL : l = K := by
        cases k with
        | zero => exact hK
        | succ k => rw [Pm.bfs_none hq] at hK; exact hK
      subst hKL
      have : rows.length = l.length := by omega
      rw [this, List.take_length] at hrows
      rw [hrows]
end
section
variable {F L : Nat} {α : Type} {R : D} {e : α → D} {nx : α → _root_.Fin 4 → α} {fin : α → Bool} {P : α → Prop}
theorem mD_mcA {K : List α} (hc : Pm.Clo (nxA nx) K) : mD (mcA K nx fin) = .tup [.tup (K.map fun x => .bl (fin x)), .tup ((K.map fun q => (nxA nx q).map (idx K)).map rwD)] := by
  have e1 : (List.range (mcA K nx fin).n).map (fun q => D.bl ((mcA K nx fin).fin q)) = K.map fun x => .bl (fin x) := by
    refine List.ext_getElem (by simp [mcA]) fun i h1 h2 => ?_
    have hi : i < K.length := by simpa using h2
    have e : K[i]? = some K[i] := List.getElem?_eq_getElem hi
    simp [mcA, e]
  have e2 : (List.range (mcA K nx fin).n).map (rowD (mcA K nx fin)) = (K.map fun q => (nxA nx q).map (idx K)).map rwD := by
    refine List.ext_getElem (by simp [mcA]) fun i h1 h2 => ?_
    have hi : i < K.length := by simpa using h2
    have e : K[i]? = some K[i] := List.getElem?_eq_getElem hi
    simp [mcA, rowD, nxs, rwD, nxA, e]
  unfold mD
  rw [e1, e2]
/-- a machine is built of states of any kind, N at most -/
theorem built_ok {N : Nat} {s : α} (r : Rdr (ArOf tab F (L + 3)) R e nx fin P) (h0 : P s) (few : ∀ l : List α, l.Nodup → (∀ q ∈ l, P q) → l.length ≤ N) (hN : N < 64) (hF : 1000 < F) : Phi tab F (L + 6) 35 [e s, R] = .ok (mD (mach (lgA nx fin s))) := by
  have cl' : ∀ q, P q → ∀ t ∈ nxA nx q, P t := fun q hq t ht => by
    obtain ⟨a, rfl⟩ := Pm.mem_nxA.mp ht
    exact r.cl q hq a
  have hP : ∀ q ∈ bfs (nxA nx) N 0 [s], P q := Pm.bfs_in cl' _ _ _ (by simpa using h0)
  have hc : Pm.Clo (nxA nx) (bfs (nxA nx) N 0 [s]) := Pm.bfs_done (P := P) cl' few _ _ _ (by simp) (by simpa using h0) (fun i q hi => by omega) (by omega)
  have hn : (bfs (nxA nx) N 0 [s]).Nodup := Pm.bfs_nodup _ _ _ (by simp)
  obtain ⟨rr, hr⟩ := Pm.bfs_sub (nx := nxA nx) N 0 [s]
  have h1 : (bfs (nxA nx) N 0 [s])[0]? = some s := by rw [hr]; rfl
  have hlen := few _ hn hP
  have hpos : 0 < (bfs (nxA nx) N 0 [s]).length := by rw [hr]; simp
  have loop := fun p x6 x7 x8 => bd_loop r p (e s) hn (by omega) N (F - (N + 1)) [s] [] x6 x7 x8 (by simpa using h0) rfl hc (by simpa using hlen) rfl (by simp)
  have hi0 : idx (bfs (nxA nx) N 0 [s]) s = 0 := Pm.idx_of hn h1
  generalize bfs (nxA nx) N 0 [s] = K at *
  have hF2 : N + 1 + (F - (N + 1)) = F := by omega
  rw [hF2] at loop
  have mok : (mcA K nx fin).ok := Pm.mcA_ok hc hpos
  have least : Phi tab F (L + 3) 34 [mD (mcA K nx fin)] = .ok (mD (mach (lgA nx fin s))) := by
    rw [least_ok (F := F) (L := L) (mcA K nx fin) mok (show K.length < 64 by omega) (show K.length + 1 < F by omega), Pm.mach_of mok (funext fun w => Pm.mcA_lang hc w h1)]
  have init : Phi tab F (L + 5) 600 [e s, R] = .ok (.obj 600 [mD (mach (lgA nx fin s))]) := by
    rw [Phi_cls (f := f_Builder) (i := ⟨["machine"], [], [.call 34 [.tup [.bi .tuple [f_Builder_c1], .bi .tuple [.var 5]]]]⟩) rfl rfl]
    refine initR_ok fun p => ?_
    obtain ⟨c, fs, gS, gE, hR, g1, g2, g3, g4⟩ := r.ob
    obtain ⟨x6, x7, x8, lp⟩ := loop p none none none
    generalize hA : ArOf tab F (L + 3) = A at *
    have hAF : A.F = F := by rw [← hA]; rfl
    have hAP : ∀ i ds, A.Φ i ds = Phi tab F (L + 3) i ds := fun i ds => by rw [← hA]; rfl
    have r1 : run1 A (.asgF 3 (.dict [.var 1] [.con (.int 0)])) [some (.adr p), some (e s), some R, none, none, none, none, none, none, none] = .nx [some (.adr p), some (e s), some R, some (.gd (kvA e [s] (nuD K))), none, none, none, none, none, none] := by
      have ky := r.ky s h0
      have hz : nuD K s = .int 0 := by unfold nuD; rw [hi0]; rfl
      simp -implicitDefEqProofs [ky, kvA, hz]
    have r2 : run1 A (.asgF 4 (.lst [.var 1])) [some (.adr p), some (e s), some R, some (.gd (kvA e [s] (nuD K))), none, none, none, none, none, none] = .nx [some (.adr p), some (e s), some R, some (.gd (kvA e [s] (nuD K))), some (.lst ([s].map e)), none, none, none, none, none] := rfl
    have r3 : run1 A (.asgF 5 (.lst [])) [some (.adr p), some (e s), some R, some (.gd (kvA e [s] (nuD K))), some (.lst ([s].map e)), none, none, none, none, none] = .nx (bdE p (e s) R e K [s] [] none none none) := rfl
    have r4 : run1 A (.whl (.cmp .lt (.bi .len [.var 5]) (.bi .len [.var 4])) f_Builder_b2) (bdE p (e s) R e K [s] [] none none none) = .nx (bdE p (e s) R e K K (K.map fun q => (nxA nx q).map (idx K)) x6 x7 x8) := by
      rw [run1_whlR, hAF, lp]
    have whole : run A f_Builder.body (some (.adr p) :: ([e s, R].map some ++ List.replicate (f_Builder.ns - f_Builder.np) none)) = .nx (bdE p (e s) R e K K (K.map fun q => (nxA nx q).map (idx K)) x6 x7 x8) := by
      show run A f_Builder.body [some (.adr p), some (e s), some R, none, none, none, none, none, none, none] = _
      unfold f_Builder
      dsimp only
      rw [run_cons, r1, Fl.then_nx, run_cons, r2, Fl.then_nx, run_cons, r3, Fl.then_nx, run_cons, r4, Fl.then_nx, run_nil]
    have c1 : ev A f_Builder_c1 (bdE p (e s) R e K K (K.map fun q => (nxA nx q).map (idx K)) x6 x7 x8) = .ok (.lst (K.map fun x => .bl (fin x))) := by
      unfold f_Builder_c1
      refine lc_A (l := K) (e := e) (g := fun x => .bl (fin x)) rfl (fun x hx => ?_) (by omega)
      refine ev_meth1 (c := c) (fs := fs) (ds := [e x]) ?_ g2 rfl ?_
      · rw [← hR]; rfl
      · rw [← hR]; exact g4 x (hP x hx)
    have vals : evs A [.call 34 [.tup [.bi .tuple [f_Builder_c1], .bi .tuple [.var 5]]]] (bdE p (e s) R e K K (K.map fun q => (nxA nx q).map (idx K)) x6 x7 x8) = .ok [mD (mach (lgA nx fin s))] := by
      have t2 : ev A (.var 5) (bdE p (e s) R e K K (K.map fun q => (nxA nx q).map (idx K)) x6 x7 x8) = .ok (.lst ((K.map fun q => (nxA nx q).map (idx K)).map rwD)) := rfl
      rw [mD_mcA hc, ← hAP] at least
      have a1 : evs A [.tup [.bi .tuple [f_Builder_c1], .bi .tuple [.var 5]]] (bdE p (e s) R e K K (K.map fun q => (nxA nx q).map (idx K)) x6 x7 x8) = .ok [.tup [.tup (K.map fun x => .bl (fin x)), .tup ((K.map fun q => (nxA nx q).map (idx K)).map rwD)]] := by
        rw [evs_cons, ev_tup, evs_cons, ev_bi, evs_cons, c1]
        rfl
      rw [evs_cons, ev_call, a1, Res.bind_ok, least]
      rfl
    unfold callInit
    rw [if_pos (show ([e s, R] : List D).length + 1 = f_Builder.np from rfl), whole]
    show (if p = p then evs A [.call 34 [.tup [.bi .tuple [f_Builder_c1], .bi .tuple [.var 5]]]] (bdE p (e s) R e K K (K.map fun q => (nxA nx q).map (idx K)) x6 x7 x8) else .bad) = _
    rw [if_pos rfl, vals]
  rw [Phi_succ (f := f_built) rfl]
  refine callFn_rt (ρ := [some (e s), some R]) rfl rfl ?_
  have b1 : ev (ArOf tab F (L + 5)) (.call 600 [.var 0, .var 1]) [some (e s), some R] = .ok (.obj 600 [mD (mach (lgA nx fin s))]) := by
    rw [ev_call]
    exact init
  have b2 : ev (ArOf tab F (L + 5)) (.fld (.call 600 [.var 0, .var 1]) "machine") [some (e s), some R] = .ok (mD (mach (lgA nx fin s))) := ev_fld1 (i := 0) b1 (show (flT tab 600).findIdx? (· == ("machine" : Str)) = some 0 by decide +kernel) rfl
  unfold f_built
  dsimp only
  rw [run_cons, run1_ret, b2]
  rfl
end
end
end Tk
namespace Tk
open PySem PySem.Spec PyProof.Rows L2
open D
/-! ### two machines side by side; all others -/
section
open Pm (Mc nxs nxA lgA mcA mach insAll insA bfs idx lang dl Reg)
open Classical
theorem psi_of {F L k k' : Nat} {m : Str} (h : methT tab k m = some k') : (ArOf tab F L).Ψ k m = some (Phi tab F L k') := by
  show (methT tab k m).map (fun k => Phi tab F L k) = _
  rw [h]
  rfl
theorem init_plain {A : Ar} {k : Nat} {f : Fn} {i : ClsI} {ds fs : List D} (h1 : ds.length + 1 = f.np) (hb : f.body = []) (h4 : ∀ p, evs A i.sets (some (.adr p) :: (ds.map some ++ List.replicate (f.ns - f.np) none)) = .ok fs) : initR A k f i ds = .ok (.obj k fs) := by
  refine initR_ok fun p => ?_
  unfold callInit
  rw [if_pos h1, hb, run_nil]
  show (if p = p then evs A i.sets (some (.adr p) :: (ds.map some ++ List.replicate (f.ns - f.np) none)) else .bad) = _
  rw [if_pos rfl, h4]
theorem fld_of {F L k i : Nat} {n : Str} {fs : List D} {ρ : En} {d : D} (h : (flT tab k).findIdx? (· == n) = some i) (hd : fs[i]? = some d) : ev (ArOf tab F L) (.fld (.var 0) n) (some (.obj k fs) :: ρ) = .ok d := ev_fld1 rfl h hd
theorem rdr_in {α : Type} {A : Ar} {R : D} {e : α → D} {nx : α → _root_.Fin 4 → α} {fin : α → Bool} {P Q : α → Prop} (r : Rdr A R e nx fin P) (hP : ∀ x, Q x → P x) (cl : ∀ x, Q x → ∀ c, Q (nx x c)) : Rdr A R e nx fin Q := by
  obtain ⟨⟨c, fs, gS, gE, o1, o2, o3, o4, o5⟩, k1, k2, k3⟩ := r
  exact ⟨⟨c, fs, gS, gE, o1, o2, o3, fun x hx => o4 x (hP x hx), fun x hx => o5 x (hP x hx)⟩, fun x hx => k1 x (hP x hx), fun x y hx hy => k2 x y (hP x hx) (hP y hy), cl⟩
end
/-! ### sets of states as data -/
section
open Pm (Mc sset mem_sset)
open Classical
theorem intsO_iN (l : List Nat) : intsO (l.map iD) = some (l.map fun (q : Nat) => (q : Int)) := by
  have : l.map iD = (l.map fun (q : Nat) => (q : Int)).map D.int := by rw [List.map_map]; rfl
  rw [this, intsO_map]
theorem sset_len (n : Nat) (p : Nat → Prop) : (sset n p).length ≤ n := by
  unfold sset
  refine Nat.le_trans (List.length_filter_le _ _) ?_
  rw [List.length_range]
  exact Nat.le_refl _
theorem sset_ok {l : List Nat} {n : Nat} (h1 : l.length < 4000) (h2 : ∀ x ∈ l, x < n) (hn : n < 64) : sortSetD (l.map iD) = .ok (.lst ((sset n fun t => t ∈ l).map iD)) := by
  have pw := pw_sortU ltI_strict (l.map fun (q : Nat) => (q : Int))
  have mm : ∀ y, y ∈ sortU ltI (l.map fun (q : Nat) => (q : Int)) ↔ y ∈ l.map fun (q : Nat) => (q : Int) := fun y => mem_sortU ltI_strict y _
  have el : ∀ y ∈ sortU ltI (l.map fun (q : Nat) => (q : Int)), ∃ q ∈ l, y = (q : Int) := fun y hy => by
    obtain ⟨q, hq, e⟩ := List.mem_map.mp ((mm y).mp hy)
    exact ⟨q, hq, e.symm⟩
  have asc : ((sortU ltI (l.map fun (q : Nat) => (q : Int))).map Int.toNat).Pairwise (· < ·) := by
    rw [List.pairwise_map]
    refine List.Pairwise.imp_of_mem (fun {a b} ha hb hlt => ?_) pw
    obtain ⟨p, _, rfl⟩ := el a ha
    obtain ⟨q, _, rfl⟩ := el b hb
    simp [ltI] at hlt
    simpa using hlt
  have e : (sortU ltI (l.map fun (q : Nat) => (q : Int))).map Int.toNat = sset n fun t => t ∈ l := by
    refine Pm.asc_ext asc (Pm.sset_asc _ _) fun x => ?_
    rw [mem_sset, List.mem_map]
    constructor
    · rintro ⟨y, hy, rfl⟩
      obtain ⟨p, hp, rfl⟩ := el y hy
      exact ⟨h2 p hp, hp⟩
    · rintro ⟨_, hx⟩
      exact ⟨(x : Int), (mm _).mpr (List.mem_map.mpr ⟨x, hx, rfl⟩), rfl⟩
  have len : (sortU ltI (l.map fun (q : Nat) => (q : Int))).length < 64 := by
    have h3 := congrArg List.length e
    rw [List.length_map] at h3
    rw [h3]
    have := sset_len n fun t => t ∈ l
    omega
  unfold sortSetD
  rw [intsO_iN]
  show (if decide ((l.map fun (q : Nat) => (q : Int)).length < 4000) && decide ((sortU ltI (l.map fun (q : Nat) => (q : Int))).length < 64) then Res.ok (D.lst ((sortU ltI (l.map fun (q : Nat) => (q : Int))).map .int)) else .bad) = _
  rw [if_pos (by rw [List.length_map, decide_eq_true h1, decide_eq_true len]; rfl), ← e, List.map_map]
  refine congrArg (fun l => Res.ok (D.lst l)) (List.map_congr_left fun y hy => ?_)
  obtain ⟨p, _, rfl⟩ := el y hy
  rfl
def stD (x : List Nat) : D := .tup (x.map iD)
theorem kbs_iD : ∀ l : List Nat, kbs (l.map iD) = true
  | [] => rfl
  | x :: l => by show (true && kbs (l.map iD)) = true; rw [kbs_iD l]; rfl
theorem depA_iD : ∀ l : List Nat, depAll (l.map iD) = 0
  | [] => rfl
  | x :: l => by show max 0 (depAll (l.map iD)) = 0; rw [depA_iD l]; rfl
theorem plnA_iD : ∀ l : List Nat, plnAll (l.map iD) = true
  | [] => rfl
  | x :: l => by show (true && plnAll (l.map iD)) = true; rw [plnA_iD l]; rfl
theorem ky_st (x : List Nat) : kyB (stD x) = true := by
  have h1 : (stD x).kb = true := kbs_iD x
  have h2 : (stD x).dep = 1 := by show depAll (x.map iD) + 1 = 1; rw [depA_iD]
  unfold kyB
  rw [h1, h2]
  rfl
theorem sh_st (x : List Nat) : (stD x).sh = true := by
  have h1 : (stD x).pln = true := plnA_iD x
  have h2 : (stD x).dep = 1 := by show depAll (x.map iD) + 1 = 1; rw [depA_iD]
  unfold D.sh
  rw [h1, h2]
  rfl
theorem eqA_iD : ∀ l k : List Nat, eqAll (l.map iD) (k.map iD) = decide (l = k)
  | [], [] => by simp [eqAll]
  | [], y :: k => by simp [eqAll]
  | x :: l, [] => by simp [eqAll]
  | x :: l, y :: k => by
    show (eqD (iD x) (iD y) && eqAll (l.map iD) (k.map iD)) = _
    rw [eq_iD, eqA_iD l k]
    by_cases h1 : x = y <;> by_cases h2 : l = k <;> simp [h1, h2]
theorem eq_st (x y : List Nat) : eqD (stD x) (stD y) = decide (x = y) := by
  show eqAll (x.map iD) (y.map iD) = _
  exact eqA_iD x y
theorem any_iS (l : List Nat) (s : Nat) : anyEq (iD s) (l.map iD) = decide (s ∈ l) := by
  unfold anyEq
  induction l with
  | nil => simp
  | cons x l ih =>
    rw [List.map_cons, List.any_cons, ih, eq_iD]
    by_cases h : x = s
    · subst h; simp
    · have h2 : ¬ s = x := fun z => h z.symm
      simp [h, h2]
theorem sset_lt {n t : Nat} {p : Nat → Prop} (h : t ∈ sset n p) : t < n := (mem_sset.mp h).1
theorem ix_rowS (m : Mc) {q : Nat} (hq : q < m.n) (c : _root_.Fin 4) : ((ixD (.tup ((List.range m.n).map (rowD m))) (iD q)).bind fun y => ixD y (iD c.val)) = .ok (iD (m.nx q c)) := by
  rw [ix_rows m hq, Res.bind_ok, ix_row]
end
/-! ### cutting texts -/
section
open Classical
theorem rng_iD (A : Ar) {e : SE} {n : Nat} {ρ : En} (h : ev A e ρ = .ok (.int (n : Int))) (hn : n < 1000) : evi A (.rng (.con (.int 0)) e) ρ = .ok ((List.range n).map iD) := by
  rw [evi_rng, ev_con, Res.bind_ok, h, Res.bind_ok, asInt_int, Res.bind_ok, asInt_int, Res.bind_ok, if_pos]
  · unfold rangeL
    refine congrArg Res.ok ?_
    have e : ((n : Int) - 0).toNat = n := by omega
    rw [e]
    refine List.map_congr_left fun k _ => ?_
    show D.int (0 + (k : Int)) = iD k
    rw [Int.zero_add]
    rfl
  · unfold small62
    have h1 : decide (-(2 ^ 62) ≤ (0 : Int)) = true := by decide
    have h2 : decide ((0 : Int) < 2 ^ 62) = true := by decide
    have h3 : decide (-(2 ^ 62) ≤ (n : Int)) = true := decide_eq_true (by omega)
    have h4 : decide ((n : Int) < 2 ^ 62) = true := decide_eq_true (by omega)
    rw [h1, h2, h3, h4]
    rfl
theorem cut_to (z : List Nat) (k : Nat) (h : k ≤ z.length) : cutL z none (some (k : Int)) = z.take k := by
  have e : HT.sIx z.length 0 none = 0 := rfl
  have e2 : HT.sIx z.length z.length (some (k : Int)) = k := by
    unfold HT.sIx
    simp only
    rw [if_neg (by omega)]
    omega
  unfold cutL
  rw [e, e2, List.drop_zero, Nat.sub_zero]
theorem cut_from (z : List Nat) (k : Nat) (h : k ≤ z.length) : cutL z (some (k : Int)) none = z.drop k := by
  have e : HT.sIx z.length z.length none = z.length := rfl
  have e2 : HT.sIx z.length 0 (some (k : Int)) = k := by
    unfold HT.sIx
    simp only
    rw [if_neg (by omega)]
    omega
  unfold cutL
  rw [e, e2, List.take_of_length_le (by rw [List.length_drop]; omega)]
theorem cut_mid (z : List Nat) (k j : Nat) (h : k ≤ j) (hj : j ≤ z.length) : cutL z (some (k : Int)) (some (j : Int)) = (z.take j).drop k := by
  have e : HT.sIx z.length z.length (some (j : Int)) = j := by
    unfold HT.sIx
    simp only
    rw [if_neg (by omega)]
    omega
  have e2 : HT.sIx z.length 0 (some (k : Int)) = k := by
    unfold HT.sIx
    simp only
    rw [if_neg (by omega)]
    omega
  unfold cutL
  rw [e, e2, List.drop_take]
theorem tx_take {z : List Nat} (h : IsTx z) (k : Nat) : IsTx (z.take k) := fun c hc => h c (List.mem_of_mem_take hc)
theorem tx_drop {z : List Nat} (h : IsTx z) (k : Nat) : IsTx (z.drop k) := fun c hc => h c (List.mem_of_mem_drop hc)
theorem tx_rev {z : List Nat} (h : IsTx z) : IsTx z.reverse := fun c hc => h c (List.mem_reverse.mp hc)
theorem wd_app (x y : List Nat) : wd (x ++ y) = wd x ++ wd y := List.map_append
theorem wd_rev (x : List Nat) : wd x.reverse = (wd x).reverse := List.map_reverse
theorem wd_take (x : List Nat) (k : Nat) : wd (x.take k) = (wd x).take k := List.map_take
theorem wd_drop (x : List Nat) (k : Nat) : wd (x.drop k) = (wd x).drop k := List.map_drop
theorem wd_len (x : List Nat) : (wd x).length = x.length := List.length_map _
theorem sl_to {z : List Nat} (hz : z.length < 1000) (k : Nat) (h : k ≤ z.length) : slD (.str z) none (some (k : Int)) = .ok (.str (z.take k)) := by
  show (if okN z.length then Res.ok (D.str (cutL z none (some (k : Int)))) else .bad) = _
  rw [if_pos (by rw [okN_iff]; exact decide_eq_true (by omega)), cut_to z k h]
theorem sl_from {z : List Nat} (hz : z.length < 1000) (k : Nat) (h : k ≤ z.length) : slD (.str z) (some (k : Int)) none = .ok (.str (z.drop k)) := by
  show (if okN z.length then Res.ok (D.str (cutL z (some (k : Int)) none)) else .bad) = _
  rw [if_pos (by rw [okN_iff]; exact decide_eq_true (by omega)), cut_from z k h]
theorem sl_mid {z : List Nat} (hz : z.length < 1000) (k j : Nat) (h : k ≤ j) (hj : j ≤ z.length) : slD (.str z) (some (k : Int)) (some (j : Int)) = .ok (.str ((z.take j).drop k)) := by
  show (if okN z.length then Res.ok (D.str (cutL z (some (k : Int)) (some (j : Int)))) else .bad) = _
  rw [if_pos (by rw [okN_iff]; exact decide_eq_true (by omega)), cut_mid z k j h hj]
theorem rev_s {z : List Nat} (hz : z.length < 1000) : revD (.str z) = .ok (.str z.reverse) := by
  show (if okN z.length then Res.ok (D.str z.reverse) else .bad) = _
  rw [if_pos (by rw [okN_iff]; exact decide_eq_true (by omega))]
theorem len_str {z : List Nat} (hz : z.length < 1000) : biD .len [.str z] = .ok (.int (z.length : Int)) := by
  rw [len_s, if_pos (by rw [okN_iff]; exact decide_eq_true (by omega))]
theorem ne_nilL (l : List Nat) : cmpD .ne (.lst (l.map iD)) (.lst []) = .ok (.bl (!l.isEmpty)) := by
  have h1 : (D.lst (l.map iD)).sh = true := by
    have := sh_st l
    exact this
  have e : cmpD .ne (.lst (l.map iD)) (.lst []) = if (D.lst (l.map iD)).sh && true then .ok (.bl (!eqD (.lst (l.map iD)) (.lst []))) else .bad := rfl
  rw [e, h1]
  cases l <;> rfl
theorem rng_one (A : Ar) {e : SE} {n : Nat} {ρ : En} (h : ev A e ρ = .ok (.int (n : Int))) (hn : n < 999) : evi A (.rng (.con (.int 0)) (.bin .add e (.con (.int 1)))) ρ = .ok ((List.range (n + 1)).map iD) := by
  refine rng_iD A ?_ (by omega)
  rw [ev_bin, h, Res.bind_ok, ev_con, Res.bind_ok, add_ii]
  rfl
end
end Tk
namespace Tk
open PySem PySem.Spec PyProof.Rows L2
open D
section
open Pm (Mc nxs nxA lgA mcA mach insAll insA bfs idx lang dl Reg)
open Classical
theorem few_two {m n : Nat} (l : List (Nat × Nat)) (hn : l.Nodup) (hl : ∀ q ∈ l, q.1 < m ∧ q.2 < n) : l.length ≤ m * n := by
  have := Pm.few_lt (N := m * n) (l.map fun q => q.1 * n + q.2) (Pm.nodup_map_on (fun x hx y hy e => by
    have h1 := hl x hx
    have h2 := hl y hy
    have e : x.1 * n + x.2 = y.1 * n + y.2 := e
    have e1 : x.1 = y.1 := by
      have a1 : (x.1 * n + x.2) / n = x.1 := by rw [Nat.mul_comm, Nat.mul_add_div (by omega), Nat.div_eq_of_lt h1.2, Nat.add_zero]
      have a2 : (y.1 * n + y.2) / n = y.1 := by rw [Nat.mul_comm, Nat.mul_add_div (by omega), Nat.div_eq_of_lt h2.2, Nat.add_zero]
      rw [← a1, ← a2, e]
    have e2 : x.2 = y.2 := by rw [e1] at e; omega
    exact Prod.ext e1 e2) hn) (fun q hq => by
    obtain ⟨x, hx, rfl⟩ := List.mem_map.mp hq
    have h1 := hl x hx
    have : x.1 * n + n ≤ m * n := by
      have := Nat.mul_le_mul_right n (show x.1 + 1 ≤ m by omega)
      rw [Nat.add_mul, Nat.one_mul] at this
      exact this
    omega)
  simpa using this
def prD (x : Nat × Nat) : D := .tup [iD x.1, iD x.2]
def prN (a b : Mc) (x : Nat × Nat) (c : _root_.Fin 4) : Nat × Nat := (a.nx x.1 c, b.nx x.2 c)
def prF (a b : Mc) (k : Nat) (x : Nat × Nat) : Bool := decide (k ≤ (if a.fin x.1 then 1 else 0) + if b.fin x.2 then 1 else 0)
theorem prN_fold (a b : Mc) : ∀ (w : Pm.Wd) (x : Nat × Nat), w.foldl (prN a b) x = (dl a x.1 w, dl b x.2 w)
  | [], x => rfl
  | c :: w, x => prN_fold a b w _
theorem ky_pr (x : Nat × Nat) : kyB (prD x) = true := rfl
theorem eq_pr (x y : Nat × Nat) : eqD (prD x) (prD y) = decide (x = y) := by
  have : eqD (prD x) (prD y) = (eqD (iD x.1) (iD y.1) && (eqD (iD x.2) (iD y.2) && true)) := by simp only [prD, eqD, eqAll]
  rw [this, eq_iD, eq_iD, Bool.and_true]
  by_cases h1 : x.1 = y.1 <;> by_cases h2 : x.2 = y.2 <;> simp [h1, h2, Prod.ext_iff]
section
variable {F L : Nat} {a b : Mc}
theorem ix_two (m : Mc) {q : Nat} (h : q < m.n) (c : _root_.Fin 4) : ((ixD (mD m) (.int 1)).bind fun x => (ixD x (iD q)).bind fun y => ixD y (iD c.val)) = .ok (iD (m.nx q c)) := by
  rw [mD_1, Res.bind_ok, ix_rows m h, Res.bind_ok, ix_row]
theorem pair_new (a b : Mc) (k : Int) : Phi tab F (L + 2) 640 [mD a, mD b, .int k] = .ok (.obj 640 [mD a, mD b, .int k]) := by
  rw [Phi_cls (f := f_Pair) (i := ⟨["one", "other", "needed"], [("steps", 641), ("is_end", 642)], [.var 1, .var 2, .var 3]⟩) rfl rfl]
  exact init_plain rfl rfl fun _ => rfl
theorem pair_steps (ha : a.ok) (hb : b.ok) (k : Int) {x : Nat × Nat} (h1 : x.1 < a.n) (h2 : x.2 < b.n) (c : _root_.Fin 4) : Phi tab F (L + 1) 641 [.obj 640 [mD a, mD b, .int k], prD x, sD c] = .ok (prD (prN a b x c)) := by
  rw [Phi_succ (f := f_Pair_steps) rfl]
  have f1 : ∀ ρ, ev (ArOf tab F L) (.fld (.var 0) "one") (some (.obj 640 [mD a, mD b, .int k]) :: ρ) = .ok (mD a) := fun ρ => fld_of (i := 0) (by decide +kernel) rfl
  have f2 : ∀ ρ, ev (ArOf tab F L) (.fld (.var 0) "other") (some (.obj 640 [mD a, mD b, .int k]) :: ρ) = .ok (mD b) := fun ρ => fld_of (i := 1) (by decide +kernel) rfl
  have e0 := sindex_sD c
  have i1 := ix_rows a h1
  have i2 := ix_rows b h2
  have i3 := ix_row a x.1 c
  have i4 := ix_row b x.2 c
  have p0 : ixD (prD x) (.int 0) = .ok (iD x.1) := rfl
  have p1 : ixD (prD x) (.int 1) = .ok (iD x.2) := rfl
  refine callFn_rt (ρ := [some (.obj 640 [mD a, mD b, .int k]), some (prD x), some (sD c), none]) rfl rfl ?_
  unfold f_Pair_steps
  simp -implicitDefEqProofs [recv, e0, f1, f2, p0, p1, i1, i2, i3, i4, prN]
  rfl
theorem pair_end (k : Nat) {x : Nat × Nat} (h1 : x.1 < a.n) (h2 : x.2 < b.n) : Phi tab F (L + 1) 642 [.obj 640 [mD a, mD b, .int k], prD x] = .ok (.bl (prF a b k x)) := by
  rw [Phi_succ (f := f_Pair_is_end) rfl]
  have f1 : ∀ ρ, ev (ArOf tab F L) (.fld (.var 0) "one") (some (.obj 640 [mD a, mD b, .int k]) :: ρ) = .ok (mD a) := fun ρ => fld_of (i := 0) (by decide +kernel) rfl
  have f2 : ∀ ρ, ev (ArOf tab F L) (.fld (.var 0) "other") (some (.obj 640 [mD a, mD b, .int k]) :: ρ) = .ok (mD b) := fun ρ => fld_of (i := 1) (by decide +kernel) rfl
  have f3 : ∀ ρ, ev (ArOf tab F L) (.fld (.var 0) "needed") (some (.obj 640 [mD a, mD b, .int k]) :: ρ) = .ok (.int k) := fun ρ => fld_of (i := 2) (by decide +kernel) rfl
  have i1 := ix_ends a h1
  have i2 := ix_ends b h2
  have p0 : ixD (prD x) (.int 0) = .ok (iD x.1) := rfl
  have p1 : ixD (prD x) (.int 1) = .ok (iD x.2) := rfl
  refine callFn_rt (ρ := [some (.obj 640 [mD a, mD b, .int k]), some (prD x)]) rfl rfl ?_
  unfold f_Pair_is_end
  simp -implicitDefEqProofs [f1, f2, f3, p0, p1, i1, i2, prF]
  cases a.fin x.1 <;> cases b.fin x.2 <;> simp <;> omega
theorem pair_rdr (ha : a.ok) (hb : b.ok) (k : Nat) : Rdr (ArOf tab F (L + 1)) (.obj 640 [mD a, mD b, .int k]) prD (prN a b) (prF a b k) (fun x => x.1 < a.n ∧ x.2 < b.n) where
  ob := ⟨640, _, _, _, rfl, psi_of (k' := 641) (by decide +kernel), psi_of (k' := 642) (by decide +kernel), fun x hx c => pair_steps ha hb k hx.1 hx.2 c, fun x hx => pair_end k hx.1 hx.2⟩
  ky := fun x _ => ky_pr x
  inj := fun x y _ _ => by rw [eq_pr]; exact decide_eq_decide.mpr Iff.rfl
  cl := fun x hx c => ⟨ha.nx _ hx.1 c, hb.nx _ hx.2 c⟩
theorem pair_built (ha : a.ok) (hb : b.ok) (k : Nat) (hn : a.n * b.n < 64) (hF : 1000 < F) : Phi tab F (L + 6) 35 [prD (0, 0), .obj 640 [mD a, mD b, .int k]] = .ok (mD (mach (lgA (prN a b) (prF a b k) (0, 0)))) :=
  built_ok (F := F) (L := L) (N := a.n * b.n) (pair_rdr (L := L + 2) ha hb k) ⟨ha.pos, hb.pos⟩ (fun l h1 h2 => few_two l h1 h2) hn hF
theorem pair_reg (ha : a.ok) (hb : b.ok) (k : Nat) : Reg (lgA (prN a b) (prF a b k) (0, 0)) (a.n * b.n) :=
  Pm.reg_A (P := fun x => x.1 < a.n ∧ x.2 < b.n) ⟨ha.pos, hb.pos⟩ (fun x hx c => ⟨ha.nx _ hx.1 c, hb.nx _ hx.2 c⟩) (fun l h1 h2 => few_two l h1 h2)
theorem lg_or (a b : Mc) : lgA (prN a b) (prF a b 1) (0, 0) = fun w => lang a 0 w || lang b 0 w := by
  funext w
  unfold lgA
  rw [prN_fold]
  unfold prF lang
  cases a.fin (dl a 0 w) <;> cases b.fin (dl b 0 w) <;> rfl
theorem lg_and (a b : Mc) : lgA (prN a b) (prF a b 2) (0, 0) = fun w => lang a 0 w && lang b 0 w := by
  funext w
  unfold lgA
  rw [prN_fold]
  unfold prF lang
  cases a.fin (dl a 0 w) <;> cases b.fin (dl b 0 w) <;> rfl
theorem either_ok (ha : a.ok) (hb : b.ok) (hn : a.n * b.n < 64) (hF : 1000 < F) : Phi tab F (L + 7) 74 [mD a, mD b] = .ok (mD (mach fun w => lang a 0 w || lang b 0 w)) := by
  rw [Phi_succ (f := f_either) rfl, ← lg_or]
  have e1 := pair_new (F := F) (L := L + 4) a b 1
  have e2 := pair_built (F := F) (L := L) ha hb 1 hn hF
  generalize mD (mach (lgA (prN a b) (prF a b 1) (0, 0))) = M at *
  refine callFn_rt (ρ := [some (mD a), some (mD b)]) rfl rfl ?_
  have c1 : ev (ArOf tab F (L + 6)) (.call 640 [.var 0, .var 1, .con (.int 1)]) [some (mD a), some (mD b)] = .ok (.obj 640 [mD a, mD b, .int 1]) := e1
  have c2 : ev (ArOf tab F (L + 6)) (.call 35 [.tup [.con (.int 0), .con (.int 0)], .call 640 [.var 0, .var 1, .con (.int 1)]]) [some (mD a), some (mD b)] = .ok M := by
    rw [ev_call, evs_cons, evs_cons, c1]
    exact e2
  unfold f_either
  dsimp only
  rw [run_cons, run1_ret, c2]
  rfl
theorem both_ok (ha : a.ok) (hb : b.ok) (hn : a.n * b.n < 64) (hF : 1000 < F) : Phi tab F (L + 7) 75 [mD a, mD b] = .ok (mD (mach fun w => lang a 0 w && lang b 0 w)) := by
  rw [Phi_succ (f := f_both_of) rfl, ← lg_and]
  have e1 := pair_new (F := F) (L := L + 4) a b 2
  have e2 := pair_built (F := F) (L := L) ha hb 2 hn hF
  generalize mD (mach (lgA (prN a b) (prF a b 2) (0, 0))) = M at *
  refine callFn_rt (ρ := [some (mD a), some (mD b)]) rfl rfl ?_
  have c1 : ev (ArOf tab F (L + 6)) (.call 640 [.var 0, .var 1, .con (.int 2)]) [some (mD a), some (mD b)] = .ok (.obj 640 [mD a, mD b, .int 2]) := e1
  have c2 : ev (ArOf tab F (L + 6)) (.call 35 [.tup [.con (.int 0), .con (.int 0)], .call 640 [.var 0, .var 1, .con (.int 2)]]) [some (mD a), some (mD b)] = .ok M := by
    rw [ev_call, evs_cons, evs_cons, c1]
    exact e2
  unfold f_both_of
  dsimp only
  rw [run_cons, run1_ret, c2]
  rfl
theorem reg_or (ha : a.ok) (hb : b.ok) : Reg (fun w => lang a 0 w || lang b 0 w) (a.n * b.n) := by rw [← lg_or]; exact pair_reg ha hb 1
theorem reg_and (ha : a.ok) (hb : b.ok) : Reg (fun w => lang a 0 w && lang b 0 w) (a.n * b.n) := by rw [← lg_and]; exact pair_reg ha hb 2
end
end
section
open Pm (Mc nxs nxA lgA mcA mach insAll insA bfs idx lang dl Reg)
open Classical
section
variable {F L : Nat} {a b : Mc}
theorem sing_new (a : Mc) : Phi tab F (L + 2) 660 [mD a] = .ok (.obj 660 [mD a]) := by
  rw [Phi_cls (f := f_Single) (i := ⟨["one"], [("steps", 661), ("is_end", 662)], [.var 1]⟩) rfl rfl]
  exact init_plain rfl rfl fun _ => rfl
theorem sing_steps {x : Nat} (h1 : x < a.n) (c : _root_.Fin 4) : Phi tab F (L + 1) 661 [.obj 660 [mD a], iD x, sD c] = .ok (iD (a.nx x c)) := by
  rw [Phi_succ (f := f_Single_steps) rfl]
  have f1 : ∀ ρ, ev (ArOf tab F L) (.fld (.var 0) "one") (some (.obj 660 [mD a]) :: ρ) = .ok (mD a) := fun ρ => fld_of (i := 0) (by decide +kernel) rfl
  have e0 := sindex_sD c
  have i1 := ix_rows a h1
  have i3 := ix_row a x c
  refine callFn_rt (ρ := [some (.obj 660 [mD a]), some (iD x), some (sD c)]) rfl rfl ?_
  unfold f_Single_steps
  simp -implicitDefEqProofs [recv, e0, f1, i1, i3]
theorem sing_end {x : Nat} (h1 : x < a.n) : Phi tab F (L + 1) 662 [.obj 660 [mD a], iD x] = .ok (.bl (!a.fin x)) := by
  rw [Phi_succ (f := f_Single_is_end) rfl]
  have f1 : ∀ ρ, ev (ArOf tab F L) (.fld (.var 0) "one") (some (.obj 660 [mD a]) :: ρ) = .ok (mD a) := fun ρ => fld_of (i := 0) (by decide +kernel) rfl
  have i1 := ix_ends a h1
  refine callFn_rt (ρ := [some (.obj 660 [mD a]), some (iD x)]) rfl rfl ?_
  unfold f_Single_is_end
  simp -implicitDefEqProofs [f1, i1]
theorem sing_rdr (ha : a.ok) : Rdr (ArOf tab F (L + 1)) (.obj 660 [mD a]) iD a.nx (fun x => !a.fin x) (fun x => x < a.n) where
  ob := ⟨660, _, _, _, rfl, psi_of (k' := 661) (by decide +kernel), psi_of (k' := 662) (by decide +kernel), fun x hx c => sing_steps hx c, fun x hx => sing_end hx⟩
  ky := fun x _ => ky_iD x
  inj := fun x y _ _ => by rw [eq_iD]; exact decide_eq_decide.mpr Iff.rfl
  cl := fun x hx c => ha.nx _ hx c
theorem lg_not (a : Mc) : lgA a.nx (fun x => !a.fin x) 0 = fun w => !lang a 0 w := rfl
theorem reg_not (ha : a.ok) : Reg (fun w => !lang a 0 w) a.n := ⟨⟨a.n, fun x => !a.fin x, a.nx⟩, ⟨ha.pos, ha.nx⟩, rfl, Nat.le_refl _⟩
theorem other_ok (ha : a.ok) (hn : a.n < 64) (hF : 1000 < F) : Phi tab F (L + 7) 76 [mD a] = .ok (mD (mach fun w => !lang a 0 w)) := by
  rw [Phi_succ (f := f_other_than) rfl]
  have e1 := sing_new (F := F) (L := L + 4) a
  have e2 : Phi tab F (L + 6) 35 [iD 0, .obj 660 [mD a]] = .ok (mD (mach fun w => !lang a 0 w)) := built_ok (F := F) (L := L) (N := a.n) (sing_rdr (L := L + 2) ha) ha.pos (fun l h1 h2 => Pm.few_lt l h1 h2) hn hF
  generalize mD (mach fun w => !lang a 0 w) = M at *
  refine callFn_rt (ρ := [some (mD a)]) rfl rfl ?_
  have c1 : ev (ArOf tab F (L + 6)) (.call 660 [.var 0]) [some (mD a)] = .ok (.obj 660 [mD a]) := e1
  have c2 : ev (ArOf tab F (L + 6)) (.call 35 [.con (.int 0), .call 660 [.var 0]]) [some (mD a)] = .ok M := by
    rw [ev_call, evs_cons, evs_cons, c1]
    exact e2
  unfold f_other_than
  dsimp only
  rw [run_cons, run1_ret, c2]
  rfl
theorem without_ok (ha : a.ok) (hb : b.ok) (hn : a.n * b.n < 64) (hn2 : b.n < 64) (hF : 1000 < F) : Phi tab F (L + 8) 85 [mD a, mD b] = .ok (mD (mach fun w => lang a 0 w && !lang b 0 w)) := by
  rw [Phi_succ (f := f_without) rfl]
  have rg := reg_not hb
  have e1 := other_ok (F := F) (L := L) hb hn2 hF
  have e2 := both_ok (F := F) (L := L) ha rg.ok (Nat.lt_of_le_of_lt (Nat.mul_le_mul_left _ rg.n) hn) hF
  rw [rg.lang] at e2
  refine callFn_rt (ρ := [some (mD a), some (mD b)]) rfl rfl ?_
  have c1 : ev (ArOf tab F (L + 7)) (.call 76 [.var 1]) [some (mD a), some (mD b)] = .ok (mD (mach fun w => !lang b 0 w)) := e1
  have c2 : ev (ArOf tab F (L + 7)) (.call 75 [.var 0, .call 76 [.var 1]]) [some (mD a), some (mD b)] = .ok (mD (mach fun w => lang a 0 w && !lang b 0 w)) := by
    rw [ev_call, evs_cons, evs_cons, c1]
    exact e2
  unfold f_without
  dsimp only
  rw [run_cons, run1_ret, c2]
  rfl
theorem reg_without (ha : a.ok) (hb : b.ok) : Reg (fun w => lang a 0 w && !lang b 0 w) (a.n * b.n) := by
  have rg := reg_not hb
  have := reg_and ha rg.ok
  rw [rg.lang] at this
  exact this.mono (Nat.mul_le_mul_left _ rg.n)
end
end
end Tk
namespace Tk
open PySem PySem.Spec PyProof.Rows L2
open D
/-! ### machines that depend on few states -/
section
open Pm (Mc nxs nxA lgA mach lang dl Reg Lg Wd Dep FewV)
open Classical
section
variable {F L : Nat} {a b : Mc}
def PrW (a b : Mc) (x : Nat × Nat) : Prop := ∃ w, x = (dl a 0 w, dl b 0 w)
theorem pair_at {N : Nat} (ha : a.ok) (hb : b.ok) (k : Nat) (few : ∀ l : List (Nat × Nat), l.Nodup → (∀ q ∈ l, PrW a b q) → l.length ≤ N) (hn : N < 64) (hF : 1000 < F) : Phi tab F (L + 6) 35 [prD (0, 0), .obj 640 [mD a, mD b, .int k]] = .ok (mD (mach (lgA (prN a b) (prF a b k) (0, 0)))) :=
  built_ok (F := F) (L := L) (N := N) (rdr_in (pair_rdr (L := L + 2) ha hb k) (fun x ⟨w, e⟩ => by rw [e]; exact ⟨dl_lt ha w ha.pos, dl_lt hb w hb.pos⟩) (fun x ⟨w, e⟩ c => ⟨w ++ [c], by
    rw [e]
    show (a.nx (dl a 0 w) c, b.nx (dl b 0 w) c) = _
    rw [Pm.dl_snoc, Pm.dl_snoc]⟩)) ⟨[], rfl⟩ few hn hF
theorem either_at {N : Nat} (ha : a.ok) (hb : b.ok) (few : ∀ l : List (Nat × Nat), l.Nodup → (∀ q ∈ l, PrW a b q) → l.length ≤ N) (hn : N < 64) (hF : 1000 < F) : Phi tab F (L + 7) 74 [mD a, mD b] = .ok (mD (mach fun w => lang a 0 w || lang b 0 w)) := by
  rw [Phi_succ (f := f_either) rfl, ← lg_or]
  have e1 := pair_new (F := F) (L := L + 4) a b 1
  have e2 := pair_at (F := F) (L := L) ha hb 1 few hn hF
  generalize mD (mach (lgA (prN a b) (prF a b 1) (0, 0))) = M at *
  refine callFn_rt (ρ := [some (mD a), some (mD b)]) rfl rfl ?_
  have c1 : ev (ArOf tab F (L + 6)) (.call 640 [.var 0, .var 1, .con (.int 1)]) [some (mD a), some (mD b)] = .ok (.obj 640 [mD a, mD b, .int 1]) := e1
  have c2 : ev (ArOf tab F (L + 6)) (.call 35 [.tup [.con (.int 0), .con (.int 0)], .call 640 [.var 0, .var 1, .con (.int 1)]]) [some (mD a), some (mD b)] = .ok M := by
    rw [ev_call, evs_cons, evs_cons, c1]
    exact e2
  unfold f_either
  dsimp only
  rw [run_cons, run1_ret, c2]
  rfl
theorem both_at {N : Nat} (ha : a.ok) (hb : b.ok) (few : ∀ l : List (Nat × Nat), l.Nodup → (∀ q ∈ l, PrW a b q) → l.length ≤ N) (hn : N < 64) (hF : 1000 < F) : Phi tab F (L + 7) 75 [mD a, mD b] = .ok (mD (mach fun w => lang a 0 w && lang b 0 w)) := by
  rw [Phi_succ (f := f_both_of) rfl, ← lg_and]
  have e1 := pair_new (F := F) (L := L + 4) a b 2
  have e2 := pair_at (F := F) (L := L) ha hb 2 few hn hF
  generalize mD (mach (lgA (prN a b) (prF a b 2) (0, 0))) = M at *
  refine callFn_rt (ρ := [some (mD a), some (mD b)]) rfl rfl ?_
  have c1 : ev (ArOf tab F (L + 6)) (.call 640 [.var 0, .var 1, .con (.int 2)]) [some (mD a), some (mD b)] = .ok (.obj 640 [mD a, mD b, .int 2]) := e1
  have c2 : ev (ArOf tab F (L + 6)) (.call 35 [.tup [.con (.int 0), .con (.int 0)], .call 640 [.var 0, .var 1, .con (.int 2)]]) [some (mD a), some (mD b)] = .ok M := by
    rw [ev_call, evs_cons, evs_cons, c1]
    exact e2
  unfold f_both_of
  dsimp only
  rw [run_cons, run1_ret, c2]
  rfl
section
variable {α : Type} {f : Wd → α} {N : Nat} {A B : Lg}
theorem prw_few (fw : FewV f N) (dA : Dep f A) (dB : Dep f B) : ∀ l : List (Nat × Nat), l.Nodup → (∀ q ∈ l, PrW (mach A) (mach B) q) → l.length ≤ N := fun l hn hl => by
  have rA := Pm.reg_dep dA fw
  have rB := Pm.reg_dep dB fw
  exact Pm.few_dep (g := fun w => (dl (mach A) 0 w, dl (mach B) 0 w)) fw (fun w w' e => by
    show (dl (mach A) 0 w, dl (mach B) 0 w) = _
    rw [Pm.mach_dl dA rA e, Pm.mach_dl dB rB e]) l hn hl
theorem either_dep (fw : FewV f N) (hN : N < 64) (dA : Dep f A) (dB : Dep f B) (hF : 1000 < F) : Phi tab F (L + 7) 74 [mD (mach A), mD (mach B)] = .ok (mD (mach fun w => A w || B w)) := by
  have rA := Pm.reg_dep dA fw
  have rB := Pm.reg_dep dB fw
  have := either_at (F := F) (L := L) rA.ok rB.ok (prw_few fw dA dB) hN hF
  rw [rA.lang, rB.lang] at this
  exact this
theorem both_dep (fw : FewV f N) (hN : N < 64) (dA : Dep f A) (dB : Dep f B) (hF : 1000 < F) : Phi tab F (L + 7) 75 [mD (mach A), mD (mach B)] = .ok (mD (mach fun w => A w && B w)) := by
  have rA := Pm.reg_dep dA fw
  have rB := Pm.reg_dep dB fw
  have := both_at (F := F) (L := L) rA.ok rB.ok (prw_few fw dA dB) hN hF
  rw [rA.lang, rB.lang] at this
  exact this
theorem other_dep (fw : FewV f N) (hN : N < 64) (dA : Dep f A) (hF : 1000 < F) : Phi tab F (L + 7) 76 [mD (mach A)] = .ok (mD (mach fun w => !A w)) := by
  have rA := Pm.reg_dep dA fw
  have := other_ok (F := F) (L := L) rA.ok (Nat.lt_of_le_of_lt rA.n hN) hF
  rw [rA.lang] at this
  exact this
theorem without_dep (fw : FewV f N) (hN : N < 64) (dA : Dep f A) (dB : Dep f B) (hF : 1000 < F) : Phi tab F (L + 8) 85 [mD (mach A), mD (mach B)] = .ok (mD (mach fun w => A w && !B w)) := by
  rw [Phi_succ (f := f_without) rfl]
  have e1 := other_dep (F := F) (L := L) fw hN dB hF
  have e2 := both_dep (F := F) (L := L) fw hN dA dB.not hF
  refine callFn_rt (ρ := [some (mD (mach A)), some (mD (mach B))]) rfl rfl ?_
  have c1 : ev (ArOf tab F (L + 7)) (.call 76 [.var 1]) [some (mD (mach A)), some (mD (mach B))] = .ok (mD (mach fun w => !B w)) := e1
  have c2 : ev (ArOf tab F (L + 7)) (.call 75 [.var 0, .call 76 [.var 1]]) [some (mD (mach A)), some (mD (mach B))] = .ok (mD (mach fun w => A w && !B w)) := by
    rw [ev_call, evs_cons, evs_cons, c1]
    exact e2
  unfold f_without
  dsimp only
  rw [run_cons, run1_ret, c2]
  rfl
end
/-- least machines as data: the same just where the same is accepted -/
theorem mD_lang {m k : Mc} (hm : m.ok) (hk : k.ok) (e : mD m = mD k) : lang m 0 = lang k 0 := by
  have e : D.tup [.tup ((List.range m.n).map fun q => .bl (m.fin q)), .tup ((List.range m.n).map (rowD m))] = D.tup [.tup ((List.range k.n).map fun q => .bl (k.fin q)), .tup ((List.range k.n).map (rowD k))] := e
  injection e with e
  injection e with e1 e2
  injection e1 with e1
  injection e2 with e2 _
  injection e2 with e2
  have hn : m.n = k.n := by
    have := congrArg List.length e1
    simpa using this
  have hf : ∀ q, q < m.n → m.fin q = k.fin q := fun q hq => by
    have := congrArg (fun l => l[q]?) e1
    simp only [List.getElem?_map, List.getElem?_range hq, List.getElem?_range (hn ▸ hq), Option.map_some] at this
    injection this with this
    injection this
  have hx : ∀ q, q < m.n → ∀ c, m.nx q c = k.nx q c := fun q hq c => by
    have := congrArg (fun l => l[q]?) e2
    simp only [List.getElem?_map, List.getElem?_range hq, List.getElem?_range (hn ▸ hq), Option.map_some] at this
    injection this with this
    have e3 := ix_row m q c
    rw [this, ix_row k q c] at e3
    injection e3 with e3
    injection e3 with e3
    omega
  funext w
  have : ∀ (w : Wd) (q : Nat), q < m.n → lang m q w = lang k q w := by
    intro w
    induction w with
    | nil => intro q hq; exact hf q hq
    | cons c w ih =>
      intro q hq
      show lang m (m.nx q c) w = lang k (k.nx q c) w
      rw [← hx q hq c]
      exact ih _ (hm.nx q hq c)
  exact this w 0 hm.pos
end
end
end Tk
namespace Tk
open PySem PySem.Spec PyProof.Rows L2
open D
/-! ### numbers of texts; texts by their numbers -/
section
open Pm (Mc nxs lang dl acc cnt Wd Ac)
variable {F L : Nat}
theorem rngJ (n : Nat) : rangeL 0 (n : Int) = (List.range n).map iD := by
  unfold rangeL
  simp only [Int.sub_zero, Int.toNat_natCast]
  exact List.map_congr_left fun k _ => by simp [iD]
def cL (m : Mc) (k : Nat) : D := .lst ((List.range m.n).map fun q => iD (cnt m k q))
theorem ix_cL (m : Mc) (k : Nat) {q : Nat} (hq : q < m.n) : ixD (cL m k) (iD q) = .ok (iD (cnt m k q)) := by
  show (match atI ((List.range m.n).map fun q => iD (cnt m k q)) ((q : Nat) : Int) with | some d => Res.ok d | none => .bad) = _
  rw [atI_rng _ hq]
theorem sum_iD (l : List Nat) : biD .sum [.lst (l.map iD)] = .ok (iD l.sum) := by
  show (match intsO (l.map iD) with | some ns => Res.ok (D.int ns.sum) | none => .bad) = _
  rw [intsO_iD]
  have : ∀ l : List Nat, (l.map fun (q : Nat) => (q : Int)).sum = ((l.sum : Nat) : Int) := by
    intro l
    induction l with
    | nil => rfl
    | cons x l ih => simp only [List.map_cons, List.sum_cons, ih]; omega
  show Res.ok (D.int (l.map fun (q : Nat) => (q : Int)).sum) = _
  rw [this]
  rfl
theorem counts_turn (A : Ar) (m : Mc) (h : m.ok) (hn : m.n < 1000) (j : Nat) (x1 : Option D) (t : D) (x4 : Option D) : forB A [4] true f_counts_of_b1 t [some (mD m), x1, some (cL m j), none, x4, none, none] = .nx [some (mD m), x1, some (cL m (j + 1)), none, some t, none, none] := by
  have c2 : ∀ q, q < m.n → ev A f_counts_of_c2 [some (mD m), x1, some (cL m j), none, some t, some (rowD m q), none] = .ok (.lst (((nxs m q).map (cnt m j)).map iD)) := by
    intro q hq
    unfold f_counts_of_c2
    rw [lc_A (l := nxs m q) (e := iD) (g := fun s => iD (cnt m j s)) ?_ (fun s hs => ?_) (by simp [nxs])]
    · simp
    · simp
    · obtain ⟨a, rfl⟩ := Pm.mem_nxs.mp hs
      simp [ix_cL m j (h.nx q hq a)]
  have c3 : ev A f_counts_of_c3 [some (mD m), x1, some (cL m j), none, some t, none, none] = .ok (cL m (j + 1)) := by
    unfold f_counts_of_c3
    rw [lc_A (l := List.range m.n) (e := rowD m) (g := fun q => iD (cnt m (j + 1) q)) ?_ (fun q hq => ?_) (by rw [List.length_range]; omega)]
    · rfl
    · simp
    · have e := c2 q (List.mem_range.mp hq)
      have e2 := sum_iD ((nxs m q).map (cnt m j))
      have e3 : ((nxs m q).map (cnt m j)).sum = cnt m (j + 1) q := by
        rw [Pm.cnt_succ]
        rfl
      rw [e3] at e2
      show (evs A [f_counts_of_c2] [some (mD m), x1, some (cL m j), none, some t, some (rowD m q), none]).bind _ = _
      rw [evs_cons, e]
      exact e2
  have e0 : forB A [4] true f_counts_of_b1 t [some (mD m), x1, some (cL m j), none, x4, none, none] = run A f_counts_of_b1 [some (mD m), x1, some (cL m j), none, some t, none, none] := rfl
  rw [e0]
  unfold f_counts_of_b1
  rw [run_cons, run1_asgF, c3]
  rfl
theorem counts_loop (A : Ar) (m : Mc) (h : m.ok) (hn : m.n < 1000) (x1 : Option D) : ∀ (ts : List D) (j : Nat) (x4 : Option D), ∃ x4', forL (forB A [4] true f_counts_of_b1) ts [some (mD m), x1, some (cL m j), none, x4, none, none] = .nx [some (mD m), x1, some (cL m (j + ts.length)), none, x4', none, none]
  | [], j, x4 => ⟨x4, rfl⟩
  | t :: ts, j, x4 => by
    obtain ⟨x', ih⟩ := counts_loop A m h hn x1 ts (j + 1) (some t)
    refine ⟨x', ?_⟩
    rw [forL_nx (counts_turn A m h hn j x1 t x4), ih]
    simp only [List.length_cons]
    rw [show j + 1 + ts.length = j + (ts.length + 1) by omega]
theorem counts_ok (m : Mc) (h : m.ok) (hn : m.n < 1000) (k : Nat) (hk : k < 100000) : Phi tab F (L + 1) 63 [mD m, iD k] = .ok (cL m k) := by
  rw [Phi_succ (f := f_counts_of) rfl]
  generalize ArOf tab F L = A
  have c1 : ev A f_counts_of_c1 [some (mD m), some (iD k), none, none, none, none, none] = .ok (cL m 0) := by
    unfold f_counts_of_c1
    rw [lc_A (l := List.range m.n) (e := fun q => .bl (m.fin q)) (g := fun q => iD (cnt m 0 q)) ?_ (fun q hq => ?_) (by rw [List.length_range]; omega)]
    · rfl
    · simp
    · rw [Pm.cnt_zero]
      cases c : m.fin q <;> simp [iD]
  obtain ⟨x', e⟩ := counts_loop A m h hn (some (iD k)) ((List.range k).map iD) 0 none
  rw [List.length_map, List.length_range, Nat.zero_add] at e
  have r1 : run1 A (.asgF 2 f_counts_of_c1) [some (mD m), some (iD k), none, none, none, none, none] = .nx [some (mD m), some (iD k), some (cL m 0), none, none, none, none] := by
    rw [run1_asgF, c1]; rfl
  have sm : small62 (k : Int) = true := by simp [small62]; omega
  have r2 : run1 A (.forr [4] true (.rng (.con (.int 0)) (.var 1)) f_counts_of_b1) [some (mD m), some (iD k), some (cL m 0), none, none, none, none] = .nx [some (mD m), some (iD k), some (cL m k), none, x', none, none] := by
    have e2 : evi A (.rng (.con (.int 0)) (.var 1)) [some (mD m), some (iD k), some (cL m 0), none, none, none, none] = .ok ((List.range k).map iD) := by
      rw [← rngJ]
      have s0 : small62 0 = true := by decide
      simp [iD, sm, s0]
    rw [run1_forr, e2]
    exact e
  refine callFn_rt (f := f_counts_of) rfl rfl ?_
  unfold f_counts_of
  dsimp only
  rw [run_cons, show ([mD m, iD k].map some ++ List.replicate (7 - 2) none : En) = [some (mD m), some (iD k), none, none, none, none, none] from rfl, r1, Fl.then_nx, run_cons, r2, Fl.then_nx]
  rfl
theorem many_ok (m : Mc) (h : m.ok) (hn : m.n < 1000) (k : Nat) (hk : k < 100000) : Phi tab F (L + 2) 64 [mD m, iD k] = .ok (iD (cnt m k 0)) := by
  rw [Phi_succ (f := f_how_many) rfl]
  have e : Phi tab F (L + 1) 63 [mD m, iD k] = .ok (cL m k) := counts_ok m h hn k hk
  have e2 : ixD (cL m k) (.int 0) = .ok (iD (cnt m k 0)) := ix_cL m k h.pos
  simp [callFn, f_how_many, e, e2]
/-! the word of a number -/
def sgc (a : _root_.Fin 4) : Nat := sgn.getD a.val 0
theorem sgc_in (a : _root_.Fin 4) : sgc a ∈ sgn := by
  match a with
  | 0 => decide
  | 1 => decide
  | 2 => decide
  | 3 => decide
theorem wd_sgc (a : _root_.Fin 4) : wdF (sgc a) = a := by
  match a with
  | 0 => rfl
  | 1 => rfl
  | 2 => rfl
  | 3 => rfl
def txt (w : Wd) : List Nat := w.map sgc
def toE (m : Mc) (x1 : Option D) (N q : Nat) (z : List Nat) (x5 x6 x7 x8 : Option D) : En := [some (mD m), x1, some (iD N), some (iD q), some (.str z), x5, x6, x7, x8]
theorem pick_loop (A : Ar) (m : Mc) (h : m.ok) (l q : Nat) (hq : q < m.n) (x1 x5 : Option D) (z : List Nat) (hz : z.length < 1000000) : ∀ (as : List (_root_.Fin 4)) (N : Nat) (a : _root_.Fin 4) (v : Wd) (x7 x8 : Option D),
    (as.flatMap fun a => (acc m l (m.nx q a)).map (a :: ·))[N]? = some (a :: v) → ∃ N' y7 y8, forL (forB A [7] true f_text_of_b1) (as.map fun a => D.str [sgc a]) (toE m x1 N q z x5 (some (cL m l)) x7 x8) = .nx (toE m x1 N' (m.nx q a) (z ++ [sgc a]) x5 (some (cL m l)) y7 y8) ∧ (acc m l (m.nx q a))[N']? = some v
  | [], N, a, v, x7, x8, e => by simp at e
  | b :: as, N, a, v, x7, x8, e => by
    rw [List.flatMap_cons] at e
    have hb := h.nx q hq b
    have e1 : biD .sindex [.str [48, 49, 97, 98], .str [sgc b]] = .ok (iD b.val) := by
      have := sindex_ok (sgc_in b)
      rw [this]
      have : sIx (sgc b) = b.val := congrArg _root_.Fin.val (wd_sgc b)
      rw [this]
      rfl
    have e2 := ix_row m q b
    have e3 := ix_cL m l hb
    by_cases c : N < cnt m l (m.nx q b)
    · have c' : N < ((acc m l (m.nx q b)).map (b :: ·)).length := by simpa [Pm.cnt] using c
      rw [List.getElem?_append_left c', List.getElem?_map] at e
      cases q2 : (acc m l (m.nx q b))[N]? with
      | none => rw [q2] at e; cases e
      | some u =>
        rw [q2] at e
        cases e
        have c3 : (N : Int) < (cnt m l (m.nx q b) : Int) := by omega
        have hz2 : z.length + 1 ≤ 16777216 := by omega
        refine ⟨N, some (.str [sgc b]), some (iD (m.nx q b)), ?_, q2⟩
        rw [List.map_cons]
        have e4 : forB A [7] true f_text_of_b1 (.str [sgc b]) (toE m x1 N q z x5 (some (cL m l)) x7 x8) = .bk (toE m x1 N (m.nx q b) (z ++ [sgc b]) x5 (some (cL m l)) (some (.str [sgc b])) (some (iD (m.nx q b)))) := by
          have e5 : cmpD .lt (iD N) (iD (cnt m l (m.nx q b))) = .ok (.bl true) := by
            show Res.ok (D.bl (decide ((N : Int) < (cnt m l (m.nx q b) : Int)))) = _
            rw [decide_eq_true c3]
          simp [toE, f_text_of_b1, ix_rows m hq, recv, e1, e2, e3, e5, hz2]
        conv => lhs; unfold forL
        rw [e4]
    · have c' : ((acc m l (m.nx q b)).map (b :: ·)).length ≤ N := by simpa [Pm.cnt] using c
      rw [List.getElem?_append_right c', List.length_map] at e
      obtain ⟨N', y7, y8, e6, e7⟩ := pick_loop A m h l q hq x1 x5 z hz as (N - cnt m l (m.nx q b)) a v (some (.str [sgc b])) (some (iD (m.nx q b))) e
      refine ⟨N', y7, y8, ?_, e7⟩
      rw [List.map_cons, ← e6]
      refine forL_nx ?_
      have c3 : ¬ (N : Int) < (cnt m l (m.nx q b) : Int) := by omega
      have e5 : cmpD .lt (iD N) (iD (cnt m l (m.nx q b))) = .ok (.bl false) := by
        show Res.ok (D.bl (decide ((N : Int) < (cnt m l (m.nx q b) : Int)))) = _
        rw [decide_eq_false c3]
      have e8 : binD .sub (iD N) (iD (cnt m l (m.nx q b))) = .ok (iD (N - cnt m l (m.nx q b))) := by
        show Res.ok (D.int ((N : Int) - (cnt m l (m.nx q b) : Int))) = _
        unfold iD
        rw [Int.ofNat_sub (by omega)]
      simp [toE, f_text_of_b1, ix_rows m hq, recv, e1, e2, e3, e5, e8]
theorem text_loop (m : Mc) (h : m.ok) (hn : m.n < 1000) (x1 : Option D) : ∀ (k N q : Nat) (w : Wd) (z : List Nat) (x5 x6 x7 x8 : Option D), (acc m k q)[N]? = some w → q < m.n → k + z.length < 100000 →
    ∃ ρ', forL (forB (ArOf tab F (L + 1)) [5] true f_text_of_b2) ((List.range k).reverse.map iD) (toE m x1 N q z x5 x6 x7 x8) = .nx ρ' ∧ ∃ N' q' y5 y6 y7 y8, ρ' = toE m x1 N' q' (z ++ txt w) y5 y6 y7 y8
  | 0, N, q, w, z, x5, x6, x7, x8, e, hq, hk => by
    have : w = [] := List.length_eq_zero_iff.mp (Pm.mem_acc.mp (List.mem_of_getElem? e)).1
    subst this
    exact ⟨_, rfl, N, q, x5, x6, x7, x8, by simp [txt]⟩
  | k + 1, N, q, w, z, x5, x6, x7, x8, e, hq, hk => by
    have hw := (Pm.mem_acc.mp (List.mem_of_getElem? e)).1
    cases w with
    | nil => cases hw
    | cons a v =>
      obtain ⟨N', y7, y8, e1, e2⟩ := pick_loop (ArOf tab F (L + 1)) m h k q hq x1 (some (iD k)) z (by omega) Pm.sg N a v x7 x8 e
      obtain ⟨ρ', e3, N2, q2, u5, u6, u7, u8, e4⟩ := text_loop m h hn x1 k N' (m.nx q a) v (z ++ [sgc a]) (some (iD k)) (some (cL m k)) y7 y8 e2 (h.nx q hq a) (by simp; omega)
      refine ⟨ρ', ?_, N2, q2, u5, u6, u7, u8, by rw [e4]; simp [txt]⟩
      rw [List.range_succ, List.reverse_append, List.reverse_singleton, List.singleton_append, List.map_cons, ← e3]
      refine forL_nx ?_
      have e5 : Phi tab F (L + 1) 63 [mD m, iD k] = .ok (cL m k) := counts_ok m h hn k (by omega)
      have r1 : run1 (ArOf tab F (L + 1)) (.asg 6 (.call 63 [.var 0, .var 5])) (toE m x1 N q z (some (iD k)) x6 x7 x8) = .nx (toE m x1 N q z (some (iD k)) (some (cL m k)) x7 x8) := by
        rw [run1_asg, ev_call]
        show withR _ (Phi tab F (L + 1) 63 [mD m, iD k]) _ = _
        rw [e5]; rfl
      have e6 : forB (ArOf tab F (L + 1)) [5] true f_text_of_b2 (iD k) (toE m x1 N q z x5 x6 x7 x8) = run (ArOf tab F (L + 1)) f_text_of_b2 (toE m x1 N q z (some (iD k)) x6 x7 x8) := rfl
      rw [e6]
      unfold f_text_of_b2
      have e7 : evi (ArOf tab F (L + 1)) (.of (.con (.str [48, 49, 97, 98]))) (toE m x1 N q z (some (iD k)) (some (cL m k)) x7 x8) = .ok (Pm.sg.map fun a => D.str [sgc a]) := rfl
      rw [run_cons, r1, Fl.then_nx, run_cons, run1_forr, e7, withR_ok, e1, Fl.then_nx, run_nil]
theorem text_of_ok (m : Mc) (h : m.ok) (hn : m.n < 1000) {k N : Nat} {w : Wd} (e : (acc m k 0)[N]? = some w) (hk : k < 90000) : Phi tab F (L + 2) 68 [mD m, iD k, iD N] = .ok (.str (txt w)) := by
  rw [Phi_succ (f := f_text_of) rfl]
  obtain ⟨ρ', e1, N', q', y5, y6, y7, y8, rfl⟩ := text_loop (F := F) (L := L) m h hn (some (iD k)) k N 0 w [] none none none none e h.pos (by simp; omega)
  rw [List.nil_append] at e1
  have i0 : biD .listR [iD k] = .ok (.lst ((List.range k).map iD)) := by
    show (if decide (0 ≤ (k : Int)) && decide ((k : Int) ≤ 1000000) then Res.ok (D.lst (rangeL 0 (k : Int))) else .bad) = _
    rw [if_pos (by simp; omega), rngJ]
  have e2 : evi (ArOf tab F (L + 1)) (.rev (.bi .listR [.var 1])) (toE m (some (iD k)) N 0 [] none none none none) = .ok ((List.range k).reverse.map iD) := by
    simp [toE, i0]
  refine callFn_rt (f := f_text_of) rfl rfl ?_
  unfold f_text_of
  dsimp only
  have r1 : run1 (ArOf tab F (L + 1)) (.asg 3 (.con (.int 0))) ([mD m, iD k, iD N].map some ++ List.replicate (9 - 3) none : En) = .nx [some (mD m), some (iD k), some (iD N), some (iD 0), none, none, none, none, none] := rfl
  have r2 : run1 (ArOf tab F (L + 1)) (.asg 4 (.con (.str []))) [some (mD m), some (iD k), some (iD N), some (iD 0), none, none, none, none, none] = .nx (toE m (some (iD k)) N 0 [] none none none none) := rfl
  rw [run_cons, r1, Fl.then_nx, run_cons, r2, Fl.then_nx, run_cons, run1_forr, e2, withR_ok, e1, Fl.then_nx]
  rfl
end
section
open Pm (Mc nxs lang dl acc cnt Wd Ac leastM Few)
open Classical
variable {F L : Nat}
theorem map_getD {α β : Type} (f : α → β) (d : α) (l : List α) : (List.range l.length).map (fun i => f (l.getD i d)) = l.map f := by
  apply List.ext_getElem
  · simp
  · intro i h1 h2
    have h3 : i < l.length := by simpa using h2
    rw [List.getElem_map, List.getElem_map, List.getElem_range, List.getD_eq_getElem?_getD, List.getElem?_eq_getElem h3]
    rfl
theorem evi_to {A : Ar} {b : SE} {ρ : En} {n : Nat} (h : ev A b ρ = .ok (iD n)) (hn : n ≤ 1000000) : evi A (.rng (.con (.int 0)) b) ρ = .ok ((List.range n).map iD) := by
  have sm : small62 (n : Int) = true := by simp [small62]; omega
  have s0 : small62 0 = true := by decide
  rw [evi_rng, ev_con, h, Res.bind_ok, Res.bind_ok, asInt_int, Res.bind_ok]
  unfold iD
  rw [asInt_int, Res.bind_ok, s0, sm, if_pos (by rfl), rngJ]
  rfl
def txD (w : Wd) : D := .str (txt w)
def headD (l : List Wd) : D := match l with | w :: _ => txD w | [] => .non
theorem first_loop (m : Mc) (h : m.ok) (hn : m.n < 1000) : ∀ (j a : Nat) (x : Option D), Pm.En m a = [] → a + j < 1000 →
    (∃ w r, Pm.En m (a + j) = w :: r ∧ forL (forB (ArOf tab F (L + 2)) [1] true f_least_text_b1) ((List.range' a j).map iD) [some (mD m), x] = .rt (txD w)) ∨ (Pm.En m (a + j) = [] ∧ ∃ ρ', forL (forB (ArOf tab F (L + 2)) [1] true f_least_text_b1) ((List.range' a j).map iD) [some (mD m), x] = .nx ρ')
  | 0, a, x, e, _ => .inr ⟨e, _, rfl⟩
  | j + 1, a, x, e, hk => by
    have e1 : Phi tab F (L + 2) 64 [mD m, iD a] = .ok (iD (cnt m a 0)) := many_ok m h hn a (by omega)
    have es : Pm.En m (a + 1) = acc m a 0 := by
      show Pm.En m a ++ acc m a 0 = _
      rw [e, List.nil_append]
    have e0 : a + (j + 1) = a + 1 + j := by omega
    rw [e0, List.range'_succ, List.map_cons]
    cases ea : acc m a 0 with
    | cons w r =>
      left
      obtain ⟨r2, hr2⟩ := Pm.En_pre m j (a + 1)
      refine ⟨w, r ++ r2, by rw [hr2, es, ea]; rfl, ?_⟩
      have e2 : Phi tab F (L + 2) 68 [mD m, iD a, .int 0] = .ok (.str (txt w)) := text_of_ok (k := a) (N := 0) m h hn (by rw [ea]; rfl) (by omega)
      have e3 : cmpD .gt (iD (cnt m a 0)) (.int 0) = .ok (.bl true) := by
        show Res.ok (D.bl (decide ((0 : Int) < (cnt m a 0 : Int)))) = _
        rw [decide_eq_true]
        unfold Pm.cnt
        rw [ea, List.length_cons]
        omega
      have t : forB (ArOf tab F (L + 2)) [1] true f_least_text_b1 (iD a) [some (mD m), x] = .rt (txD w) := by
        simp [f_least_text_b1, e1, e3, e2, txD]
      conv => lhs; unfold forL
      rw [t]
    | nil =>
      have e3 : cmpD .gt (iD (cnt m a 0)) (.int 0) = .ok (.bl false) := by
        show Res.ok (D.bl (decide ((0 : Int) < (cnt m a 0 : Int)))) = _
        rw [decide_eq_false]
        unfold Pm.cnt
        rw [ea]
        simp
      have t : forB (ArOf tab F (L + 2)) [1] true f_least_text_b1 (iD a) [some (mD m), x] = .nx [some (mD m), some (iD a)] := by
        simp [f_least_text_b1, e1, e3]
      rw [forL_nx t]
      exact first_loop m h hn j (a + 1) (some (iD a)) (by rw [es, ea]) (by omega)
theorem least_text_ok (m : Mc) (h : m.ok) (hn : m.n < 900) : Phi tab F (L + 3) 67 [mD m] = .ok (headD (Pm.En m m.n)) := by
  rw [Phi_succ (f := f_least_text) rfl]
  have lp := first_loop (F := F) (L := L) m h (by omega) m.n 0 none rfl (by omega)
  rw [Nat.zero_add] at lp
  have er : List.range' 0 m.n = List.range m.n := List.range_eq_range'.symm
  rw [er] at lp
  have e2 : evi (ArOf tab F (L + 2)) (.rng (.con (.int 0)) (.bi .len [.ix (.var 0) (.con (.int 0))])) [some (mD m), none] = .ok ((List.range m.n).map iD) := by
    refine evi_to ?_ (by omega)
    simp [iD]
  refine callFn_rt (f := f_least_text) rfl rfl ?_
  unfold f_least_text
  dsimp only
  rw [run_cons, show ([mD m].map some ++ List.replicate (2 - 1) none : En) = [some (mD m), none] from rfl, run1_forr, e2, withR_ok]
  rcases lp with ⟨w, r, e, lp⟩ | ⟨e, ρ', lp⟩
  · rw [lp, e]
    rfl
  · rw [lp, e]
    rfl
end
/-! ### within -/
section
open Pm (Mc nxs nxA lgA mach lang dl Reg Lg Wd Dep FewV acc Ac)
open Classical
theorem mem_En {m : Mc} {w : Wd} : ∀ {k : Nat}, w ∈ Pm.En m k ↔ w.length < k ∧ lang m 0 w = true
  | 0 => by simp [Pm.En]
  | k + 1 => by
    show w ∈ Pm.En m k ++ acc m k 0 ↔ _
    rw [List.mem_append, mem_En, Pm.mem_acc]
    constructor
    · rintro (⟨h1, h2⟩ | ⟨h1, h2⟩)
      · exact ⟨by omega, h2⟩
      · exact ⟨by omega, h2⟩
    · rintro ⟨h1, h2⟩
      by_cases c : w.length = k
      · exact .inr ⟨c, h2⟩
      · exact .inl ⟨by omega, h2⟩
theorem En_nil {m : Mc} (h : m.ok) : Pm.En m m.n = [] ↔ ∀ w, lang m 0 w = false := by
  constructor
  · intro e w
    cases c : lang m 0 w with
    | false => rfl
    | true =>
      obtain ⟨j, hj, _, v, hv, hl⟩ := Pm.some_short h h.pos w.length ⟨w, rfl, c⟩
      have : v ∈ Pm.En m m.n := mem_En.mpr ⟨by omega, hl⟩
      rw [e] at this
      cases this
  · intro e
    cases q : Pm.En m m.n with
    | nil => rfl
    | cons w r =>
      have : w ∈ Pm.En m m.n := by rw [q]; simp
      have := (mem_En.mp this).2
      rw [e w] at this
      cases this
section
variable {F L : Nat} {α : Type} {f : Wd → α} {N : Nat} {A B : Lg}
theorem isN_head (l : List Wd) : cmpD .isN (headD l) .non = .ok (.bl l.isEmpty) := by cases l <;> rfl
theorem ev_callP {F L f : Nat} {es : List SE} {ρ : En} {ds : List D} {r : Res D} (h1 : evs (ArOf tab F L) es ρ = .ok ds) (h2 : Phi tab F L f ds = r) : ev (ArOf tab F L) (.call f es) ρ = r := by
  rw [ev_call, h1, Res.bind_ok, Ar_Phi, h2]
theorem parting_at {a b m : D} {l : List Wd} (e1 : Phi tab F (L + 8) 85 [a, b] = .ok m) (e2 : Phi tab F (L + 8) 67 [m] = .ok (headD l)) : Phi tab F (L + 9) 87 [a, b] = .ok (headD l) := by
  rw [Phi_succ (f := f_parting) rfl]
  refine callFn_rt (ρ := [some a, some b]) rfl rfl ?_
  have c1 : ev (ArOf tab F (L + 8)) (.call 85 [.var 0, .var 1]) [some a, some b] = .ok m := ev_callP rfl e1
  have c2 : ev (ArOf tab F (L + 8)) (.call 67 [.call 85 [.var 0, .var 1]]) [some a, some b] = .ok (headD l) := ev_callP (by rw [evs_cons, c1]; rfl) e2
  unfold f_parting
  dsimp only
  rw [run_cons, run1_ret, c2]
  rfl
theorem within_at {a b : D} {l : List Wd} (e3 : Phi tab F (L + 9) 87 [a, b] = .ok (headD l)) : Phi tab F (L + 10) 88 [a, b] = .ok (.bl l.isEmpty) := by
  rw [Phi_succ (f := f_within) rfl]
  refine callFn_rt (ρ := [some a, some b]) rfl rfl ?_
  have c1 : ev (ArOf tab F (L + 9)) (.call 87 [.var 0, .var 1]) [some a, some b] = .ok (headD l) := ev_callP rfl e3
  unfold f_within
  dsimp only
  rw [run_cons, run1_ret, ev_cmp, c1, Res.bind_ok, ev_con, Res.bind_ok, isN_head]
  rfl
theorem parting_dep (fw : FewV f N) (hN : N < 64) (dA : Dep f A) (dB : Dep f B) (hF : 1000 < F) : Phi tab F (L + 9) 87 [mD (mach A), mD (mach B)] = .ok (headD (Pm.En (mach fun w => A w && !B w) (mach fun w => A w && !B w).n)) := by
  have rg := Pm.reg_dep (dA.and dB.not) fw
  have h := rg.n
  exact parting_at (without_dep (F := F) (L := L) fw hN dA dB hF) (least_text_ok (F := F) (L := L + 5) (mach fun w => A w && !B w) rg.ok (by omega))
theorem within_dep (fw : FewV f N) (hN : N < 64) (dA : Dep f A) (dB : Dep f B) (hF : 1000 < F) : Phi tab F (L + 10) 88 [mD (mach A), mD (mach B)] = .ok (.bl (decide (∀ w, A w = true → B w = true))) := by
  have rg := Pm.reg_dep (dA.and dB.not) fw
  have e3 := within_at (parting_dep (F := F) (L := L) fw hN dA dB hF)
  have e4 : (Pm.En (mach fun w => A w && !B w) (mach fun w => A w && !B w).n).isEmpty = decide (∀ w, A w = true → B w = true) := by
    rw [Bool.eq_iff_iff, List.isEmpty_iff, decide_eq_true_iff, En_nil rg.ok, rg.lang]
    constructor
    · intro h w ha
      have this : (A w && !B w) = false := h w
      rw [ha] at this
      simpa using this
    · intro h w
      show (A w && !B w) = false
      cases ha : A w with
      | false => rfl
      | true => rw [h w ha]; rfl
  rw [e4] at e3
  exact e3
end
end
end Tk
namespace Tk
open PySem PySem.Spec PyProof.Rows L2
open D
/-! ### Line, machine_of -/
section
open Pm (Mc nxs nxA lgA mach lang dl Reg listL liN liF LiP liN_ Wd liPre)
open Classical
def tx (w : Wd) : List Nat := w.map sgC
def tD (w : Wd) : D := .str (tx w)
theorem wd_tx (w : Wd) : wd (tx w) = w := by
  unfold wd tx
  rw [List.map_map]
  have : (wdF ∘ sgC) = id := funext fun a => wdF_sgC a
  rw [this, List.map_id]
theorem sgC_wdF {c : Nat} (h : c ∈ sgn) : sgC (wdF c) = c := by
  simp [sgn] at h
  rcases h with rfl | rfl | rfl | rfl <;> decide
theorem tx_wd {z : List Nat} (h : IsTx z) : tx (wd z) = z := by
  unfold wd tx
  rw [List.map_map]
  conv => rhs; rw [← List.map_id z]
  exact List.map_congr_left fun c hc => sgC_wdF (h c hc)
theorem tx_is (w : Wd) : IsTx (tx w) := fun c hc => by
  obtain ⟨a, _, rfl⟩ := List.mem_map.mp hc
  exact sgC_in a
theorem tx_len (w : Wd) : (tx w).length = w.length := List.length_map _
theorem tx_inj {x y : Wd} (h : tx x = tx y) : x = y := by rw [← wd_tx x, h, wd_tx]
theorem eq_tD (x y : Wd) : eqD (tD x) (tD y) = decide (x = y) := by
  show (tx x == tx y) = _
  by_cases h : x = y
  · subst h; simp
  · have : ¬ tx x = tx y := fun z => h (tx_inj z)
    rw [decide_eq_false h]
    exact beq_eq_false_iff_ne.mpr this
theorem sh_str {z : List Nat} (h : IsTx z) : (D.str z).sh = true := by
  have : (D.str z).pln = true := by
    show z.all (· < 0x110000) = true
    rw [List.all_eq_true]
    intro c hc
    have := h c hc
    simp [sgn] at this
    rcases this with rfl | rfl | rfl | rfl <;> decide
  unfold D.sh
  rw [this]
  rfl
theorem shL_of {l : List D} (h : ∀ d ∈ l, d.pln = true ∧ d.dep = 0) : (D.lst l).sh = true := by
  have h1 : plnAll l = true ∧ depAll l = 0 := by
    induction l with
    | nil => exact ⟨rfl, rfl⟩
    | cons d l ih =>
      obtain ⟨i1, i2⟩ := ih fun x hx => h x (List.mem_cons_of_mem _ hx)
      obtain ⟨j1, j2⟩ := h d List.mem_cons_self
      exact ⟨by simp [plnAll, i1, j1], by simp [depAll, i2, j2]⟩
  obtain ⟨i1, i2⟩ := h1
  simp [D.sh, pln, dep, i1, i2]
theorem pln_str {z : List Nat} (h : IsTx z) : (D.str z).pln = true := (Bool.and_eq_true_iff.mp (sh_str h)).1
theorem shL_tD (ws : List Wd) : (D.lst (ws.map tD)).sh = true := shL_of fun d hd => by
  obtain ⟨w, _, rfl⟩ := List.mem_map.mp hd
  exact ⟨pln_str (tx_is w), rfl⟩
theorem anyEq_tD (ws : List Wd) (x : Wd) : anyEq (tD x) (ws.map tD) = decide (x ∈ ws) := by
  unfold anyEq
  induction ws with
  | nil => simp
  | cons y ws ih =>
    rw [List.map_cons, List.any_cons, ih, eq_tD]
    by_cases h : y = x
    · subst h; simp
    · have h2 : ¬ x = y := fun z => h z.symm
      simp [h, h2]
theorem isin_tD (ws : List Wd) (x : Wd) : cmpD .isin (tD x) (.lst (ws.map tD)) = .ok (.bl (decide (x ∈ ws))) := by
  have e : cmpD .isin (tD x) (.lst (ws.map tD)) = if (tD x).sh && (D.lst (ws.map tD)).sh then .ok (.bl (anyEq (tD x) (ws.map tD))) else .bad := rfl
  rw [e, show (tD x).sh = true from sh_str (tx_is x), shL_tD, anyEq_tD]
  rfl
theorem isin_nonL (ws : List Wd) : cmpD .isin .non (.lst (ws.map tD)) = .ok (.bl false) := by
  have e : cmpD .isin .non (.lst (ws.map tD)) = if D.non.sh && (D.lst (ws.map tD)).sh then .ok (.bl (anyEq .non (ws.map tD))) else .bad := rfl
  have : anyEq .non (ws.map tD) = false := by
    unfold anyEq
    rw [List.any_eq_false]
    intro d hd
    obtain ⟨w, _, rfl⟩ := List.mem_map.mp hd
    exact Bool.false_ne_true
  rw [e, shL_tD, this]
  rfl
/-! dicts of texts -/
theorem set_any {k d k' : D} {ps : List (D × D)} (hk : ∀ x, isTxt x = true → eqD x k = true → eqD x k' = eqD k k') (ht : txtK ps = true) : ((setD k d ps).any fun p => eqD p.1 k') = ((ps.any fun p => eqD p.1 k') || eqD k k') := by
  unfold setD
  split
  · rename_i h
    have e : ((ps.map fun p => if eqD p.1 k then (p.1, d) else p).any fun p => eqD p.1 k') = ps.any fun p => eqD p.1 k' := by
      rw [List.any_map]
      congr 1
      funext p
      show eqD (if eqD p.1 k then (p.1, d) else p).1 k' = _
      split <;> rfl
    rw [e]
    cases hk' : eqD k k' with
    | false => rw [Bool.or_false]
    | true =>
      rw [Bool.or_true]
      obtain ⟨p, hp, h2⟩ := List.any_eq_true.mp h
      refine List.any_eq_true.mpr ⟨p, hp, ?_⟩
      rw [hk p.1 (List.all_eq_true.mp ht p hp) h2, hk']
  · rw [List.any_append, List.any_cons, List.any_nil, Bool.or_false]
theorem set_txt {k d : D} {ps : List (D × D)} (hk : isTxt k = true) (ht : txtK ps = true) : txtK (setD k d ps) = true := by
  unfold setD
  split
  · unfold txtK
    rw [List.all_map, List.all_eq_true]
    intro p hp
    show isTxt (if eqD p.1 k then (p.1, d) else p).1 = true
    split <;> exact List.all_eq_true.mp ht p hp
  · unfold txtK
    rw [List.all_append]
    have ht : (ps.all fun p => isTxt p.1) = true := ht
    rw [ht]
    simp [hk]
theorem set_len {k d : D} {ps : List (D × D)} : (setD k d ps).length ≤ ps.length + 1 := by
  unfold setD
  split <;> simp
/-- pairs of texts put in -/
theorem mk_txt : ∀ (qs : List Wd) (ps : List (D × D)), txtK ps = true → txtK (mkD (qs.map fun w => (tD w, .bl true)) ps) = true ∧ (mkD (qs.map fun w => (tD w, .bl true)) ps).length ≤ ps.length + qs.length ∧ ∀ x : Wd, ((mkD (qs.map fun w => (tD w, .bl true)) ps).any fun p => eqD p.1 (tD x)) = ((ps.any fun p => eqD p.1 (tD x)) || decide (x ∈ qs))
  | [], ps, h => ⟨h, by simp [mkD], fun x => by simp [mkD]⟩
  | w :: qs, ps, h => by
    have h1 : txtK (setD (tD w) (.bl true) ps) = true := set_txt rfl h
    obtain ⟨i1, i2, i3⟩ := mk_txt qs (setD (tD w) (.bl true) ps) h1
    refine ⟨i1, ?_, fun x => ?_⟩
    · have := set_len (k := tD w) (d := .bl true) (ps := ps)
      rw [List.length_cons]
      show (mkD (qs.map fun w => (tD w, .bl true)) (setD (tD w) (.bl true) ps)).length ≤ _
      omega
    · show ((mkD (qs.map fun w => (tD w, .bl true)) (setD (tD w) (.bl true) ps)).any fun p => eqD p.1 (tD x)) = _
      rw [i3 x, set_any (fun y hy hyk => ?_) h, eq_tD]
      · by_cases e : w = x
        · subst e; simp
        · have e2 : ¬ x = w := fun z => e z.symm
          simp [e, e2]
      · cases y with
        | str z =>
          have : (z == tx w) = true := hyk
          rw [beq_iff_eq.mp this]
          rfl
        | _ => cases hy
theorem ky_tD (w : Wd) : kyB (tD w) = true := rfl
theorem pairs_txt (qs : List Wd) : pairsO (qs.map fun w => .tup [tD w, .bl true]) = some (qs.map fun w => (tD w, .bl true)) := by
  induction qs with
  | nil => rfl
  | cons w qs ih =>
    show (if kyB (tD w) then (pairsO (qs.map fun w => D.tup [tD w, .bl true])).map ((tD w, .bl true) :: ·) else none) = _
    rw [if_pos (ky_tD w), ih]
    rfl
def prefs (w : Wd) : List Wd := (List.range (w.length + 1)).map fun k => w.take k
theorem mem_prefs {w x : Wd} : x ∈ prefs w ↔ x <+: w := by
  unfold prefs
  rw [List.mem_map, List.prefix_iff_eq_take]
  constructor
  · rintro ⟨k, hk, rfl⟩
    have := List.mem_range.mp hk
    rw [List.length_take, Nat.min_eq_left (by omega)]
  · intro h
    refine ⟨x.length, List.mem_range.mpr ?_, h.symm⟩
    have := congrArg List.length h
    rw [List.length_take] at this
    omega
section
variable {F L : Nat}
theorem tx_take' (w : Wd) (k : Nat) : tx (w.take k) = (tx w).take k := List.map_take
theorem line_dict {A : Ar} {w : Wd} (hw : w.length < 900) {p : Nat} {d1 : D} {x3 : Option D} : ev A (.bi .dict [f_Line_c1]) [some (.adr p), some d1, some (tD w), x3] = .ok (.gd (mkD ((prefs w).map fun w => (tD w, .bl true)) [])) := by
  have c1 : ev A f_Line_c1 [some (.adr p), some d1, some (tD w), x3] = .ok (.lst ((prefs w).map fun w => .tup [tD w, .bl true])) := by
    unfold f_Line_c1
    have ln : ev A (.bi .len [.var 2]) [some (.adr p), some d1, some (tD w), x3] = .ok (.int (w.length : Int)) := by
      have := len_str (z := tx w) (by rw [tx_len]; omega)
      rw [tx_len] at this
      exact this
    rw [lc_A (l := List.range (w.length + 1)) (e := iD) (g := fun k => .tup [tD (w.take k), .bl true]) (rng_one A ln (by omega)) (fun k hk => ?_) (by rw [List.length_range]; omega)]
    · unfold prefs
      rw [List.map_map]
      rfl
    · have hk := List.mem_range.mp hk
      have s1 := sl_to (z := tx w) (by rw [tx_len]; omega) k (by rw [tx_len]; omega)
      rw [← tx_take'] at s1
      have e3 : ev A (.sl (.var 2) none (some (.var 3))) ([some (.adr p), some d1, some (tD w), x3].set 3 (some (iD k))) = .ok (tD (w.take k)) := s1
      rw [ev_tup, evs_cons, e3]
      rfl
  rw [ev_bi, evs_cons, c1]
  show (match pairsO ((prefs w).map fun w => D.tup [tD w, .bl true]) with | some ps => Res.ok (D.gd (mkD ps [])) | none => .bad) = _
  rw [pairs_txt]
/-- what the dict of heads is -/
def Heads (ws : List Wd) (ps : List (D × D)) : Prop := txtK ps = true ∧ ∀ x : Wd, (ps.any fun p => eqD p.1 (tD x)) = decide (∃ t ∈ ws, x <+: t)
theorem mkD_gd_any (qs : List Wd) (x : Wd) : ((mkD (qs.map fun w => (tD w, .bl true)) []).any fun p => eqD p.1 (tD x)) = decide (x ∈ qs) := by
  rw [(mk_txt qs [] rfl).2.2 x]
  simp
/-- the pairs of a dict of texts, put into another one -/
theorem mk_any : ∀ (qs ps : List (D × D)), txtK qs = true → txtK ps = true → txtK (mkD qs ps) = true ∧ (mkD qs ps).length ≤ ps.length + qs.length ∧ ∀ x : Wd, ((mkD qs ps).any fun p => eqD p.1 (tD x)) = ((ps.any fun p => eqD p.1 (tD x)) || qs.any fun p => eqD p.1 (tD x))
  | [], ps, _, h => ⟨h, by simp [mkD], fun x => by simp [mkD]⟩
  | q :: qs, ps, hq, h => by
    have hq : isTxt q.1 = true ∧ txtK qs = true := by
      unfold txtK at hq
      rw [List.all_cons, Bool.and_eq_true] at hq
      exact hq
    have h1 : txtK (setD q.1 q.2 ps) = true := set_txt hq.1 h
    obtain ⟨i1, i2, i3⟩ := mk_any qs (setD q.1 q.2 ps) hq.2 h1
    refine ⟨i1, ?_, fun x => ?_⟩
    · have := set_len (k := q.1) (d := q.2) (ps := ps)
      rw [List.length_cons]
      show (mkD qs (setD q.1 q.2 ps)).length ≤ _
      omega
    · show ((mkD qs (setD q.1 q.2 ps)).any fun p => eqD p.1 (tD x)) = _
      rw [i3 x, set_any (fun y hy hyk => ?_) h, List.any_cons, Bool.or_assoc]
      obtain ⟨z, hz⟩ : ∃ z, q.1 = .str z := by
        have := hq.1
        cases hc : q.1 <;> first | exact ⟨_, rfl⟩ | (rw [hc] at this; cases this)
      rw [hz] at hyk ⊢
      cases y with
      | str z2 =>
        have : (z2 == z) = true := hyk
        rw [beq_iff_eq.mp this]
      | _ => cases hy
def headsF : List Wd → List (D × D) → List (D × D)
  | [], ps => ps
  | w :: ws, ps => headsF ws (mkD (mkD ((prefs w).map fun w => (tD w, .bl true)) []) ps)
theorem line_heads {A : Ar} {p : Nat} {d1 : D} {x2 x3 : Option D} : ∀ (ws : List Wd) (us : List Wd) (ps : List (D × D)), Heads us ps → (∀ w ∈ ws, w.length < 900) → ps.length + (ws.map fun t => t.length + 1).sum ≤ 100000 →
    updL (fun d => ev A (.bi .dict [f_Line_c1]) ([some (.adr p), some d1, x2, x3].set 2 (some d))) (ws.map tD) ps = .ok (.gd (headsF ws ps)) ∧ Heads (us ++ ws) (headsF ws ps)
  | [], us, ps, h, _, _ => ⟨rfl, by rw [List.append_nil]; exact h⟩
  | w :: ws, us, ps, h, hw, hl => by
    rw [List.map_cons, List.sum_cons] at hl
    have ed := line_dict (A := A) (w := w) (hw w List.mem_cons_self) (p := p) (d1 := d1) (x3 := x3)
    obtain ⟨m1, m2, m3⟩ := mk_txt (prefs w) [] rfl
    rw [headsF]
    generalize hq : mkD ((prefs w).map fun w => (tD w, D.bl true)) [] = qs0 at *
    have hpl : (prefs w).length = w.length + 1 := by unfold prefs; simp
    have m2 : qs0.length ≤ w.length + 1 := by simp only [List.length_nil, hpl] at m2; omega
    obtain ⟨n1, n2, n3⟩ := mk_any qs0 ps m1 h.1
    have hh : Heads (us ++ [w]) (mkD qs0 ps) := by
      refine ⟨n1, fun x => ?_⟩
      rw [n3 x, h.2 x, m3 x, List.any_nil, Bool.false_or, ← Bool.decide_or]
      refine decide_eq_decide.mpr ?_
      rw [mem_prefs]
      constructor
      · rintro (⟨t, ht, z⟩ | z)
        · exact ⟨t, List.mem_append_left _ ht, z⟩
        · exact ⟨w, by simp, z⟩
      · rintro ⟨t, ht, z⟩
        rcases List.mem_append.mp ht with q | q
        · exact .inl ⟨t, q, z⟩
        · rw [List.mem_singleton.mp q] at z
          exact .inr z
    obtain ⟨e1, e2⟩ := line_heads (A := A) (p := p) (d1 := d1) (x2 := x2) (x3 := x3) ws (us ++ [w]) (mkD qs0 ps) hh (fun t ht => hw t (List.mem_cons_of_mem _ ht)) (by omega)
    refine ⟨?_, by rw [List.append_assoc] at e2; exact e2⟩
    rw [List.map_cons]
    unfold updL
    have ed : ev A (.bi .dict [f_Line_c1]) ([some (.adr p), some d1, x2, x3].set 2 (some (tD w))) = .ok (.gd qs0) := ed
    rw [ed]
    dsimp only
    rw [if_pos, e1]
    rw [m1, h.1]
    exact decide_eq_true (by unfold big; omega)
def lineE (x : Option Wd) : D := match x with
  | none => .non
  | some w => tD w
theorem heads0 : Heads [] [] := ⟨rfl, fun x => by simp⟩
theorem line_new {ws : List Wd} (hw : ∀ w ∈ ws, w.length < 900) (hl : (ws.map fun t => t.length + 1).sum ≤ 100000) : Phi tab F (L + 2) 680 [.lst (ws.map tD)] = .ok (.obj 680 [.lst (ws.map tD), .gd (headsF ws [])]) := by
  rw [Phi_cls (f := f_Line) (i := ⟨["some", "heads"], [("steps", 681), ("is_end", 682)], [.var 1, .upl 2 (.of (.var 1)) (.bi .dict [f_Line_c1])]⟩) rfl rfl]
  refine init_plain rfl rfl fun p => ?_
  obtain ⟨e1, _⟩ := line_heads (A := ArOf tab F L) (p := p) (d1 := .lst (ws.map tD)) (x2 := none) (x3 := none) ws [] [] heads0 hw (by simpa using hl)
  have e2 : ev (ArOf tab F L) (.upl 2 (.of (.var 1)) (.bi .dict [f_Line_c1])) [some (.adr p), some (.lst (ws.map tD)), none, none] = .ok (.gd (headsF ws [])) := e1
  show evs (ArOf tab F L) [.var 1, .upl 2 (.of (.var 1)) (.bi .dict [f_Line_c1])] [some (.adr p), some (.lst (ws.map tD)), none, none] = _
  rw [evs_cons, evs_cons, e2]
  rfl
theorem tx_snoc (w : Wd) (c : _root_.Fin 4) : tx (w ++ [c]) = tx w ++ [sgC c] := List.map_append
theorem line_steps {ws : List Wd} {ps : List (D × D)} (hp : Heads ws ps) {x : Option Wd} (hx : ∀ z, x = some z → z.length < 900) (c : _root_.Fin 4) : Phi tab F (L + 1) 681 [.obj 680 [.lst (ws.map tD), .gd ps], lineE x, sD c] = .ok (lineE (liN ws x c)) := by
  rw [Phi_succ (f := f_Line_steps) rfl]
  have f1 : ∀ ρ, ev (ArOf tab F L) (.fld (.var 0) "heads") (some (.obj 680 [.lst (ws.map tD), .gd ps]) :: ρ) = .ok (.gd ps) := fun ρ => fld_of (i := 1) (by decide +kernel) rfl
  refine callFn_rt (ρ := [some (.obj 680 [.lst (ws.map tD), .gd ps]), some (lineE x), some (sD c)]) rfl rfl ?_
  generalize ArOf tab F L = A at *
  unfold f_Line_steps
  dsimp only
  cases x with
  | none =>
    have e1 : ev A (.cmp .notN (.var 1) (.con (.non))) [some (.obj 680 [.lst (ws.map tD), .gd ps]), some (lineE none), some (sD c)] = .ok (.bl false) := rfl
    rw [run_cons, run1_ret, ev_ite, ev_an, e1]
    rfl
  | some w =>
    have hw := hx w rfl
    have e1 : ev A (.cmp .notN (.var 1) (.con (.non))) [some (.obj 680 [.lst (ws.map tD), .gd ps]), some (tD w), some (sD c)] = .ok (.bl true) := rfl
    have e2 : ev A (.bin .add (.var 1) (.var 2)) [some (.obj 680 [.lst (ws.map tD), .gd ps]), some (tD w), some (sD c)] = .ok (tD (w ++ [c])) := by
      have : ev A (.bin .add (.var 1) (.var 2)) [some (.obj 680 [.lst (ws.map tD), .gd ps]), some (tD w), some (sD c)] = binD .add (.str (tx w)) (.str [sgC c]) := rfl
      rw [this, add_ss, if_pos]
      · rw [← tx_snoc]; rfl
      · rw [okN_iff, tx_len]
        exact decide_eq_true (by show w.length + 1 ≤ 16777216; omega)
    have e3 : ev A (.cmp .isin (.bin .add (.var 1) (.var 2)) (.fld (.var 0) "heads")) [some (.obj 680 [.lst (ws.map tD), .gd ps]), some (tD w), some (sD c)] = .ok (.bl (decide (∃ t ∈ ws, w ++ [c] <+: t))) := by
      rw [ev_cmp, e2, Res.bind_ok, f1, Res.bind_ok, isin_g, if_pos (ky_tD _), hp.2]
    show run A _ [some (.obj 680 [.lst (ws.map tD), .gd ps]), some (tD w), some (sD c)] = _
    rw [run_cons, run1_ret, ev_ite, ev_an, e1, e3, e2]
    show _ = Fl.rt (lineE (if ∃ t ∈ ws, w ++ [c] <+: t then some (w ++ [c]) else none))
    by_cases h : ∃ t ∈ ws, w ++ [c] <+: t
    · rw [if_pos h, decide_eq_true h]
      rfl
    · rw [if_neg h, decide_eq_false h]
      rfl
theorem line_end {ws : List Wd} {ps : List (D × D)} {x : Option Wd} : Phi tab F (L + 1) 682 [.obj 680 [.lst (ws.map tD), .gd ps], lineE x] = .ok (.bl (liF ws x)) := by
  rw [Phi_succ (f := f_Line_is_end) rfl]
  have f1 : ∀ ρ, ev (ArOf tab F L) (.fld (.var 0) "some") (some (.obj 680 [.lst (ws.map tD), .gd ps]) :: ρ) = .ok (.lst (ws.map tD)) := fun ρ => fld_of (i := 0) (by decide +kernel) rfl
  refine callFn_rt (ρ := [some (.obj 680 [.lst (ws.map tD), .gd ps]), some (lineE x)]) rfl rfl ?_
  generalize ArOf tab F L = A at *
  have e1 : ev A (.var 1) [some (.obj 680 [.lst (ws.map tD), .gd ps]), some (lineE x)] = .ok (lineE x) := rfl
  unfold f_Line_is_end
  dsimp only
  rw [run_cons, run1_ret, ev_cmp, e1, Res.bind_ok, f1, Res.bind_ok]
  cases x with
  | none =>
    show (withR _ (cmpD .isin .non (.lst (ws.map tD))) _).then _ = _
    rw [isin_nonL]
    rfl
  | some w =>
    show (withR _ (cmpD .isin (tD w) (.lst (ws.map tD))) _).then _ = _
    rw [isin_tD]
    have : liF ws (some w) = decide (w ∈ ws) := by
      show decide (w ∈ ws) = _
      exact decide_eq_decide.mpr Iff.rfl
    rw [this]
    rfl
theorem ky_line (x : Option Wd) : kyB (lineE x) = true := by cases x <;> rfl
theorem eq_line (x y : Option Wd) : eqD (lineE x) (lineE y) = decide (x = y) := by
  cases x with
  | none => cases y <;> simp [lineE, eqD, tD]
  | some a =>
    cases y with
    | none => simp [lineE, eqD, tD]
    | some b =>
      show eqD (tD a) (tD b) = _
      rw [eq_tD]
      exact decide_eq_decide.mpr (by simp)
theorem li_short {ws : List Wd} (hw : ∀ w ∈ ws, w.length < 900) {x : Option Wd} (hx : LiP ws x) : ∀ z, x = some z → z.length < 900 := fun z hz => by
  rcases hx z hz with e | ⟨t, ht, hp⟩
  · rw [e]; decide
  · have := hp.length_le
    have := hw t ht
    omega
theorem line_rdr {ws : List Wd} {ps : List (D × D)} (hp : Heads ws ps) (hw : ∀ w ∈ ws, w.length < 900) : Rdr (ArOf tab F (L + 1)) (.obj 680 [.lst (ws.map tD), .gd ps]) lineE (liN ws) (liF ws) (LiP ws) where
  ob := ⟨680, _, _, _, rfl, psi_of (k' := 681) (by decide +kernel), psi_of (k' := 682) (by decide +kernel), fun x hx c => line_steps hp (li_short hw hx) c, fun x hx => line_end⟩
  ky := fun x _ => ky_line x
  inj := fun x y _ _ => by rw [eq_line]; exact decide_eq_decide.mpr Iff.rfl
  cl := fun x hx c => Pm.li_cl ws x hx c
theorem le_sumN : ∀ {l : List Nat} {x : Nat}, x ∈ l → x ≤ l.sum
  | [], x, h => by cases h
  | y :: l, x, h => by
    rw [List.sum_cons]
    rcases List.mem_cons.mp h with e | e
    · omega
    · have := le_sumN e
      omega
theorem machine_of_ok {ws : List Wd} (hn : liN_ ws < 64) (hF : 1000 < F) : Phi tab F (L + 7) 89 [.lst (ws.map tD)] = .ok (mD (mach (listL ws))) := by
  have hs : (ws.map fun t => t.length + 1).sum < 64 := by unfold Pm.liN_ at hn; omega
  have hw : ∀ w ∈ ws, w.length < 900 := fun w hw => by
    have : w.length + 1 ≤ (ws.map fun t => t.length + 1).sum := le_sumN (List.mem_map.mpr ⟨w, hw, rfl⟩)
    omega
  rw [Phi_succ (f := f_machine_of) rfl, ← Pm.li_lang]
  have e1 := line_new (F := F) (L := L + 4) hw (by omega)
  have hp := (line_heads (A := ArOf tab F L) (p := 0) (d1 := .non) (x2 := none) (x3 := none) ws [] [] heads0 hw (by simp; omega)).2
  rw [List.nil_append] at hp
  have e2 : Phi tab F (L + 6) 35 [.str [], .obj 680 [.lst (ws.map tD), .gd (headsF ws [])]] = .ok (mD (mach (lgA (liN ws) (liF ws) (some [])))) := built_ok (F := F) (L := L) (N := liN_ ws) (s := some []) (line_rdr (L := L + 2) hp hw) (Pm.li_start ws) Pm.li_few hn hF
  generalize mD (mach (lgA (liN ws) (liF ws) (some []))) = M at *
  generalize headsF ws [] = hs' at *
  refine callFn_rt (ρ := [some (.lst (ws.map tD))]) rfl rfl ?_
  have c1 : ev (ArOf tab F (L + 6)) (.call 680 [.var 0]) [some (.lst (ws.map tD))] = .ok (.obj 680 [.lst (ws.map tD), .gd hs']) := e1
  have c2 : ev (ArOf tab F (L + 6)) (.call 35 [.con (.str []), .call 680 [.var 0]]) [some (.lst (ws.map tD))] = .ok M := by
    rw [ev_call, evs_cons, evs_cons, c1]
    exact e2
  unfold f_machine_of
  dsimp only
  rw [run_cons, run1_ret, c2]
  rfl
end
end
section
open Pm (Mc nxs nxA lgA mach lang dl Reg Wd allM)
open Classical
theorem every_mD : mD (mach fun _ => true) = .tup [.tup [.bl true], .tup [.tup [.int 0, .int 0, .int 0, .int 0]]] := by
  have hr := Pm.reg_all
  have hn : (mach fun _ => true).n = 1 := by
    have h1 := hr.ok.pos
    have h2 := hr.n
    omega
  have e : mD (mach fun _ => true) = mD allM := mD_congr hn (fun q hq => by
    have hq0 : q = 0 := by omega
    subst hq0
    have := congrFun hr.lang []
    exact this) (fun q hq c => by
    have := hr.ok.nx q hq c
    show _ = 0
    omega)
  rw [e]
  rfl
theorem every_ok {F L : Nat} : Phi tab F (L + 1) 90 [] = .ok (mD (mach fun _ => true)) := by
  rw [Phi_succ (f := f_everything) rfl, every_mD]
  rfl
end
end Tk
namespace Tk
open PySem PySem.Spec PyProof.Rows L2
open D
/-! ### the law's own telling of least machines -/
open Pm (Mc nxs insAll insA bfs dd leastM lang Eqv)
theorem plnAll_map {α : Type} {f : α → D} {k : Nat} : ∀ (l : List α), (∀ x ∈ l, (f x).pln = true ∧ (f x).dep ≤ k) → plnAll (l.map f) = true ∧ depAll (l.map f) ≤ k
  | [], _ => ⟨rfl, by simp [depAll]⟩
  | x :: l, h => by
    obtain ⟨h1, h2⟩ := h x (by simp)
    obtain ⟨h3, h4⟩ := plnAll_map l fun y hy => h y (by simp [hy])
    refine ⟨by simp [plnAll, h1, h3], ?_⟩
    simp only [List.map_cons, depAll]
    omega
theorem sh_lst {α : Type} {f : α → D} {l : List α} {k : Nat} (hk : k < 64) (h : ∀ x ∈ l, (f x).pln = true ∧ (f x).dep ≤ k) : (D.lst (l.map f)).sh = true := by
  obtain ⟨h1, h2⟩ := plnAll_map l h
  have : depAll (l.map f) + 1 ≤ 64 := by omega
  simp [sh, pln, dep, h1, this]
theorem pd_tup {α : Type} {f : α → D} {l : List α} {k : Nat} (h : ∀ x ∈ l, (f x).pln = true ∧ (f x).dep ≤ k) : (D.tup (l.map f)).pln = true ∧ (D.tup (l.map f)).dep ≤ k + 1 := by
  obtain ⟨h1, h2⟩ := plnAll_map l h
  exact ⟨by simp [pln, h1], by simp only [dep]; omega⟩
theorem pd_mD (m : Mc) : (mD m).pln = true ∧ (mD m).dep ≤ 3 := by
  have h1 := pd_tup (f := fun q => D.bl (m.fin q)) (l := List.range m.n) (k := 0) fun x _ => ⟨rfl, Nat.le_refl _⟩
  have h2 := pd_tup (f := rowD m) (l := List.range m.n) (k := 1) fun x _ => pd_tup (f := iD) (l := nxs m x) (k := 0) fun y _ => ⟨rfl, Nat.le_refl _⟩
  exact ⟨by simp [mD, pln, plnAll]; exact ⟨h1.1, h2.1⟩, by simp only [mD, dep, depAll]; simp only [dep] at h1 h2; omega⟩
theorem sh_mD (m : Mc) : (mD m).sh = true := by
  obtain ⟨h1, h2⟩ := pd_mD m
  have : (mD m).dep ≤ 64 := by omega
  simp [sh, h1, this]
theorem kbs_map {α : Type} {f : α → D} : ∀ (l : List α), (∀ x ∈ l, (f x).kb = true) → kbs (l.map f) = true
  | [], _ => rfl
  | x :: l, h => by simp [kbs, h x (by simp), kbs_map l fun y hy => h y (by simp [hy])]
theorem kb_mD (m : Mc) : (mD m).kb = true := by
  have h1 : kbs ((List.range m.n).map fun q => D.bl (m.fin q)) = true := kbs_map _ fun x _ => rfl
  have h2 : kbs ((List.range m.n).map (rowD m)) = true := kbs_map _ fun x _ => by
    show kbs ((nxs m x).map iD) = true
    exact kbs_map _ fun y _ => rfl
  simp [mD, kb, kbs, h1, h2]
def sameM (a b : Mc) : Bool := decide (nk (mD a) = nk (mD b))
theorem eq_mD (a b : Mc) : cmpD .eq (mD a) (mD b) = .ok (.bl (sameM a b)) := by
  have e : cmpD .eq (mD a) (mD b) = if (mD a).sh && (mD b).sh then .ok (.bl (eqD (mD a) (mD b))) else .bad := by
    unfold mD
    rfl
  rw [e, sh_mD, sh_mD, eqD_nk _ _ (kb_mD a) (kb_mD b)]
  rfl
theorem ne_mD (a b : Mc) : cmpD .ne (mD a) (mD b) = .ok (.bl (!sameM a b)) := by
  have e : cmpD .ne (mD a) (mD b) = if (mD a).sh && (mD b).sh then .ok (.bl (!eqD (mD a) (mD b))) else .bad := by
    unfold mD
    rfl
  rw [e, sh_mD, sh_mD, eqD_nk _ _ (kb_mD a) (kb_mD b)]
  rfl
theorem sameM_comm (a b : Mc) : sameM a b = sameM b a := by
  unfold sameM
  by_cases h : nk (mD a) = nk (mD b)
  · rw [decide_eq_true h, decide_eq_true h.symm]
  · rw [decide_eq_false h, decide_eq_false fun e => h e.symm]
theorem sameM_refl (a : Mc) : sameM a a = true := decide_eq_true rfl
theorem ieq_list (l : List Nat) : cmpD .ne (.lst (l.map iD)) (.lst (l.map iD)) = .ok (.bl false) := by
  have hs : (D.lst (l.map iD)).sh = true := sh_lst (k := 0) (by decide) fun x _ => ⟨rfl, Nat.le_refl _⟩
  have e : cmpD .ne (.lst (l.map iD)) (.lst (l.map iD)) = if (D.lst (l.map iD)).sh && (D.lst (l.map iD)).sh then .ok (.bl (!eqD (.lst (l.map iD)) (.lst (l.map iD)))) else .bad := rfl
  rw [e, hs]
  have : eqD (.lst (l.map iD)) (.lst (l.map iD)) = true := by
    show eqAll (l.map iD) (l.map iD) = true
    have e2 : l.map iD = (l.map fun (q : Nat) => (q : Int)).map D.int := by simp [iD, Function.comp_def]
    rw [e2, eqAll_ints]
    simp
  rw [this]
  rfl
theorem rngI (n : Nat) : rangeL 0 (n : Int) = (List.range n).map iD := by
  unfold rangeL
  simp only [Int.sub_zero, Int.toNat_natCast]
  exact List.map_congr_left fun k _ => by simp [iD]
theorem cut_pre {α : Type} (xs : List α) (n : Nat) : cutL xs none (some (n : Int)) = xs.take n := by
  have e : HT.sIx xs.length 0 none = 0 := rfl
  have e2 : HT.sIx xs.length xs.length (some (n : Int)) = min n xs.length := by
    unfold HT.sIx
    simp
    try omega
  unfold cutL
  rw [e, e2, List.drop_zero, Nat.sub_zero]
  by_cases h : n ≤ xs.length
  · rw [Nat.min_eq_left h]
  · rw [Nat.min_eq_right (by omega), List.take_of_length_le (Nat.le_refl _), List.take_of_length_le (by omega)]
/-! ### what is accepted, as things -/
section
open Pm (Mc mach lang Reg Lg Wd Dep FewV)
open Classical
structure LL {α : Type} (f : Wd → α) where
  A : Lg
  d : Dep f A
theorem nks_map {β : Type} (g : β → D) : ∀ l : List β, nks (l.map g) = l.map fun x => nk (g x)
  | [] => rfl
  | x :: l => by
    show nk (g x) :: nks (l.map g) = _
    rw [nks_map g l]
    rfl
theorem nk_mD {m k : Mc} (e : nk (mD m) = nk (mD k)) : mD m = mD k := by
  have e : NestedKey.tup [.tup (nks ((List.range m.n).map fun q => D.bl (m.fin q))), .tup (nks ((List.range m.n).map (rowD m)))] = NestedKey.tup [.tup (nks ((List.range k.n).map fun q => D.bl (k.fin q))), .tup (nks ((List.range k.n).map (rowD k)))] := e
  injection e with e
  injection e with e1 e2
  injection e1 with e1
  injection e2 with e2 _
  injection e2 with e2
  rw [nks_map, nks_map] at e1 e2
  have hn : m.n = k.n := by
    have := congrArg List.length e1
    simpa using this
  refine mD_congr hn (fun q hq => ?_) fun q hq c => ?_
  · have := congrArg (fun l => l[q]?) e1
    simp only [List.getElem?_map, List.getElem?_range hq, List.getElem?_range (hn ▸ hq), Option.map_some] at this
    injection this with this
    have this : NestedKey.num (if m.fin q = true then 1 else 0) = NestedKey.num (if k.fin q = true then 1 else 0) := this
    injection this with this
    cases h1 : m.fin q <;> cases h2 : k.fin q <;> simp [h1, h2] at this ⊢
  · have := congrArg (fun l => l[q]?) e2
    simp only [List.getElem?_map, List.getElem?_range hq, List.getElem?_range (hn ▸ hq), Option.map_some] at this
    injection this with this
    have this : NestedKey.tup [.num (m.nx q 0), .num (m.nx q 1), .num (m.nx q 2), .num (m.nx q 3)] = NestedKey.tup [.num (k.nx q 0), .num (k.nx q 1), .num (k.nx q 2), .num (k.nx q 3)] := this
    injection this with this
    injection this with t0 this
    injection this with t1 this
    injection this with t2 this
    injection this with t3 _
    injection t0 with t0
    injection t1 with t1
    injection t2 with t2
    injection t3 with t3
    match c with
    | 0 => omega
    | 1 => omega
    | 2 => omega
    | 3 => omega
section
variable {α : Type} {f : Wd → α}
theorem LL.ext' {X Y : LL f} (h : ∀ w, X.A w = Y.A w) : X = Y := by
  obtain ⟨a, d⟩ := X
  obtain ⟨b, e⟩ := Y
  have : a = b := funext h
  subst this
  rfl
noncomputable def mL (X : LL f) : D := mD (mach X.A)
def LL.or (X Y : LL f) : LL f := ⟨_, X.d.or Y.d⟩
def LL.and (X Y : LL f) : LL f := ⟨_, X.d.and Y.d⟩
def LL.not (X : LL f) : LL f := ⟨_, X.d.not⟩
def LL.wo (X Y : LL f) : LL f := ⟨fun w => X.A w && !Y.A w, X.d.and Y.d.not⟩
def LL.all (f : Wd → α) : LL f := ⟨fun _ => true, .const true⟩
def LL.none (f : Wd → α) : LL f := ⟨fun _ => false, .const false⟩
theorem ne_mL {N : Nat} (fw : FewV f N) (X Y : LL f) : cmpD .ne (mL X) (mL Y) = .ok (.bl (decide (X ≠ Y))) := by
  unfold mL
  by_cases h : X = Y
  · subst h
    rw [ne_mD, sameM_refl]
    simp
  · rw [ne_mD]
    have rX := Pm.reg_dep X.d fw
    have rY := Pm.reg_dep Y.d fw
    have : sameM (mach X.A) (mach Y.A) = false := by
      rw [Bool.eq_false_iff]
      intro z
      have z := of_decide_eq_true z
      refine h (LL.ext' fun w => ?_)
      have e : lang (mach X.A) 0 = lang (mach Y.A) 0 := mD_lang rX.ok rY.ok (nk_mD z)
      rw [rX.lang, rY.lang] at e
      rw [e]
    rw [this, decide_eq_true h]
    rfl
end
end
end Tk
namespace Tk
open PySem PySem.Spec PyProof.Rows L2
open D
section
open Pm (Mc mach lang dl Reg Lg Wd Dep FewV)
open Classical
def f3 (a b c : Mc) (w : Wd) : Nat × Nat × Nat := (dl a 0 w, dl b 0 w, dl c 0 w)
theorem f3_few {a b c : Mc} (ha : a.ok) (hb : b.ok) (hc : c.ok) : FewV (f3 a b c) (a.n * (b.n * c.n)) := by
  have := Pm.few_of (f := f3 a b c) (K := (List.range a.n).flatMap fun x => (List.range b.n).flatMap fun y => (List.range c.n).map fun z => (x, y, z)) (fun w => List.mem_flatMap.mpr ⟨_, List.mem_range.mpr (dl_lt ha w ha.pos), List.mem_flatMap.mpr ⟨_, List.mem_range.mpr (dl_lt hb w hb.pos), List.mem_map.mpr ⟨_, List.mem_range.mpr (dl_lt hc w hc.pos), rfl⟩⟩⟩)
  have e : ∀ (l : List Nat) (k : Nat), (l.map fun _ => k).sum = l.length * k := fun l k => by
    rw [List.map_const', List.sum_replicate_nat]
  simp only [List.length_flatMap, List.length_map, List.length_range, e] at this
  exact this
theorem list_nil : Pm.listL [] = fun _ => false := by
  funext w
  simp [Pm.listL]
theorem law_true : ∀ ns : List Int, ns.length ≤ 63 → Phi tab 100000 (39 + 1) 93 [.scr ns] = .ok (.bl true) := by
  intro ns hl
  rw [Phi_succ (f := f_law_16) rfl]
  obtain ⟨oka, hsa⟩ := mcI_ok ns 0 3 (by decide)
  obtain ⟨okb, hsb⟩ := mcI_ok ns 60 3 (by decide)
  obtain ⟨okc, hsc⟩ := mcI_ok ns 120 3 (by decide)
  have hma : Phi tab 100000 39 49 [.scr ns, .int 0, .int 3] = .ok (mD (mcI ns 0 3)) := machine_mc (F := 100000) (L := 36) ns 0 3 hl (by decide) (by decide)
  have hmb : Phi tab 100000 39 49 [.scr ns, .int 60, .int 3] = .ok (mD (mcI ns 60 3)) := machine_mc (F := 100000) (L := 36) ns 60 3 hl (by decide) (by decide)
  have hmc : Phi tab 100000 39 49 [.scr ns, .int 120, .int 3] = .ok (mD (mcI ns 120 3)) := machine_mc (F := 100000) (L := 36) ns 120 3 hl (by decide) (by decide)
  generalize mcI ns 0 3 = a at *
  generalize mcI ns 60 3 = b at *
  generalize mcI ns 120 3 = c at *
  have hsa : a.n ≤ 3 := hsa
  have hsb : b.n ≤ 3 := hsb
  have hsc : c.n ≤ 3 := hsc
  have fw := f3_few oka okb okc
  have hN : a.n * (b.n * c.n) < 64 := Nat.lt_of_le_of_lt (Nat.mul_le_mul hsa (Nat.mul_le_mul hsb hsc)) (by decide)
  generalize a.n * (b.n * c.n) = N at fw hN
  obtain ⟨A, hA⟩ : ∃ A : LL (f3 a b c), A = ⟨lang a 0, Pm.dep_lang (g := fun x => x.1) fun _ => rfl⟩ := ⟨_, rfl⟩
  obtain ⟨B, hB⟩ : ∃ A : LL (f3 a b c), A = ⟨lang b 0, Pm.dep_lang (g := fun x => x.2.1) fun _ => rfl⟩ := ⟨_, rfl⟩
  obtain ⟨C, hC⟩ : ∃ A : LL (f3 a b c), A = ⟨lang c 0, Pm.dep_lang (g := fun x => x.2.2) fun _ => rfl⟩ := ⟨_, rfl⟩
  have la : Phi tab 100000 39 34 [mD a] = .ok (mL A) := by
    rw [hA]
    show _ = Res.ok (mD (mach (lang a 0)))
    rw [← Pm.mach_of oka rfl]
    exact least_ok (F := 100000) (L := 36) a oka (by omega) (by omega)
  have lb : Phi tab 100000 39 34 [mD b] = .ok (mL B) := by
    rw [hB]
    show _ = Res.ok (mD (mach (lang b 0)))
    rw [← Pm.mach_of okb rfl]
    exact least_ok (F := 100000) (L := 36) b okb (by omega) (by omega)
  have lc : Phi tab 100000 39 34 [mD c] = .ok (mL C) := by
    rw [hC]
    show _ = Res.ok (mD (mach (lang c 0)))
    rw [← Pm.mach_of okc rfl]
    exact least_ok (F := 100000) (L := 36) c okc (by omega) (by omega)
  have h89 : Phi tab 100000 39 89 [.lst []] = .ok (mL (LL.none (f3 a b c))) := by
    have := machine_of_ok (F := 100000) (L := 32) (ws := []) (by decide) (by decide)
    rw [list_nil] at this
    exact this
  have h90 : Phi tab 100000 39 90 [] = .ok (mL (LL.all (f3 a b c))) := every_ok (F := 100000) (L := 38)
  have h74 : ∀ X Y : LL (f3 a b c), Phi tab 100000 39 74 [mL X, mL Y] = .ok (mL (X.or Y)) := fun X Y => either_dep (F := 100000) (L := 32) fw hN X.d Y.d (by decide)
  have h75 : ∀ X Y : LL (f3 a b c), Phi tab 100000 39 75 [mL X, mL Y] = .ok (mL (X.and Y)) := fun X Y => both_dep (F := 100000) (L := 32) fw hN X.d Y.d (by decide)
  have h76 : ∀ X : LL (f3 a b c), Phi tab 100000 39 76 [mL X] = .ok (mL X.not) := fun X => other_dep (F := 100000) (L := 32) fw hN X.d (by decide)
  have h85 : ∀ X Y : LL (f3 a b c), Phi tab 100000 39 85 [mL X, mL Y] = .ok (mL (X.wo Y)) := fun X Y => without_dep (F := 100000) (L := 31) fw hN X.d Y.d (by decide)
  have h88 : ∀ X Y : LL (f3 a b c), Phi tab 100000 39 88 [mL X, mL Y] = .ok (.bl (decide (∀ w, X.A w = true → Y.A w = true))) := fun X Y => within_dep (F := 100000) (L := 29) fw hN X.d Y.d (by decide)
  have hne := ne_mL fw
  generalize hAr : ArOf tab 100000 39 = Ar at *
  have ph : ∀ i ds, Ar.Φ i ds = Phi tab 100000 39 i ds := fun i ds => by rw [← hAr]; rfl
  clear hAr
  generalize Phi tab 100000 39 = Q at *
  generalize hO : LL.none (f3 a b c) = O at *
  generalize hI : LL.all (f3 a b c) = I at *
  have one : ∀ (X Y : LL (f3 a b c)), (∀ w, X.A w = Y.A w) → cmpD .ne (mL X) (mL Y) = .ok (.bl false) := fun X Y h => by
    rw [hne, LL.ext' h]
    simp
  have oA : ∀ w, O.A w = false := fun w => by rw [← hO]; rfl
  have iA : ∀ w, I.A w = true := fun w => by rw [← hI]; rfl
  have e1 := one (A.or B) (B.or A) fun w => Bool.or_comm _ _
  have e2 := one (A.and B) (B.and A) fun w => Bool.and_comm _ _
  have e3 := one (A.or (B.or C)) ((A.or B).or C) fun w => (Bool.or_assoc _ _ _).symm
  have e4 := one (A.and (B.and C)) ((A.and B).and C) fun w => (Bool.and_assoc _ _ _).symm
  have e5 := one (A.and (B.or C)) ((A.and B).or (A.and C)) fun w => Bool.and_or_distrib_left _ _ _
  have e6 := one (A.or (B.and C)) ((A.or B).and (A.or C)) fun w => Bool.or_and_distrib_left _ _ _
  have e7 := one A.not.not A fun w => Bool.not_not _
  have e8 := one (A.or B).not (A.not.and B.not) fun w => Bool.not_or _ _
  have e9 := one (A.wo B) (A.and B.not) fun w => rfl
  have e10 := one ((A.wo B).or (A.and B)) A fun w => by
    show ((A.A w && !B.A w) || (A.A w && B.A w)) = A.A w
    cases A.A w <;> cases B.A w <;> rfl
  have e11 := one (A.or O) A fun w => by show (A.A w || O.A w) = _; rw [oA, Bool.or_false]
  have e12 := one (A.or I) I fun w => by show (A.A w || I.A w) = _; rw [iA, Bool.or_true]
  have e13 := one (A.and I) A fun w => by show (A.A w && I.A w) = _; rw [iA, Bool.and_true]
  have e14 := one (A.and O) O fun w => by show (A.A w && O.A w) = _; rw [oA, Bool.and_false]
  have e15 := one O.not I fun w => by show (!O.A w) = _; rw [oA, iA]; rfl
  have e16 := one (A.wo A) O fun w => by show (A.A w && !A.A w) = _; rw [oA]; cases A.A w <;> rfl
  have e17 := one (A.or A) A fun w => Bool.or_self _
  have w1 : decide (∀ w, ((A.or B).wo A).A w = true → B.A w = true) = true := decide_eq_true fun w h => by
    have h : ((A.A w || B.A w) && !A.A w) = true := h
    cases h1 : A.A w <;> cases h2 : B.A w <;> simp [h1, h2] at h ⊢
  have w2 : decide (∀ w, (A.and B).A w = true → A.A w = true) = true := decide_eq_true fun w h => by
    have h : (A.A w && B.A w) = true := h
    exact (Bool.and_eq_true_iff.mp h).1
  refine callFn_rt (f := f_law_16) (ρ := [some (.scr ns), none, none, none, none, none]) rfl rfl ?_
  unfold f_law_16
  dsimp only
  have s1 : run1 Ar (.asg 1 (.call 34 [.call 49 [.var 0, .con (.int 0), .con (.int 3)]])) [some (.scr ns), none, none, none, none, none] = .nx [some (.scr ns), some (mL A), none, none, none, none] := by simp -implicitDefEqProofs [ph, hma, la]
  have s2 : run1 Ar (.asg 2 (.call 34 [.call 49 [.var 0, .con (.int 60), .con (.int 3)]])) [some (.scr ns), some (mL A), none, none, none, none] = .nx [some (.scr ns), some (mL A), some (mL B), none, none, none] := by simp -implicitDefEqProofs [ph, hmb, lb]
  have s3 : run1 Ar (.asg 3 (.call 34 [.call 49 [.var 0, .con (.int 120), .con (.int 3)]])) [some (.scr ns), some (mL A), some (mL B), none, none, none] = .nx [some (.scr ns), some (mL A), some (mL B), some (mL C), none, none] := by simp -implicitDefEqProofs [ph, hmc, lc]
  have s4 : run1 Ar (.asg 4 (.call 89 [.lst []])) [some (.scr ns), some (mL A), some (mL B), some (mL C), none, none] = .nx [some (.scr ns), some (mL A), some (mL B), some (mL C), some (mL O), none] := by simp -implicitDefEqProofs [ph, h89]
  have s5 : run1 Ar (.asg 5 (.call 90 [])) [some (.scr ns), some (mL A), some (mL B), some (mL C), some (mL O), none] = .nx [some (.scr ns), some (mL A), some (mL B), some (mL C), some (mL O), some (mL I)] := by simp -implicitDefEqProofs [ph, h90]
  rw [run_cons, s1, Fl.then_nx, run_cons, s2, Fl.then_nx, run_cons, s3, Fl.then_nx, run_cons, s4, Fl.then_nx, run_cons, s5, Fl.then_nx]
  clear s1 s2 s3 s4 s5 hma hmb hmc la lb lc
  generalize hS : ([some (.scr ns), some (mL A), some (mL B), some (mL C), some (mL O), some (mL I)] : En) = S
  have v1 : ev Ar (.var 1) S = .ok (mL A) := by rw [← hS]; rfl
  have v2 : ev Ar (.var 2) S = .ok (mL B) := by rw [← hS]; rfl
  have v3 : ev Ar (.var 3) S = .ok (mL C) := by rw [← hS]; rfl
  have v4 : ev Ar (.var 4) S = .ok (mL O) := by rw [← hS]; rfl
  have v5 : ev Ar (.var 5) S = .ok (mL I) := by rw [← hS]; rfl
  simp -implicitDefEqProofs only [run_cons, run1_ifs, run1_ret, ev_orr, ev_an, ev_cmp, ev_call, evs_cons, evs_nil, v1, v2, v3, v4, v5, Res.bind_ok, ph, h74, h75, h76, h85, h88, e1, e2, e3, e4, e5, e6, e7, e8, e9, e10, e11, e12, e13, e14, e15, e16, e17, w1, w2, asBl_bl, withR_ok, if_true, if_false, Bool.false_eq_true, run_nil, Fl.then_nx, Fl.then_rt]
end
end Tk
open PySem PySem.W PySem.Calls PyProof.Rows
theorem PySem.Challenge.cw_textkinds_k21_whole_sets_holds : PySem.Challenge.rw_textkinds_k21_whole_sets.Holds := by
  w_on; o_law
  refine HandSHeadRun.head_any (r := OpenLaw.row PySem.Challenge.rw_textkinds_k21_whole_sets) (q := view (OpenLaw.row PySem.Challenge.rw_textkinds_k21_whole_sets).prog [33]) (H := Tk.hk) (ob := Tk.ob) (M := 4000) (loose := Tk.loose) (d := HandSHeadRun.topDef (OpenLaw.row PySem.Challenge.rw_textkinds_k21_whole_sets).prog 33) (kwd := []) Tk.ob_eq
    (by kernel_rfl) (fun s => by kernel_rfl) Tk.runs (by kernel_rfl) (by kernel_rfl) (by kernel_rfl) (by rfl) (by first | assumption | decide +kernel) (by decide +kernel) ⟨rfl, rfl, rfl, rfl, rfl, by decide +kernel⟩ ?hw ?hc
  case hw => w_witness2
  case hc =>
    refine Tk.walkW (l := PySem.Challenge.rw_textkinds_k21_whole_sets) (n := 63) (k := 39 + 1) (x := "_law_script") (CX := fun w => L2.CX (PySem.Challenge.rw_textkinds_k21_whole_sets).prog w) rfl (by decide) (by kernel_rfl) ⟨rfl, by decide, by decide⟩ ?F Tk.cx_false
    intro w mg fa h Y G hmg0
    obtain ⟨K, KX, c⟩ := Y
    have hmg : mg ("law" : PySem.Str) = some (.ref fa) := by
      have e : (HandSHeadRun.topDef (OpenLaw.row PySem.Challenge.rw_textkinds_k21_whole_sets).prog 33).name = ("law" : PySem.Str) := by kernel_rfl
      rw [← e]
      exact hmg0
    obtain ⟨fd, sp, hb, hsp, hF⟩ := Tk.facts (P := (PySem.Challenge.rw_textkinds_k21_whole_sets).prog) (w := w) KX G c Tk.law_true
    have e := hmg.symm.trans (He.glo_ok KX G (c.fact 20))
    cases e
    exact ⟨K, fd, sp, KX, hb, hsp, hF⟩
